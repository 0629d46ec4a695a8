/- The program's functions as the abstract machine's code: each is what the compiler of the machine makes of the program's own text. Conditions: none. -/
import Derived.Test.YtchomcffeiheeaaAmE
import Derived.Test.YtchomcffeiheeaaChecked
import Derived.KernelRfl
set_option maxRecDepth 100000
set_option linter.unusedVariables false
namespace Go.Proofs.Ytchomcffeiheeaa.Am
open Go Go.Proofs.Ytchomcffeiheeaa
def c3_0 : List RO := [p 2 (.mov (kb false))]
def c3_1 : List RO := [c 4 14 [], p 5 (.un .not (t 4))]
def c3_2 : List RO := [p 2 (.mov (kb false))]
def c3_3 : List RO := [m 6 0, ln 7 6, b 8 .gtr (t 7) (z 20)]
def c3_4 : List RO := [p 2 (.mov (kb true))]
def c3_5 : List RO := [p 3 (.mov (z 0))]
def c3_6 : List RO := [m 9 3, m 10 0, ln 11 10, b 12 .lss (t 9) (t 11)]
def c3_7 : List RO := [m 15 0, m 16 3, ia 17 12 15 16, fa 18 9 17, ld 19 18, b 20 .lss (t 19) (z 0), m 21 20, gm 22 21 false 0, gm 23 21 false 3, gia 24 21 false 12 22 23, gfa 25 21 false 10 24, gld 26 21 false 25, gb 27 21 false .gtr (t 26) (z 1000), p 28 (.pick (t 21) (kb true) (t 27))]
def c3_8 : List RO := [p 2 (.mov (kb true))]
def c3_9 : List RO := [m 13 3, b 14 .add (t 13) (z 1), m 3 14]
def c3_10 : List RO := [m 29 0, c 30 15 [(t 29)], m 31 0, c 32 16 [(t 31)], p 33 (.bin true .eql (t 30) (t 32)), m 34 33, gm 35 34 true 0, gc 36 34 true 17 [(t 35)], gm 37 34 true 0, gc 38 34 true 18 [(t 37)], gb 39 34 true .eql (t 36) (t 38), p 40 (.pick (t 34) (t 39) (kb false)), m 2 40]
def c3m : Mode := ⟨false, []⟩
def c3 : RFunc := ⟨(.seq (.reg c3_0) (.seq (.seq (.reg c3_1) (.cond (t 5) (.seq (.reg c3_2) .ret) .skip)) (.seq (.seq (.reg c3_3) (.cond (t 8) (.seq (.reg c3_4) .ret) .skip)) (.seq (.seq (.reg c3_5) (.block 0 (.loop (.seq (.seq (.reg c3_6) (.cond (t 12) .skip (.exit 0))) (.seq (.block 1 (.seq (.reg c3_7) (.cond (t 28) (.seq (.reg c3_8) .ret) .skip))) (.reg c3_9)))))) (.seq (.reg c3_10) .ret))))), 41, [.tmp 2]⟩
def c4_0 : List RO := [p 0 (.mov (kb false))]
def c4_1 : List RO := [p 2 (.build [(.int .u8 0), (.vs [] .full), (.vs [] .full), (.vs [] .full), (.vs [] .full), (.int .i64 0), (.int .i64 0), (.int .u64 0), (.int .u64 0), (.int .i64 0), (.int .i64 0), (.bool false)] []), p 3 (.build [(.int .u8 0), (.vs [] .full), (.vs [] .full), (.vs [] .full), (.vs [] .full), (.int .i64 0), (.int .i64 0), (.int .u64 0), (.int .u64 0), (.int .i64 0), (.int .i64 0), (.bool false)] [(6, 1, (z 1)), (7, 1, (u64 65))]), p 4 (.build [(.int .u8 0), (.vs [] .full), (.vs [] .full), (.vs [] .full), (.vs [] .full), (.int .i64 0), (.int .i64 0), (.int .u64 0), (.int .u64 0), (.int .i64 0), (.int .i64 0), (.bool false)] [(6, 1, (z 2)), (9, 1, (z 0)), (10, 1, (z 1))]), p 5 (.build [(.int .u8 0), (.vs [] .full), (.vs [] .full), (.vs [] .full), (.vs [] .full), (.int .i64 0), (.int .i64 0), (.int .u64 0), (.int .u64 0), (.int .i64 0), (.int .i64 0), (.bool false)] [(6, 1, (z 2)), (9, 1, (z 4)), (10, 1, (z 8))]), p 6 (.build [(.int .u8 0), (.vs [] .full), (.vs [] .full), (.vs [] .full), (.vs [] .full), (.int .i64 0), (.int .i64 0), (.int .u64 0), (.int .u64 0), (.int .i64 0), (.int .i64 0), (.bool false)] [(6, 1, (z 2)), (9, 1, (z 4)), (10, 1, (z 9))]), p 7 (.bslice 5 [(.int .u8 0), (.vs [] .full), (.vs [] .full), (.vs [] .full), (.vs [] .full), (.int .i64 0), (.int .i64 0), (.int .u64 0), (.int .u64 0), (.int .i64 0), (.int .i64 0), (.bool false)] [(0, (t 2)), (1, (t 3)), (2, (t 4)), (3, (t 5)), (4, (t 6))]), m 1 7]
def c4_2 : List RO := [c 8 14 [], m 9 8, gm 10 9 true 1, gp 11 9 true (.slc 12 (t 10) none (some (z 2)) none), gc 12 9 true 15 [(t 11)], p 13 (.pick (t 9) (t 12) (kb false)), m 14 13, gm 15 14 true 1, gc 16 14 true 15 [(t 15)], gp 17 14 true (.un .not (t 16)), p 18 (.pick (t 14) (t 17) (kb false)), m 19 18, gm 20 19 true 1, gp 21 19 true (.slc 12 (t 20) (some (z 2)) (some (z 3)) none), gc 22 19 true 15 [(t 21)], gp 23 19 true (.un .not (t 22)), p 24 (.pick (t 19) (t 23) (kb false)), m 25 24, gm 26 25 true 1, gp 27 25 true (.slc 12 (t 26) none (some (z 2)) none), gc 28 25 true 17 [(t 27)], gb 29 25 true .eql (t 28) (z 0), p 30 (.pick (t 25) (t 29) (kb false)), m 31 30, gm 32 31 true 1, gp 33 31 true (.slc 12 (t 32) (some (z 2)) (some (z 3)) none), gc 34 31 true 17 [(t 33)], gb 35 31 true .eql (t 34) (z 1), p 36 (.pick (t 31) (t 35) (kb false)), m 37 36, gm 38 37 true 1, gp 39 37 true (.slc 12 (t 38) (some (z 3)) (some (z 4)) none), gc 40 37 true 17 [(t 39)], gb 41 37 true .eql (t 40) (z 1), p 42 (.pick (t 37) (t 41) (kb false)), m 43 42, gm 44 43 true 1, gp 45 43 true (.slc 12 (t 44) (some (z 4)) none none), gc 46 43 true 17 [(t 45)], gb 47 43 true .eql (t 46) (z 2), p 48 (.pick (t 43) (t 47) (kb false)), m 49 48, gm 50 49 true 1, gc 51 49 true 17 [(t 50)], gb 52 49 true .eql (t 51) (z 4), p 53 (.pick (t 49) (t 52) (kb false)), m 54 53, gp 55 54 true (.build [(.int .u8 0), (.vs [] .full), (.vs [] .full), (.vs [] .full), (.vs [] .full), (.int .i64 0), (.int .i64 0), (.int .u64 0), (.int .u64 0), (.int .i64 0), (.int .i64 0), (.bool false)] [(6, 1, (z 2)), (9, 1, (z 9)), (10, 1, (z 9))]), gp 56 54 true (.bslice 1 [(.int .u8 0), (.vs [] .full), (.vs [] .full), (.vs [] .full), (.vs [] .full), (.int .i64 0), (.int .i64 0), (.int .u64 0), (.int .u64 0), (.int .i64 0), (.int .i64 0), (.bool false)] [(0, (t 55))]), gc 57 54 true 17 [(t 56)], gb 58 54 true .eql (t 57) (z 0), p 59 (.pick (t 54) (t 58) (kb false)), m 60 59, gp 61 60 true (.build [(.int .u8 0), (.vs [] .full), (.vs [] .full), (.vs [] .full), (.vs [] .full), (.int .i64 0), (.int .i64 0), (.int .u64 0), (.int .u64 0), (.int .i64 0), (.int .i64 0), (.bool false)] [(6, 1, (z 2)), (9, 1, (z 9)), (10, 1, (z 9))]), gp 62 60 true (.bslice 1 [(.int .u8 0), (.vs [] .full), (.vs [] .full), (.vs [] .full), (.vs [] .full), (.int .i64 0), (.int .i64 0), (.int .u64 0), (.int .u64 0), (.int .i64 0), (.int .i64 0), (.bool false)] [(0, (t 61))]), gc 63 60 true 15 [(t 62)], gp 64 60 true (.un .not (t 63)), p 65 (.pick (t 60) (t 64) (kb false)), m 0 65]
def c4m : Mode := ⟨false, []⟩
def c4 : RFunc := ⟨(.seq (.reg c4_0) (.seq (.reg c4_1) (.seq (.reg c4_2) .ret))), 66, [.tmp 0]⟩
def c5_0 : List RO := [p 2 (.mov (kb false))]
def c5_1 : List RO := [c 7 14 [], p 8 (.un .not (t 7))]
def c5_2 : List RO := [p 2 (.mov (kb false))]
def c5_3 : List RO := [m 9 0, ln 10 9, b 11 .gtr (t 10) (z 10)]
def c5_4 : List RO := [p 2 (.mov (kb true))]
def c5_5 : List RO := [p 3 (.mov (z 0))]
def c5_6 : List RO := [p 4 (.mov (kb true))]
def c5_7 : List RO := [p 5 (.mov (z 0))]
def c5_8 : List RO := [m 12 5, m 13 0, ln 14 13, b 15 .lss (t 12) (t 14)]
def c5_9 : List RO := [m 18 0, m 19 5, ia 20 12 18 19, fa 21 9 20, ld 22 21, b 23 .lss (t 22) (z 0), m 24 23, gm 25 24 false 0, gm 26 24 false 5, gia 27 24 false 12 25 26, gfa 28 24 false 10 27, gld 29 24 false 28, gb 30 24 false .gtr (t 29) (z 1000), p 31 (.pick (t 24) (kb true) (t 30)), m 32 31, gm 33 32 false 0, gm 34 32 false 5, gia 35 32 false 12 33 34, gfa 36 32 false 10 35, gld 37 32 false 36, gb 38 32 false .lss (t 37) (z 0), p 39 (.pick (t 32) (kb true) (t 38))]
def c5_10 : List RO := [p 2 (.mov (kb true))]
def c5_11 : List RO := [m 40 0, m 41 5, m 42 5, b 43 .add (t 42) (z 1), p 44 (.slc 12 (t 40) (some (t 41)) (some (t 43)) none), c 45 17 [(t 44)], m 6 45]
def c5_12 : List RO := [m 46 6, b 47 .lss (t 46) (z 0), m 48 47, gm 49 48 false 0, gm 50 48 false 5, gia 51 48 false 12 49 50, gfa 52 48 false 6 51, gld 53 48 false 52, gb 54 48 false .neq (t 53) (z 2), gm 55 48 false 54, gm 56 55 true 6, gb 57 55 true .neq (t 56) (z 0), gp 58 48 false (.pick (t 55) (t 57) (kb false)), p 59 (.pick (t 48) (kb true) (t 58))]
def c5_13 : List RO := [p 2 (.mov (kb false))]
def c5_14 : List RO := [m 60 3, m 61 6, b 62 .add (t 60) (t 61), m 3 62]
def c5_15 : List RO := [m 63 4, m 64 63, gm 65 64 true 0, gm 66 64 true 5, gm 67 64 true 5, gb 68 64 true .add (t 67) (z 1), gp 69 64 true (.slc 12 (t 65) (some (t 66)) (some (t 68)) none), gc 70 64 true 15 [(t 69)], p 71 (.pick (t 64) (t 70) (kb false)), m 4 71]
def c5_16 : List RO := [m 16 5, b 17 .add (t 16) (z 1), m 5 17]
def c5_17 : List RO := [m 72 0, c 73 17 [(t 72)], m 74 3, b 75 .eql (t 73) (t 74), m 76 75, gm 77 76 true 0, gc 78 76 true 15 [(t 77)], gm 79 76 true 4, gp 80 76 true (.bin true .eql (t 78) (t 79)), p 81 (.pick (t 76) (t 80) (kb false)), m 2 81]
def c5m : Mode := ⟨false, []⟩
def c5 : RFunc := ⟨(.seq (.reg c5_0) (.seq (.seq (.reg c5_1) (.cond (t 8) (.seq (.reg c5_2) .ret) .skip)) (.seq (.seq (.reg c5_3) (.cond (t 11) (.seq (.reg c5_4) .ret) .skip)) (.seq (.reg c5_5) (.seq (.reg c5_6) (.seq (.seq (.reg c5_7) (.block 0 (.loop (.seq (.seq (.reg c5_8) (.cond (t 15) .skip (.exit 0))) (.seq (.block 1 (.seq (.seq (.reg c5_9) (.cond (t 39) (.seq (.reg c5_10) .ret) .skip)) (.seq (.reg c5_11) (.seq (.seq (.reg c5_12) (.cond (t 59) (.seq (.reg c5_13) .ret) .skip)) (.seq (.reg c5_14) (.reg c5_15)))))) (.reg c5_16)))))) (.seq (.reg c5_17) .ret))))))), 82, [.tmp 2]⟩
def c6_0 : List RO := [p 6 (.mov (kb false))]
def c6_1 : List RO := [c 18 19 [], p 19 (.un .not (t 18))]
def c6_2 : List RO := [p 6 (.mov (kb false))]
def c6_3 : List RO := [c 20 20 [(z 6)], m 7 20]
def c6_4 : List RO := [p 8 (.mov (z 0))]
def c6_5 : List RO := [m 21 8, b 22 .lss (t 21) (z 6)]
def c6_6 : List RO := [m 25 7, c 26 21 [(t 25)]]
def c6_7 : List RO := [m 23 8, b 24 .add (t 23) (z 1), m 8 24]
def c6_8 : List RO := [m 27 0, b 28 .rem (t 27) (u8 6), p 29 (.toInt .i64 (t 28)), m 30 1, b 31 .rem (t 30) (u8 16), p 32 (.toInt .i64 (t 31)), m 9 29, m 10 32]
def c6_9 : List RO := [m 33 7, m 34 9, m 35 10, m 36 2, c 37 22 [(t 33), (t 34), (t 35), (t 36)], b 38 .neq (t 37) (z 0)]
def c6_10 : List RO := [p 6 (.mov (kb false))]
def c6_11 : List RO := [p 11 (.mov (z 0))]
def c6_12 : List RO := [m 39 11, b 40 .lss (t 39) (z 6)]
def c6_13 : List RO := [p 12 (.mov (z 0))]
def c6_14 : List RO := [m 43 12, b 44 .lss (t 43) (z 16)]
def c6_15 : List RO := [m 48 7, m 49 11, m 50 12, c 51 23 [(t 48), (t 49), (t 50)], m 47 51, ex 52 0 47, ex 53 1 47, m 13 52, m 14 53]
def c6_16 : List RO := [p 15 (.mov (u8 0))]
def c6_17 : List RO := [m 54 11, m 55 9, b 56 .eql (t 54) (t 55), m 57 56, gm 58 57 true 12, gm 59 57 true 10, gb 60 57 true .eql (t 58) (t 59), p 61 (.pick (t 57) (t 60) (kb false))]
def c6_18 : List RO := [m 62 2, m 15 62]
def c6_19 : List RO := [m 63 14, b 64 .neq (t 63) (z 0), m 65 64, gm 66 65 false 13, gm 67 65 false 15, gb 68 65 false .neq (t 66) (t 67), p 69 (.pick (t 65) (kb true) (t 68))]
def c6_20 : List RO := [p 6 (.mov (kb false))]
def c6_21 : List RO := [m 45 12, b 46 .add (t 45) (z 1), m 12 46]
def c6_22 : List RO := [m 41 11, b 42 .add (t 41) (z 1), m 11 42]
def c6_23 : List RO := [m 71 7, m 72 9, c 73 23 [(t 71), (t 72), (z 16)], m 70 73, ex 74 0 70, ex 75 1 70, m 16 74, m 17 75]
def c6_24 : List RO := [m 76 17, b 77 .eql (t 76) (z 11), m 78 77, gm 79 78 true 7, gm 80 78 true 9, gm 81 78 true 2, gc 82 78 true 22 [(t 79), (t 80), (z (.negSucc 0)), (t 81)], gb 83 78 true .eql (t 82) (z 11), p 84 (.pick (t 78) (t 83) (kb false)), m 6 84]
def c6m : Mode := ⟨false, []⟩
def c6 : RFunc := ⟨(.seq (.reg c6_0) (.seq (.seq (.reg c6_1) (.cond (t 19) (.seq (.reg c6_2) .ret) .skip)) (.seq (.reg c6_3) (.seq (.seq (.reg c6_4) (.block 0 (.loop (.seq (.seq (.reg c6_5) (.cond (t 22) .skip (.exit 0))) (.seq (.block 1 (.reg c6_6)) (.reg c6_7)))))) (.seq (.reg c6_8) (.seq (.seq (.reg c6_9) (.cond (t 38) (.seq (.reg c6_10) .ret) .skip)) (.seq (.seq (.reg c6_11) (.block 2 (.loop (.seq (.seq (.reg c6_12) (.cond (t 40) .skip (.exit 2))) (.seq (.block 3 (.seq (.reg c6_13) (.block 4 (.loop (.seq (.seq (.reg c6_14) (.cond (t 44) .skip (.exit 4))) (.seq (.block 5 (.seq (.reg c6_15) (.seq (.reg c6_16) (.seq (.seq (.reg c6_17) (.cond (t 61) (.reg c6_18) .skip)) (.seq (.reg c6_19) (.cond (t 69) (.seq (.reg c6_20) .ret) .skip)))))) (.reg c6_21))))))) (.reg c6_22)))))) (.seq (.reg c6_23) (.seq (.reg c6_24) .ret))))))))), 85, [.tmp 6]⟩
def c7_0 : List RO := [p 4 (.mov (kb false))]
def c7_1 : List RO := [c 26 19 [], p 27 (.un .not (t 26))]
def c7_2 : List RO := [p 4 (.mov (kb false))]
def c7_3 : List RO := [m 28 1, ln 29 28, b 30 .gtr (t 29) (z 60)]
def c7_4 : List RO := [p 4 (.mov (kb true))]
def c7_5 : List RO := [m 31 0, c 32 20 [(t 31)], m 5 32]
def c7_6 : List RO := [m 33 0, p 34 (.minmax true (t 33) [(z 0)]), p 35 (.minmax false (t 34) [(z 512)]), m 6 35]
def c7_7 : List RO := [a 7 (.alloc [.nils, .nils, .nils, .nils, .nils, .nils, .nils, .nils, .nils, .nils, .nils, .nils, .nils, .nils, .nils, .nils, .nils, .nils, .nils, .nils, .nils, .nils, .nils, .nils, .nils, .nils, .nils, .nils, .nils, .nils, .nils, .nils, .nils, .nils, .nils, .nils, .nils, .nils, .nils, .nils, .nils, .nils, .nils, .nils, .nils, .nils, .nils, .nils, .nils, .nils, .nils, .nils, .nils, .nils, .nils, .nils, .nils, .nils, .nils, .nils, .nils, .nils, .nils, .nils, .nils, .nils, .nils, .nils, .nils, .nils, .nils, .nils, .nils, .nils, .nils, .nils, .nils, .nils, .nils, .nils, .nils, .nils, .nils, .nils, .nils, .nils, .nils, .nils, .nils, .nils, .nils, .nils, .nils, .nils, .nils, .nils, .nils, .nils, .nils, .nils, .nils, .nils, .nils, .nils, .nils, .nils, .nils, .nils, .nils, .nils, .nils, .nils, .nils, .nils, .nils, .nils, .nils, .nils, .nils, .nils, .nils, .nils, .nils, .nils, .nils, .nils, .nils, .nils, .nils, .nils, .nils, .nils, .nils, .nils, .nils, .nils, .nils, .nils, .nils, .nils, .nils, .nils, .nils, .nils, .nils, .nils, .nils, .nils, .nils, .nils, .nils, .nils, .nils, .nils, .nils, .nils, .nils, .nils, .nils, .nils, .nils, .nils, .nils, .nils, .nils, .nils, .nils, .nils, .nils, .nils, .nils, .nils, .nils, .nils, .nils, .nils, .nils, .nils, .nils, .nils, .nils, .nils, .nils, .nils, .nils, .nils, .nils, .nils, .nils, .nils, .nils, .nils, .nils, .nils, .nils, .nils, .nils, .nils, .nils, .nils, .nils, .nils, .nils, .nils, .nils, .nils, .nils, .nils, .nils, .nils, .nils, .nils, .nils, .nils, .nils, .nils, .nils, .nils, .nils, .nils, .nils, .nils, .nils, .nils, .nils, .nils, .nils, .nils, .nils, .nils, .nils, .nils, .nils, .nils, .nils, .nils, .nils, .nils, .nils, .nils, .nils, .nils, .nils, .nils, .nils, .nils, .nils, .nils, .nils, .nils, .nils, .nils, .nils, .nils, .nils, .nils, .nils, .nils, .nils, .nils, .nils, .nils, .nils, .nils, .nils, .nils, .nils, .nils, .nils, .nils, .nils, .nils, .nils, .nils, .nils, .nils, .nils, .nils, .nils, .nils, .nils, .nils, .nils, .nils, .nils, .nils, .nils, .nils, .nils, .nils, .nils, .nils, .nils, .nils, .nils, .nils, .nils, .nils, .nils, .nils, .nils, .nils, .nils, .nils, .nils, .nils, .nils, .nils, .nils, .nils, .nils, .nils, .nils, .nils, .nils, .nils, .nils, .nils, .nils, .nils, .nils, .nils, .nils, .nils, .nils, .nils, .nils, .nils, .nils, .nils, .nils, .nils, .nils, .nils, .nils, .nils, .nils, .nils, .nils, .nils, .nils, .nils, .nils, .nils, .nils, .nils, .nils, .nils, .nils, .nils, .nils, .nils, .nils, .nils, .nils, .nils, .nils, .nils, .nils, .nils, .nils, .nils, .nils, .nils, .nils, .nils, .nils, .nils, .nils, .nils, .nils, .nils, .nils, .nils, .nils, .nils, .nils, .nils, .nils, .nils, .nils, .nils, .nils, .nils, .nils, .nils, .nils, .nils, .nils, .nils, .nils, .nils, .nils, .nils, .nils, .nils, .nils, .nils, .nils, .nils, .nils, .nils, .nils, .nils, .nils, .nils, .nils, .nils, .nils, .nils, .nils, .nils, .nils, .nils, .nils, .nils, .nils, .nils, .nils, .nils, .nils, .nils, .nils, .nils, .nils, .nils, .nils, .nils, .nils, .nils, .nils, .nils, .nils, .nils, .nils, .nils, .nils, .nils, .nils, .nils, .nils, .nils, .nils, .nils, .nils, .nils, .nils, .nils, .nils, .nils, .nils, .nils, .nils, .nils, .nils, .nils, .nils, .nils, .nils, .nils, .nils, .nils, .nils, .nils, .nils, .nils, .nils, .nils, .nils, .nils, .nils, .nils, .nils, .nils, .nils, .nils, .nils, .nils, .nils, .nils, .nils, .nils, .nils, .nils, .nils, .nils, .nils, .nils, .nils, .nils, .nils, .nils, .nils, .nils, .nils, .nils, .nils, .nils, .nils, .nils, .nils, .nils, .nils, .nils, .nils, .nils, .nils, .nils, .nils, .nils, .nils, .nils])]
def c7_8 : List RO := [p 8 (.mov (z 0))]
def c7_9 : List RO := [p 9 (.mov (z 0))]
def c7_10 : List RO := [m 36 9, m 37 1, ln 38 37, b 39 .lss (t 36) (t 38)]
def c7_11 : List RO := [m 42 1, m 43 9, ia 44 4 42 43, la 45 4 44, a 10 (.alloc [(.int .i64 0), (.int .i64 0), (.int .i64 0), (.int .u8 0)]), sn 4 (t 10) (t 45)]
def c7_12 : List RO := [fa 46 1 10, ld 47 46, b 48 .geq (t 47) (z 0), m 49 48, gfa 50 49 true 1 10, gld 51 49 true 50, gm 52 49 true 6, gb 53 49 true .lss (t 51) (t 52), p 54 (.pick (t 49) (t 53) (kb false)), m 55 54, gfa 56 55 true 1 10, gld 57 55 true 56, gp 58 55 true (.minmax false (t 57) [(z 511)]), gp 59 55 true (.minmax true (t 58) [(z 0)]), gp 60 55 true (.iaddrA 1 512 (t 7) (t 59)), gld 61 55 true 60, gp 62 55 true (.eqNil 1 true (t 61)), p 63 (.pick (t 55) (t 62) (kb false)), m 11 63]
def c7_13 : List RO := [fa 64 2 10, ld 65 64, b 66 .geq (t 65) (z 0), m 67 66, gfa 68 67 true 2 10, gld 69 67 true 68, gb 70 67 true .lss (t 69) (z 16), p 71 (.pick (t 67) (t 70) (kb false)), m 12 71]
def c7_14 : List RO := [p 13 (.mov (z 0))]
def c7_15 : List RO := [m 73 11, p 74 (.un .not (t 73)), m 72 74]
def c7_16 : List RO := [p 13 (.mov (z 7))]
def c7_17 : List RO := [m 76 12, p 77 (.un .not (t 76)), m 75 77]
def c7_18 : List RO := [p 13 (.mov (z 11))]
def c7_19 : List RO := [fa 78 0 10, ld 79 78, b 80 .rem (t 79) (z 10), b 81 .add (t 80) (z 10), b 82 .rem (t 81) (z 10), m 14 82]
def c7_20 : List RO := [m 120 14, b 121 .lss (t 120) (z 4), m 119 121]
def c7_21 : List RO := [m 123 5, c 124 21 [(t 123)], m 122 124, ex 125 0 122, ex 126 1 122, m 15 125, m 16 126]
def c7_22 : List RO := [p 17 (.mov (z 0))]
def c7_23 : List RO := [m 127 17, m 128 6, b 129 .lss (t 127) (t 128), m 130 129, gm 131 130 true 17, gp 132 130 true (.iaddrA 1 512 (t 7) (t 131)), gld 133 130 true 132, gp 134 130 true (.eqNil 1 true (t 133)), p 135 (.pick (t 130) (t 134) (kb false))]
def c7_24 : List RO := [m 136 17, b 137 .add (t 136) (z 1), m 17 137]
def c7_25 : List RO := [m 138 17, m 139 6, b 140 .eql (t 138) (t 139)]
def c7_26 : List RO := [m 141 16, b 142 .neq (t 141) (z 9), m 143 142, gm 144 143 false 15, gb 145 143 false .neq (t 144) (z 0), p 146 (.pick (t 143) (kb true) (t 145))]
def c7_27 : List RO := [p 4 (.mov (kb false))]
def c7_28 : List RO := [m 147 17, a 148 (.mksliceR [(.int .u8 0)] 1 (z 16) (z 16)), p 149 (.iaddrA 1 512 (t 7) (t 147)), s1 (t 149) (t 148)]
def c7_29 : List RO := [m 150 8, b 151 .add (t 150) (z 1), m 8 151]
def c7_30 : List RO := [m 152 16, b 153 .neq (t 152) (z 0), m 154 153, gm 155 154 false 15, gm 156 154 false 17, gb 157 154 false .neq (t 155) (t 156), p 158 (.pick (t 154) (kb true) (t 157))]
def c7_31 : List RO := [p 4 (.mov (kb false))]
def c7_32 : List RO := [m 160 14, b 161 .lss (t 160) (z 6), m 159 161]
def c7_33 : List RO := [m 162 5, fa 163 1 10, ld 164 163, c 165 24 [(t 162), (t 164)], m 18 165]
def c7_34 : List RO := [m 166 18, b 167 .eql (t 166) (z 0), m 168 11, p 169 (.bin true .neq (t 167) (t 168)), m 170 169, gm 171 170 false 11, gp 172 170 false (.un .not (t 171)), gm 173 170 false 172, gm 174 173 true 18, gb 175 173 true .neq (t 174) (z 7), gp 176 170 false (.pick (t 173) (t 175) (kb false)), p 177 (.pick (t 170) (kb true) (t 176))]
def c7_35 : List RO := [p 4 (.mov (kb false))]
def c7_36 : List RO := [m 178 11]
def c7_37 : List RO := [fa 179 1 10, ld 180 179, p 181 (.iaddrA 1 512 (t 7) (t 180)), s1 (t 181) (.const .nils)]
def c7_38 : List RO := [m 182 8, b 183 .sub (t 182) (z 1), m 8 183]
def c7_39 : List RO := [m 185 14, b 186 .lss (t 185) (z 9), m 184 186]
def c7_40 : List RO := [m 187 5, fa 188 1 10, ld 189 188, fa 190 2 10, ld 191 190, fa 192 3 10, ld 193 192, c 194 22 [(t 187), (t 189), (t 191), (t 193)], m 195 13, b 196 .neq (t 194) (t 195)]
def c7_41 : List RO := [p 4 (.mov (kb false))]
def c7_42 : List RO := [m 197 13, b 198 .eql (t 197) (z 0)]
def c7_43 : List RO := [fa 199 1 10, ld 200 199, p 201 (.iaddrA 1 512 (t 7) (t 200)), ld 202 201, fa 203 2 10, ld 204 203, fa 205 3 10, ld 206 205, ia 207 1 202 204, s1 (t 207) (t 206)]
def c7_44 : List RO := [m 84 5, fa 85 1 10, ld 86 85, fa 87 2 10, ld 88 87, c 89 23 [(t 84), (t 86), (t 88)], m 83 89, ex 90 0 83, ex 91 1 83, m 19 90, m 20 91]
def c7_45 : List RO := [m 92 20, m 93 13, b 94 .neq (t 92) (t 93), m 95 94, gm 96 95 false 13, gb 97 95 false .eql (t 96) (z 0), gm 98 95 false 97, gm 99 98 true 19, gfa 100 98 true 1 10, gld 101 98 true 100, gp 102 98 true (.iaddrA 1 512 (t 7) (t 101)), gld 103 98 true 102, gfa 104 98 true 2 10, gld 105 98 true 104, gia 106 98 true 1 103 105, gld 107 98 true 106, gb 108 98 true .neq (t 99) (t 107), gp 109 95 false (.pick (t 98) (t 108) (kb false)), p 110 (.pick (t 95) (kb true) (t 109)), m 111 110, gm 112 111 false 13, gb 113 111 false .neq (t 112) (z 0), gm 114 111 false 113, gm 115 114 true 19, gb 116 114 true .neq (t 115) (u8 0), gp 117 111 false (.pick (t 114) (t 116) (kb false)), p 118 (.pick (t 111) (kb true) (t 117))]
def c7_46 : List RO := [p 4 (.mov (kb false))]
def c7_47 : List RO := [m 208 5, c 209 25 [(t 208)], m 210 8, b 211 .neq (t 209) (t 210)]
def c7_48 : List RO := [p 4 (.mov (kb false))]
def c7_49 : List RO := [m 40 9, b 41 .add (t 40) (z 1), m 9 41]
def c7_50 : List RO := [p 21 (.mov (.const .nil))]
def c7_51 : List RO := [m 213 21, c 214 21 [(t 213)], m 212 214, ex 215 0 212, ex 216 1 212, m 22 215, m 23 216]
def c7_52 : List RO := [m 218 21, c 219 23 [(t 218), (z 0), (z 0)], m 217 219, ex 220 0 217, ex 221 1 217, m 24 220, m 25 221]
def c7_53 : List RO := [m 222 23, b 223 .eql (t 222) (z 1), m 224 223, gm 225 224 true 25, gb 226 224 true .eql (t 225) (z 1), p 227 (.pick (t 224) (t 226) (kb false)), m 228 227, gm 229 228 true 21, gc 230 228 true 24 [(t 229), (z 0)], gb 231 228 true .eql (t 230) (z 1), p 232 (.pick (t 228) (t 231) (kb false)), m 233 232, gm 234 233 true 21, gc 235 233 true 22 [(t 234), (z 0), (z 0), (u8 1)], gb 236 233 true .eql (t 235) (z 1), p 237 (.pick (t 233) (t 236) (kb false)), m 238 237, gm 239 238 true 21, gc 240 238 true 25 [(t 239)], gb 241 238 true .eql (t 240) (z 0), p 242 (.pick (t 238) (t 241) (kb false)), m 4 242]
def c7m : Mode := ⟨true, [148]⟩
def c7 : RFunc := ⟨(.seq (.reg c7_0) (.seq (.seq (.reg c7_1) (.cond (t 27) (.seq (.reg c7_2) .ret) .skip)) (.seq (.seq (.reg c7_3) (.cond (t 30) (.seq (.reg c7_4) .ret) .skip)) (.seq (.reg c7_5) (.seq (.reg c7_6) (.seq (.reg c7_7) (.seq (.reg c7_8) (.seq (.seq (.reg c7_9) (.block 0 (.loop (.seq (.seq (.reg c7_10) (.cond (t 39) .skip (.exit 0))) (.seq (.block 1 (.seq (.reg c7_11) (.seq (.reg c7_12) (.seq (.reg c7_13) (.seq (.reg c7_14) (.seq (.block 2 (.seq (.reg c7_15) (.cond (t 72) (.reg c7_16) (.seq (.reg c7_17) (.cond (t 75) (.reg c7_18) .skip))))) (.seq (.seq (.reg c7_19) (.block 3 (.seq (.reg c7_20) (.cond (t 119) (.seq (.reg c7_21) (.seq (.reg c7_22) (.seq (.block 4 (.loop (.seq (.seq (.reg c7_23) (.cond (t 135) .skip (.exit 4))) (.block 5 (.reg c7_24))))) (.seq (.seq (.reg c7_25) (.cond (t 140) (.seq (.seq (.reg c7_26) (.cond (t 146) (.seq (.reg c7_27) .ret) .skip)) (.exit 1)) .skip)) (.seq (.reg c7_28) (.seq (.reg c7_29) (.seq (.reg c7_30) (.cond (t 158) (.seq (.reg c7_31) .ret) .skip)))))))) (.seq (.reg c7_32) (.cond (t 159) (.seq (.reg c7_33) (.seq (.seq (.reg c7_34) (.cond (t 177) (.seq (.reg c7_35) .ret) .skip)) (.seq (.reg c7_36) (.cond (t 178) (.seq (.reg c7_37) (.reg c7_38)) .skip)))) (.seq (.reg c7_39) (.cond (t 184) (.seq (.seq (.reg c7_40) (.cond (t 196) (.seq (.reg c7_41) .ret) .skip)) (.seq (.reg c7_42) (.cond (t 198) (.regD c7_43 [[], [], [], [], [], [], [], [], [], []]) .skip))) (.seq (.reg c7_44) (.seq (.regD c7_45 [[], [], [], [], [], [], [], [], [], [], [], [], [], [], [], [], [], [], [], [], [], [], [], [], [], [], []]) (.cond (t 118) (.seq (.reg c7_46) .ret) .skip))))))))))) (.seq (.reg c7_47) (.cond (t 211) (.seq (.reg c7_48) .ret) .skip))))))))) (.reg c7_49)))))) (.seq (.reg c7_50) (.seq (.reg c7_51) (.seq (.reg c7_52) (.seq (.reg c7_53) .ret)))))))))))), 243, [.tmp 4]⟩
def c8_0 : List RO := [p 4 (.mov (kb false))]
def c8_1 : List RO := [c 14 19 [], p 15 (.un .not (t 14))]
def c8_2 : List RO := [p 4 (.mov (kb false))]
def c8_3 : List RO := [m 16 1, b 17 .rem (t 16) (u8 5), p 18 (.toInt .i64 (t 17)), b 19 .add (z 1) (t 18), c 20 20 [(t 19)], m 5 20]
def c8_4 : List RO := [m 22 5, c 23 21 [(t 22)], m 21 23, ex 24 0 21, ex 25 1 21, m 6 24, m 7 25]
def c8_5 : List RO := [m 26 7, b 27 .neq (t 26) (z 0)]
def c8_6 : List RO := [p 4 (.mov (kb false))]
def c8_7 : List RO := [p 8 (.mov (z 0))]
def c8_8 : List RO := [m 28 8, m 29 0, ln 30 29, b 31 .lss (t 28) (t 30), m 32 31, gm 33 32 true 8, gb 34 32 true .lss (t 33) (z 16), p 35 (.pick (t 32) (t 34) (kb false))]
def c8_9 : List RO := [m 38 5, m 39 6, m 40 8, m 41 0, m 42 8, ia 43 1 41 42, ld 44 43, c 45 22 [(t 38), (t 39), (t 40), (t 44)], b 46 .neq (t 45) (z 0)]
def c8_10 : List RO := [p 4 (.mov (kb false))]
def c8_11 : List RO := [m 36 8, b 37 .add (t 36) (z 1), m 8 37]
def c8_12 : List RO := [m 47 5, m 48 6, c 49 24 [(t 47), (t 48)], b 50 .neq (t 49) (z 0), m 51 50, gm 52 51 false 5, gm 53 51 false 6, gc 54 51 false 24 [(t 52), (t 53)], gb 55 51 false .neq (t 54) (z 7), p 56 (.pick (t 51) (kb true) (t 55))]
def c8_13 : List RO := [p 4 (.mov (kb false))]
def c8_14 : List RO := [m 58 5, c 59 21 [(t 58)], m 57 59, ex 60 0 57, ex 61 1 57, m 9 60, m 10 61]
def c8_15 : List RO := [p 11 (.mov (z 0))]
def c8_16 : List RO := [m 62 11, b 63 .lss (t 62) (z 16)]
def c8_17 : List RO := [m 67 5, m 68 9, m 69 11, c 70 23 [(t 67), (t 68), (t 69)], m 66 70, ex 71 0 66, ex 72 1 66, m 12 71, m 13 72]
def c8_18 : List RO := [m 73 13, b 74 .neq (t 73) (z 0), m 75 74, gm 76 75 false 12, gb 77 75 false .neq (t 76) (u8 0), p 78 (.pick (t 75) (kb true) (t 77))]
def c8_19 : List RO := [p 4 (.mov (kb false))]
def c8_20 : List RO := [m 64 11, b 65 .add (t 64) (z 1), m 11 65]
def c8_21 : List RO := [m 79 10, b 80 .eql (t 79) (z 0), m 81 80, gm 82 81 true 9, gm 83 81 true 6, gb 84 81 true .eql (t 82) (t 83), p 85 (.pick (t 81) (t 84) (kb false)), m 86 85, gm 87 86 true 5, gc 88 86 true 25 [(t 87)], gb 89 86 true .eql (t 88) (z 1), p 90 (.pick (t 86) (t 89) (kb false)), m 4 90]
def c8m : Mode := ⟨false, []⟩
def c8 : RFunc := ⟨(.seq (.reg c8_0) (.seq (.seq (.reg c8_1) (.cond (t 15) (.seq (.reg c8_2) .ret) .skip)) (.seq (.reg c8_3) (.seq (.reg c8_4) (.seq (.seq (.reg c8_5) (.cond (t 27) (.seq (.reg c8_6) .ret) .skip)) (.seq (.seq (.reg c8_7) (.block 0 (.loop (.seq (.seq (.reg c8_8) (.cond (t 35) .skip (.exit 0))) (.seq (.block 1 (.seq (.reg c8_9) (.cond (t 46) (.seq (.reg c8_10) .ret) .skip))) (.reg c8_11)))))) (.seq (.seq (.reg c8_12) (.cond (t 56) (.seq (.reg c8_13) .ret) .skip)) (.seq (.reg c8_14) (.seq (.seq (.reg c8_15) (.block 2 (.loop (.seq (.seq (.reg c8_16) (.cond (t 63) .skip (.exit 2))) (.seq (.block 3 (.seq (.reg c8_17) (.seq (.reg c8_18) (.cond (t 78) (.seq (.reg c8_19) .ret) .skip)))) (.reg c8_20)))))) (.seq (.reg c8_21) .ret)))))))))), 91, [.tmp 4]⟩
def c9_0 : List RO := [p 4 (.mov (kb false))]
def c9_1 : List RO := [c 17 19 [], p 18 (.un .not (t 17))]
def c9_2 : List RO := [p 4 (.mov (kb false))]
def c9_3 : List RO := [m 19 0, b 20 .rem (t 19) (u8 40), p 21 (.toInt .i64 (t 20)), m 5 21]
def c9_4 : List RO := [m 22 5, c 23 20 [(t 22)], m 6 23]
def c9_5 : List RO := [p 7 (.mov (z 0))]
def c9_6 : List RO := [m 24 7, m 25 5, b 26 .lss (t 24) (t 25)]
def c9_7 : List RO := [m 30 6, c 31 21 [(t 30)], m 29 31, ex 32 0 29, ex 33 1 29, m 8 32, m 9 33]
def c9_8 : List RO := [m 34 9, b 35 .neq (t 34) (z 0), m 36 35, gm 37 36 false 8, gm 38 36 false 7, gb 39 36 false .neq (t 37) (t 38), p 40 (.pick (t 36) (kb true) (t 39))]
def c9_9 : List RO := [p 4 (.mov (kb false))]
def c9_10 : List RO := [m 27 7, b 28 .add (t 27) (z 1), m 7 28]
def c9_11 : List RO := [m 42 6, c 43 21 [(t 42)], m 41 43, ex 44 0 41, ex 45 1 41, m 10 44, m 11 45]
def c9_12 : List RO := [m 46 11, b 47 .neq (t 46) (z 9), m 48 47, gm 49 48 false 6, gc 50 48 false 25 [(t 49)], gm 51 48 false 5, gb 52 48 false .neq (t 50) (t 51), p 53 (.pick (t 48) (kb true) (t 52))]
def c9_13 : List RO := [p 4 (.mov (kb false))]
def c9_14 : List RO := [m 54 5, b 55 .eql (t 54) (z 0)]
def c9_15 : List RO := [p 4 (.mov (kb true))]
def c9_16 : List RO := [m 56 1, p 57 (.toInt .i64 (t 56)), m 58 5, b 59 .rem (t 57) (t 58), m 12 59]
def c9_17 : List RO := [m 60 6, m 61 12, c 62 24 [(t 60), (t 61)], b 63 .neq (t 62) (z 0)]
def c9_18 : List RO := [p 4 (.mov (kb false))]
def c9_19 : List RO := [m 65 6, c 66 21 [(t 65)], m 64 66, ex 67 0 64, ex 68 1 64, m 13 67, m 14 68]
def c9_20 : List RO := [m 70 6, c 71 21 [(t 70)], m 69 71, ex 72 0 69, ex 73 1 69, m 15 72, m 16 73]
def c9_21 : List RO := [m 74 14, b 75 .eql (t 74) (z 0), m 76 75, gm 77 76 true 13, gm 78 76 true 12, gb 79 76 true .eql (t 77) (t 78), p 80 (.pick (t 76) (t 79) (kb false)), m 81 80, gm 82 81 true 16, gb 83 81 true .eql (t 82) (z 9), p 84 (.pick (t 81) (t 83) (kb false)), m 85 84, gc 86 85 true 20 [(z (.negSucc 4))], gc 87 85 true 25 [(t 86)], gb 88 85 true .eql (t 87) (z 0), p 89 (.pick (t 85) (t 88) (kb false)), m 4 89]
def c9m : Mode := ⟨false, []⟩
def c9 : RFunc := ⟨(.seq (.reg c9_0) (.seq (.seq (.reg c9_1) (.cond (t 18) (.seq (.reg c9_2) .ret) .skip)) (.seq (.reg c9_3) (.seq (.reg c9_4) (.seq (.seq (.reg c9_5) (.block 0 (.loop (.seq (.seq (.reg c9_6) (.cond (t 26) .skip (.exit 0))) (.seq (.block 1 (.seq (.reg c9_7) (.seq (.reg c9_8) (.cond (t 40) (.seq (.reg c9_9) .ret) .skip)))) (.reg c9_10)))))) (.seq (.reg c9_11) (.seq (.seq (.reg c9_12) (.cond (t 53) (.seq (.reg c9_13) .ret) .skip)) (.seq (.seq (.reg c9_14) (.cond (t 55) (.seq (.reg c9_15) .ret) .skip)) (.seq (.reg c9_16) (.seq (.seq (.reg c9_17) (.cond (t 63) (.seq (.reg c9_18) .ret) .skip)) (.seq (.reg c9_19) (.seq (.reg c9_20) (.seq (.reg c9_21) .ret))))))))))))), 90, [.tmp 4]⟩
def c10_0 : List RO := [p 8 (.mov (kb false))]
def c10_1 : List RO := [c 22 26 [], p 23 (.un .not (t 22))]
def c10_2 : List RO := [p 8 (.mov (kb false))]
def c10_3 : List RO := [m 24 0, ln 25 24, b 26 .eql (t 25) (z 0), m 27 26, gm 28 27 false 0, gp 29 27 false (.lenS (t 28)), gb 30 27 false .gtr (t 29) (z 64), p 31 (.pick (t 27) (kb true) (t 30))]
def c10_4 : List RO := [p 8 (.mov (kb true))]
def c10_5 : List RO := [c 32 27 [(z 20)], m 9 32]
def c10_6 : List RO := [m 33 9, m 34 0, ln 35 34, c 36 28 [(t 33), (u64 1), (t 35)], b 37 .neq (t 36) (z 0), m 38 37, gm 39 38 false 9, gm 40 38 false 0, gp 41 38 false (.lenS (t 40)), gc 42 38 false 28 [(t 39), (u64 2), (t 41)], gb 43 38 false .neq (t 42) (z 0), p 44 (.pick (t 38) (kb true) (t 43))]
def c10_7 : List RO := [p 8 (.mov (kb false))]
def c10_8 : List RO := [m 45 1, p 46 (.toInt .i64 (t 45)), m 47 0, ln 48 47, b 49 .add (t 48) (z 1), b 50 .rem (t 46) (t 49), m 10 50]
def c10_9 : List RO := [m 51 9, m 52 0, c 53 29 [(t 51), (u64 1), (z 0), (t 52)], m 54 9, m 55 10, m 56 0, m 57 10, p 58 (.slc 1 (t 56) (some (t 57)) none none), c 59 29 [(t 54), (u64 2), (t 55), (t 58)], m 60 9, m 61 0, m 62 10, p 63 (.slc 1 (t 61) none (some (t 62)) none), c 64 29 [(t 60), (u64 2), (z 0), (t 63)], m 11 53, m 12 59, m 13 64]
def c10_10 : List RO := [m 65 2, p 66 (.toInt .i64 (t 65)), m 67 0, ln 68 67, b 69 .add (t 68) (z 1), b 70 .rem (t 66) (t 69), m 14 70]
def c10_11 : List RO := [m 71 3, p 72 (.toInt .i64 (t 71)), m 73 0, ln 74 73, m 75 14, b 76 .sub (t 74) (t 75), p 77 (.minmax false (t 72) [(t 76)]), m 15 77]
def c10_12 : List RO := [m 79 9, m 80 14, m 81 15, c 82 30 [(t 79), (u64 1), (t 80), (t 81)], m 78 82, ex 83 0 78, ex 84 1 78, m 16 83, m 17 84]
def c10_13 : List RO := [m 86 9, m 87 14, m 88 15, c 89 30 [(t 86), (u64 2), (t 87), (t 88)], m 85 89, ex 90 0 85, ex 91 1 85, m 18 90, m 19 91]
def c10_14 : List RO := [m 93 9, m 94 14, m 95 0, ln 96 95, m 97 14, b 98 .sub (t 96) (t 97), b 99 .add (t 98) (z 1), c 100 30 [(t 93), (u64 1), (t 94), (t 99)], m 92 100, ex 101 0 92, ex 102 1 92, m 20 101, m 21 102]
def c10_15 : List RO := [m 103 11, b 104 .eql (t 103) (z 0), m 105 104, gm 106 105 true 12, gb 107 105 true .eql (t 106) (z 0), p 108 (.pick (t 105) (t 107) (kb false)), m 109 108, gm 110 109 true 13, gb 111 109 true .eql (t 110) (z 0), p 112 (.pick (t 109) (t 111) (kb false)), m 113 112, gm 114 113 true 17, gb 115 113 true .eql (t 114) (z 0), p 116 (.pick (t 113) (t 115) (kb false)), m 117 116, gm 118 117 true 19, gb 119 117 true .eql (t 118) (z 0), p 120 (.pick (t 117) (t 119) (kb false)), m 121 120, gm 122 121 true 16, gp 123 121 true (.bytesStr (t 122)), gm 124 121 true 0, gm 125 121 true 14, gm 126 121 true 14, gm 127 121 true 15, gb 128 121 true .add (t 126) (t 127), gp 129 121 true (.slc 1 (t 124) (some (t 125)) (some (t 128)) none), gp 130 121 true (.bytesStr (t 129)), gb 131 121 true .eql (t 123) (t 130), p 132 (.pick (t 121) (t 131) (kb false)), m 133 132, gm 134 133 true 18, gp 135 133 true (.bytesStr (t 134)), gm 136 133 true 16, gp 137 133 true (.bytesStr (t 136)), gb 138 133 true .eql (t 135) (t 137), p 139 (.pick (t 133) (t 138) (kb false)), m 140 139, gm 141 140 true 21, gb 142 140 true .eql (t 141) (z 11), p 143 (.pick (t 140) (t 142) (kb false)), m 144 143, gm 145 144 true 9, gm 146 144 true 0, gp 147 144 true (.lenS (t 146)), gp 148 144 true (.bslice 1 [(.int .u8 0)] [(0, (u8 1))]), gc 149 144 true 29 [(t 145), (u64 1), (t 147), (t 148)], gb 150 144 true .eql (t 149) (z 11), p 151 (.pick (t 144) (t 150) (kb false)), m 152 151, gm 153 152 true 9, gm 154 152 true 0, gp 155 152 true (.lenS (t 154)), gc 156 152 true 29 [(t 153), (u64 1), (t 155), (.const (.vs [] .full))], gb 157 152 true .eql (t 156) (z 0), p 158 (.pick (t 152) (t 157) (kb false)), m 8 158]
def c10m : Mode := ⟨false, []⟩
def c10 : RFunc := ⟨(.seq (.reg c10_0) (.seq (.seq (.reg c10_1) (.cond (t 23) (.seq (.reg c10_2) .ret) .skip)) (.seq (.seq (.reg c10_3) (.cond (t 31) (.seq (.reg c10_4) .ret) .skip)) (.seq (.reg c10_5) (.seq (.seq (.reg c10_6) (.cond (t 44) (.seq (.reg c10_7) .ret) .skip)) (.seq (.reg c10_8) (.seq (.regD c10_9 [[], [], [], [], [], [], [], [], [], [], [], [], [], [], [], [], []]) (.seq (.reg c10_10) (.seq (.reg c10_11) (.seq (.reg c10_12) (.seq (.reg c10_13) (.seq (.reg c10_14) (.seq (.regD c10_15 [[], [], [], [], [], [], [], [], [], [], [], [], [], [], [], [], [], [], [], [], [], [], [], [], [], [], [], [], [], [], [], [], [], [], [], [], [], [], [], [], [], [], [], [], [], [], [], [], [], [], [], [], [], [], [], [], []]) .ret))))))))))))), 159, [.tmp 8]⟩
def c11_0 : List RO := [p 4 (.mov (kb false))]
def c11_1 : List RO := [c 27 26 [], p 28 (.un .not (t 27))]
def c11_2 : List RO := [p 4 (.mov (kb false))]
def c11_3 : List RO := [m 29 1, ln 30 29, b 31 .gtr (t 30) (z 50)]
def c11_4 : List RO := [p 4 (.mov (kb true))]
def c11_5 : List RO := [m 32 0, c 33 27 [(t 32)], m 5 33]
def c11_6 : List RO := [m 34 0, p 35 (.minmax true (t 34) [(z 0)]), p 36 (.minmax false (t 35) [(z 512)]), m 6 36]
def c11_7 : List RO := [p 7 (.mov (.const (.vs [] .full)))]
def c11_8 : List RO := [p 8 (.mov (.const (.vs [] .full)))]
def c11_9 : List RO := [p 9 (.mov (z 0))]
def c11_10 : List RO := [m 37 9, m 38 1, ln 39 38, b 40 .lss (t 37) (t 39)]
def c11_11 : List RO := [m 43 1, m 44 9, ia 45 5 43 44, la 46 5 45, a 10 (.alloc [(.int .i64 0), (.int .i64 0), (.int .i64 0), (.int .u64 0), (.vs [] .full)]), sn 5 (t 10) (t 46)]
def c11_12 : List RO := [fa 47 4 10, ld 48 47, ln 49 48, b 50 .gtr (t 49) (z 100)]
def c11_13 : List RO := [p 4 (.mov (kb true))]
def c11_14 : List RO := [p 11 (.mov (z (.negSucc 0)))]
def c11_15 : List RO := [p 12 (.mov (z 0))]
def c11_16 : List RO := [m 51 12, m 52 7, ln 53 52, b 54 .lss (t 51) (t 53)]
def c11_17 : List RO := [m 57 7, m 58 12, ia 59 1 57 58, ld 60 59, fa 61 3 10, ld 62 61, b 63 .eql (t 60) (t 62)]
def c11_18 : List RO := [m 64 12, m 11 64]
def c11_19 : List RO := [m 55 12, b 56 .add (t 55) (z 1), m 12 56]
def c11_20 : List RO := [fa 65 0 10, ld 66 65, b 67 .rem (t 66) (z 10), b 68 .add (t 67) (z 10), b 69 .rem (t 68) (z 10), m 13 69]
def c11_21 : List RO := [m 123 13, b 124 .lss (t 123) (z 2), m 122 124]
def c11_22 : List RO := [fa 125 2 10, ld 126 125, p 127 (.minmax true (t 126) [(z 0)]), p 128 (.minmax false (t 127) [(z 64)]), b 129 .add (t 128) (z 16), b 130 .sub (t 129) (z 1), b 131 .quo (t 130) (z 16), m 14 131]
def c11_23 : List RO := [p 15 (.mov (z 0))]
def c11_24 : List RO := [fa 132 2 10, ld 133 132, b 134 .lss (t 133) (z 0), m 135 134, gfa 136 135 false 2 10, gld 137 135 false 136, gb 138 135 false .gtr (t 137) (z 64), p 139 (.pick (t 135) (kb true) (t 138)), m 140 139, gm 141 140 false 11, gb 142 140 false .geq (t 141) (z 0), p 143 (.pick (t 140) (kb true) (t 142))]
def c11_25 : List RO := [p 15 (.mov (z 1))]
def c11_26 : List RO := [m 144 14, m 145 6, b 146 .gtr (t 144) (t 145)]
def c11_27 : List RO := [p 15 (.mov (z 9))]
def c11_28 : List RO := [m 147 5, fa 148 3 10, ld 149 148, fa 150 2 10, ld 151 150, c 152 28 [(t 147), (t 149), (t 151)], m 153 15, b 154 .neq (t 152) (t 153)]
def c11_29 : List RO := [p 4 (.mov (kb false))]
def c11_30 : List RO := [m 155 15, b 156 .eql (t 155) (z 0)]
def c11_31 : List RO := [m 157 7, fa 158 3 10, ld 159 158, p 160 (.bslice 1 [(.int .u64 0)] [(0, (t 159))]), e 161 (.append 8 1 (t 157) (t 160)), m 162 8, fa 163 2 10, ld 164 163, a 165 (.mksliceR [(.int .u8 0)] 1 (t 164) (t 164)), p 166 (.bslice 1 [(.vs [] .full)] [(0, (t 165))]), e 167 (.append 24 1 (t 162) (t 166)), m 168 6, m 169 14, b 170 .sub (t 168) (t 169), m 7 161, m 8 167, m 6 170]
def c11_32 : List RO := [m 172 13, b 173 .eql (t 172) (z 2), m 171 173]
def c11_33 : List RO := [m 174 5, fa 175 3 10, ld 176 175, c 177 31 [(t 174), (t 176)], m 16 177]
def c11_34 : List RO := [m 178 16, b 179 .eql (t 178) (z 0), m 180 11, b 181 .geq (t 180) (z 0), p 182 (.bin true .neq (t 179) (t 181)), m 183 182, gm 184 183 false 11, gb 185 183 false .lss (t 184) (z 0), gm 186 183 false 185, gm 187 186 true 16, gb 188 186 true .neq (t 187) (z 7), gp 189 183 false (.pick (t 186) (t 188) (kb false)), p 190 (.pick (t 183) (kb true) (t 189))]
def c11_35 : List RO := [p 4 (.mov (kb false))]
def c11_36 : List RO := [m 191 11, b 192 .geq (t 191) (z 0)]
def c11_37 : List RO := [m 193 6, m 194 8, m 195 11, ia 196 1 194 195, ld 197 196, ln 198 197, b 199 .add (t 198) (z 16), b 200 .sub (t 199) (z 1), b 201 .quo (t 200) (z 16), b 202 .add (t 193) (t 201), m 6 202]
def c11_38 : List RO := [p 203 (.bslice 0 [(.int .u64 0)] []), m 204 7, m 205 11, p 206 (.slc 1 (t 204) none (some (t 205)) none), e 207 (.append 8 1 (t 203) (t 206)), m 208 7, m 209 11, b 210 .add (t 209) (z 1), p 211 (.slc 1 (t 208) (some (t 210)) none none), e 212 (.append 8 1 (t 207) (t 211)), m 7 212]
def c11_39 : List RO := [p 213 (.bslice 0 [(.vs [] .full)] []), m 214 8, m 215 11, p 216 (.slc 1 (t 214) none (some (t 215)) none), e 217 (.append 24 1 (t 213) (t 216)), m 218 8, m 219 11, b 220 .add (t 219) (z 1), p 221 (.slc 1 (t 218) (some (t 220)) none none), e 222 (.append 24 1 (t 217) (t 221)), m 8 222]
def c11_40 : List RO := [m 224 13, b 225 .lss (t 224) (z 7), m 223 225]
def c11_41 : List RO := [m 226 5, fa 227 3 10, ld 228 227, fa 229 1 10, ld 230 229, fa 231 4 10, ld 232 231, c 233 29 [(t 226), (t 228), (t 230), (t 232)], m 17 233]
def c11_42 : List RO := [m 234 11, m 235 8, fa 236 1 10, ld 237 236, fa 238 4 10, ld 239 238, ln 240 239, c 241 32 [(t 234), (t 235), (t 237), (t 240)], m 18 241]
def c11_43 : List RO := [m 242 17, m 243 18, b 244 .neq (t 242) (t 243)]
def c11_44 : List RO := [p 4 (.mov (kb false))]
def c11_45 : List RO := [m 245 18, b 246 .eql (t 245) (z 0)]
def c11_46 : List RO := [m 247 8, m 248 11, ia 249 1 247 248, ld 250 249, fa 251 1 10, ld 252 251, p 253 (.slc 1 (t 250) (some (t 252)) none none), fa 254 4 10, ld 255 254, e 256 (.copy 1 (t 253) (t 255))]
def c11_47 : List RO := [m 71 5, fa 72 3 10, ld 73 72, fa 74 1 10, ld 75 74, fa 76 2 10, ld 77 76, c 78 30 [(t 71), (t 73), (t 75), (t 77)], m 70 78, ex 79 0 70, ex 80 1 70, m 19 79, m 20 80]
def c11_48 : List RO := [m 81 11, m 82 8, fa 83 1 10, ld 84 83, fa 85 2 10, ld 86 85, c 87 32 [(t 81), (t 82), (t 84), (t 86)], m 21 87]
def c11_49 : List RO := [m 88 20, m 89 21, b 90 .neq (t 88) (t 89), m 91 90, gm 92 91 false 21, gb 93 91 false .eql (t 92) (z 0), gm 94 91 false 93, gm 95 94 true 19, gp 96 94 true (.bytesStr (t 95)), gm 97 94 true 8, gm 98 94 true 11, gia 99 94 true 1 97 98, gld 100 94 true 99, gfa 101 94 true 1 10, gld 102 94 true 101, gfa 103 94 true 1 10, gld 104 94 true 103, gfa 105 94 true 2 10, gld 106 94 true 105, gb 107 94 true .add (t 104) (t 106), gp 108 94 true (.slc 1 (t 100) (some (t 102)) (some (t 107)) none), gp 109 94 true (.bytesStr (t 108)), gb 110 94 true .neq (t 96) (t 109), gp 111 91 false (.pick (t 94) (t 110) (kb false)), p 112 (.pick (t 91) (kb true) (t 111)), m 113 112, gm 114 113 false 21, gb 115 113 false .neq (t 114) (z 0), gm 116 113 false 115, gm 117 116 true 19, gp 118 116 true (.lenS (t 117)), gb 119 116 true .gtr (t 118) (z 0), gp 120 113 false (.pick (t 116) (t 119) (kb false)), p 121 (.pick (t 113) (kb true) (t 120))]
def c11_50 : List RO := [p 4 (.mov (kb false))]
def c11_51 : List RO := [m 257 5, m 258 7, m 259 8, m 260 6, c 261 33 [(t 257), (t 258), (t 259), (t 260)], p 262 (.un .not (t 261))]
def c11_52 : List RO := [p 4 (.mov (kb false))]
def c11_53 : List RO := [m 41 9, b 42 .add (t 41) (z 1), m 9 42]
def c11_54 : List RO := [p 22 (.mov (.const .nil))]
def c11_55 : List RO := [m 264 22, c 265 30 [(t 264), (u64 1), (z 0), (z 0)], m 263 265, ex 266 0 263, ex 267 1 263, m 23 266, m 24 267]
def c11_56 : List RO := [m 269 22, c 270 34 [(t 269), (u64 1)], m 268 270, ex 271 0 268, ex 272 1 268, m 25 271, m 26 272]
def c11_57 : List RO := [m 273 24, b 274 .eql (t 273) (z 1), m 275 274, gm 276 275 true 26, gb 277 275 true .eql (t 276) (z 1), p 278 (.pick (t 275) (t 277) (kb false)), m 279 278, gm 280 279 true 22, gc 281 279 true 28 [(t 280), (u64 1), (z 1)], gb 282 279 true .eql (t 281) (z 1), p 283 (.pick (t 279) (t 282) (kb false)), m 284 283, gm 285 284 true 22, gc 286 284 true 31 [(t 285), (u64 1)], gb 287 284 true .eql (t 286) (z 1), p 288 (.pick (t 284) (t 287) (kb false)), m 289 288, gm 290 289 true 22, gc 291 289 true 29 [(t 290), (u64 1), (z 0), (.const (.vs [] .full))], gb 292 289 true .eql (t 291) (z 1), p 293 (.pick (t 289) (t 292) (kb false)), m 294 293, gm 295 294 true 22, gc 296 294 true 35 [(t 295)], gb 297 294 true .eql (t 296) (z 0), p 298 (.pick (t 294) (t 297) (kb false)), m 4 298]
def c11m : Mode := ⟨false, [165]⟩
def c11 : RFunc := ⟨(.seq (.reg c11_0) (.seq (.seq (.reg c11_1) (.cond (t 28) (.seq (.reg c11_2) .ret) .skip)) (.seq (.seq (.reg c11_3) (.cond (t 31) (.seq (.reg c11_4) .ret) .skip)) (.seq (.reg c11_5) (.seq (.reg c11_6) (.seq (.reg c11_7) (.seq (.reg c11_8) (.seq (.seq (.reg c11_9) (.block 0 (.loop (.seq (.seq (.reg c11_10) (.cond (t 40) .skip (.exit 0))) (.seq (.block 1 (.seq (.reg c11_11) (.seq (.seq (.reg c11_12) (.cond (t 50) (.seq (.reg c11_13) .ret) .skip)) (.seq (.reg c11_14) (.seq (.seq (.reg c11_15) (.block 2 (.loop (.seq (.seq (.reg c11_16) (.cond (t 54) .skip (.exit 2))) (.seq (.block 3 (.seq (.regD c11_17 [[], [], [], [], [], [], []]) (.cond (t 63) (.reg c11_18) .skip))) (.reg c11_19)))))) (.seq (.seq (.reg c11_20) (.block 4 (.seq (.reg c11_21) (.cond (t 122) (.seq (.reg c11_22) (.seq (.reg c11_23) (.seq (.seq (.reg c11_24) (.cond (t 143) (.reg c11_25) (.seq (.reg c11_26) (.cond (t 146) (.reg c11_27) .skip)))) (.seq (.seq (.reg c11_28) (.cond (t 154) (.seq (.reg c11_29) .ret) .skip)) (.seq (.reg c11_30) (.cond (t 156) (.regD c11_31 [[], [], [], [], [], [], [], [4], [], [], [], [], [], [], [], [], []]) .skip)))))) (.seq (.reg c11_32) (.cond (t 171) (.seq (.reg c11_33) (.seq (.seq (.reg c11_34) (.cond (t 190) (.seq (.reg c11_35) .ret) .skip)) (.seq (.reg c11_36) (.cond (t 192) (.seq (.reg c11_37) (.seq (.regD c11_38 [[], [], [], [], [], [], [], [], [], [], []]) (.regD c11_39 [[], [], [], [], [], [], [], [], [], [], []]))) .skip)))) (.seq (.reg c11_40) (.cond (t 223) (.seq (.reg c11_41) (.seq (.reg c11_42) (.seq (.seq (.reg c11_43) (.cond (t 244) (.seq (.reg c11_44) .ret) .skip)) (.seq (.reg c11_45) (.cond (t 246) (.regD c11_46 [[], [], [], [], [], [], [], [], [], []]) .skip))))) (.seq (.reg c11_47) (.seq (.reg c11_48) (.seq (.regD c11_49 [[], [], [], [], [], [], [], [], [], [], [], [], [], [], [], [], [], [], [], [], [], [], [], [], [], [], [], [], [], [], [], [], [], []]) (.cond (t 121) (.seq (.reg c11_50) .ret) .skip)))))))))))) (.seq (.reg c11_51) (.cond (t 262) (.seq (.reg c11_52) .ret) .skip)))))))) (.reg c11_53)))))) (.seq (.reg c11_54) (.seq (.reg c11_55) (.seq (.reg c11_56) (.seq (.reg c11_57) .ret)))))))))))), 299, [.tmp 4]⟩
def c12_0 : List RO := [p 6 (.mov (kb false))]
def c12_1 : List RO := [c 18 26 [], p 19 (.un .not (t 18))]
def c12_2 : List RO := [p 6 (.mov (kb false))]
def c12_3 : List RO := [m 20 0, ln 21 20, b 22 .eql (t 21) (z 0), m 23 22, gm 24 23 false 0, gp 25 23 false (.lenS (t 24)), gb 26 23 false .gtr (t 25) (z 8), p 27 (.pick (t 23) (kb true) (t 26)), m 28 27, gm 29 28 false 2, gp 30 28 false (.lenS (t 29)), gb 31 28 false .gtr (t 30) (z 64), p 32 (.pick (t 28) (kb true) (t 31))]
def c12_4 : List RO := [p 6 (.mov (kb true))]
def c12_5 : List RO := [c 33 27 [(z 64)], m 7 33]
def c12_6 : List RO := [p 8 (.mov (z 0))]
def c12_7 : List RO := [m 34 8, m 35 0, ln 36 35, b 37 .lss (t 34) (t 36)]
def c12_8 : List RO := [m 40 7, m 41 8, p 42 (.toInt .u64 (t 41)), m 43 0, m 44 8, ia 45 1 43 44, ld 46 45, b 47 .rem (t 46) (u8 65), p 48 (.toInt .i64 (t 47)), c 49 28 [(t 40), (t 42), (t 48)], b 50 .neq (t 49) (z 0)]
def c12_9 : List RO := [p 6 (.mov (kb false))]
def c12_10 : List RO := [m 38 8, b 39 .add (t 38) (z 1), m 8 39]
def c12_11 : List RO := [m 51 1, p 52 (.toInt .i64 (t 51)), m 53 0, ln 54 53, b 55 .rem (t 52) (t 54), m 9 55]
def c12_12 : List RO := [m 56 2, ln 57 56, m 58 0, m 59 9, ia 60 1 58 59, ld 61 60, b 62 .rem (t 61) (u8 65), p 63 (.toInt .i64 (t 62)), p 64 (.minmax false (t 57) [(t 63)]), m 10 64]
def c12_13 : List RO := [m 65 7, m 66 9, p 67 (.toInt .u64 (t 66)), m 68 2, m 69 10, p 70 (.slc 1 (t 68) none (some (t 69)) none), c 71 29 [(t 65), (t 67), (z 0), (t 70)], b 72 .neq (t 71) (z 0)]
def c12_14 : List RO := [p 6 (.mov (kb false))]
def c12_15 : List RO := [p 11 (.mov (z 0))]
def c12_16 : List RO := [m 73 11, m 74 0, ln 75 74, b 76 .lss (t 73) (t 75)]
def c12_17 : List RO := [m 80 7, m 81 11, p 82 (.toInt .u64 (t 81)), m 83 0, m 84 11, ia 85 1 83 84, ld 86 85, b 87 .rem (t 86) (u8 65), p 88 (.toInt .i64 (t 87)), c 89 30 [(t 80), (t 82), (z 0), (t 88)], m 79 89, ex 90 0 79, ex 91 1 79, m 12 90, m 13 91]
def c12_18 : List RO := [m 92 13, b 93 .neq (t 92) (z 0), m 94 93, gm 95 94 false 12, gp 96 94 false (.lenS (t 95)), gm 97 94 false 0, gm 98 94 false 11, gia 99 94 false 1 97 98, gld 100 94 false 99, gb 101 94 false .rem (t 100) (u8 65), gp 102 94 false (.toInt .i64 (t 101)), gb 103 94 false .neq (t 96) (t 102), p 104 (.pick (t 94) (kb true) (t 103))]
def c12_19 : List RO := [p 6 (.mov (kb false))]
def c12_20 : List RO := [p 14 (.mov (z 0))]
def c12_21 : List RO := [m 105 14, m 106 12, ln 107 106, b 108 .lss (t 105) (t 107)]
def c12_22 : List RO := [m 111 11, m 112 9, b 113 .neq (t 111) (t 112), m 114 113, gm 115 114 true 12, gm 116 114 true 14, gia 117 114 true 1 115 116, gld 118 114 true 117, gb 119 114 true .neq (t 118) (u8 0), p 120 (.pick (t 114) (t 119) (kb false)), m 121 120, gm 122 121 false 11, gm 123 121 false 9, gb 124 121 false .eql (t 122) (t 123), gm 125 121 false 124, gm 126 125 true 14, gm 127 125 true 10, gb 128 125 true .lss (t 126) (t 127), gm 129 125 true 128, gm 130 129 true 12, gm 131 129 true 14, gia 132 129 true 1 130 131, gld 133 129 true 132, gm 134 129 true 2, gm 135 129 true 14, gia 136 129 true 1 134 135, gld 137 129 true 136, gb 138 129 true .neq (t 133) (t 137), gp 139 125 true (.pick (t 129) (t 138) (kb false)), gm 140 125 true 139, gm 141 140 false 14, gm 142 140 false 10, gb 143 140 false .geq (t 141) (t 142), gm 144 140 false 143, gm 145 144 true 12, gm 146 144 true 14, gia 147 144 true 1 145 146, gld 148 144 true 147, gb 149 144 true .neq (t 148) (u8 0), gp 150 140 false (.pick (t 144) (t 149) (kb false)), gp 151 125 true (.pick (t 140) (kb true) (t 150)), gp 152 121 false (.pick (t 125) (t 151) (kb false)), p 153 (.pick (t 121) (kb true) (t 152))]
def c12_23 : List RO := [p 6 (.mov (kb false))]
def c12_24 : List RO := [m 109 14, b 110 .add (t 109) (z 1), m 14 110]
def c12_25 : List RO := [m 77 11, b 78 .add (t 77) (z 1), m 11 78]
def c12_26 : List RO := [m 154 7, m 155 9, p 156 (.toInt .u64 (t 155)), c 157 31 [(t 154), (t 156)], b 158 .neq (t 157) (z 0), m 159 158, gm 160 159 false 7, gc 161 159 false 28 [(t 160), (u64 99), (z 64)], gb 162 159 false .neq (t 161) (z 0), p 163 (.pick (t 159) (kb true) (t 162))]
def c12_27 : List RO := [p 6 (.mov (kb false))]
def c12_28 : List RO := [m 165 7, c 166 30 [(t 165), (u64 99), (z 0), (z 64)], m 164 166, ex 167 0 164, ex 168 1 164, m 15 167, m 16 168]
def c12_29 : List RO := [p 17 (.mov (z 0))]
def c12_30 : List RO := [m 169 17, m 170 15, ln 171 170, b 172 .lss (t 169) (t 171)]
def c12_31 : List RO := [m 175 15, m 176 17, ia 177 1 175 176, ld 178 177, b 179 .neq (t 178) (u8 0)]
def c12_32 : List RO := [p 6 (.mov (kb false))]
def c12_33 : List RO := [m 173 17, b 174 .add (t 173) (z 1), m 17 174]
def c12_34 : List RO := [m 180 16, b 181 .eql (t 180) (z 0), m 182 181, gm 183 182 true 15, gp 184 182 true (.lenS (t 183)), gb 185 182 true .eql (t 184) (z 64), p 186 (.pick (t 182) (t 185) (kb false)), m 6 186]
def c12m : Mode := ⟨false, []⟩
def c12 : RFunc := ⟨(.seq (.reg c12_0) (.seq (.seq (.reg c12_1) (.cond (t 19) (.seq (.reg c12_2) .ret) .skip)) (.seq (.seq (.reg c12_3) (.cond (t 32) (.seq (.reg c12_4) .ret) .skip)) (.seq (.reg c12_5) (.seq (.seq (.reg c12_6) (.block 0 (.loop (.seq (.seq (.reg c12_7) (.cond (t 37) .skip (.exit 0))) (.seq (.block 1 (.seq (.reg c12_8) (.cond (t 50) (.seq (.reg c12_9) .ret) .skip))) (.reg c12_10)))))) (.seq (.reg c12_11) (.seq (.reg c12_12) (.seq (.seq (.reg c12_13) (.cond (t 72) (.seq (.reg c12_14) .ret) .skip)) (.seq (.seq (.reg c12_15) (.block 2 (.loop (.seq (.seq (.reg c12_16) (.cond (t 76) .skip (.exit 2))) (.seq (.block 3 (.seq (.reg c12_17) (.seq (.seq (.reg c12_18) (.cond (t 104) (.seq (.reg c12_19) .ret) .skip)) (.seq (.reg c12_20) (.block 4 (.loop (.seq (.seq (.reg c12_21) (.cond (t 108) .skip (.exit 4))) (.seq (.block 5 (.seq (.regD c12_22 [[], [], [], [], [], [], [], [], [], [], [], [], [], [], [], [], [], [], [], [], [], [], [], [], [], [], [], [], [], [], [], [], [], [], [], [], [], [], [], [], [], [], []]) (.cond (t 153) (.seq (.reg c12_23) .ret) .skip))) (.reg c12_24))))))))) (.reg c12_25)))))) (.seq (.seq (.reg c12_26) (.cond (t 163) (.seq (.reg c12_27) .ret) .skip)) (.seq (.reg c12_28) (.seq (.seq (.reg c12_29) (.block 6 (.loop (.seq (.seq (.reg c12_30) (.cond (t 172) .skip (.exit 6))) (.seq (.block 7 (.seq (.reg c12_31) (.cond (t 179) (.seq (.reg c12_32) .ret) .skip))) (.reg c12_33)))))) (.seq (.reg c12_34) .ret))))))))))))), 187, [.tmp 6]⟩
def c13_0 : List RO := [p 4 (.mov (kb false))]
def c13_1 : List RO := [c 11 26 [], p 12 (.un .not (t 11))]
def c13_2 : List RO := [p 4 (.mov (kb false))]
def c13_3 : List RO := [m 13 0, b 14 .rem (t 13) (u8 30), p 15 (.toInt .i64 (t 14)), m 16 1, b 17 .rem (t 16) (u8 65), p 18 (.toInt .i64 (t 17)), m 5 15, m 6 18]
def c13_4 : List RO := [m 19 6, b 20 .add (t 19) (z 16), b 21 .sub (t 20) (z 1), b 22 .quo (t 21) (z 16), m 7 22]
def c13_5 : List RO := [m 23 5, c 24 27 [(t 23)], m 8 24]
def c13_6 : List RO := [m 25 7, b 26 .eql (t 25) (z 0)]
def c13_7 : List RO := [m 27 8, m 28 6, c 29 28 [(t 27), (u64 1), (t 28)], b 30 .eql (t 29) (z 0), m 31 30, gm 32 31 true 8, gc 33 31 true 35 [(t 32)], gm 34 31 true 5, gb 35 31 true .eql (t 33) (t 34), p 36 (.pick (t 31) (t 35) (kb false)), m 4 36]
def c13_8 : List RO := [m 37 5, m 38 7, b 39 .quo (t 37) (t 38), m 9 39]
def c13_9 : List RO := [p 10 (.mov (z 0))]
def c13_10 : List RO := [m 40 10, m 41 9, b 42 .lss (t 40) (t 41)]
def c13_11 : List RO := [m 45 8, m 46 10, p 47 (.toInt .u64 (t 46)), m 48 6, c 49 28 [(t 45), (t 47), (t 48)], b 50 .neq (t 49) (z 0)]
def c13_12 : List RO := [p 4 (.mov (kb false))]
def c13_13 : List RO := [m 43 10, b 44 .add (t 43) (z 1), m 10 44]
def c13_14 : List RO := [m 51 8, m 52 6, c 53 28 [(t 51), (u64 100), (t 52)], b 54 .neq (t 53) (z 9), m 55 54, gm 56 55 false 8, gc 57 55 false 35 [(t 56)], gm 58 55 false 5, gm 59 55 false 9, gm 60 55 false 7, gb 61 55 false .mul (t 59) (t 60), gb 62 55 false .sub (t 58) (t 61), gb 63 55 false .neq (t 57) (t 62), p 64 (.pick (t 55) (kb true) (t 63))]
def c13_15 : List RO := [p 4 (.mov (kb false))]
def c13_16 : List RO := [m 65 9, b 66 .eql (t 65) (z 0)]
def c13_17 : List RO := [p 4 (.mov (kb true))]
def c13_18 : List RO := [m 67 8, c 68 31 [(t 67), (u64 0)], b 69 .eql (t 68) (z 0), m 70 69, gm 71 70 true 8, gm 72 70 true 6, gc 73 70 true 28 [(t 71), (u64 100), (t 72)], gb 74 70 true .eql (t 73) (z 0), p 75 (.pick (t 70) (t 74) (kb false)), m 76 75, gm 77 76 true 8, gc 78 76 true 35 [(t 77)], gm 79 76 true 5, gm 80 76 true 9, gm 81 76 true 7, gb 82 76 true .mul (t 80) (t 81), gb 83 76 true .sub (t 79) (t 82), gb 84 76 true .eql (t 78) (t 83), p 85 (.pick (t 76) (t 84) (kb false)), m 4 85]
def c13m : Mode := ⟨false, []⟩
def c13 : RFunc := ⟨(.seq (.reg c13_0) (.seq (.seq (.reg c13_1) (.cond (t 12) (.seq (.reg c13_2) .ret) .skip)) (.seq (.reg c13_3) (.seq (.reg c13_4) (.seq (.reg c13_5) (.seq (.seq (.reg c13_6) (.cond (t 26) (.seq (.reg c13_7) .ret) .skip)) (.seq (.reg c13_8) (.seq (.seq (.reg c13_9) (.block 0 (.loop (.seq (.seq (.reg c13_10) (.cond (t 42) .skip (.exit 0))) (.seq (.block 1 (.seq (.reg c13_11) (.cond (t 50) (.seq (.reg c13_12) .ret) .skip))) (.reg c13_13)))))) (.seq (.seq (.reg c13_14) (.cond (t 64) (.seq (.reg c13_15) .ret) .skip)) (.seq (.seq (.reg c13_16) (.cond (t 66) (.seq (.reg c13_17) .ret) .skip)) (.seq (.reg c13_18) .ret))))))))))), 86, [.tmp 4]⟩
def c14_0 : List RO := [p 0 (.mov (kb false))]
def c14_1 : List RO := [c 1 15 [(.const (.vs [] .full))], m 2 1, gp 3 2 true (.build [(.int .u8 0), (.vs [] .full), (.vs [] .full), (.vs [] .full), (.vs [] .full), (.int .i64 0), (.int .i64 0), (.int .u64 0), (.int .u64 0), (.int .i64 0), (.int .i64 0), (.bool false)] [(6, 1, (z 2)), (10, 1, (z 9))]), gp 4 2 true (.bslice 1 [(.int .u8 0), (.vs [] .full), (.vs [] .full), (.vs [] .full), (.vs [] .full), (.int .i64 0), (.int .i64 0), (.int .u64 0), (.int .u64 0), (.int .i64 0), (.int .i64 0), (.bool false)] [(0, (t 3))]), gc 5 2 true 15 [(t 4)], gp 6 2 true (.un .not (t 5)), p 7 (.pick (t 2) (t 6) (kb false)), m 8 7, gp 9 8 true (.build [(.int .u8 0), (.vs [] .full), (.vs [] .full), (.vs [] .full), (.vs [] .full), (.int .i64 0), (.int .i64 0), (.int .u64 0), (.int .u64 0), (.int .i64 0), (.int .i64 0), (.bool false)] [(6, 1, (z 2)), (9, 1, (z 4)), (10, 1, (z 9))]), gp 10 8 true (.bslice 1 [(.int .u8 0), (.vs [] .full), (.vs [] .full), (.vs [] .full), (.vs [] .full), (.int .i64 0), (.int .i64 0), (.int .u64 0), (.int .u64 0), (.int .i64 0), (.int .i64 0), (.bool false)] [(0, (t 9))]), gc 11 8 true 17 [(t 10)], gb 12 8 true .eql (t 11) (z 2), p 13 (.pick (t 8) (t 12) (kb false)), m 0 13]
def c14m : Mode := ⟨false, []⟩
def c14 : RFunc := ⟨(.seq (.reg c14_0) (.seq (.reg c14_1) .ret)), 14, [.tmp 0]⟩
def c15_0 : List RO := [p 2 (.mov (kb false))]
def c15_1 : List RO := [p 3 (.mov (z 0))]
def c15_2 : List RO := [m 4 3, m 5 0, ln 6 5, b 7 .eql (t 4) (t 6)]
def c15_3 : List RO := [p 2 (.mov (kb true))]
def c15_4 : List RO := [m 8 0, m 9 3, ia 10 12 8 9, fa 11 6 10, ld 12 11, b 13 .eql (t 12) (z 2)]
def c15_5 : List RO := [p 2 (.mov (kb false))]
def c15_6 : List RO := [m 14 3, b 15 .add (t 14) (z 1), m 3 15]
def c15m : Mode := ⟨false, []⟩
def c15 : RFunc := ⟨(.seq (.reg c15_0) (.scope (.seq (.reg c15_1) (.seq (.label 0) (.seq (.seq (.reg c15_2) (.cond (t 7) (.seq (.reg c15_3) .ret) .skip)) (.seq (.seq (.reg c15_4) (.cond (t 13) (.seq (.reg c15_5) .ret) .skip)) (.seq (.reg c15_6) (.goto 0)))))))), 16, [.tmp 2]⟩
def c16_0 : List RO := [p 2 (.mov (kb false))]
def c16_1 : List RO := [p 3 (.mov (z 0))]
def c16_2 : List RO := [m 4 3, m 5 0, ln 6 5, b 7 .lss (t 4) (t 6)]
def c16_3 : List RO := [m 10 0, m 11 3, ia 12 12 10 11, fa 13 6 12, ld 14 13, b 15 .eql (t 14) (z 2)]
def c16_4 : List RO := [p 2 (.mov (kb false))]
def c16_5 : List RO := [m 8 3, b 9 .add (t 8) (z 1), m 3 9]
def c16_6 : List RO := [p 2 (.mov (kb true))]
def c16m : Mode := ⟨false, []⟩
def c16 : RFunc := ⟨(.seq (.reg c16_0) (.seq (.seq (.reg c16_1) (.block 0 (.loop (.seq (.seq (.reg c16_2) (.cond (t 7) .skip (.exit 0))) (.seq (.block 1 (.seq (.reg c16_3) (.cond (t 15) (.seq (.reg c16_4) .ret) .skip))) (.reg c16_5)))))) (.seq (.reg c16_6) .ret))), 16, [.tmp 2]⟩
def c17_0 : List RO := [p 2 (.mov (z 0))]
def c17_1 : List RO := [p 3 (.mov (z 0))]
def c17_2 : List RO := [m 6 0, ln 7 6, p 8 (.mov (z 0))]
def c17_3 : List RO := [b 9 .lss (t 8) (t 7)]
def c17_4 : List RO := [ia 10 12 6 8, la 11 12 10, a 5 (.alloc [(.int .u8 0), (.vs [] .full), (.vs [] .full), (.vs [] .full), (.vs [] .full), (.int .i64 0), (.int .i64 0), (.int .u64 0), (.int .u64 0), (.int .i64 0), (.int .i64 0), (.bool false)]), sn 12 (t 5) (t 11)]
def c17_5 : List RO := [m 12 3, la 13 12 5, c 14 36 [(t 13)], b 15 .add (t 12) (t 14), m 3 15]
def c17_6 : List RO := [b 16 .add (t 8) (z 1), m 8 16]
def c17_7 : List RO := [m 17 3, m 2 17]
def c17m : Mode := ⟨false, []⟩
def c17 : RFunc := ⟨(.seq (.reg c17_0) (.seq (.reg c17_1) (.seq (.seq (.reg c17_2) (.block 0 (.loop (.seq (.reg c17_3) (.seq (.cond (t 9) .skip (.exit 0)) (.seq (.block 1 (.seq (.reg c17_4) (.reg c17_5))) (.reg c17_6))))))) (.seq (.reg c17_7) .ret)))), 18, [.tmp 2]⟩
def c18_0 : List RO := [p 2 (.mov (z 0))]
def c18_1 : List RO := [p 3 (.mov (z 0))]
def c18_2 : List RO := [p 4 (.mov (z 0))]
def c18_3 : List RO := [m 6 4, m 7 0, ln 8 7, b 9 .lss (t 6) (t 8)]
def c18_4 : List RO := [m 12 0, m 13 4, ia 14 12 12 13, fa 15 6 14, ld 16 15, b 17 .eql (t 16) (z 2)]
def c18_5 : List RO := [m 18 0, m 19 4, ia 20 12 18 19, fa 21 9 20, ld 22 21, m 5 22]
def c18_6 : List RO := [m 23 5, m 24 0, m 25 4, ia 26 12 24 25, fa 27 10 26, ld 28 27, b 29 .lss (t 23) (t 28)]
def c18_7 : List RO := [m 32 3, b 33 .add (t 32) (z 1), m 3 33]
def c18_8 : List RO := [m 30 5, b 31 .add (t 30) (z 4), m 5 31]
def c18_9 : List RO := [m 10 4, b 11 .add (t 10) (z 1), m 4 11]
def c18_10 : List RO := [m 34 3, m 2 34]
def c18m : Mode := ⟨false, []⟩
def c18 : RFunc := ⟨(.seq (.reg c18_0) (.seq (.reg c18_1) (.seq (.seq (.reg c18_2) (.block 0 (.loop (.seq (.seq (.reg c18_3) (.cond (t 9) .skip (.exit 0))) (.seq (.block 1 (.seq (.reg c18_4) (.cond (t 17) (.seq (.reg c18_5) (.block 2 (.loop (.seq (.seq (.reg c18_6) (.cond (t 29) .skip (.exit 2))) (.seq (.block 3 (.reg c18_7)) (.reg c18_8)))))) .skip))) (.reg c18_9)))))) (.seq (.reg c18_10) .ret)))), 35, [.tmp 2]⟩
def c19_0 : List RO := [p 0 (.mov (kb false))]
def c19_1 : List RO := [c 9 20 [(z 2)], m 1 9]
def c19_2 : List RO := [m 11 1, c 12 21 [(t 11)], m 10 12, ex 13 0 10, ex 14 1 10, m 2 13, m 3 14]
def c19_3 : List RO := [m 15 1, m 16 2, c 17 22 [(t 15), (t 16), (z 3), (u8 7)], m 4 17]
def c19_4 : List RO := [m 19 1, m 20 2, c 21 23 [(t 19), (t 20), (z 3)], m 18 21, ex 22 0 18, ex 23 1 18, m 5 22, m 6 23]
def c19_5 : List RO := [m 25 1, c 26 23 [(t 25), (z 1), (z 0)], m 24 26, ex 27 0 24, ex 28 1 24, m 7 27, m 8 28]
def c19_6 : List RO := [m 29 3, b 30 .eql (t 29) (z 0), m 31 30, gm 32 31 true 2, gb 33 31 true .eql (t 32) (z 0), p 34 (.pick (t 31) (t 33) (kb false)), m 35 34, gm 36 35 true 4, gb 37 35 true .eql (t 36) (z 0), p 38 (.pick (t 35) (t 37) (kb false)), m 39 38, gm 40 39 true 6, gb 41 39 true .eql (t 40) (z 0), p 42 (.pick (t 39) (t 41) (kb false)), m 43 42, gm 44 43 true 5, gb 45 43 true .eql (t 44) (u8 7), p 46 (.pick (t 43) (t 45) (kb false)), m 47 46, gm 48 47 true 8, gb 49 47 true .eql (t 48) (z 7), p 50 (.pick (t 47) (t 49) (kb false)), m 51 50, gm 52 51 true 1, gc 53 51 true 25 [(t 52)], gb 54 51 true .eql (t 53) (z 1), p 55 (.pick (t 51) (t 54) (kb false)), m 0 55]
def c19m : Mode := ⟨false, []⟩
def c19 : RFunc := ⟨(.seq (.reg c19_0) (.seq (.reg c19_1) (.seq (.reg c19_2) (.seq (.reg c19_3) (.seq (.reg c19_4) (.seq (.reg c19_5) (.seq (.reg c19_6) .ret))))))), 56, [.tmp 0]⟩
def c20_0 : List RO := [p 2 (.mov (.const .nil))]
def c20_1 : List RO := [m 3 0, p 4 (.minmax false (t 3) [(z 512)]), p 5 (.minmax true (z 0) [(t 4)]), a 6 (.mksliceR [(.int .u8 0), (.int .u8 0), (.int .u8 0), (.int .u8 0), (.int .u8 0), (.int .u8 0), (.int .u8 0), (.int .u8 0), (.int .u8 0), (.int .u8 0), (.int .u8 0), (.int .u8 0), (.int .u8 0), (.int .u8 0), (.int .u8 0), (.int .u8 0), (.bool false)] 17 (t 5) (t 5)), p 7 (.build [(.vs [] .full)] [(0, 1, (t 6))]), a 8 (.box (t 7)), m 2 8]
def c20m : Mode := ⟨false, [6]⟩
def c20 : RFunc := ⟨(.seq (.reg c20_0) (.seq (.reg c20_1) .ret)), 9, [.tmp 2]⟩
def c21_0 : List RO := [p 2 (.mov (z 0)), p 3 (.mov (z 0))]
def c21_1 : List RO := [m 5 0, p 6 (.eqNil 0 false (t 5))]
def c21_2 : List RO := [p 2 (.mov (z 0)), p 3 (.mov (z 1))]
def c21_3 : List RO := [m 7 0, p 8 (.nilchk (t 7)), fa 9 0 8, ld 10 9, ln 11 10, p 12 (.mov (z 0))]
def c21_4 : List RO := [b 13 .lss (t 12) (t 11)]
def c21_5 : List RO := [m 14 12, m 4 14]
def c21_6 : List RO := [m 15 0, p 16 (.nilchk (t 15)), fa 17 0 16, ld 18 17, m 19 4, ia 20 17 18 19, fa 21 16 20, ld 22 21, p 23 (.un .not (t 22))]
def c21_7 : List RO := [m 24 0, p 25 (.nilchk (t 24)), fa 26 0 25, ld 27 26, m 28 4, p 29 (.build [(.int .u8 0), (.int .u8 0), (.int .u8 0), (.int .u8 0), (.int .u8 0), (.int .u8 0), (.int .u8 0), (.int .u8 0), (.int .u8 0), (.int .u8 0), (.int .u8 0), (.int .u8 0), (.int .u8 0), (.int .u8 0), (.int .u8 0), (.int .u8 0), (.bool false)] [(16, 1, (kb true))]), ia 30 17 27 28, sn 17 (t 30) (t 29)]
def c21_8 : List RO := [m 31 4, m 2 31, p 3 (.mov (z 0))]
def c21_9 : List RO := [b 32 .add (t 12) (z 1), m 12 32]
def c21_10 : List RO := [p 2 (.mov (z 0)), p 3 (.mov (z 9))]
def c21m : Mode := ⟨false, []⟩
def c21 : RFunc := ⟨(.seq (.reg c21_0) (.seq (.seq (.reg c21_1) (.cond (t 6) (.seq (.reg c21_2) .ret) .skip)) (.seq (.seq (.reg c21_3) (.block 0 (.loop (.seq (.reg c21_4) (.seq (.cond (t 13) .skip (.exit 0)) (.seq (.block 1 (.seq (.reg c21_5) (.seq (.reg c21_6) (.cond (t 23) (.seq (.reg c21_7) (.seq (.reg c21_8) .ret)) .skip)))) (.reg c21_9))))))) (.seq (.reg c21_10) .ret)))), 33, [.tmp 2, .tmp 3]⟩
def c22_0 : List RO := [p 8 (.mov (z 0))]
def c22_1 : List RO := [m 12 0, m 13 1, m 14 2, c 15 37 [(t 12), (t 13), (t 14)], m 11 15, ex 16 0 11, ex 17 1 11, m 9 16, m 10 17]
def c22_2 : List RO := [m 18 10, b 19 .eql (t 18) (z 0)]
def c22_3 : List RO := [m 20 9, m 21 3, p 22 (.nilchk (t 20)), s1 (t 22) (t 21)]
def c22_4 : List RO := [m 23 10, m 8 23]
def c22m : Mode := ⟨false, []⟩
def c22 : RFunc := ⟨(.seq (.reg c22_0) (.seq (.reg c22_1) (.seq (.seq (.reg c22_2) (.cond (t 19) (.reg c22_3) .skip)) (.seq (.reg c22_4) .ret)))), 24, [.tmp 8]⟩
def c23_0 : List RO := [p 6 (.mov (u8 0)), p 7 (.mov (z 0))]
def c23_1 : List RO := [m 11 0, m 12 1, m 13 2, c 14 37 [(t 11), (t 12), (t 13)], m 10 14, ex 15 0 10, ex 16 1 10, m 8 15, m 9 16]
def c23_2 : List RO := [m 17 9, b 18 .neq (t 17) (z 0)]
def c23_3 : List RO := [m 19 9, p 6 (.mov (u8 0)), m 7 19]
def c23_4 : List RO := [m 20 8, p 21 (.nilchk (t 20)), ld 22 21, m 6 22, p 7 (.mov (z 0))]
def c23m : Mode := ⟨false, []⟩
def c23 : RFunc := ⟨(.seq (.reg c23_0) (.seq (.reg c23_1) (.seq (.seq (.reg c23_2) (.cond (t 18) (.seq (.reg c23_3) .ret) .skip)) (.seq (.reg c23_4) .ret)))), 23, [.tmp 6, .tmp 7]⟩
def c24_0 : List RO := [p 4 (.mov (z 0))]
def c24_1 : List RO := [m 8 0, m 9 1, c 10 38 [(t 8), (t 9)], m 7 10, ex 11 0 7, ex 12 1 7, m 5 11, m 6 12]
def c24_2 : List RO := [m 13 6, b 14 .eql (t 13) (z 0)]
def c24_3 : List RO := [m 15 5, p 16 (.nilchk (t 15)), fa 17 16 16, s1 (t 17) (kb false)]
def c24_4 : List RO := [m 18 6, m 4 18]
def c24m : Mode := ⟨false, []⟩
def c24 : RFunc := ⟨(.seq (.reg c24_0) (.seq (.reg c24_1) (.seq (.seq (.reg c24_2) (.cond (t 14) (.reg c24_3) .skip)) (.seq (.reg c24_4) .ret)))), 19, [.tmp 4]⟩
def c25_0 : List RO := [p 2 (.mov (z 0))]
def c25_1 : List RO := [p 3 (.mov (z 0))]
def c25_2 : List RO := [m 6 0, p 7 (.eqNil 0 true (t 6))]
def c25_3 : List RO := [m 8 0, p 9 (.nilchk (t 8)), fa 10 0 9, ld 11 10, ln 12 11, p 13 (.mov (z 0))]
def c25_4 : List RO := [b 14 .lss (t 13) (t 12)]
def c25_5 : List RO := [ia 15 17 11 13, la 16 17 15, a 5 (.alloc [(.int .u8 0), (.int .u8 0), (.int .u8 0), (.int .u8 0), (.int .u8 0), (.int .u8 0), (.int .u8 0), (.int .u8 0), (.int .u8 0), (.int .u8 0), (.int .u8 0), (.int .u8 0), (.int .u8 0), (.int .u8 0), (.int .u8 0), (.int .u8 0), (.bool false)]), sn 17 (t 5) (t 16)]
def c25_6 : List RO := [fa 17 16 5, ld 18 17]
def c25_7 : List RO := [m 19 3, b 20 .add (t 19) (z 1), m 3 20]
def c25_8 : List RO := [b 21 .add (t 13) (z 1), m 13 21]
def c25_9 : List RO := [m 22 3, m 2 22]
def c25m : Mode := ⟨false, []⟩
def c25 : RFunc := ⟨(.seq (.reg c25_0) (.seq (.reg c25_1) (.seq (.seq (.reg c25_2) (.cond (t 7) (.seq (.reg c25_3) (.block 0 (.loop (.seq (.reg c25_4) (.seq (.cond (t 14) .skip (.exit 0)) (.seq (.block 1 (.seq (.reg c25_5) (.seq (.reg c25_6) (.cond (t 18) (.reg c25_7) .skip)))) (.reg c25_8))))))) .skip)) (.seq (.reg c25_9) .ret)))), 23, [.tmp 2]⟩
def c26_0 : List RO := [p 0 (.mov (kb false))]
def c26_1 : List RO := [c 8 27 [(z 4)], m 1 8]
def c26_2 : List RO := [m 9 1, c 10 28 [(t 9), (u64 5), (z 20)], m 2 10]
def c26_3 : List RO := [m 11 1, p 12 (.bslice 2 [(.int .u8 0)] [(0, (u8 1)), (1, (u8 2))]), c 13 29 [(t 11), (u64 5), (z 15), (t 12)], m 3 13]
def c26_4 : List RO := [m 15 1, c 16 30 [(t 15), (u64 5), (z 15), (z 2)], m 14 16, ex 17 0 14, ex 18 1 14, m 4 17, m 5 18]
def c26_5 : List RO := [m 20 1, c 21 34 [(t 20), (u64 5)], m 19 21, ex 22 0 19, ex 23 1 19, m 6 22, m 7 23]
def c26_6 : List RO := [m 24 2, b 25 .eql (t 24) (z 0), m 26 25, gm 27 26 true 3, gb 28 26 true .eql (t 27) (z 0), p 29 (.pick (t 26) (t 28) (kb false)), m 30 29, gm 31 30 true 5, gb 32 30 true .eql (t 31) (z 0), p 33 (.pick (t 30) (t 32) (kb false)), m 34 33, gm 35 34 true 4, gp 36 34 true (.lenS (t 35)), gb 37 34 true .eql (t 36) (z 2), p 38 (.pick (t 34) (t 37) (kb false)), m 39 38, gm 40 39 true 4, gp 41 39 true (.iaddrS 1 (t 40) (z 1)), gld 42 39 true 41, gb 43 39 true .eql (t 42) (u8 2), p 44 (.pick (t 39) (t 43) (kb false)), m 45 44, gm 46 45 true 7, gb 47 45 true .eql (t 46) (z 0), p 48 (.pick (t 45) (t 47) (kb false)), m 49 48, gm 50 49 true 6, gb 51 49 true .eql (t 50) (z 20), p 52 (.pick (t 49) (t 51) (kb false)), m 53 52, gm 54 53 true 1, gc 55 53 true 35 [(t 54)], gb 56 53 true .eql (t 55) (z 2), p 57 (.pick (t 53) (t 56) (kb false)), m 0 57]
def c26m : Mode := ⟨false, []⟩
def c26 : RFunc := ⟨(.seq (.reg c26_0) (.seq (.reg c26_1) (.seq (.reg c26_2) (.seq (.reg c26_3) (.seq (.reg c26_4) (.seq (.reg c26_5) (.seq (.reg c26_6) .ret))))))), 58, [.tmp 0]⟩
def c27_0 : List RO := [p 2 (.mov (.const .nil))]
def c27_1 : List RO := [m 3 0, c 4 20 [(t 3)], a 5 (.mkmap), p 6 (.build [.nil, (.map none)] [(0, 1, (t 4)), (1, 1, (t 5))]), a 7 (.box (t 6)), m 2 7]
def c27m : Mode := ⟨false, []⟩
def c27 : RFunc := ⟨(.seq (.reg c27_0) (.seq (.reg c27_1) .ret)), 8, [.tmp 2]⟩
def c28_0 : List RO := [p 6 (.mov (z 0))]
def c28_1 : List RO := [m 13 0, p 14 (.eqNil 0 false (t 13)), m 15 14, gm 16 15 false 2, gb 17 15 false .lss (t 16) (z 0), p 18 (.pick (t 15) (kb true) (t 17)), m 19 18, gm 20 19 false 2, gb 21 19 false .gtr (t 20) (z 64), p 22 (.pick (t 19) (kb true) (t 21))]
def c28_2 : List RO := [p 6 (.mov (z 1))]
def c28_3 : List RO := [m 24 0, p 25 (.nilchk (t 24)), fa 26 1 25, ld 27 26, m 28 1, p 29 (.lookup (.agg [(.vs [] .full), (.int .i64 0)]) true (t 27) (t 28)), m 23 29, ex 30 0 23, ex 31 1 23, a 7 (.alloc [(.vs [] .full), (.int .i64 0)]), sn 2 (t 7) (t 30), m 8 31]
def c28_4 : List RO := [m 32 8]
def c28_5 : List RO := [p 6 (.mov (z 1))]
def c28_6 : List RO := [m 33 2, b 34 .add (t 33) (z 16), b 35 .sub (t 34) (z 1), b 36 .quo (t 35) (z 16), m 9 36]
def c28_7 : List RO := [m 37 0, c 38 35 [(t 37)], m 39 9, b 40 .lss (t 38) (t 39)]
def c28_8 : List RO := [p 6 (.mov (z 9))]
def c28_9 : List RO := [m 41 2, p 42 (.build [(.vs [] .full), (.int .i64 0)] [(1, 1, (t 41))]), a 10 (.alloc [(.vs [] .full), (.int .i64 0)]), sn 2 (t 10) (t 42)]
def c28_10 : List RO := [m 43 9, p 44 (.mov (z 0))]
def c28_11 : List RO := [b 45 .lss (t 44) (t 43)]
def c28_12 : List RO := [m 47 0, p 48 (.nilchk (t 47)), fa 49 0 48, ld 50 49, c 51 21 [(t 50)], m 46 51, ex 52 0 46, ex 53 1 46, m 11 52, m 12 53]
def c28_13 : List RO := [fa 54 0 10, ld 55 54, m 56 11, p 57 (.bslice 1 [(.int .i64 0)] [(0, (t 56))]), e 58 (.append 8 1 (t 55) (t 57)), fa 59 0 10, s1 (t 59) (t 58)]
def c28_14 : List RO := [b 60 .add (t 44) (z 1), m 44 60]
def c28_15 : List RO := [m 61 0, p 62 (.nilchk (t 61)), fa 63 1 62, ld 64 63, p 65 (.eqNil 3 false (t 64))]
def c28_16 : List RO := [m 66 0, a 67 (.mkmap), p 68 (.nilchk (t 66)), fa 69 1 68, s1 (t 69) (t 67)]
def c28_17 : List RO := [m 70 0, p 71 (.nilchk (t 70)), fa 72 1 71, ld 73 72, m 74 1, la 75 2 10, ⟨none, none, (.e (.mapupd (t 73) (t 74) (t 75)))⟩]
def c28_18 : List RO := [p 6 (.mov (z 0))]
def c28m : Mode := ⟨false, []⟩
def c28 : RFunc := ⟨(.seq (.reg c28_0) (.seq (.seq (.reg c28_1) (.cond (t 22) (.seq (.reg c28_2) .ret) .skip)) (.seq (.seq (.reg c28_3) (.seq (.reg c28_4) (.cond (t 32) (.seq (.reg c28_5) .ret) .skip))) (.seq (.reg c28_6) (.seq (.seq (.reg c28_7) (.cond (t 40) (.seq (.reg c28_8) .ret) .skip)) (.seq (.reg c28_9) (.seq (.seq (.reg c28_10) (.block 0 (.loop (.seq (.reg c28_11) (.seq (.cond (t 45) .skip (.exit 0)) (.seq (.block 1 (.seq (.reg c28_12) (.reg c28_13))) (.reg c28_14))))))) (.seq (.seq (.reg c28_15) (.cond (t 65) (.reg c28_16) .skip)) (.seq (.regD c28_17 [[], [], [], [], [], [], []]) (.seq (.reg c28_18) .ret)))))))))), 76, [.tmp 6]⟩
def c29_0 : List RO := [p 8 (.mov (z 0))]
def c29_1 : List RO := [m 14 0, m 15 1, m 16 2, m 17 3, ln 18 17, c 19 39 [(t 14), (t 15), (t 16), (t 18)], m 13 19, ex 20 0 13, ex 21 1 13, a 9 (.alloc [(.vs [] .full), (.int .i64 0)]), sn 2 (t 9) (t 20), m 10 21]
def c29_2 : List RO := [m 22 10, b 23 .neq (t 22) (z 0)]
def c29_3 : List RO := [m 24 10, m 8 24]
def c29_4 : List RO := [p 11 (.mov (z 0))]
def c29_5 : List RO := [m 25 11, m 26 3, ln 27 26, b 28 .lss (t 25) (t 27)]
def c29_6 : List RO := [m 29 2, m 30 11, b 31 .add (t 29) (t 30), m 12 31]
def c29_7 : List RO := [m 32 0, p 33 (.nilchk (t 32)), fa 34 0 33, ld 35 34, fa 36 0 9, ld 37 36, m 38 12, b 39 .quo (t 38) (z 16), ia 40 1 37 39, ld 41 40, m 42 12, b 43 .rem (t 42) (z 16), m 44 3, m 45 11, ia 46 1 44 45, ld 47 46, c 48 22 [(t 35), (t 41), (t 43), (t 47)]]
def c29_8 : List RO := [m 49 11, b 50 .add (t 49) (z 1), m 11 50]
def c29_9 : List RO := [p 8 (.mov (z 0))]
def c29m : Mode := ⟨false, []⟩
def c29 : RFunc := ⟨(.seq (.reg c29_0) (.scope (.seq (.reg c29_1) (.seq (.seq (.reg c29_2) (.cond (t 23) (.seq (.reg c29_3) .ret) .skip)) (.seq (.reg c29_4) (.seq (.label 0) (.seq (.seq (.reg c29_5) (.cond (t 28) (.seq (.reg c29_6) (.seq (.regD c29_7 [[], [], [], [], [], [], [], [], [], [], [], [], [], [], [], [], []]) (.seq (.reg c29_8) (.goto 0)))) .skip)) (.seq (.reg c29_9) .ret)))))))), 51, [.tmp 8]⟩
def c30_0 : List RO := [p 8 (.mov (.const (.vs [] .full))), p 9 (.mov (z 0))]
def c30_1 : List RO := [m 16 0, m 17 1, m 18 2, m 19 3, c 20 39 [(t 16), (t 17), (t 18), (t 19)], m 15 20, ex 21 0 15, ex 22 1 15, a 10 (.alloc [(.vs [] .full), (.int .i64 0)]), sn 2 (t 10) (t 21), m 11 22]
def c30_2 : List RO := [m 23 11, b 24 .neq (t 23) (z 0)]
def c30_3 : List RO := [m 25 11, p 8 (.mov (.const (.vs [] .full))), m 9 25]
def c30_4 : List RO := [m 26 3, a 27 (.mksliceR [(.int .u8 0)] 1 (t 26) (t 26)), m 12 27]
def c30_5 : List RO := [p 13 (.mov (z 0))]
def c30_6 : List RO := [m 28 13, m 29 3, b 30 .lss (t 28) (t 29)]
def c30_7 : List RO := [m 31 2, m 32 13, b 33 .add (t 31) (t 32), m 14 33]
def c30_8 : List RO := [m 35 12, m 36 13, m 37 0, p 38 (.nilchk (t 37)), fa 39 0 38, ld 40 39, fa 41 0 10, ld 42 41, m 43 14, b 44 .quo (t 43) (z 16), ia 45 1 42 44, ld 46 45, m 47 14, b 48 .rem (t 47) (z 16), c 49 23 [(t 40), (t 46), (t 48)], m 34 49, ex 50 0 34, ex 51 1 34, ia 52 1 35 36, s1 (t 52) (t 50)]
def c30_9 : List RO := [m 53 13, b 54 .add (t 53) (z 1), m 13 54]
def c30_10 : List RO := [m 55 12, m 8 55, p 9 (.mov (z 0))]
def c30m : Mode := ⟨false, [27]⟩
def c30 : RFunc := ⟨(.seq (.reg c30_0) (.scope (.seq (.reg c30_1) (.seq (.seq (.reg c30_2) (.cond (t 24) (.seq (.reg c30_3) .ret) .skip)) (.seq (.reg c30_4) (.seq (.reg c30_5) (.seq (.label 0) (.seq (.seq (.reg c30_6) (.cond (t 30) (.seq (.reg c30_7) (.seq (.regD c30_8 [[], [], [], [], [], [], [], [], [], [], [], [], [], [], [], [], [], [], [], []]) (.seq (.reg c30_9) (.goto 0)))) .skip)) (.seq (.reg c30_10) .ret))))))))), 56, [.tmp 8, .tmp 9]⟩
def c31_0 : List RO := [p 4 (.mov (z 0))]
def c31_1 : List RO := [m 10 0, m 11 1, c 12 40 [(t 10), (t 11)], m 9 12, ex 13 0 9, ex 14 1 9, a 5 (.alloc [(.vs [] .full), (.int .i64 0)]), sn 2 (t 5) (t 13), m 6 14]
def c31_2 : List RO := [m 15 6, b 16 .neq (t 15) (z 0)]
def c31_3 : List RO := [m 17 6, m 4 17]
def c31_4 : List RO := [fa 18 0 5, ld 19 18, ln 20 19, p 21 (.mov (z 0))]
def c31_5 : List RO := [b 22 .lss (t 21) (t 20)]
def c31_6 : List RO := [ia 23 1 19 21, ld 24 23, m 8 24]
def c31_7 : List RO := [m 25 0, p 26 (.nilchk (t 25)), fa 27 0 26, ld 28 27, m 29 8, c 30 24 [(t 28), (t 29)]]
def c31_8 : List RO := [b 31 .add (t 21) (z 1), m 21 31]
def c31_9 : List RO := [m 32 0, p 33 (.nilchk (t 32)), fa 34 1 33, ld 35 34, m 36 1, ⟨none, none, (.e (.mapdel (t 35) (t 36)))⟩]
def c31_10 : List RO := [p 4 (.mov (z 0))]
def c31m : Mode := ⟨false, []⟩
def c31 : RFunc := ⟨(.seq (.reg c31_0) (.seq (.reg c31_1) (.seq (.seq (.reg c31_2) (.cond (t 16) (.seq (.reg c31_3) .ret) .skip)) (.seq (.seq (.reg c31_4) (.block 0 (.loop (.seq (.reg c31_5) (.seq (.cond (t 22) .skip (.exit 0)) (.seq (.block 1 (.seq (.reg c31_6) (.reg c31_7))) (.reg c31_8))))))) (.seq (.reg c31_9) (.seq (.reg c31_10) .ret)))))), 37, [.tmp 4]⟩
def c32_0 : List RO := [p 8 (.mov (z 0))]
def c32_1 : List RO := [m 9 0, b 10 .lss (t 9) (z 0)]
def c32_2 : List RO := [p 8 (.mov (z 7))]
def c32_3 : List RO := [m 11 2, b 12 .lss (t 11) (z 0), m 13 12, gm 14 13 false 3, gb 15 13 false .lss (t 14) (z 0), p 16 (.pick (t 13) (kb true) (t 15)), m 17 16, gm 18 17 false 2, gm 19 17 false 1, gm 20 17 false 0, gia 21 17 false 1 19 20, gld 22 17 false 21, gp 23 17 false (.lenS (t 22)), gb 24 17 false .gtr (t 18) (t 23), p 25 (.pick (t 17) (kb true) (t 24)), m 26 25, gm 27 26 false 3, gm 28 26 false 1, gm 29 26 false 0, gia 30 26 false 1 28 29, gld 31 26 false 30, gp 32 26 false (.lenS (t 31)), gm 33 26 false 2, gb 34 26 false .sub (t 32) (t 33), gb 35 26 false .gtr (t 27) (t 34), p 36 (.pick (t 26) (kb true) (t 35))]
def c32_4 : List RO := [p 8 (.mov (z 11))]
def c32_5 : List RO := [p 8 (.mov (z 0))]
def c32m : Mode := ⟨false, []⟩
def c32 : RFunc := ⟨(.seq (.reg c32_0) (.seq (.seq (.reg c32_1) (.cond (t 10) (.seq (.reg c32_2) .ret) .skip)) (.seq (.seq (.reg c32_3) (.cond (t 36) (.seq (.reg c32_4) .ret) .skip)) (.seq (.reg c32_5) .ret)))), 37, [.tmp 8]⟩
def c33_0 : List RO := [p 8 (.mov (kb false))]
def c33_1 : List RO := [p 9 (.mov (z 0))]
def c33_2 : List RO := [m 15 9, m 16 1, ln 17 16, b 18 .lss (t 15) (t 17)]
def c33_3 : List RO := [m 22 0, m 23 1, m 24 9, ia 25 1 23 24, ld 26 25, m 27 2, m 28 9, ia 29 1 27 28, ld 30 29, ln 31 30, c 32 30 [(t 22), (t 26), (z 0), (t 31)], m 21 32, ex 33 0 21, ex 34 1 21, m 10 33, m 11 34]
def c33_4 : List RO := [m 36 0, m 37 1, m 38 9, ia 39 1 37 38, ld 40 39, c 41 34 [(t 36), (t 40)], m 35 41, ex 42 0 35, ex 43 1 35, m 12 42, m 13 43]
def c33_5 : List RO := [m 44 11, b 45 .neq (t 44) (z 0), m 46 45, gm 47 46 false 10, gp 48 46 false (.bytesStr (t 47)), gm 49 46 false 2, gm 50 46 false 9, gia 51 46 false 1 49 50, gld 52 46 false 51, gp 53 46 false (.bytesStr (t 52)), gb 54 46 false .neq (t 48) (t 53), p 55 (.pick (t 46) (kb true) (t 54)), m 56 55, gm 57 56 false 13, gb 58 56 false .neq (t 57) (z 0), p 59 (.pick (t 56) (kb true) (t 58)), m 60 59, gm 61 60 false 12, gm 62 60 false 2, gm 63 60 false 9, gia 64 60 false 1 62 63, gld 65 60 false 64, gp 66 60 false (.lenS (t 65)), gb 67 60 false .neq (t 61) (t 66), p 68 (.pick (t 60) (kb true) (t 67))]
def c33_6 : List RO := [p 8 (.mov (kb false))]
def c33_7 : List RO := [p 14 (.mov (z 0))]
def c33_8 : List RO := [m 69 14, m 70 10, ln 71 70, b 72 .lss (t 69) (t 71)]
def c33_9 : List RO := [m 75 10, m 76 14, ia 77 1 75 76, ld 78 77, b 79 .xor (t 78) (u8 85), ia 80 1 75 76, s1 (t 80) (t 79)]
def c33_10 : List RO := [m 73 14, b 74 .add (t 73) (z 1), m 14 74]
def c33_11 : List RO := [m 19 9, b 20 .add (t 19) (z 1), m 9 20]
def c33_12 : List RO := [m 81 0, c 82 35 [(t 81)], m 83 3, b 84 .eql (t 82) (t 83), m 8 84]
def c33m : Mode := ⟨false, []⟩
def c33 : RFunc := ⟨(.seq (.reg c33_0) (.seq (.seq (.reg c33_1) (.block 0 (.loop (.seq (.seq (.reg c33_2) (.cond (t 18) .skip (.exit 0))) (.seq (.block 1 (.seq (.regD c33_3 [[], [], [], [], [], [], [], [], [], [], [], [], [], [], [], []]) (.seq (.reg c33_4) (.seq (.seq (.regD c33_5 [[], [], [], [], [], [], [], [], [], [], [], [], [], [], [], [], [], [], [], [], [], [], [], [], []]) (.cond (t 68) (.seq (.reg c33_6) .ret) .skip)) (.seq (.reg c33_7) (.block 2 (.loop (.seq (.seq (.reg c33_8) (.cond (t 72) .skip (.exit 2))) (.seq (.block 3 (.reg c33_9)) (.reg c33_10)))))))))) (.reg c33_11)))))) (.seq (.reg c33_12) .ret))), 85, [.tmp 8]⟩
def c34_0 : List RO := [p 4 (.mov (z 0)), p 5 (.mov (z 0))]
def c34_1 : List RO := [m 9 0, m 10 1, c 11 40 [(t 9), (t 10)], m 8 11, ex 12 0 8, ex 13 1 8, a 6 (.alloc [(.vs [] .full), (.int .i64 0)]), sn 2 (t 6) (t 12), m 7 13]
def c34_2 : List RO := [fa 14 1 6, ld 15 14, m 16 7, m 4 15, m 5 16]
def c34m : Mode := ⟨false, []⟩
def c34 : RFunc := ⟨(.seq (.reg c34_0) (.seq (.reg c34_1) (.seq (.reg c34_2) .ret))), 17, [.tmp 4, .tmp 5]⟩
def c35_0 : List RO := [p 2 (.mov (z 0))]
def c35_1 : List RO := [m 3 0, p 4 (.eqNil 0 false (t 3))]
def c35_2 : List RO := [p 2 (.mov (z 0))]
def c35_3 : List RO := [m 5 0, p 6 (.nilchk (t 5)), fa 7 0 6, ld 8 7, c 9 41 [(t 8)], m 10 0, p 11 (.nilchk (t 10)), fa 12 0 11, ld 13 12, c 14 25 [(t 13)], b 15 .sub (t 9) (t 14), m 2 15]
def c35m : Mode := ⟨false, []⟩
def c35 : RFunc := ⟨(.seq (.reg c35_0) (.seq (.seq (.reg c35_1) (.cond (t 4) (.seq (.reg c35_2) .ret) .skip)) (.seq (.regD c35_3 [[], [], [], [], [], [], [], [], [4], [], [], []]) .ret))), 16, [.tmp 2]⟩
def c36_0 : List RO := [a 1 (.box (t 0)), p 2 (.mov (z 0))]
def c36_1 : List RO := [fa 4 6 1, ld 5 4, b 6 .neq (t 5) (z 2), m 7 6, gfa 8 7 false 10 1, gld 9 7 false 8, gfa 10 7 false 9 1, gld 11 7 false 10, gb 12 7 false .leq (t 9) (t 11), p 13 (.pick (t 7) (kb true) (t 12))]
def c36_2 : List RO := [p 2 (.mov (z 0))]
def c36_3 : List RO := [fa 14 10 1, ld 15 14, fa 16 9 1, ld 17 16, b 18 .sub (t 15) (t 17), m 3 18]
def c36_4 : List RO := [m 19 3, b 20 .rem (t 19) (z 4), b 21 .gtr (t 20) (z 0)]
def c36_5 : List RO := [m 22 3, b 23 .quo (t 22) (z 4), b 24 .add (t 23) (z 1), m 2 24]
def c36_6 : List RO := [m 25 3, b 26 .quo (t 25) (z 4), m 2 26]
def c36m : Mode := ⟨false, []⟩
def c36 : RFunc := ⟨(.seq (.reg c36_0) (.seq (.seq (.reg c36_1) (.cond (t 13) (.seq (.reg c36_2) .ret) .skip)) (.seq (.reg c36_3) (.seq (.seq (.reg c36_4) (.cond (t 21) (.seq (.reg c36_5) .ret) .skip)) (.seq (.reg c36_6) .ret))))), 27, [.tmp 2]⟩
def c37_0 : List RO := [p 6 (.mov (.const .nil)), p 7 (.mov (z 0))]
def c37_1 : List RO := [m 11 0, m 12 1, c 13 38 [(t 11), (t 12)], m 10 13, ex 14 0 10, ex 15 1 10, m 8 14, m 9 15]
def c37_2 : List RO := [m 17 9, b 18 .neq (t 17) (z 0), m 16 18]
def c37_3 : List RO := [m 19 9, p 6 (.mov (.const .nil)), m 7 19]
def c37_4 : List RO := [m 21 2, b 22 .lss (t 21) (z 0), m 23 22, gm 24 23 false 2, gb 25 23 false .geq (t 24) (z 16), p 26 (.pick (t 23) (kb true) (t 25)), m 20 26]
def c37_5 : List RO := [p 6 (.mov (.const .nil)), p 7 (.mov (z 11))]
def c37_6 : List RO := [m 27 8, m 28 2, p 29 (.nilchk (t 27)), fa 30 0 29, p 31 (.iaddrA 1 16 (t 30) (t 28)), m 6 31, p 7 (.mov (z 0))]
def c37m : Mode := ⟨false, []⟩
def c37 : RFunc := ⟨(.seq (.reg c37_0) (.seq (.reg c37_1) (.seq (.block 0 (.seq (.reg c37_2) (.cond (t 16) (.seq (.reg c37_3) .ret) (.seq (.reg c37_4) (.cond (t 20) (.seq (.reg c37_5) .ret) .skip))))) (.seq (.reg c37_6) .ret)))), 32, [.tmp 6, .tmp 7]⟩
def c38_0 : List RO := [p 4 (.mov (.const .nil)), p 5 (.mov (z 0))]
def c38_1 : List RO := [m 7 0, p 8 (.eqNil 0 false (t 7)), m 6 8]
def c38_2 : List RO := [p 4 (.mov (.const .nil)), p 5 (.mov (z 1))]
def c38_3 : List RO := [m 10 1, b 11 .lss (t 10) (z 0), m 12 11, gm 13 12 false 1, gm 14 12 false 0, gp 15 12 false (.nilchk (t 14)), gfa 16 12 false 0 15, gld 17 12 false 16, gp 18 12 false (.lenS (t 17)), gb 19 12 false .geq (t 13) (t 18), p 20 (.pick (t 12) (kb true) (t 19)), m 21 20, gm 22 21 false 0, gp 23 21 false (.nilchk (t 22)), gfa 24 21 false 0 23, gld 25 21 false 24, gm 26 21 false 1, gia 27 21 false 17 25 26, gfa 28 21 false 16 27, gld 29 21 false 28, gp 30 21 false (.un .not (t 29)), p 31 (.pick (t 21) (kb true) (t 30)), m 9 31]
def c38_4 : List RO := [p 4 (.mov (.const .nil)), p 5 (.mov (z 7))]
def c38_5 : List RO := [m 32 0, p 33 (.nilchk (t 32)), fa 34 0 33, ld 35 34, m 36 1, ia 37 17 35 36, m 4 37, p 5 (.mov (z 0))]
def c38m : Mode := ⟨false, []⟩
def c38 : RFunc := ⟨(.seq (.reg c38_0) (.seq (.block 0 (.seq (.reg c38_1) (.cond (t 6) (.seq (.reg c38_2) .ret) (.seq (.reg c38_3) (.cond (t 9) (.seq (.reg c38_4) .ret) .skip))))) (.seq (.reg c38_5) .ret))), 38, [.tmp 4, .tmp 5]⟩
def c39_0 : List RO := [a 8 (.alloc [(.vs [] .full), (.int .i64 0)]), p 9 (.mov (z 0))]
def c39_1 : List RO := [m 13 0, m 14 1, c 15 40 [(t 13), (t 14)], m 12 15, ex 16 0 12, ex 17 1 12, a 10 (.alloc [(.vs [] .full), (.int .i64 0)]), sn 2 (t 10) (t 16), m 11 17]
def c39_2 : List RO := [m 19 11, b 20 .neq (t 19) (z 0), m 18 20]
def c39_3 : List RO := [p 21 (.build [(.vs [] .full), (.int .i64 0)] []), m 22 11, sn 2 (t 8) (t 21), m 9 22]
def c39_4 : List RO := [m 24 2, b 25 .lss (t 24) (z 0), m 26 25, gm 27 26 false 3, gb 28 26 false .lss (t 27) (z 0), p 29 (.pick (t 26) (kb true) (t 28)), m 30 29, gm 31 30 false 2, gfa 32 30 false 1 10, gld 33 30 false 32, gb 34 30 false .gtr (t 31) (t 33), p 35 (.pick (t 30) (kb true) (t 34)), m 36 35, gm 37 36 false 3, gfa 38 36 false 1 10, gld 39 36 false 38, gm 40 36 false 2, gb 41 36 false .sub (t 39) (t 40), gb 42 36 false .gtr (t 37) (t 41), p 43 (.pick (t 36) (kb true) (t 42)), m 23 43]
def c39_5 : List RO := [p 44 (.build [(.vs [] .full), (.int .i64 0)] []), sn 2 (t 8) (t 44), p 9 (.mov (z 11))]
def c39_6 : List RO := [la 45 2 10, sn 2 (t 8) (t 45), p 9 (.mov (z 0))]
def c39m : Mode := ⟨false, []⟩
def c39 : RFunc := ⟨(.seq (.reg c39_0) (.seq (.reg c39_1) (.seq (.block 0 (.seq (.reg c39_2) (.cond (t 18) (.seq (.reg c39_3) .ret) (.seq (.reg c39_4) (.cond (t 23) (.seq (.reg c39_5) .ret) .skip))))) (.seq (.reg c39_6) .ret)))), 46, [.cell 8 true 2, .tmp 9]⟩
def c40_0 : List RO := [a 4 (.alloc [(.vs [] .full), (.int .i64 0)]), p 5 (.mov (z 0))]
def c40_1 : List RO := [m 8 0, p 9 (.eqNil 0 false (t 8))]
def c40_2 : List RO := [p 10 (.build [(.vs [] .full), (.int .i64 0)] []), sn 2 (t 4) (t 10), p 5 (.mov (z 1))]
def c40_3 : List RO := [m 12 0, p 13 (.nilchk (t 12)), fa 14 1 13, ld 15 14, m 16 1, p 17 (.lookup (.agg [(.vs [] .full), (.int .i64 0)]) true (t 15) (t 16)), m 11 17, ex 18 0 11, ex 19 1 11, a 6 (.alloc [(.vs [] .full), (.int .i64 0)]), sn 2 (t 6) (t 18), m 7 19]
def c40_4 : List RO := [m 20 7, p 21 (.un .not (t 20))]
def c40_5 : List RO := [p 22 (.build [(.vs [] .full), (.int .i64 0)] []), sn 2 (t 4) (t 22), p 5 (.mov (z 7))]
def c40_6 : List RO := [la 23 2 6, sn 2 (t 4) (t 23), p 5 (.mov (z 0))]
def c40m : Mode := ⟨false, []⟩
def c40 : RFunc := ⟨(.seq (.reg c40_0) (.seq (.seq (.reg c40_1) (.cond (t 9) (.seq (.reg c40_2) .ret) .skip)) (.seq (.reg c40_3) (.seq (.seq (.reg c40_4) (.cond (t 21) (.seq (.reg c40_5) .ret) .skip)) (.seq (.reg c40_6) .ret))))), 24, [.cell 4 true 2, .tmp 5]⟩
def c41_0 : List RO := [p 2 (.mov (z 0))]
def c41_1 : List RO := [m 3 0, p 4 (.eqNil 0 false (t 3))]
def c41_2 : List RO := [p 2 (.mov (z 0))]
def c41_3 : List RO := [m 5 0, p 6 (.nilchk (t 5)), fa 7 0 6, ld 8 7, ln 9 8, m 2 9]
def c41m : Mode := ⟨false, []⟩
def c41 : RFunc := ⟨(.seq (.reg c41_0) (.seq (.seq (.reg c41_1) (.cond (t 4) (.seq (.reg c41_2) .ret) .skip)) (.seq (.reg c41_3) .ret))), 10, [.tmp 2]⟩
theorem c3_ok : cFunc Try.prog c3m Try.f3 = some c3 := by kernel_rfl
theorem c4_ok : cFunc Try.prog c4m Try.f4 = some c4 := by kernel_rfl
theorem c5_ok : cFunc Try.prog c5m Try.f5 = some c5 := by kernel_rfl
theorem c6_ok : cFunc Try.prog c6m Try.f6 = some c6 := by kernel_rfl
theorem c7_ok : cFunc Try.prog c7m Try.f7 = some c7 := by kernel_rfl
theorem c8_ok : cFunc Try.prog c8m Try.f8 = some c8 := by kernel_rfl
theorem c9_ok : cFunc Try.prog c9m Try.f9 = some c9 := by kernel_rfl
theorem c10_ok : cFunc Try.prog c10m Try.f10 = some c10 := by kernel_rfl
theorem c11_ok : cFunc Try.prog c11m Try.f11 = some c11 := by kernel_rfl
theorem c12_ok : cFunc Try.prog c12m Try.f12 = some c12 := by kernel_rfl
theorem c13_ok : cFunc Try.prog c13m Try.f13 = some c13 := by kernel_rfl
theorem c14_ok : cFunc Try.prog c14m Try.f14 = some c14 := by kernel_rfl
theorem c15_ok : cFunc Try.prog c15m Try.f15 = some c15 := by kernel_rfl
theorem c16_ok : cFunc Try.prog c16m Try.f16 = some c16 := by kernel_rfl
theorem c17_ok : cFunc Try.prog c17m Try.f17 = some c17 := by kernel_rfl
theorem c18_ok : cFunc Try.prog c18m Try.f18 = some c18 := by kernel_rfl
theorem c19_ok : cFunc Try.prog c19m Try.f19 = some c19 := by kernel_rfl
theorem c20_ok : cFunc Try.prog c20m Try.f20 = some c20 := by kernel_rfl
theorem c21_ok : cFunc Try.prog c21m Try.f21 = some c21 := by kernel_rfl
theorem c22_ok : cFunc Try.prog c22m Try.f22 = some c22 := by kernel_rfl
theorem c23_ok : cFunc Try.prog c23m Try.f23 = some c23 := by kernel_rfl
theorem c24_ok : cFunc Try.prog c24m Try.f24 = some c24 := by kernel_rfl
theorem c25_ok : cFunc Try.prog c25m Try.f25 = some c25 := by kernel_rfl
theorem c26_ok : cFunc Try.prog c26m Try.f26 = some c26 := by kernel_rfl
theorem c27_ok : cFunc Try.prog c27m Try.f27 = some c27 := by kernel_rfl
theorem c28_ok : cFunc Try.prog c28m Try.f28 = some c28 := by kernel_rfl
theorem c29_ok : cFunc Try.prog c29m Try.f29 = some c29 := by kernel_rfl
theorem c30_ok : cFunc Try.prog c30m Try.f30 = some c30 := by kernel_rfl
theorem c31_ok : cFunc Try.prog c31m Try.f31 = some c31 := by kernel_rfl
theorem c32_ok : cFunc Try.prog c32m Try.f32 = some c32 := by kernel_rfl
theorem c33_ok : cFunc Try.prog c33m Try.f33 = some c33 := by kernel_rfl
theorem c34_ok : cFunc Try.prog c34m Try.f34 = some c34 := by kernel_rfl
theorem c35_ok : cFunc Try.prog c35m Try.f35 = some c35 := by kernel_rfl
theorem c36_ok : cFunc Try.prog c36m Try.f36 = some c36 := by kernel_rfl
theorem c37_ok : cFunc Try.prog c37m Try.f37 = some c37 := by kernel_rfl
theorem c38_ok : cFunc Try.prog c38m Try.f38 = some c38 := by kernel_rfl
theorem c39_ok : cFunc Try.prog c39m Try.f39 = some c39 := by kernel_rfl
theorem c40_ok : cFunc Try.prog c40m Try.f40 = some c40 := by kernel_rfl
theorem c41_ok : cFunc Try.prog c41m Try.f41 = some c41 := by kernel_rfl
def tbT : Tr RFunc := (.node (.node (.node (.node (.node (.node .leaf (some c31) .leaf) (some c15) .leaf) (some c7) (.node (.node .leaf (some c39) .leaf) (some c23) .leaf)) (some c3) (.node (.node (.node .leaf (some c35) .leaf) (some c19) .leaf) (some c11) (.node .leaf (some c27) .leaf))) none (.node (.node (.node (.node .leaf (some c33) .leaf) (some c17) .leaf) (some c9) (.node (.node .leaf (some c41) .leaf) (some c25) .leaf)) (some c5) (.node (.node (.node .leaf (some c37) .leaf) (some c21) .leaf) (some c13) (.node .leaf (some c29) .leaf)))) none (.node (.node (.node (.node (.node .leaf (some c32) .leaf) (some c16) .leaf) (some c8) (.node (.node .leaf (some c40) .leaf) (some c24) .leaf)) (some c4) (.node (.node (.node .leaf (some c36) .leaf) (some c20) .leaf) (some c12) (.node .leaf (some c28) .leaf))) none (.node (.node (.node (.node .leaf (some c34) .leaf) (some c18) .leaf) (some c10) (.node .leaf (some c26) .leaf)) (some c6) (.node (.node (.node .leaf (some c38) .leaf) (some c22) .leaf) (some c14) (.node .leaf (some c30) .leaf)))))
def tb : Tbl := { fn := fun n => tbT.get n, nat := fun _ => none, callable := fun n => (tbT.get n).isSome }
theorem tb_ents : tbT.ents = [(3, c3), (7, c7), (15, c15), (31, c31), (23, c23), (39, c39), (11, c11), (19, c19), (35, c35), (27, c27), (5, c5), (9, c9), (17, c17), (33, c33), (25, c25), (41, c41), (13, c13), (21, c21), (37, c37), (29, c29), (4, c4), (8, c8), (16, c16), (32, c32), (24, c24), (40, c40), (12, c12), (20, c20), (36, c36), (28, c28), (6, c6), (10, c10), (18, c18), (34, c34), (26, c26), (14, c14), (22, c22), (38, c38), (30, c30)] := by kernel_rfl
theorem tb_fns : ∀ e ∈ tbT.ents, ∃ fn md, Try.prog.funcs[e.1]? = some fn ∧ cFunc Try.prog md fn = some e.2 := by
  rw [tb_ents]
  refine List.forall_mem_cons.2 ⟨⟨Try.f3, c3m, Try.func3, c3_ok⟩, ?_⟩
  refine List.forall_mem_cons.2 ⟨⟨Try.f7, c7m, Try.func7, c7_ok⟩, ?_⟩
  refine List.forall_mem_cons.2 ⟨⟨Try.f15, c15m, Try.func15, c15_ok⟩, ?_⟩
  refine List.forall_mem_cons.2 ⟨⟨Try.f31, c31m, Try.func31, c31_ok⟩, ?_⟩
  refine List.forall_mem_cons.2 ⟨⟨Try.f23, c23m, Try.func23, c23_ok⟩, ?_⟩
  refine List.forall_mem_cons.2 ⟨⟨Try.f39, c39m, Try.func39, c39_ok⟩, ?_⟩
  refine List.forall_mem_cons.2 ⟨⟨Try.f11, c11m, Try.func11, c11_ok⟩, ?_⟩
  refine List.forall_mem_cons.2 ⟨⟨Try.f19, c19m, Try.func19, c19_ok⟩, ?_⟩
  refine List.forall_mem_cons.2 ⟨⟨Try.f35, c35m, Try.func35, c35_ok⟩, ?_⟩
  refine List.forall_mem_cons.2 ⟨⟨Try.f27, c27m, Try.func27, c27_ok⟩, ?_⟩
  refine List.forall_mem_cons.2 ⟨⟨Try.f5, c5m, Try.func5, c5_ok⟩, ?_⟩
  refine List.forall_mem_cons.2 ⟨⟨Try.f9, c9m, Try.func9, c9_ok⟩, ?_⟩
  refine List.forall_mem_cons.2 ⟨⟨Try.f17, c17m, Try.func17, c17_ok⟩, ?_⟩
  refine List.forall_mem_cons.2 ⟨⟨Try.f33, c33m, Try.func33, c33_ok⟩, ?_⟩
  refine List.forall_mem_cons.2 ⟨⟨Try.f25, c25m, Try.func25, c25_ok⟩, ?_⟩
  refine List.forall_mem_cons.2 ⟨⟨Try.f41, c41m, Try.func41, c41_ok⟩, ?_⟩
  refine List.forall_mem_cons.2 ⟨⟨Try.f13, c13m, Try.func13, c13_ok⟩, ?_⟩
  refine List.forall_mem_cons.2 ⟨⟨Try.f21, c21m, Try.func21, c21_ok⟩, ?_⟩
  refine List.forall_mem_cons.2 ⟨⟨Try.f37, c37m, Try.func37, c37_ok⟩, ?_⟩
  refine List.forall_mem_cons.2 ⟨⟨Try.f29, c29m, Try.func29, c29_ok⟩, ?_⟩
  refine List.forall_mem_cons.2 ⟨⟨Try.f4, c4m, Try.func4, c4_ok⟩, ?_⟩
  refine List.forall_mem_cons.2 ⟨⟨Try.f8, c8m, Try.func8, c8_ok⟩, ?_⟩
  refine List.forall_mem_cons.2 ⟨⟨Try.f16, c16m, Try.func16, c16_ok⟩, ?_⟩
  refine List.forall_mem_cons.2 ⟨⟨Try.f32, c32m, Try.func32, c32_ok⟩, ?_⟩
  refine List.forall_mem_cons.2 ⟨⟨Try.f24, c24m, Try.func24, c24_ok⟩, ?_⟩
  refine List.forall_mem_cons.2 ⟨⟨Try.f40, c40m, Try.func40, c40_ok⟩, ?_⟩
  refine List.forall_mem_cons.2 ⟨⟨Try.f12, c12m, Try.func12, c12_ok⟩, ?_⟩
  refine List.forall_mem_cons.2 ⟨⟨Try.f20, c20m, Try.func20, c20_ok⟩, ?_⟩
  refine List.forall_mem_cons.2 ⟨⟨Try.f36, c36m, Try.func36, c36_ok⟩, ?_⟩
  refine List.forall_mem_cons.2 ⟨⟨Try.f28, c28m, Try.func28, c28_ok⟩, ?_⟩
  refine List.forall_mem_cons.2 ⟨⟨Try.f6, c6m, Try.func6, c6_ok⟩, ?_⟩
  refine List.forall_mem_cons.2 ⟨⟨Try.f10, c10m, Try.func10, c10_ok⟩, ?_⟩
  refine List.forall_mem_cons.2 ⟨⟨Try.f18, c18m, Try.func18, c18_ok⟩, ?_⟩
  refine List.forall_mem_cons.2 ⟨⟨Try.f34, c34m, Try.func34, c34_ok⟩, ?_⟩
  refine List.forall_mem_cons.2 ⟨⟨Try.f26, c26m, Try.func26, c26_ok⟩, ?_⟩
  refine List.forall_mem_cons.2 ⟨⟨Try.f14, c14m, Try.func14, c14_ok⟩, ?_⟩
  refine List.forall_mem_cons.2 ⟨⟨Try.f22, c22m, Try.func22, c22_ok⟩, ?_⟩
  refine List.forall_mem_cons.2 ⟨⟨Try.f38, c38m, Try.func38, c38_ok⟩, ?_⟩
  refine List.forall_mem_cons.2 ⟨⟨Try.f30, c30m, Try.func30, c30_ok⟩, ?_⟩
  intro e he
  cases he
theorem tb_calls : ∀ e ∈ tbT.ents, callable Try.prog e.1 = true := by
  rw [tb_ents]
  refine List.all_eq_true.1 (?_ : List.all _ (fun e : Nat × RFunc => callable Try.prog e.1) = true)
  kernel_rfl
theorem tb_ok : TblOK Try.prog tb where
  follow := by kernel_rfl
  fn f rf h := tb_fns (f, rf) (Tr.get_ents h)
  nat f g h := by cases h
  callable f h := by
    obtain ⟨rf, hr⟩ := Option.isSome_iff_exists.1 h
    exact tb_calls (f, rf) (Tr.get_ents hr)
end Go.Proofs.Ytchomcffeiheeaa.Am
