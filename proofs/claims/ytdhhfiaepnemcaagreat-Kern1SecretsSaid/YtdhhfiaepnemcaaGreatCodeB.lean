/- The program's functions as the abstract machine's code (the second part, the table): each is what the compiler of the machine makes of the program's own text. Conditions: none. -/
import Derived.Test.YtdhhfiaepnemcaaGreatCodeA
set_option maxRecDepth 100000
set_option linter.unusedVariables false
namespace Go.Proofs.YtdhhfiaepnemcaaGreat.Am
open Go Go.Proofs.YtdhhfiaepnemcaaGreat
def c150_0 : List RO := [p 4 (.mov (z 0))]
def c150_1 : List RO := [m 6 0, ln 7 6, p 8 (.mov (z 0))]
def c150_2 : List RO := [b 9 .lss (t 8) (t 7)]
def c150_3 : List RO := [m 10 8, m 5 10]
def c150_4 : List RO := [m 11 1, m 12 0, m 13 5, ia 14 4 12 13, la 15 4 14, ⟨(some 16), none, (.dyn (t 11) [(t 15)])⟩]
def c150_5 : List RO := [m 17 5, m 4 17]
def c150_6 : List RO := [b 18 .add (t 8) (z 1), m 8 18]
def c150_7 : List RO := [p 4 (.mov (z (.negSucc 0)))]
def c150m : Mode := ⟨false, []⟩
def c150 : RFunc := ⟨(.seq (.reg c150_0) (.seq (.seq (.reg c150_1) (.block 0 (.loop (.seq (.reg c150_2) (.seq (.cond (t 9) .skip (.exit 0)) (.seq (.block 1 (.seq (.reg c150_3) (.seq (.reg c150_4) (.cond (t 16) (.seq (.reg c150_5) .ret) .skip)))) (.reg c150_6))))))) (.seq (.reg c150_7) .ret))), 19, [.tmp 4]⟩
def c151_0 : List RO := [a 1 (.box (t 0)), p 2 (.mov (kb false))]
def c151_1 : List RO := [fa 3 2 1, ld 4 3, p 5 (.un .not (t 4)), m 2 5]
def c151m : Mode := ⟨false, []⟩
def c151 : RFunc := ⟨(.seq (.reg c151_0) (.seq (.reg c151_1) .ret)), 6, [.tmp 2]⟩
def c153_0 : List RO := [p 4 (.mov (z 0))]
def c153_1 : List RO := [m 6 0, ln 7 6, p 8 (.mov (z 0))]
def c153_2 : List RO := [b 9 .lss (t 8) (t 7)]
def c153_3 : List RO := [m 10 8, m 5 10]
def c153_4 : List RO := [m 11 1, m 12 0, m 13 5, ia 14 2 12 13, la 15 2 14, ⟨(some 16), none, (.dyn (t 11) [(t 15)])⟩]
def c153_5 : List RO := [m 17 5, m 4 17]
def c153_6 : List RO := [b 18 .add (t 8) (z 1), m 8 18]
def c153_7 : List RO := [p 4 (.mov (z (.negSucc 0)))]
def c153m : Mode := ⟨false, []⟩
def c153 : RFunc := ⟨(.seq (.reg c153_0) (.seq (.seq (.reg c153_1) (.block 0 (.loop (.seq (.reg c153_2) (.seq (.cond (t 9) .skip (.exit 0)) (.seq (.block 1 (.seq (.reg c153_3) (.seq (.reg c153_4) (.cond (t 16) (.seq (.reg c153_5) .ret) .skip)))) (.reg c153_6))))))) (.seq (.reg c153_7) .ret))), 19, [.tmp 4]⟩
def c155_0 : List RO := [p 4 (.mov (u64 0)), p 5 (.mov (z 0))]
def c155_1 : List RO := [m 8 1, b 9 .lss (t 8) (z 0), m 10 9, gm 11 10 false 1, gb 12 10 false .gtr (t 11) (z 8), p 13 (.pick (t 10) (kb true) (t 12)), m 7 13]
def c155_2 : List RO := [p 4 (.mov (u64 0)), p 5 (.mov (z 1))]
def c155_3 : List RO := [m 15 0, ln 16 15, m 17 1, b 18 .lss (t 16) (t 17), m 14 18]
def c155_4 : List RO := [p 4 (.mov (u64 0)), p 5 (.mov (z 3))]
def c155_5 : List RO := [p 6 (.mov (z 0))]
def c155_6 : List RO := [m 19 6, m 20 1, b 21 .lss (t 19) (t 20)]
def c155_7 : List RO := [m 22 4, b 23 .shl (t 22) (u64 8), m 24 0, m 25 6, ia 26 1 24 25, ld 27 26, p 28 (.toInt .u64 (t 27)), b 29 .or (t 23) (t 28), m 4 29]
def c155_8 : List RO := [m 30 6, b 31 .add (t 30) (z 1), m 6 31]
def c155_9 : List RO := [m 32 4, m 4 32, p 5 (.mov (z 0))]
def c155m : Mode := ⟨false, []⟩
def c155 : RFunc := ⟨(.seq (.reg c155_0) (.scope (.seq (.block 0 (.seq (.reg c155_1) (.cond (t 7) (.seq (.reg c155_2) .ret) (.seq (.reg c155_3) (.cond (t 14) (.seq (.reg c155_4) .ret) .skip))))) (.seq (.reg c155_5) (.seq (.label 0) (.seq (.seq (.reg c155_6) (.cond (t 21) (.seq (.reg c155_7) (.seq (.reg c155_8) (.goto 0))) .skip)) (.seq (.reg c155_9) .ret))))))), 33, [.tmp 4, .tmp 5]⟩
def c160_0 : List RO := [a 4 (.alloc [(.int .u8 0), (.vs [] .full)])]
def c160_1 : List RO := [m 11 0, p 12 (.build [(.int .u8 0), (.vs [] .full)] [(0, 1, (t 11))]), a 5 (.alloc [(.int .u8 0), (.vs [] .full)]), sn 2 (t 5) (t 12)]
def c160_2 : List RO := [m 13 1, ln 14 13, p 15 (.mov (z 0))]
def c160_3 : List RO := [b 16 .lss (t 15) (t 14)]
def c160_4 : List RO := [ia 17 2 13 15, la 18 2 17, a 7 (.alloc [(.int .u16 0), (.int .u8 0)]), sn 2 (t 7) (t 18)]
def c160_5 : List RO := [fa 19 1 5, ld 20 19, fa 21 0 7, ld 22 21, c 23 234 [(t 20), (t 22)], m 8 23]
def c160_6 : List RO := [m 24 8, b 25 .geq (t 24) (z 0)]
def c160_7 : List RO := [fa 26 1 5, ld 27 26, m 28 8, m 29 8, b 30 .add (t 29) (z 1), c 31 235 [(t 27), (t 28), (t 30)], fa 32 1 5, s1 (t 32) (t 31)]
def c160_8 : List RO := [fa 33 1 7, ld 34 33, m 35 0, b 36 .neq (t 34) (t 35)]
def c160_9 : List RO := [fa 38 1 5, ld 39 38, fa 40 0 7, ld 41 40, c 42 236 [(t 39), (t 41), (.const (.fn 237 [] []))], m 37 42, ex 43 0 37, ex 44 1 37, m 9 43, m 10 44]
def c160_10 : List RO := [fa 45 1 5, ld 46 45, m 47 9, la 48 2 7, p 49 (.bslice 1 [(.int .u16 0), (.int .u8 0)] [(0, (t 48))]), c 50 238 [(t 46), (t 47), (t 49)], fa 51 1 5, s1 (t 51) (t 50)]
def c160_11 : List RO := [b 52 .add (t 15) (z 1), m 15 52]
def c160_12 : List RO := [la 53 2 5, sn 2 (t 4) (t 53)]
def c160m : Mode := ⟨false, []⟩
def c160 : RFunc := ⟨(.seq (.reg c160_0) (.seq (.reg c160_1) (.seq (.seq (.reg c160_2) (.block 0 (.loop (.seq (.reg c160_3) (.seq (.cond (t 16) .skip (.exit 0)) (.seq (.block 1 (.seq (.reg c160_4) (.seq (.seq (.reg c160_5) (.seq (.reg c160_6) (.cond (t 25) (.reg c160_7) .skip))) (.seq (.reg c160_8) (.cond (t 36) (.seq (.reg c160_9) (.reg c160_10)) .skip))))) (.reg c160_11))))))) (.seq (.reg c160_12) .ret)))), 54, [.cell 4 true 2]⟩
def c167_0 : List RO := [a 1 (.box (t 0)), p 2 (.mov (kb false))]
def c167_1 : List RO := [fa 3 2 1, la 4 2 3, c 5 50 [(t 4)], m 6 5, gfa 7 6 true 2 1, gp 8 6 true (.load true 2 (t 7)), gc 9 6 true 242 [(t 8)], gp 10 6 true (.lenS (t 9)), gb 11 6 true .eql (t 10) (z 0), p 12 (.pick (t 6) (t 11) (kb false)), m 2 12]
def c167m : Mode := ⟨false, []⟩
def c167 : RFunc := ⟨(.seq (.reg c167_0) (.seq (.reg c167_1) .ret)), 13, [.tmp 2]⟩
def c168_0 : List RO := [p 4 (.mov (z 0))]
def c168_1 : List RO := [m 8 0, p 9 (.nilchk (t 8)), fa 10 1 9, ld 11 10, p 12 (.nilchk (t 11)), fa 13 0 12, la 14 2 13, a 5 (.alloc [(.int .u8 0), (.vs [] .full)]), sn 2 (t 5) (t 14)]
def c168_2 : List RO := [m 15 1, ln 16 15, p 17 (.mov (z 0))]
def c168_3 : List RO := [b 18 .lss (t 17) (t 16)]
def c168_4 : List RO := [ia 19 1 15 17, ld 20 19, m 7 20]
def c168_5 : List RO := [la 21 2 5, m 22 7, c 23 243 [(t 21), (t 22), (u8 0)], sn 2 (t 5) (t 23)]
def c168_6 : List RO := [b 24 .add (t 17) (z 1), m 17 24]
def c168_7 : List RO := [fa 25 1 5, ld 26 25, ln 27 26, b 28 .gtr (t 27) (z 16)]
def c168_8 : List RO := [p 4 (.mov (z 9))]
def c168_9 : List RO := [m 29 0, p 30 (.nilchk (t 29)), fa 31 1 30, ld 32 31, la 33 2 5, p 34 (.nilchk (t 32)), fa 35 0 34, sn 2 (t 35) (t 33)]
def c168_10 : List RO := [p 4 (.mov (z 0))]
def c168m : Mode := ⟨false, []⟩
def c168 : RFunc := ⟨(.seq (.reg c168_0) (.seq (.reg c168_1) (.seq (.seq (.reg c168_2) (.block 0 (.loop (.seq (.reg c168_3) (.seq (.cond (t 18) .skip (.exit 0)) (.seq (.block 1 (.seq (.reg c168_4) (.reg c168_5))) (.reg c168_6))))))) (.seq (.seq (.reg c168_7) (.cond (t 28) (.seq (.reg c168_8) .ret) .skip)) (.seq (.regD c168_9 [[], [], [], [], [], [], [], []]) (.seq (.reg c168_10) .ret)))))), 36, [.tmp 4]⟩
def c169_0 : List RO := [a 2 (.box (t 0)), a 3 (.box (t 1)), p 4 (.mov (z 0))]
def c169_1 : List RO := [la 7 2 3, c 8 62 [(t 7)], p 9 (.un .not (t 8))]
def c169_2 : List RO := [p 4 (.mov (z 4))]
def c169_3 : List RO := [la 10 2 3, c 11 242 [(t 10)], ln 12 11, p 13 (.mov (z 0))]
def c169_4 : List RO := [b 14 .lss (t 13) (t 12)]
def c169_5 : List RO := [ia 15 1 11 13, ld 16 15, m 6 16]
def c169_6 : List RO := [la 17 2 2, m 18 6, c 19 244 [(t 17), (t 18)], b 20 .neq (t 19) (u8 0)]
def c169_7 : List RO := [p 4 (.mov (z 5))]
def c169_8 : List RO := [b 21 .add (t 13) (z 1), m 13 21]
def c169_9 : List RO := [la 22 2 2, la 23 2 3, c 24 245 [(t 22), (t 23)], p 25 (.un .not (t 24))]
def c169_10 : List RO := [p 4 (.mov (z 6))]
def c169_11 : List RO := [p 4 (.mov (z 0))]
def c169m : Mode := ⟨false, []⟩
def c169 : RFunc := ⟨(.seq (.reg c169_0) (.seq (.seq (.reg c169_1) (.cond (t 9) (.seq (.reg c169_2) .ret) .skip)) (.seq (.seq (.reg c169_3) (.block 0 (.loop (.seq (.reg c169_4) (.seq (.cond (t 14) .skip (.exit 0)) (.seq (.block 1 (.seq (.reg c169_5) (.seq (.reg c169_6) (.cond (t 20) (.seq (.reg c169_7) .ret) .skip)))) (.reg c169_8))))))) (.seq (.seq (.reg c169_9) (.cond (t 25) (.seq (.reg c169_10) .ret) .skip)) (.seq (.reg c169_11) .ret))))), 26, [.tmp 4]⟩
def c170_0 : List RO := [a 8 (.alloc [(.int .u64 0), (.int .i64 0), (.int .u8 0), (.vs [] .full), (.vs [] .full), (.vs [] .full), (.vs [] .full), (.int .i64 0), (.int .i64 0), (.int .i64 0), (.vs [] .full), (.vs [] .full), (.vs [] .full)]), p 9 (.mov (z 0))]
def c170_1 : List RO := [m 13 0, m 14 1, c 15 180 [(t 13), (t 14)], m 12 15, ex 16 0 12, ex 17 1 12, a 10 (.alloc [(.int .u64 0), (.int .i64 0), (.int .u8 0), (.vs [] .full), (.vs [] .full), (.vs [] .full), (.vs [] .full), (.int .i64 0), (.int .i64 0), (.int .i64 0), (.vs [] .full), (.vs [] .full), (.vs [] .full)]), sn 13 (t 10) (t 16), m 11 17]
def c170_2 : List RO := [m 19 11, b 20 .neq (t 19) (z 0), m 18 20]
def c170_3 : List RO := [p 21 (.build [(.int .u64 0), (.int .i64 0), (.int .u8 0), (.vs [] .full), (.vs [] .full), (.vs [] .full), (.vs [] .full), (.int .i64 0), (.int .i64 0), (.int .i64 0), (.vs [] .full), (.vs [] .full), (.vs [] .full)] []), m 22 11, sn 13 (t 8) (t 21), m 9 22]
def c170_4 : List RO := [fa 24 1 10, ld 25 24, m 26 2, b 27 .neq (t 25) (t 26), m 23 27]
def c170_5 : List RO := [p 28 (.build [(.int .u64 0), (.int .i64 0), (.int .u8 0), (.vs [] .full), (.vs [] .full), (.vs [] .full), (.vs [] .full), (.int .i64 0), (.int .i64 0), (.int .i64 0), (.vs [] .full), (.vs [] .full), (.vs [] .full)] []), sn 13 (t 8) (t 28), p 9 (.mov (z 8))]
def c170_6 : List RO := [m 30 3, la 31 13 10, ⟨(some 32), none, (.dyn (t 30) [(t 31)])⟩, p 33 (.un .not (t 32)), m 29 33]
def c170_7 : List RO := [p 34 (.build [(.int .u64 0), (.int .i64 0), (.int .u8 0), (.vs [] .full), (.vs [] .full), (.vs [] .full), (.vs [] .full), (.int .i64 0), (.int .i64 0), (.int .i64 0), (.vs [] .full), (.vs [] .full), (.vs [] .full)] []), sn 13 (t 8) (t 34), p 9 (.mov (z 6))]
def c170_8 : List RO := [la 35 13 10, sn 13 (t 8) (t 35), p 9 (.mov (z 0))]
def c170m : Mode := ⟨false, []⟩
def c170 : RFunc := ⟨(.seq (.reg c170_0) (.seq (.reg c170_1) (.seq (.block 0 (.seq (.reg c170_2) (.cond (t 18) (.seq (.reg c170_3) .ret) (.seq (.reg c170_4) (.cond (t 23) (.seq (.reg c170_5) .ret) (.seq (.reg c170_6) (.cond (t 29) (.seq (.reg c170_7) .ret) .skip))))))) (.seq (.reg c170_8) .ret)))), 36, [.cell 8 true 13, .tmp 9]⟩
def c171_0 : List RO := [a 3 (.box (t 1)), p 4 (.mov (kb false))]
def c171_1 : List RO := [m 5 0, la 6 13 3, c 7 178 [(t 5), (t 6)], m 8 7, gm 9 8 true 0, gp 10 8 true (.load true 13 (t 3)), gc 11 8 true 179 [(t 9), (t 10)], p 12 (.pick (t 8) (t 11) (kb false)), m 4 12]
def c171m : Mode := ⟨false, []⟩
def c171 : RFunc := ⟨(.seq (.reg c171_0) (.seq (.reg c171_1) .ret)), 13, [.tmp 4]⟩
def c172_0 : List RO := [a 2 (.box (t 0)), a 3 (.box (t 1)), p 4 (.mov (z 0))]
def c172_1 : List RO := [la 6 2 3, c 7 62 [(t 6)], p 8 (.un .not (t 7)), m 5 8]
def c172_2 : List RO := [p 4 (.mov (z 4))]
def c172_3 : List RO := [la 10 2 3, c 11 242 [(t 10)], ln 12 11, b 13 .gtr (t 12) (z 0), m 9 13]
def c172_4 : List RO := [p 4 (.mov (z 5))]
def c172_5 : List RO := [la 15 2 2, la 16 2 3, c 17 245 [(t 15), (t 16)], p 18 (.un .not (t 17)), m 14 18]
def c172_6 : List RO := [p 4 (.mov (z 6))]
def c172_7 : List RO := [p 4 (.mov (z 0))]
def c172m : Mode := ⟨false, []⟩
def c172 : RFunc := ⟨(.seq (.reg c172_0) (.seq (.block 0 (.seq (.reg c172_1) (.cond (t 5) (.seq (.reg c172_2) .ret) (.seq (.reg c172_3) (.cond (t 9) (.seq (.reg c172_4) .ret) (.seq (.reg c172_5) (.cond (t 14) (.seq (.reg c172_6) .ret) .skip))))))) (.seq (.reg c172_7) .ret))), 19, [.tmp 4]⟩
def c173_0 : List RO := [a 3 (.box (t 1)), p 4 (.mov (z 0))]
def c173_1 : List RO := [fa 6 1 3, ld 7 6, b 8 .eql (t 7) (z 1), m 9 8, gfa 10 9 true 5 3, gld 11 9 true 10, gc 12 9 true 75 [(t 11), (z 400)], gp 13 9 true (.un .not (t 12)), p 14 (.pick (t 9) (t 13) (kb false)), m 5 14]
def c173_2 : List RO := [p 4 (.mov (z 1))]
def c173_3 : List RO := [fa 16 1 3, ld 17 16, b 18 .eql (t 17) (z 2), m 19 18, gfa 20 19 true 11 3, gld 21 19 true 20, gp 22 19 true (.lenS (t 21)), gb 23 19 true .gtr (t 22) (z 64), p 24 (.pick (t 19) (t 23) (kb false)), m 15 24]
def c173_4 : List RO := [p 4 (.mov (z 12))]
def c173_5 : List RO := [fa 26 1 3, ld 27 26, b 28 .eql (t 27) (z 3), m 29 28, gm 30 29 true 0, gfa 31 29 true 12 3, gld 32 29 true 31, gc 33 29 true 246 [(t 30), (t 32)], gp 34 29 true (.un .not (t 33)), p 35 (.pick (t 29) (t 34) (kb false)), m 25 35]
def c173_6 : List RO := [p 4 (.mov (z 5))]
def c173_7 : List RO := [p 4 (.mov (z 0))]
def c173m : Mode := ⟨false, []⟩
def c173 : RFunc := ⟨(.seq (.reg c173_0) (.seq (.block 0 (.seq (.reg c173_1) (.cond (t 5) (.seq (.reg c173_2) .ret) (.seq (.reg c173_3) (.cond (t 15) (.seq (.reg c173_4) .ret) (.seq (.reg c173_5) (.cond (t 25) (.seq (.reg c173_6) .ret) .skip))))))) (.seq (.reg c173_7) .ret))), 36, [.tmp 4]⟩
def c174_0 : List RO := [p 4 (.mov (u64 0)), p 5 (.mov (z 0))]
def c174_1 : List RO := [m 7 0, c 8 145 [(t 7)], p 9 (.un .not (t 8)), m 10 9, gm 11 10 false 1, gb 12 10 false .lss (t 11) (z 1), p 13 (.pick (t 10) (kb true) (t 12)), m 14 13, gm 15 14 false 1, gb 16 14 false .gtr (t 15) (z 63), p 17 (.pick (t 14) (kb true) (t 16)), m 6 17]
def c174_2 : List RO := [p 4 (.mov (u64 0)), p 5 (.mov (z 1))]
def c174_3 : List RO := [m 19 0, c 20 247 [(t 19)], b 21 .eql (t 20) (z 6), m 18 21]
def c174_4 : List RO := [p 4 (.mov (u64 0)), p 5 (.mov (z 13))]
def c174_5 : List RO := [m 22 0, b 23 .shl (t 22) (u64 6), m 24 1, p 25 (.toInt .u64 (t 24)), b 26 .or (t 23) (t 25), m 4 26, p 5 (.mov (z 0))]
def c174m : Mode := ⟨false, []⟩
def c174 : RFunc := ⟨(.seq (.reg c174_0) (.seq (.block 0 (.seq (.reg c174_1) (.cond (t 6) (.seq (.reg c174_2) .ret) (.seq (.reg c174_3) (.cond (t 18) (.seq (.reg c174_4) .ret) .skip))))) (.seq (.reg c174_5) .ret))), 27, [.tmp 4, .tmp 5]⟩
def c175_0 : List RO := [a 2 (.box (t 0)), a 4 (.alloc [(.int .u64 0), (.int .i64 0), (.int .u8 0), (.vs [] .full), (.vs [] .full), (.vs [] .full), (.vs [] .full), (.int .i64 0), (.int .i64 0), (.int .i64 0), (.vs [] .full), (.vs [] .full), (.vs [] .full)])]
def c175_1 : List RO := [m 6 1, fa 7 1 2, ld 8 7, fa 9 6 2, la 10 2 9, c 11 77 [(t 10)], p 12 (.build [(.int .u64 0), (.int .i64 0), (.int .u8 0), (.vs [] .full), (.vs [] .full), (.vs [] .full), (.vs [] .full), (.int .i64 0), (.int .i64 0), (.int .i64 0), (.vs [] .full), (.vs [] .full), (.vs [] .full)] [(0, 1, (t 6)), (1, 1, (t 8)), (2, 2, (t 11))]), a 5 (.alloc [(.int .u64 0), (.int .i64 0), (.int .u8 0), (.vs [] .full), (.vs [] .full), (.vs [] .full), (.vs [] .full), (.int .i64 0), (.int .i64 0), (.int .i64 0), (.vs [] .full), (.vs [] .full), (.vs [] .full)]), sn 13 (t 5) (t 12)]
def c175_2 : List RO := [fa 13 1 2, ld 14 13]
def c175_3 : List RO := [b 16 .eql (t 14) (z 1), m 15 16]
def c175_4 : List RO := [fa 17 5 2, ld 18 17, fa 19 7 5, s1 (t 19) (t 18), fa 20 9 5, s1 (t 20) (z 1)]
def c175_5 : List RO := [b 22 .eql (t 14) (z 2), m 21 22]
def c175_6 : List RO := [fa 23 11 2, ld 24 23, c 25 72 [(t 24)], fa 26 10 5, s1 (t 26) (t 25)]
def c175_7 : List RO := [b 28 .eql (t 14) (z 3), m 27 28]
def c175_8 : List RO := [fa 29 12 2, ld 30 29, c 31 214 [(t 30)], fa 32 11 5, s1 (t 32) (t 31)]
def c175_9 : List RO := [la 33 13 5, sn 13 (t 4) (t 33)]
def c175m : Mode := ⟨false, []⟩
def c175 : RFunc := ⟨(.seq (.reg c175_0) (.seq (.regD c175_1 [[], [], [], [], [], [2], [], [], []]) (.seq (.seq (.reg c175_2) (.block 0 (.seq (.reg c175_3) (.cond (t 15) (.reg c175_4) (.seq (.reg c175_5) (.cond (t 21) (.reg c175_6) (.seq (.reg c175_7) (.cond (t 27) (.reg c175_8) .skip)))))))) (.seq (.reg c175_9) .ret)))), 34, [.cell 4 true 13]⟩
def c176_0 : List RO := [a 2 (.box (t 0)), a 4 (.alloc [(.int .u64 0), (.int .i64 0), (.int .u8 0), (.vs [] .full), (.vs [] .full), (.vs [] .full), (.vs [] .full), (.int .i64 0), (.int .i64 0), (.int .i64 0), (.vs [] .full), (.vs [] .full), (.vs [] .full)]), p 5 (.mov (z 0))]
def c176_1 : List RO := [m 7 1, b 8 .lss (t 7) (z 0), m 6 8]
def c176_2 : List RO := [p 9 (.build [(.int .u64 0), (.int .i64 0), (.int .u8 0), (.vs [] .full), (.vs [] .full), (.vs [] .full), (.vs [] .full), (.int .i64 0), (.int .i64 0), (.int .i64 0), (.vs [] .full), (.vs [] .full), (.vs [] .full)] []), sn 13 (t 4) (t 9), p 5 (.mov (z 1))]
def c176_3 : List RO := [m 11 1, fa 12 7 2, ld 13 12, fa 14 8 2, ld 15 14, b 16 .sub (t 13) (t 15), b 17 .gtr (t 11) (t 16), m 10 17]
def c176_4 : List RO := [p 18 (.build [(.int .u64 0), (.int .i64 0), (.int .u8 0), (.vs [] .full), (.vs [] .full), (.vs [] .full), (.vs [] .full), (.int .i64 0), (.int .i64 0), (.int .i64 0), (.vs [] .full), (.vs [] .full), (.vs [] .full)] []), sn 13 (t 4) (t 18), p 5 (.mov (z 10))]
def c176_5 : List RO := [fa 19 8 2, ld 20 19, m 21 1, b 22 .add (t 20) (t 21), fa 23 8 2, s1 (t 23) (t 22)]
def c176_6 : List RO := [la 24 13 2, sn 13 (t 4) (t 24), p 5 (.mov (z 0))]
def c176m : Mode := ⟨false, []⟩
def c176 : RFunc := ⟨(.seq (.reg c176_0) (.seq (.block 0 (.seq (.reg c176_1) (.cond (t 6) (.seq (.reg c176_2) .ret) (.seq (.reg c176_3) (.cond (t 10) (.seq (.reg c176_4) .ret) .skip))))) (.seq (.reg c176_5) (.seq (.reg c176_6) .ret)))), 25, [.cell 4 true 13, .tmp 5]⟩
def c177_0 : List RO := [a 1 (.box (t 0)), p 2 (.mov (z 0))]
def c177_1 : List RO := [fa 3 1 1, ld 4 3]
def c177_2 : List RO := [b 6 .eql (t 4) (z 1), m 5 6]
def c177_3 : List RO := [fa 7 7 1, ld 8 7, b 9 .add (z 1) (t 8), m 2 9]
def c177_4 : List RO := [b 11 .eql (t 4) (z 2), m 10 11]
def c177_5 : List RO := [fa 12 10 1, ld 13 12, ln 14 13, b 15 .add (z 1) (t 14), m 2 15]
def c177_6 : List RO := [b 17 .eql (t 4) (z 3), m 16 17]
def c177_7 : List RO := [p 2 (.mov (z 2))]
def c177_8 : List RO := [b 19 .eql (t 4) (z 4), m 18 19]
def c177_9 : List RO := [p 2 (.mov (z 8))]
def c177_10 : List RO := [p 2 (.mov (z 0))]
def c177m : Mode := ⟨false, []⟩
def c177 : RFunc := ⟨(.seq (.reg c177_0) (.seq (.seq (.reg c177_1) (.block 0 (.seq (.reg c177_2) (.cond (t 5) (.seq (.reg c177_3) .ret) (.seq (.reg c177_4) (.cond (t 10) (.seq (.reg c177_5) .ret) (.seq (.reg c177_6) (.cond (t 16) (.seq (.reg c177_7) .ret) (.seq (.reg c177_8) (.cond (t 18) (.seq (.reg c177_9) .ret) .skip)))))))))) (.seq (.reg c177_10) .ret))), 20, [.tmp 2]⟩
def c178_0 : List RO := [a 3 (.box (t 1)), p 4 (.mov (kb false))]
def c178_1 : List RO := [m 5 0, p 6 (.nilchk (t 5)), fa 7 1 6, ld 8 7, p 9 (.nilchk (t 8)), fa 10 0 9, la 11 2 10, fa 12 2 3, la 13 2 12, c 14 248 [(t 11), (t 13)], m 4 14]
def c178m : Mode := ⟨false, []⟩
def c178 : RFunc := ⟨(.seq (.reg c178_0) (.seq (.regD c178_1 [[], [], [], [], [], [], [], [], [], [], []]) .ret)), 15, [.tmp 4]⟩
def c179_0 : List RO := [a 3 (.box (t 1)), p 4 (.mov (kb false))]
def c179_1 : List RO := [m 5 0, p 6 (.nilchk (t 5)), fa 7 1 6, ld 8 7, p 9 (.nilchk (t 8)), fa 10 0 9, la 11 2 10, fa 12 2 3, la 13 2 12, c 14 249 [(t 11), (t 13)], m 4 14]
def c179m : Mode := ⟨false, []⟩
def c179 : RFunc := ⟨(.seq (.reg c179_0) (.seq (.regD c179_1 [[], [], [], [], [], [], [], [], [], [], []]) .ret)), 15, [.tmp 4]⟩
def c180_0 : List RO := [a 4 (.alloc [(.int .u64 0), (.int .i64 0), (.int .u8 0), (.vs [] .full), (.vs [] .full), (.vs [] .full), (.vs [] .full), (.int .i64 0), (.int .i64 0), (.int .i64 0), (.vs [] .full), (.vs [] .full), (.vs [] .full)]), p 5 (.mov (z 0))]
def c180_1 : List RO := [m 10 1, c 11 145 [(t 10)], p 12 (.un .not (t 11))]
def c180_2 : List RO := [p 13 (.build [(.int .u64 0), (.int .i64 0), (.int .u8 0), (.vs [] .full), (.vs [] .full), (.vs [] .full), (.vs [] .full), (.int .i64 0), (.int .i64 0), (.int .i64 0), (.vs [] .full), (.vs [] .full), (.vs [] .full)] []), sn 13 (t 4) (t 13), p 5 (.mov (z 7))]
def c180_3 : List RO := [m 14 1, c 15 250 [(t 14)], m 6 15]
def c180_4 : List RO := [m 17 0, p 18 (.nilchk (t 17)), fa 19 0 18, ld 20 19, m 21 6, p 22 (.iaddrS 1 (t 21) (z 0)), ld 23 22, c 24 45 [(t 20), (t 23)], m 16 24, ex 25 0 16, ex 26 1 16, a 7 (.alloc [(.int .u64 0), (.int .i64 0), (.int .u8 0), (.vs [] .full), (.vs [] .full), (.vs [] .full), (.vs [] .full), (.int .i64 0), (.int .i64 0), (.int .i64 0), (.vs [] .full), (.vs [] .full), (.vs [] .full)]), sn 13 (t 7) (t 25), m 8 26]
def c180_5 : List RO := [m 27 6, p 28 (.slc 1 (t 27) (some (z 1)) none none), m 6 28]
def c180_6 : List RO := [m 29 6, ln 30 29, b 31 .eql (t 30) (z 0)]
def c180_7 : List RO := [la 32 13 7, sn 13 (t 4) (t 32), p 5 (.mov (z 0))]
def c180_8 : List RO := [fa 33 1 7, ld 34 33, b 35 .neq (t 34) (z 1)]
def c180_9 : List RO := [p 36 (.build [(.int .u64 0), (.int .i64 0), (.int .u8 0), (.vs [] .full), (.vs [] .full), (.vs [] .full), (.vs [] .full), (.int .i64 0), (.int .i64 0), (.int .i64 0), (.vs [] .full), (.vs [] .full), (.vs [] .full)] []), sn 13 (t 4) (t 36), p 5 (.mov (z 7))]
def c180_10 : List RO := [m 37 0, la 38 13 7, c 39 178 [(t 37), (t 38)], p 40 (.un .not (t 39))]
def c180_11 : List RO := [p 41 (.build [(.int .u64 0), (.int .i64 0), (.int .u8 0), (.vs [] .full), (.vs [] .full), (.vs [] .full), (.vs [] .full), (.int .i64 0), (.int .i64 0), (.int .i64 0), (.vs [] .full), (.vs [] .full), (.vs [] .full)] []), sn 13 (t 4) (t 41), p 5 (.mov (z 6))]
def c180_12 : List RO := [p 9 (.mov (kb false))]
def c180_13 : List RO := [m 43 0, p 44 (.nilchk (t 43)), fa 45 0 44, ld 46 45, m 47 6, p 48 (.iaddrS 1 (t 47) (z 0)), ld 49 48, c 50 45 [(t 46), (t 49)], m 42 50, ex 51 0 42, ex 52 1 42, sn 13 (t 7) (t 51), m 9 52]
def c180_14 : List RO := [m 53 9, p 54 (.un .not (t 53))]
def c180_15 : List RO := [p 55 (.build [(.int .u64 0), (.int .i64 0), (.int .u8 0), (.vs [] .full), (.vs [] .full), (.vs [] .full), (.vs [] .full), (.int .i64 0), (.int .i64 0), (.int .i64 0), (.vs [] .full), (.vs [] .full), (.vs [] .full)] []), sn 13 (t 4) (t 55), p 5 (.mov (z 7))]
def c180m : Mode := ⟨false, []⟩
def c180 : RFunc := ⟨(.seq (.reg c180_0) (.scope (.seq (.seq (.reg c180_1) (.cond (t 12) (.seq (.reg c180_2) .ret) .skip)) (.seq (.reg c180_3) (.seq (.regD c180_4 [[], [], [], [], [], [], [], [], [], [], [], [], [], []]) (.seq (.label 0) (.seq (.seq (.reg c180_5) (.seq (.reg c180_6) (.cond (t 31) (.seq (.reg c180_7) .ret) .skip))) (.seq (.seq (.reg c180_8) (.cond (t 35) (.seq (.reg c180_9) .ret) .skip)) (.seq (.seq (.reg c180_10) (.cond (t 40) (.seq (.reg c180_11) .ret) .skip)) (.seq (.reg c180_12) (.seq (.seq (.regD c180_13 [[], [], [], [], [], [], [], [], [], [], [], [], []]) (.seq (.reg c180_14) (.cond (t 54) (.seq (.reg c180_15) .ret) .skip))) (.goto 0)))))))))))), 56, [.cell 4 true 13, .tmp 5]⟩
def c181_0 : List RO := [p 2 (.mov (u64 0))]
def c181_1 : List RO := [m 6 0, c 7 209 [(t 6)], m 5 7, ex 8 0 5, ex 9 1 5, m 3 8, m 4 9]
def c181_2 : List RO := [m 10 3, ln 11 10, b 12 .eql (t 11) (z 0)]
def c181_3 : List RO := [p 2 (.mov (u64 0))]
def c181_4 : List RO := [m 13 0, b 14 .shr (t 13) (u64 6), m 2 14]
def c181m : Mode := ⟨false, []⟩
def c181 : RFunc := ⟨(.seq (.reg c181_0) (.seq (.seq (.reg c181_1) (.seq (.reg c181_2) (.cond (t 12) (.seq (.reg c181_3) .ret) .skip))) (.seq (.reg c181_4) .ret))), 15, [.tmp 2]⟩
def c182_0 : List RO := [p 4 (.mov (kb false))]
def c182_1 : List RO := [m 5 0, c 6 250 [(t 5)], m 7 1, c 8 240 [(t 6), (t 7)], m 4 8]
def c182m : Mode := ⟨false, []⟩
def c182 : RFunc := ⟨(.seq (.reg c182_0) (.seq (.reg c182_1) .ret)), 9, [.tmp 4]⟩
def c183_0 : List RO := [m 4 0, p 5 (.nilchk (t 4)), fa 6 1 5, ld 7 6, m 8 1, c 9 251 [(t 7), (t 8)]]
def c183_1 : List RO := [m 10 0, p 11 (.nilchk (t 10)), fa 12 2 11, ld 13 12, m 14 1, c 15 252 [(t 13), (t 14)]]
def c183m : Mode := ⟨false, []⟩
def c183 : RFunc := ⟨(.seq (.reg c183_0) (.reg c183_1)), 16, []⟩
def c184_0 : List RO := [a 2 (.box (t 0)), a 4 (.alloc [(.int .u64 0), (.int .i64 0), (.int .u8 0), (.vs [] .full), (.vs [] .full), (.vs [] .full), (.vs [] .full), (.int .i64 0), (.int .i64 0), (.int .i64 0), (.vs [] .full), (.vs [] .full), (.vs [] .full)])]
def c184_1 : List RO := [m 5 1, b 6 .gtr (t 5) (z 0)]
def c184_2 : List RO := [fa 7 8 2, ld 8 7, m 9 1, b 10 .sub (t 8) (t 9), p 11 (.minmax true (t 10) [(z 0)]), fa 12 8 2, s1 (t 12) (t 11)]
def c184_3 : List RO := [la 13 13 2, sn 13 (t 4) (t 13)]
def c184m : Mode := ⟨false, []⟩
def c184 : RFunc := ⟨(.seq (.reg c184_0) (.seq (.seq (.reg c184_1) (.cond (t 6) (.reg c184_2) .skip)) (.seq (.reg c184_3) .ret))), 14, [.cell 4 true 13]⟩
def c185_0 : List RO := [p 4 (.mov (.const (.vs [] .full))), p 5 (.mov (z 0))]
def c185_1 : List RO := [m 7 1, ln 8 7, b 9 .gtr (t 8) (z 16), m 6 9]
def c185_2 : List RO := [p 4 (.mov (.const (.vs [] .full))), p 5 (.mov (z 12))]
def c185_3 : List RO := [m 11 0, ln 12 11, b 13 .geq (t 12) (z 4), m 10 13]
def c185_4 : List RO := [p 4 (.mov (.const (.vs [] .full))), p 5 (.mov (z 9))]
def c185_5 : List RO := [m 14 0, c 15 253 [(t 14)], m 16 1, c 17 72 [(t 16)], p 18 (.bslice 1 [(.vs [] .full)] [(0, (t 17))]), e 19 (.append 24 1 (t 15) (t 18)), m 4 19, p 5 (.mov (z 0))]
def c185m : Mode := ⟨false, []⟩
def c185 : RFunc := ⟨(.seq (.reg c185_0) (.seq (.block 0 (.seq (.reg c185_1) (.cond (t 6) (.seq (.reg c185_2) .ret) (.seq (.reg c185_3) (.cond (t 10) (.seq (.reg c185_4) .ret) .skip))))) (.seq (.reg c185_5) .ret))), 20, [.tmp 4, .tmp 5]⟩
def c186_0 : List RO := [p 2 (.mov (.const (.vs [] .full))), p 3 (.mov (.const (.vs [] .full))), p 4 (.mov (kb false))]
def c186_1 : List RO := [m 5 0, ln 6 5, b 7 .eql (t 6) (z 0)]
def c186_2 : List RO := [p 2 (.mov (.const (.vs [] .full))), p 3 (.mov (.const (.vs [] .full))), p 4 (.mov (kb false))]
def c186_3 : List RO := [m 8 0, p 9 (.iaddrS 1 (t 8) (z 0)), ld 10 9, c 11 72 [(t 10)], m 12 0, p 13 (.slc 1 (t 12) (some (z 1)) none none), c 14 253 [(t 13)], m 2 11, m 3 14, p 4 (.mov (kb true))]
def c186m : Mode := ⟨false, []⟩
def c186 : RFunc := ⟨(.seq (.reg c186_0) (.seq (.seq (.reg c186_1) (.cond (t 7) (.seq (.reg c186_2) .ret) .skip)) (.seq (.regD c186_3 [[], [], [], [], [], [], [], [], [], []]) .ret))), 15, [.tmp 2, .tmp 3, .tmp 4]⟩
def c187_0 : List RO := [m 8 1, b 9 .add (t 8) (z 1), m 6 9]
def c187_1 : List RO := [m 10 6, m 11 2, b 12 .lss (t 10) (t 11)]
def c187_2 : List RO := [m 15 6, m 7 15]
def c187_3 : List RO := [m 16 7, m 17 1, b 18 .gtr (t 16) (t 17), m 19 18, gm 20 19 true 0, gm 21 19 true 7, gia 22 19 true 1 20 21, gld 23 19 true 22, gm 24 19 true 0, gm 25 19 true 7, gb 26 19 true .sub (t 25) (z 1), gia 27 19 true 1 24 26, gld 28 19 true 27, gc 29 19 true 193 [(t 23), (t 28)], p 30 (.pick (t 19) (t 29) (kb false))]
def c187_4 : List RO := [m 33 0, m 34 7, m 35 0, m 36 7, b 37 .sub (t 36) (z 1), m 38 0, m 39 7, b 40 .sub (t 39) (z 1), ia 41 1 38 40, ld 42 41, m 43 0, m 44 7, ia 45 1 43 44, ld 46 45, ia 47 1 33 34, s1 (t 47) (t 42), ia 48 1 35 37, s1 (t 48) (t 46)]
def c187_5 : List RO := [m 31 7, b 32 .sub (t 31) (z 1), m 7 32]
def c187_6 : List RO := [m 13 6, b 14 .add (t 13) (z 1), m 6 14]
def c187m : Mode := ⟨false, []⟩
def c187 : RFunc := ⟨(.seq (.reg c187_0) (.block 0 (.loop (.seq (.seq (.reg c187_1) (.cond (t 12) .skip (.exit 0))) (.seq (.block 1 (.seq (.reg c187_2) (.block 2 (.loop (.seq (.seq (.regD c187_3 [[], [], [], [], [], [], [], [], [], [], [], [], [], [], []]) (.cond (t 30) .skip (.exit 2))) (.seq (.block 3 (.regD c187_4 [[], [], [], [], [], [], [], [], [], [], [], [], [], [], [], [], [], []])) (.reg c187_5))))))) (.reg c187_6)))))), 49, []⟩
def c188_0 : List RO := [m 11 1, m 6 11]
def c188_1 : List RO := [p 7 (.mov (z 0))]
def c188_2 : List RO := [m 12 2, m 13 1, b 14 .sub (t 12) (t 13), m 8 14]
def c188_3 : List RO := [m 15 8, b 16 .sub (t 15) (z 1), b 17 .quo (t 16) (z 2), m 9 17]
def c188_4 : List RO := [m 18 9, b 19 .geq (t 18) (z 0)]
def c188_5 : List RO := [m 22 0, m 23 9, m 24 8, m 25 6, c 26 254 [(t 22), (t 23), (t 24), (t 25)]]
def c188_6 : List RO := [m 20 9, b 21 .sub (t 20) (z 1), m 9 21]
def c188_7 : List RO := [m 27 8, b 28 .sub (t 27) (z 1), m 10 28]
def c188_8 : List RO := [m 29 10, b 30 .geq (t 29) (z 0)]
def c188_9 : List RO := [m 33 0, m 34 6, m 35 0, m 36 6, m 37 10, b 38 .add (t 36) (t 37), m 39 0, m 40 6, m 41 10, b 42 .add (t 40) (t 41), ia 43 1 39 42, ld 44 43, m 45 0, m 46 6, ia 47 1 45 46, ld 48 47, ia 49 1 33 34, s1 (t 49) (t 44), ia 50 1 35 38, s1 (t 50) (t 48)]
def c188_10 : List RO := [m 51 0, m 52 7, m 53 10, m 54 6, c 55 254 [(t 51), (t 52), (t 53), (t 54)]]
def c188_11 : List RO := [m 31 10, b 32 .sub (t 31) (z 1), m 10 32]
def c188m : Mode := ⟨false, []⟩
def c188 : RFunc := ⟨(.seq (.reg c188_0) (.seq (.reg c188_1) (.seq (.reg c188_2) (.seq (.seq (.reg c188_3) (.block 0 (.loop (.seq (.seq (.reg c188_4) (.cond (t 19) .skip (.exit 0))) (.seq (.block 1 (.reg c188_5)) (.reg c188_6)))))) (.seq (.reg c188_7) (.block 2 (.loop (.seq (.seq (.reg c188_8) (.cond (t 30) .skip (.exit 2))) (.seq (.block 3 (.seq (.regD c188_9 [[], [], [], [], [], [], [], [], [], [], [], [], [], [], [], [], [], [], [], []]) (.reg c188_10))) (.reg c188_11)))))))))), 56, []⟩
def c189_0 : List RO := [m 11 2, m 12 1, b 13 .sub (t 11) (t 12), m 6 13]
def c189_1 : List RO := [m 14 6, b 15 .geq (t 14) (z 8)]
def c189_2 : List RO := [m 16 6, p 17 (.toInt .u64 (t 16)), a 7 (.alloc [(.int .u64 0)]), s1 (t 7) (t 17)]
def c189_3 : List RO := [m 18 6, c 19 255 [(t 18)], m 8 19]
def c189_4 : List RO := [m 20 1, m 21 6, b 22 .quo (t 21) (z 4), b 23 .mul (t 22) (z 2), b 24 .add (t 20) (t 23), b 25 .sub (t 24) (z 1), m 9 25]
def c189_5 : List RO := [m 26 9, m 27 1, m 28 6, b 29 .quo (t 28) (z 4), b 30 .mul (t 29) (z 2), b 31 .add (t 27) (t 30), b 32 .add (t 31) (z 1), b 33 .leq (t 26) (t 32)]
def c189_6 : List RO := [c 36 256 [(t 7)], m 37 8, b 38 .sub (t 37) (u64 1), b 39 .and (t 36) (t 38), p 40 (.toInt .i64 (t 39)), m 10 40]
def c189_7 : List RO := [m 41 10, m 42 6, b 43 .geq (t 41) (t 42)]
def c189_8 : List RO := [m 44 10, m 45 6, b 46 .sub (t 44) (t 45), m 10 46]
def c189_9 : List RO := [m 47 0, m 48 9, m 49 0, m 50 1, m 51 10, b 52 .add (t 50) (t 51), m 53 0, m 54 1, m 55 10, b 56 .add (t 54) (t 55), ia 57 1 53 56, ld 58 57, m 59 0, m 60 9, ia 61 1 59 60, ld 62 61, ia 63 1 47 48, s1 (t 63) (t 58), ia 64 1 49 52, s1 (t 64) (t 62)]
def c189_10 : List RO := [m 34 9, b 35 .add (t 34) (z 1), m 9 35]
def c189m : Mode := ⟨false, []⟩
def c189 : RFunc := ⟨(.seq (.reg c189_0) (.seq (.reg c189_1) (.cond (t 15) (.seq (.reg c189_2) (.seq (.reg c189_3) (.seq (.reg c189_4) (.block 0 (.loop (.seq (.seq (.reg c189_5) (.cond (t 33) .skip (.exit 0))) (.seq (.block 1 (.seq (.reg c189_6) (.seq (.seq (.reg c189_7) (.cond (t 43) (.reg c189_8) .skip)) (.regD c189_9 [[], [], [], [], [], [], [], [], [], [], [], [], [], [], [], [], [], [], [], []])))) (.reg c189_10)))))))) .skip))), 65, []⟩
def c190_0 : List RO := [p 6 (.mov (z 0)), p 7 (.mov (z 0))]
def c190_1 : List RO := [m 13 2, m 14 1, b 15 .sub (t 13) (t 14), m 8 15]
def c190_2 : List RO := [a 9 (.alloc [(.int .i64 0)])]
def c190_3 : List RO := [m 16 1, m 17 8, b 18 .quo (t 17) (z 4), b 19 .mul (t 18) (z 1), b 20 .add (t 16) (t 19), m 10 20]
def c190_4 : List RO := [m 21 1, m 22 8, b 23 .quo (t 22) (z 4), b 24 .mul (t 23) (z 2), b 25 .add (t 21) (t 24), m 11 25]
def c190_5 : List RO := [m 26 1, m 27 8, b 28 .quo (t 27) (z 4), b 29 .mul (t 28) (z 3), b 30 .add (t 26) (t 29), m 12 30]
def c190_6 : List RO := [m 31 8, b 32 .geq (t 31) (z 8)]
def c190_7 : List RO := [m 33 8, b 34 .geq (t 33) (z 50)]
def c190_8 : List RO := [m 35 0, m 36 10, c 37 257 [(t 35), (t 36), (t 9)], m 10 37]
def c190_9 : List RO := [m 38 0, m 39 11, c 40 257 [(t 38), (t 39), (t 9)], m 11 40]
def c190_10 : List RO := [m 41 0, m 42 12, c 43 257 [(t 41), (t 42), (t 9)], m 12 43]
def c190_11 : List RO := [m 44 0, m 45 10, m 46 11, m 47 12, c 48 258 [(t 44), (t 45), (t 46), (t 47), (t 9)], m 11 48]
def c190_12 : List RO := [ld 49 9]
def c190_13 : List RO := [b 52 .eql (t 49) (z 0), m 51 52]
def c190_14 : List RO := [m 53 11, m 6 53, p 7 (.mov (z 1))]
def c190_15 : List RO := [b 55 .eql (t 49) (z 12), m 54 55]
def c190_16 : List RO := [m 56 11, m 6 56, p 7 (.mov (z 2))]
def c190_17 : List RO := [m 50 11, m 6 50, p 7 (.mov (z 0))]
def c190m : Mode := ⟨false, []⟩
def c190 : RFunc := ⟨(.seq (.reg c190_0) (.seq (.reg c190_1) (.seq (.reg c190_2) (.seq (.reg c190_3) (.seq (.reg c190_4) (.seq (.reg c190_5) (.seq (.seq (.reg c190_6) (.cond (t 32) (.seq (.seq (.reg c190_7) (.cond (t 34) (.seq (.reg c190_8) (.seq (.reg c190_9) (.reg c190_10))) .skip)) (.reg c190_11)) .skip)) (.seq (.reg c190_12) (.block 0 (.seq (.reg c190_13) (.cond (t 51) (.seq (.reg c190_14) .ret) (.seq (.reg c190_15) (.cond (t 54) (.seq (.reg c190_16) .ret) (.seq (.reg c190_17) .ret)))))))))))))), 57, [.tmp 6, .tmp 7]⟩
def c191_0 : List RO := [m 8 1, m 6 8]
def c191_1 : List RO := [m 9 2, b 10 .sub (t 9) (z 1), m 7 10]
def c191_2 : List RO := [m 11 6, m 12 7, b 13 .lss (t 11) (t 12)]
def c191_3 : List RO := [m 14 0, m 15 6, m 16 0, m 17 7, m 18 0, m 19 7, ia 20 1 18 19, ld 21 20, m 22 0, m 23 6, ia 24 1 22 23, ld 25 24, ia 26 1 14 15, s1 (t 26) (t 21), ia 27 1 16 17, s1 (t 27) (t 25)]
def c191_4 : List RO := [m 28 6, b 29 .add (t 28) (z 1), m 6 29]
def c191_5 : List RO := [m 30 7, b 31 .sub (t 30) (z 1), m 7 31]
def c191m : Mode := ⟨false, []⟩
def c191 : RFunc := ⟨(.seq (.reg c191_0) (.seq (.reg c191_1) (.block 0 (.loop (.seq (.seq (.reg c191_2) (.cond (t 13) .skip (.exit 0))) (.block 1 (.seq (.regD c191_3 [[], [], [], [], [], [], [], [], [], [], [], [], [], [], [], []]) (.seq (.reg c191_4) (.reg c191_5))))))))), 32, []⟩
def c192_0 : List RO := [p 6 (.mov (kb false))]
def c192_1 : List RO := [m 11 1, b 12 .add (t 11) (z 1), m 7 12]
def c192_2 : List RO := [p 8 (.mov (z 0))]
def c192_3 : List RO := [m 13 8, b 14 .lss (t 13) (z 5)]
def c192_4 : List RO := [m 17 7, m 18 2, b 19 .lss (t 17) (t 18), m 20 19, gm 21 20 true 0, gm 22 20 true 7, gia 23 20 true 1 21 22, gld 24 20 true 23, gm 25 20 true 0, gm 26 20 true 7, gb 27 20 true .sub (t 26) (z 1), gia 28 20 true 1 25 27, gld 29 20 true 28, gc 30 20 true 193 [(t 24), (t 29)], gp 31 20 true (.un .not (t 30)), p 32 (.pick (t 20) (t 31) (kb false))]
def c192_5 : List RO := [m 33 7, b 34 .add (t 33) (z 1), m 7 34]
def c192_6 : List RO := [m 35 7, m 36 2, b 37 .eql (t 35) (t 36)]
def c192_7 : List RO := [p 6 (.mov (kb true))]
def c192_8 : List RO := [m 38 2, m 39 1, b 40 .sub (t 38) (t 39), b 41 .lss (t 40) (z 50)]
def c192_9 : List RO := [p 6 (.mov (kb false))]
def c192_10 : List RO := [m 42 0, m 43 7, m 44 0, m 45 7, b 46 .sub (t 45) (z 1), m 47 0, m 48 7, b 49 .sub (t 48) (z 1), ia 50 1 47 49, ld 51 50, m 52 0, m 53 7, ia 54 1 52 53, ld 55 54, ia 56 1 42 43, s1 (t 56) (t 51), ia 57 1 44 46, s1 (t 57) (t 55)]
def c192_11 : List RO := [m 58 7, m 59 1, b 60 .sub (t 58) (t 59), b 61 .geq (t 60) (z 2)]
def c192_12 : List RO := [m 62 7, b 63 .sub (t 62) (z 1), m 9 63]
def c192_13 : List RO := [m 64 9, b 65 .geq (t 64) (z 1)]
def c192_14 : List RO := [m 68 0, m 69 9, ia 70 1 68 69, ld 71 70, m 72 0, m 73 9, b 74 .sub (t 73) (z 1), ia 75 1 72 74, ld 76 75, c 77 193 [(t 71), (t 76)], p 78 (.un .not (t 77))]
def c192_15 : List RO := [m 79 0, m 80 9, m 81 0, m 82 9, b 83 .sub (t 82) (z 1), m 84 0, m 85 9, b 86 .sub (t 85) (z 1), ia 87 1 84 86, ld 88 87, m 89 0, m 90 9, ia 91 1 89 90, ld 92 91, ia 93 1 79 80, s1 (t 93) (t 88), ia 94 1 81 83, s1 (t 94) (t 92)]
def c192_16 : List RO := [m 66 9, b 67 .sub (t 66) (z 1), m 9 67]
def c192_17 : List RO := [m 95 2, m 96 7, b 97 .sub (t 95) (t 96), b 98 .geq (t 97) (z 2)]
def c192_18 : List RO := [m 99 7, b 100 .add (t 99) (z 1), m 10 100]
def c192_19 : List RO := [m 101 10, m 102 2, b 103 .lss (t 101) (t 102)]
def c192_20 : List RO := [m 106 0, m 107 10, ia 108 1 106 107, ld 109 108, m 110 0, m 111 10, b 112 .sub (t 111) (z 1), ia 113 1 110 112, ld 114 113, c 115 193 [(t 109), (t 114)], p 116 (.un .not (t 115))]
def c192_21 : List RO := [m 117 0, m 118 10, m 119 0, m 120 10, b 121 .sub (t 120) (z 1), m 122 0, m 123 10, b 124 .sub (t 123) (z 1), ia 125 1 122 124, ld 126 125, m 127 0, m 128 10, ia 129 1 127 128, ld 130 129, ia 131 1 117 118, s1 (t 131) (t 126), ia 132 1 119 121, s1 (t 132) (t 130)]
def c192_22 : List RO := [m 104 10, b 105 .add (t 104) (z 1), m 10 105]
def c192_23 : List RO := [m 15 8, b 16 .add (t 15) (z 1), m 8 16]
def c192_24 : List RO := [p 6 (.mov (kb false))]
def c192m : Mode := ⟨false, []⟩
def c192 : RFunc := ⟨(.seq (.reg c192_0) (.seq (.reg c192_1) (.seq (.seq (.reg c192_2) (.block 0 (.loop (.seq (.seq (.reg c192_3) (.cond (t 14) .skip (.exit 0))) (.seq (.block 1 (.seq (.block 2 (.loop (.seq (.seq (.regD c192_4 [[], [], [], [], [], [], [], [], [], [], [], [], [], [], [], []]) (.cond (t 32) .skip (.exit 2))) (.block 3 (.reg c192_5))))) (.seq (.seq (.reg c192_6) (.cond (t 37) (.seq (.reg c192_7) .ret) .skip)) (.seq (.seq (.reg c192_8) (.cond (t 41) (.seq (.reg c192_9) .ret) .skip)) (.seq (.regD c192_10 [[], [], [], [], [], [], [], [], [], [], [], [], [], [], [], [], [], []]) (.seq (.seq (.reg c192_11) (.cond (t 61) (.seq (.reg c192_12) (.block 4 (.loop (.seq (.seq (.reg c192_13) (.cond (t 65) .skip (.exit 4))) (.seq (.block 5 (.seq (.seq (.regD c192_14 [[], [], [], [], [], [], [], [], [], [], []]) (.cond (t 78) (.exit 4) .skip)) (.regD c192_15 [[], [], [], [], [], [], [], [], [], [], [], [], [], [], [], [], [], []]))) (.reg c192_16)))))) .skip)) (.seq (.reg c192_17) (.cond (t 98) (.seq (.reg c192_18) (.block 6 (.loop (.seq (.seq (.reg c192_19) (.cond (t 103) .skip (.exit 6))) (.seq (.block 7 (.seq (.seq (.regD c192_20 [[], [], [], [], [], [], [], [], [], [], []]) (.cond (t 116) (.exit 6) .skip)) (.regD c192_21 [[], [], [], [], [], [], [], [], [], [], [], [], [], [], [], [], [], []]))) (.reg c192_22)))))) .skip)))))))) (.reg c192_23)))))) (.seq (.reg c192_24) .ret)))), 133, [.tmp 6]⟩
def c193_0 : List RO := [p 4 (.mov (kb false))]
def c193_1 : List RO := [m 5 0, c 6 259 [(t 5)], m 7 6, gm 8 7 true 1, gc 9 7 true 259 [(t 8)], gp 10 7 true (.un .not (t 9)), p 11 (.pick (t 7) (t 10) (kb false)), m 12 11, gm 13 12 false 0, gm 14 12 false 1, gb 15 12 false .lss (t 13) (t 14), p 16 (.pick (t 12) (kb true) (t 15)), m 4 16]
def c193m : Mode := ⟨false, []⟩
def c193 : RFunc := ⟨(.seq (.reg c193_0) (.seq (.reg c193_1) .ret)), 17, [.tmp 4]⟩
def c194_0 : List RO := [p 8 (.mov (z 0))]
def c194_1 : List RO := [m 11 0, m 12 1, m 13 0, m 14 3, m 15 0, m 16 3, ia 17 1 15 16, ld 18 17, m 19 0, m 20 1, ia 21 1 19 20, ld 22 21, ia 23 1 11 12, s1 (t 23) (t 18), ia 24 1 13 14, s1 (t 24) (t 22)]
def c194_2 : List RO := [m 25 1, b 26 .add (t 25) (z 1), m 27 2, b 28 .sub (t 27) (z 1), m 9 26, m 10 28]
def c194_3 : List RO := [m 29 9, m 30 10, b 31 .leq (t 29) (t 30), m 32 31, gm 33 32 true 0, gm 34 32 true 1, gia 35 32 true 1 33 34, gld 36 32 true 35, gm 37 32 true 0, gm 38 32 true 9, gia 39 32 true 1 37 38, gld 40 32 true 39, gc 41 32 true 193 [(t 36), (t 40)], gp 42 32 true (.un .not (t 41)), p 43 (.pick (t 32) (t 42) (kb false))]
def c194_4 : List RO := [m 44 9, b 45 .add (t 44) (z 1), m 9 45]
def c194_5 : List RO := [m 46 9, m 47 10, b 48 .leq (t 46) (t 47), m 49 48, gm 50 49 true 0, gm 51 49 true 1, gia 52 49 true 1 50 51, gld 53 49 true 52, gm 54 49 true 0, gm 55 49 true 10, gia 56 49 true 1 54 55, gld 57 49 true 56, gc 58 49 true 193 [(t 53), (t 57)], p 59 (.pick (t 49) (t 58) (kb false))]
def c194_6 : List RO := [m 60 10, b 61 .sub (t 60) (z 1), m 10 61]
def c194_7 : List RO := [m 62 9, m 63 10, b 64 .gtr (t 62) (t 63)]
def c194_8 : List RO := [m 65 0, m 66 9, m 67 0, m 68 10, m 69 0, m 70 10, ia 71 1 69 70, ld 72 71, m 73 0, m 74 9, ia 75 1 73 74, ld 76 75, ia 77 1 65 66, s1 (t 77) (t 72), ia 78 1 67 68, s1 (t 78) (t 76)]
def c194_9 : List RO := [m 79 9, b 80 .add (t 79) (z 1), m 9 80]
def c194_10 : List RO := [m 81 10, b 82 .sub (t 81) (z 1), m 10 82]
def c194_11 : List RO := [m 83 9, m 8 83]
def c194m : Mode := ⟨false, []⟩
def c194 : RFunc := ⟨(.seq (.reg c194_0) (.seq (.regD c194_1 [[], [], [], [], [], [], [], [], [], [], [], [], [], [], [], []]) (.seq (.reg c194_2) (.seq (.block 0 (.loop (.block 1 (.seq (.block 2 (.loop (.seq (.seq (.regD c194_3 [[], [], [], [], [], [], [], [], [], [], [], [], [], [], []]) (.cond (t 43) .skip (.exit 2))) (.block 3 (.reg c194_4))))) (.seq (.block 4 (.loop (.seq (.seq (.regD c194_5 [[], [], [], [], [], [], [], [], [], [], [], [], [], []]) (.cond (t 59) .skip (.exit 4))) (.block 5 (.reg c194_6))))) (.seq (.seq (.reg c194_7) (.cond (t 64) (.exit 0) .skip)) (.seq (.regD c194_8 [[], [], [], [], [], [], [], [], [], [], [], [], [], [], [], []]) (.seq (.reg c194_9) (.reg c194_10))))))))) (.seq (.reg c194_11) .ret))))), 84, [.tmp 8]⟩
def c195_0 : List RO := [p 8 (.mov (z 0)), p 9 (.mov (kb false))]
def c195_1 : List RO := [m 12 0, m 13 1, m 14 0, m 15 3, m 16 0, m 17 3, ia 18 1 16 17, ld 19 18, m 20 0, m 21 1, ia 22 1 20 21, ld 23 22, ia 24 1 12 13, s1 (t 24) (t 19), ia 25 1 14 15, s1 (t 25) (t 23)]
def c195_2 : List RO := [m 26 1, b 27 .add (t 26) (z 1), m 28 2, b 29 .sub (t 28) (z 1), m 10 27, m 11 29]
def c195_3 : List RO := [m 30 10, m 31 11, b 32 .leq (t 30) (t 31), m 33 32, gm 34 33 true 0, gm 35 33 true 10, gia 36 33 true 1 34 35, gld 37 33 true 36, gm 38 33 true 0, gm 39 33 true 1, gia 40 33 true 1 38 39, gld 41 33 true 40, gc 42 33 true 193 [(t 37), (t 41)], p 43 (.pick (t 33) (t 42) (kb false))]
def c195_4 : List RO := [m 44 10, b 45 .add (t 44) (z 1), m 10 45]
def c195_5 : List RO := [m 46 10, m 47 11, b 48 .leq (t 46) (t 47), m 49 48, gm 50 49 true 0, gm 51 49 true 11, gia 52 49 true 1 50 51, gld 53 49 true 52, gm 54 49 true 0, gm 55 49 true 1, gia 56 49 true 1 54 55, gld 57 49 true 56, gc 58 49 true 193 [(t 53), (t 57)], gp 59 49 true (.un .not (t 58)), p 60 (.pick (t 49) (t 59) (kb false))]
def c195_6 : List RO := [m 61 11, b 62 .sub (t 61) (z 1), m 11 62]
def c195_7 : List RO := [m 63 10, m 64 11, b 65 .gtr (t 63) (t 64)]
def c195_8 : List RO := [m 66 0, m 67 11, m 68 0, m 69 1, m 70 0, m 71 1, ia 72 1 70 71, ld 73 72, m 74 0, m 75 11, ia 76 1 74 75, ld 77 76, ia 78 1 66 67, s1 (t 78) (t 73), ia 79 1 68 69, s1 (t 79) (t 77)]
def c195_9 : List RO := [m 80 11, m 8 80, p 9 (.mov (kb true))]
def c195_10 : List RO := [m 81 0, m 82 10, m 83 0, m 84 11, m 85 0, m 86 11, ia 87 1 85 86, ld 88 87, m 89 0, m 90 10, ia 91 1 89 90, ld 92 91, ia 93 1 81 82, s1 (t 93) (t 88), ia 94 1 83 84, s1 (t 94) (t 92)]
def c195_11 : List RO := [m 95 10, b 96 .add (t 95) (z 1), m 10 96]
def c195_12 : List RO := [m 97 11, b 98 .sub (t 97) (z 1), m 11 98]
def c195_13 : List RO := [m 99 10, m 100 11, b 101 .leq (t 99) (t 100), m 102 101, gm 103 102 true 0, gm 104 102 true 10, gia 105 102 true 1 103 104, gld 106 102 true 105, gm 107 102 true 0, gm 108 102 true 1, gia 109 102 true 1 107 108, gld 110 102 true 109, gc 111 102 true 193 [(t 106), (t 110)], p 112 (.pick (t 102) (t 111) (kb false))]
def c195_14 : List RO := [m 113 10, b 114 .add (t 113) (z 1), m 10 114]
def c195_15 : List RO := [m 115 10, m 116 11, b 117 .leq (t 115) (t 116), m 118 117, gm 119 118 true 0, gm 120 118 true 11, gia 121 118 true 1 119 120, gld 122 118 true 121, gm 123 118 true 0, gm 124 118 true 1, gia 125 118 true 1 123 124, gld 126 118 true 125, gc 127 118 true 193 [(t 122), (t 126)], gp 128 118 true (.un .not (t 127)), p 129 (.pick (t 118) (t 128) (kb false))]
def c195_16 : List RO := [m 130 11, b 131 .sub (t 130) (z 1), m 11 131]
def c195_17 : List RO := [m 132 10, m 133 11, b 134 .gtr (t 132) (t 133)]
def c195_18 : List RO := [m 135 0, m 136 10, m 137 0, m 138 11, m 139 0, m 140 11, ia 141 1 139 140, ld 142 141, m 143 0, m 144 10, ia 145 1 143 144, ld 146 145, ia 147 1 135 136, s1 (t 147) (t 142), ia 148 1 137 138, s1 (t 148) (t 146)]
def c195_19 : List RO := [m 149 10, b 150 .add (t 149) (z 1), m 10 150]
def c195_20 : List RO := [m 151 11, b 152 .sub (t 151) (z 1), m 11 152]
def c195_21 : List RO := [m 153 0, m 154 11, m 155 0, m 156 1, m 157 0, m 158 1, ia 159 1 157 158, ld 160 159, m 161 0, m 162 11, ia 163 1 161 162, ld 164 163, ia 165 1 153 154, s1 (t 165) (t 160), ia 166 1 155 156, s1 (t 166) (t 164)]
def c195_22 : List RO := [m 167 11, m 8 167, p 9 (.mov (kb false))]
def c195m : Mode := ⟨false, []⟩
def c195 : RFunc := ⟨(.seq (.reg c195_0) (.seq (.regD c195_1 [[], [], [], [], [], [], [], [], [], [], [], [], [], [], [], []]) (.seq (.reg c195_2) (.seq (.block 0 (.loop (.seq (.seq (.regD c195_3 [[], [], [], [], [], [], [], [], [], [], [], [], [], []]) (.cond (t 43) .skip (.exit 0))) (.block 1 (.reg c195_4))))) (.seq (.block 2 (.loop (.seq (.seq (.regD c195_5 [[], [], [], [], [], [], [], [], [], [], [], [], [], [], []]) (.cond (t 60) .skip (.exit 2))) (.block 3 (.reg c195_6))))) (.seq (.seq (.reg c195_7) (.cond (t 65) (.seq (.regD c195_8 [[], [], [], [], [], [], [], [], [], [], [], [], [], [], [], []]) (.seq (.reg c195_9) .ret)) .skip)) (.seq (.regD c195_10 [[], [], [], [], [], [], [], [], [], [], [], [], [], [], [], []]) (.seq (.reg c195_11) (.seq (.reg c195_12) (.seq (.block 4 (.loop (.block 5 (.seq (.block 6 (.loop (.seq (.seq (.regD c195_13 [[], [], [], [], [], [], [], [], [], [], [], [], [], []]) (.cond (t 112) .skip (.exit 6))) (.block 7 (.reg c195_14))))) (.seq (.block 8 (.loop (.seq (.seq (.regD c195_15 [[], [], [], [], [], [], [], [], [], [], [], [], [], [], []]) (.cond (t 129) .skip (.exit 8))) (.block 9 (.reg c195_16))))) (.seq (.seq (.reg c195_17) (.cond (t 134) (.exit 4) .skip)) (.seq (.regD c195_18 [[], [], [], [], [], [], [], [], [], [], [], [], [], [], [], []]) (.seq (.reg c195_19) (.reg c195_20))))))))) (.seq (.regD c195_21 [[], [], [], [], [], [], [], [], [], [], [], [], [], [], [], []]) (.seq (.reg c195_22) .ret)))))))))))), 168, [.tmp 8, .tmp 9]⟩
def c196_0 : List RO := [p 2 (.mov (z 0))]
def c196_1 : List RO := [m 3 0, b 4 .geq (t 3) (.const (.int .u32 65536))]
def c196_2 : List RO := [m 5 0, b 6 .shr (t 5) (u64 16), m 0 6]
def c196_3 : List RO := [p 2 (.mov (z 16))]
def c196_4 : List RO := [m 7 0, b 8 .geq (t 7) (.const (.int .u32 256))]
def c196_5 : List RO := [m 9 0, b 10 .shr (t 9) (u64 8), m 0 10]
def c196_6 : List RO := [m 11 2, b 12 .add (t 11) (z 8), m 2 12]
def c196_7 : List RO := [m 13 2, m 14 0, p 15 (.toInt .u8 (t 14)), p 16 (.idxStr (.const (.str ⟨⟨[0, 1, 2, 2, 3, 3, 3, 3, 4, 4, 4, 4, 4, 4, 4, 4, 5, 5, 5, 5, 5, 5, 5, 5, 5, 5, 5, 5, 5, 5, 5, 5, 6, 6, 6, 6, 6, 6, 6, 6, 6, 6, 6, 6, 6, 6, 6, 6, 6, 6, 6, 6, 6, 6, 6, 6, 6, 6, 6, 6, 6, 6, 6, 6, 7, 7, 7, 7, 7, 7, 7, 7, 7, 7, 7, 7, 7, 7, 7, 7, 7, 7, 7, 7, 7, 7, 7, 7, 7, 7, 7, 7, 7, 7, 7, 7, 7, 7, 7, 7, 7, 7, 7, 7, 7, 7, 7, 7, 7, 7, 7, 7, 7, 7, 7, 7, 7, 7, 7, 7, 7, 7, 7, 7, 7, 7, 7, 7, 8, 8, 8, 8, 8, 8, 8, 8, 8, 8, 8, 8, 8, 8, 8, 8, 8, 8, 8, 8, 8, 8, 8, 8, 8, 8, 8, 8, 8, 8, 8, 8, 8, 8, 8, 8, 8, 8, 8, 8, 8, 8, 8, 8, 8, 8, 8, 8, 8, 8, 8, 8, 8, 8, 8, 8, 8, 8, 8, 8, 8, 8, 8, 8, 8, 8, 8, 8, 8, 8, 8, 8, 8, 8, 8, 8, 8, 8, 8, 8, 8, 8, 8, 8, 8, 8, 8, 8, 8, 8, 8, 8, 8, 8, 8, 8, 8, 8, 8, 8, 8, 8, 8, 8, 8, 8, 8, 8, 8, 8, 8, 8, 8, 8, 8, 8, 8, 8, 8, 8, 8, 8, 8, 8, 8, 8, 8, 8]⟩⟩)) (t 15)), p 17 (.toInt .i64 (t 16)), b 18 .add (t 13) (t 17), m 2 18]
def c196m : Mode := ⟨false, []⟩
def c196 : RFunc := ⟨(.seq (.reg c196_0) (.seq (.seq (.reg c196_1) (.cond (t 4) (.seq (.reg c196_2) (.reg c196_3)) .skip)) (.seq (.seq (.reg c196_4) (.cond (t 8) (.seq (.reg c196_5) (.reg c196_6)) .skip)) (.seq (.reg c196_7) .ret)))), 19, [.tmp 2]⟩
def c197_0 : List RO := [p 2 (.mov (z 0))]
def c197_1 : List RO := [m 3 0, b 4 .geq (t 3) (u64 4294967296)]
def c197_2 : List RO := [m 5 0, b 6 .shr (t 5) (u64 32), m 0 6]
def c197_3 : List RO := [p 2 (.mov (z 32))]
def c197_4 : List RO := [m 7 0, b 8 .geq (t 7) (u64 65536)]
def c197_5 : List RO := [m 9 0, b 10 .shr (t 9) (u64 16), m 0 10]
def c197_6 : List RO := [m 11 2, b 12 .add (t 11) (z 16), m 2 12]
def c197_7 : List RO := [m 13 0, b 14 .geq (t 13) (u64 256)]
def c197_8 : List RO := [m 15 0, b 16 .shr (t 15) (u64 8), m 0 16]
def c197_9 : List RO := [m 17 2, b 18 .add (t 17) (z 8), m 2 18]
def c197_10 : List RO := [m 19 2, m 20 0, p 21 (.toInt .u8 (t 20)), p 22 (.idxStr (.const (.str ⟨⟨[0, 1, 2, 2, 3, 3, 3, 3, 4, 4, 4, 4, 4, 4, 4, 4, 5, 5, 5, 5, 5, 5, 5, 5, 5, 5, 5, 5, 5, 5, 5, 5, 6, 6, 6, 6, 6, 6, 6, 6, 6, 6, 6, 6, 6, 6, 6, 6, 6, 6, 6, 6, 6, 6, 6, 6, 6, 6, 6, 6, 6, 6, 6, 6, 7, 7, 7, 7, 7, 7, 7, 7, 7, 7, 7, 7, 7, 7, 7, 7, 7, 7, 7, 7, 7, 7, 7, 7, 7, 7, 7, 7, 7, 7, 7, 7, 7, 7, 7, 7, 7, 7, 7, 7, 7, 7, 7, 7, 7, 7, 7, 7, 7, 7, 7, 7, 7, 7, 7, 7, 7, 7, 7, 7, 7, 7, 7, 7, 8, 8, 8, 8, 8, 8, 8, 8, 8, 8, 8, 8, 8, 8, 8, 8, 8, 8, 8, 8, 8, 8, 8, 8, 8, 8, 8, 8, 8, 8, 8, 8, 8, 8, 8, 8, 8, 8, 8, 8, 8, 8, 8, 8, 8, 8, 8, 8, 8, 8, 8, 8, 8, 8, 8, 8, 8, 8, 8, 8, 8, 8, 8, 8, 8, 8, 8, 8, 8, 8, 8, 8, 8, 8, 8, 8, 8, 8, 8, 8, 8, 8, 8, 8, 8, 8, 8, 8, 8, 8, 8, 8, 8, 8, 8, 8, 8, 8, 8, 8, 8, 8, 8, 8, 8, 8, 8, 8, 8, 8, 8, 8, 8, 8, 8, 8, 8, 8, 8, 8, 8, 8, 8, 8, 8, 8, 8, 8]⟩⟩)) (t 21)), p 23 (.toInt .i64 (t 22)), b 24 .add (t 19) (t 23), m 2 24]
def c197m : Mode := ⟨false, []⟩
def c197 : RFunc := ⟨(.seq (.reg c197_0) (.seq (.seq (.reg c197_1) (.cond (t 4) (.seq (.reg c197_2) (.reg c197_3)) .skip)) (.seq (.seq (.reg c197_4) (.cond (t 8) (.seq (.reg c197_5) (.reg c197_6)) .skip)) (.seq (.seq (.reg c197_7) (.cond (t 14) (.seq (.reg c197_8) (.reg c197_9)) .skip)) (.seq (.reg c197_10) .ret))))), 25, [.tmp 2]⟩
def c198_0 : List RO := [p 4 (.mov (u64 0)), p 5 (.mov (z 0))]
def c198_1 : List RO := [m 9 0, p 10 (.nilchk (t 9)), fa 11 0 10, ld 12 11, m 13 1, c 14 155 [(t 12), (t 13)], m 8 14, ex 15 0 8, ex 16 1 8, m 6 15, m 7 16]
def c198_2 : List RO := [m 17 7, b 18 .neq (t 17) (z 0)]
def c198_3 : List RO := [m 19 7, p 4 (.mov (u64 0)), m 5 19]
def c198_4 : List RO := [m 20 0, m 21 0, p 22 (.nilchk (t 21)), fa 23 0 22, ld 24 23, m 25 1, p 26 (.slc 1 (t 24) (some (t 25)) none none), p 27 (.nilchk (t 20)), fa 28 0 27, s1 (t 28) (t 26)]
def c198_5 : List RO := [m 29 6, m 4 29, p 5 (.mov (z 0))]
def c198m : Mode := ⟨false, []⟩
def c198 : RFunc := ⟨(.seq (.reg c198_0) (.seq (.reg c198_1) (.seq (.seq (.reg c198_2) (.cond (t 18) (.seq (.reg c198_3) .ret) .skip)) (.seq (.reg c198_4) (.seq (.reg c198_5) .ret))))), 30, [.tmp 4, .tmp 5]⟩
def c199_0 : List RO := [p 2 (.mov (z 0))]
def c199_1 : List RO := [m 6 0, p 7 (.nilchk (t 6)), fa 8 1 7, fa 9 7 8, m 10 0, p 11 (.nilchk (t 10)), fa 12 1 11, fa 13 8 12, m 14 0, p 15 (.nilchk (t 14)), fa 16 1 15, fa 17 9 16, p 18 (.bslice 3 [.nil] [(0, (t 9)), (1, (t 13)), (2, (t 17))]), m 3 18]
def c199_2 : List RO := [m 19 3, ln 20 19, b 21 .eql (t 20) (z 0)]
def c199_3 : List RO := [p 2 (.mov (z 0))]
def c199_4 : List RO := [m 23 0, c 24 198 [(t 23), (z 2)], m 22 24, ex 25 0 22, ex 26 1 22, m 4 25, m 5 26]
def c199_5 : List RO := [m 27 5, b 28 .neq (t 27) (z 0)]
def c199_6 : List RO := [m 29 5, m 2 29]
def c199_7 : List RO := [m 30 3, p 31 (.iaddrS 1 (t 30) (z 0)), ld 32 31, m 33 4, p 34 (.toInt .i64 (t 33)), m 35 3, p 36 (.slc 1 (t 35) (some (z 1)) none none), p 37 (.nilchk (t 32)), s1 (t 37) (t 34), m 3 36]
def c199m : Mode := ⟨false, []⟩
def c199 : RFunc := ⟨(.seq (.reg c199_0) (.scope (.seq (.regD c199_1 [[], [], [], [], [], [], [], [], [], [], [], [], [], []]) (.seq (.label 0) (.seq (.seq (.reg c199_2) (.cond (t 21) (.seq (.reg c199_3) .ret) .skip)) (.seq (.reg c199_4) (.seq (.seq (.reg c199_5) (.cond (t 28) (.seq (.reg c199_6) .ret) .skip)) (.seq (.regD c199_7 [[], [], [], [], [], [], [], [], [], []]) (.goto 0))))))))), 38, [.tmp 2]⟩
def c200_0 : List RO := [p 2 (.mov (.const (.vs [] .full))), p 3 (.mov (z 0)), p 4 (.mov (z 0))]
def c200_1 : List RO := [m 7 0, c 8 155 [(t 7), (z 2)], m 6 8, ex 9 0 6, ex 10 1 6, m 5 9, m 4 10]
def c200_2 : List RO := [m 11 4, b 12 .neq (t 11) (z 0)]
def c200_3 : List RO := [m 13 4, p 2 (.mov (.const (.vs [] .full))), p 3 (.mov (z 0)), m 4 13]
def c200_4 : List RO := [m 14 0, ln 15 14, b 16 .sub (t 15) (z 2), m 17 5, p 18 (.toInt .i64 (t 17)), b 19 .lss (t 16) (t 18)]
def c200_5 : List RO := [p 2 (.mov (.const (.vs [] .full))), p 3 (.mov (z 0)), p 4 (.mov (z 3))]
def c200_6 : List RO := [m 20 0, m 21 5, p 22 (.toInt .i64 (t 21)), b 23 .add (z 2) (t 22), p 24 (.slc 1 (t 20) (some (z 2)) (some (t 23)) none), c 25 72 [(t 24)], m 26 5, p 27 (.toInt .i64 (t 26)), b 28 .add (z 2) (t 27), m 2 25, m 3 28, p 4 (.mov (z 0))]
def c200m : Mode := ⟨false, []⟩
def c200 : RFunc := ⟨(.seq (.reg c200_0) (.seq (.reg c200_1) (.seq (.seq (.reg c200_2) (.cond (t 12) (.seq (.reg c200_3) .ret) .skip)) (.seq (.seq (.reg c200_4) (.cond (t 19) (.seq (.reg c200_5) .ret) .skip)) (.seq (.reg c200_6) .ret))))), 29, [.tmp 2, .tmp 3, .tmp 4]⟩
def c201_0 : List RO := [p 2 (.mov (.const (.vs [] .full))), p 3 (.mov (z 0)), p 4 (.mov (z 0))]
def c201_1 : List RO := [m 10 0, c 11 155 [(t 10), (z 1)], m 9 11, ex 12 0 9, ex 13 1 9, m 5 12, m 4 13]
def c201_2 : List RO := [m 14 4, b 15 .neq (t 14) (z 0)]
def c201_3 : List RO := [m 16 4, p 2 (.mov (.const (.vs [] .full))), p 3 (.mov (z 0)), m 4 16]
def c201_4 : List RO := [m 17 5, p 18 (.toInt .i64 (t 17)), b 19 .mul (z 2) (t 18), b 20 .add (z 1) (t 19), m 3 20]
def c201_5 : List RO := [m 21 0, ln 22 21, m 23 3, b 24 .lss (t 22) (t 23)]
def c201_6 : List RO := [p 2 (.mov (.const (.vs [] .full))), p 3 (.mov (z 0)), p 4 (.mov (z 3))]
def c201_7 : List RO := [m 25 5, p 26 (.toInt .i64 (t 25)), p 27 (.mov (z 0))]
def c201_8 : List RO := [b 28 .lss (t 27) (t 26)]
def c201_9 : List RO := [m 29 27, m 6 29]
def c201_10 : List RO := [m 31 0, m 32 6, b 33 .mul (z 2) (t 32), b 34 .add (z 1) (t 33), p 35 (.slc 1 (t 31) (some (t 34)) none none), c 36 155 [(t 35), (z 2)], m 30 36, ex 37 0 30, ex 38 1 30, m 7 37, m 8 38]
def c201_11 : List RO := [m 39 2, m 40 7, p 41 (.toInt .u16 (t 40)), p 42 (.bslice 1 [(.int .u16 0)] [(0, (t 41))]), e 43 (.append 2 1 (t 39) (t 42)), m 2 43]
def c201_12 : List RO := [b 44 .add (t 27) (z 1), m 27 44]
def c201_13 : List RO := [m 45 2, c 46 147 [(t 45)], p 47 (.un .not (t 46))]
def c201_14 : List RO := [p 2 (.mov (.const (.vs [] .full))), p 3 (.mov (z 0)), p 4 (.mov (z 2))]
def c201_15 : List RO := [m 48 2, m 49 3, m 2 48, m 3 49, p 4 (.mov (z 0))]
def c201m : Mode := ⟨false, []⟩
def c201 : RFunc := ⟨(.seq (.reg c201_0) (.seq (.reg c201_1) (.seq (.seq (.reg c201_2) (.cond (t 15) (.seq (.reg c201_3) .ret) .skip)) (.seq (.reg c201_4) (.seq (.seq (.reg c201_5) (.cond (t 24) (.seq (.reg c201_6) .ret) .skip)) (.seq (.seq (.reg c201_7) (.block 0 (.loop (.seq (.reg c201_8) (.seq (.cond (t 28) .skip (.exit 0)) (.seq (.block 1 (.seq (.reg c201_9) (.seq (.reg c201_10) (.reg c201_11)))) (.reg c201_12))))))) (.seq (.seq (.reg c201_13) (.cond (t 47) (.seq (.reg c201_14) .ret) .skip)) (.seq (.reg c201_15) .ret)))))))), 50, [.tmp 2, .tmp 3, .tmp 4]⟩
def c202_0 : List RO := [p 2 (.mov (.const (.vs [] .full))), p 3 (.mov (z 0)), p 4 (.mov (z 0))]
def c202_1 : List RO := [m 10 0, c 11 155 [(t 10), (z 1)], m 9 11, ex 12 0 9, ex 13 1 9, m 5 12, m 4 13]
def c202_2 : List RO := [m 14 4, b 15 .neq (t 14) (z 0)]
def c202_3 : List RO := [m 16 4, p 2 (.mov (.const (.vs [] .full))), p 3 (.mov (z 0)), m 4 16]
def c202_4 : List RO := [p 3 (.mov (z 1))]
def c202_5 : List RO := [m 17 5, p 18 (.mov (u64 0))]
def c202_6 : List RO := [b 19 .lss (t 18) (t 17)]
def c202_7 : List RO := [m 21 0, m 22 3, p 23 (.slc 1 (t 21) (some (t 22)) none none), c 24 200 [(t 23)], m 20 24, ex 25 0 20, ex 26 1 20, ex 27 2 20, m 6 25, m 7 26, m 8 27]
def c202_8 : List RO := [m 28 8, b 29 .neq (t 28) (z 0)]
def c202_9 : List RO := [m 30 8, p 2 (.mov (.const (.vs [] .full))), p 3 (.mov (z 0)), m 4 30]
def c202_10 : List RO := [m 31 2, m 32 6, p 33 (.bslice 1 [(.vs [] .full)] [(0, (t 32))]), e 34 (.append 24 1 (t 31) (t 33)), m 35 3, m 36 7, b 37 .add (t 35) (t 36), m 2 34, m 3 37]
def c202_11 : List RO := [b 38 .add (t 18) (u64 1), m 18 38]
def c202_12 : List RO := [m 39 2, c 40 148 [(t 39)], p 41 (.un .not (t 40))]
def c202_13 : List RO := [p 2 (.mov (.const (.vs [] .full))), p 3 (.mov (z 0)), p 4 (.mov (z 2))]
def c202_14 : List RO := [m 42 2, m 43 3, m 2 42, m 3 43, p 4 (.mov (z 0))]
def c202m : Mode := ⟨false, []⟩
def c202 : RFunc := ⟨(.seq (.reg c202_0) (.seq (.reg c202_1) (.seq (.seq (.reg c202_2) (.cond (t 15) (.seq (.reg c202_3) .ret) .skip)) (.seq (.reg c202_4) (.seq (.seq (.reg c202_5) (.block 0 (.loop (.seq (.reg c202_6) (.seq (.cond (t 19) .skip (.exit 0)) (.seq (.block 1 (.seq (.reg c202_7) (.seq (.seq (.reg c202_8) (.cond (t 29) (.seq (.reg c202_9) .ret) .skip)) (.reg c202_10)))) (.reg c202_11))))))) (.seq (.seq (.reg c202_12) (.cond (t 41) (.seq (.reg c202_13) .ret) .skip)) (.seq (.reg c202_14) .ret))))))), 44, [.tmp 2, .tmp 3, .tmp 4]⟩
def c203_0 : List RO := [p 6 (.mov (.const .nil)), p 7 (.mov (z 0))]
def c203_1 : List RO := [m 11 0, m 12 1, c 13 260 [(t 11), (t 12)], m 10 13, ex 14 0 10, ex 15 1 10, m 8 14, m 9 15]
def c203_2 : List RO := [m 17 9, b 18 .neq (t 17) (z 0), m 16 18]
def c203_3 : List RO := [m 19 9, p 6 (.mov (.const .nil)), m 7 19]
def c203_4 : List RO := [m 21 2, b 22 .lss (t 21) (z 0), m 23 22, gm 24 23 false 2, gb 25 23 false .geq (t 24) (z 16), p 26 (.pick (t 23) (kb true) (t 25)), m 20 26]
def c203_5 : List RO := [p 6 (.mov (.const .nil)), p 7 (.mov (z 11))]
def c203_6 : List RO := [m 27 8, m 28 2, p 29 (.nilchk (t 27)), fa 30 0 29, p 31 (.iaddrA 1 16 (t 30) (t 28)), m 6 31, p 7 (.mov (z 0))]
def c203m : Mode := ⟨false, []⟩
def c203 : RFunc := ⟨(.seq (.reg c203_0) (.seq (.reg c203_1) (.seq (.block 0 (.seq (.reg c203_2) (.cond (t 16) (.seq (.reg c203_3) .ret) (.seq (.reg c203_4) (.cond (t 20) (.seq (.reg c203_5) .ret) .skip))))) (.seq (.reg c203_6) .ret)))), 32, [.tmp 6, .tmp 7]⟩
def c205_0 : List RO := [p 2 (.mov (z 0))]
def c205_1 : List RO := [m 3 0, p 4 (.eqNil 0 false (t 3))]
def c205_2 : List RO := [p 2 (.mov (z 0))]
def c205_3 : List RO := [m 5 0, p 6 (.nilchk (t 5)), fa 7 0 6, ld 8 7, ln 9 8, m 2 9]
def c205m : Mode := ⟨false, []⟩
def c205 : RFunc := ⟨(.seq (.reg c205_0) (.seq (.seq (.reg c205_1) (.cond (t 4) (.seq (.reg c205_2) .ret) .skip)) (.seq (.reg c205_3) .ret))), 10, [.tmp 2]⟩
def c206_0 : List RO := [p 2 (.mov (z 0))]
def c206_1 : List RO := [p 3 (.mov (z 0))]
def c206_2 : List RO := [m 6 0, p 7 (.eqNil 0 true (t 6))]
def c206_3 : List RO := [m 8 0, p 9 (.nilchk (t 8)), fa 10 0 9, ld 11 10, ln 12 11, p 13 (.mov (z 0))]
def c206_4 : List RO := [b 14 .lss (t 13) (t 12)]
def c206_5 : List RO := [ia 15 17 11 13, la 16 17 15, a 5 (.alloc [(.int .u8 0), (.int .u8 0), (.int .u8 0), (.int .u8 0), (.int .u8 0), (.int .u8 0), (.int .u8 0), (.int .u8 0), (.int .u8 0), (.int .u8 0), (.int .u8 0), (.int .u8 0), (.int .u8 0), (.int .u8 0), (.int .u8 0), (.int .u8 0), (.bool false)]), sn 17 (t 5) (t 16)]
def c206_6 : List RO := [fa 17 16 5, ld 18 17]
def c206_7 : List RO := [m 19 3, b 20 .add (t 19) (z 1), m 3 20]
def c206_8 : List RO := [b 21 .add (t 13) (z 1), m 13 21]
def c206_9 : List RO := [m 22 3, m 2 22]
def c206m : Mode := ⟨false, []⟩
def c206 : RFunc := ⟨(.seq (.reg c206_0) (.seq (.reg c206_1) (.seq (.seq (.reg c206_2) (.cond (t 7) (.seq (.reg c206_3) (.block 0 (.loop (.seq (.reg c206_4) (.seq (.cond (t 14) .skip (.exit 0)) (.seq (.block 1 (.seq (.reg c206_5) (.seq (.reg c206_6) (.cond (t 18) (.reg c206_7) .skip)))) (.reg c206_8))))))) .skip)) (.seq (.reg c206_9) .ret)))), 23, [.tmp 2]⟩
def c209_0 : List RO := [p 2 (.mov (.const (.vs [] .full))), p 3 (.mov (kb false))]
def c209_1 : List RO := [p 4 (.mov (.const (.vs [] .full)))]
def c209_2 : List RO := [m 6 0, b 7 .eql (t 6) (u64 1)]
def c209_3 : List RO := [m 8 4, m 2 8, p 3 (.mov (kb true))]
def c209_4 : List RO := [m 9 0, b 10 .and (t 9) (u64 63), p 11 (.toInt .i64 (t 10)), m 5 11]
def c209_5 : List RO := [m 12 0, b 13 .gtr (t 12) (u64 1), m 14 13, gm 15 14 true 5, gb 16 14 true .gtr (t 15) (z 0), p 17 (.pick (t 14) (t 16) (kb false)), m 18 17, gm 19 18 true 4, gp 20 18 true (.lenS (t 19)), gb 21 18 true .lss (t 20) (z 6), p 22 (.pick (t 18) (t 21) (kb false))]
def c209_6 : List RO := [m 23 4, m 24 5, p 25 (.bslice 1 [(.int .i64 0)] [(0, (t 24))]), e 26 (.append 8 1 (t 23) (t 25)), m 27 0, b 28 .shr (t 27) (u64 6), m 4 26, m 0 28]
def c209_7 : List RO := [p 2 (.mov (.const (.vs [] .full))), p 3 (.mov (kb false))]
def c209m : Mode := ⟨false, []⟩
def c209 : RFunc := ⟨(.seq (.reg c209_0) (.scope (.seq (.reg c209_1) (.seq (.label 0) (.seq (.seq (.reg c209_2) (.cond (t 7) (.seq (.reg c209_3) .ret) .skip)) (.seq (.seq (.reg c209_4) (.seq (.reg c209_5) (.cond (t 22) (.seq (.reg c209_6) (.goto 0)) .skip))) (.seq (.reg c209_7) .ret))))))), 29, [.tmp 2, .tmp 3]⟩
def c210_0 : List RO := [p 2 (.mov (kb false))]
def c210_1 : List RO := [p 3 (.mov (z 1))]
def c210_2 : List RO := [m 4 3, m 5 0, ln 6 5, b 7 .geq (t 4) (t 6)]
def c210_3 : List RO := [p 2 (.mov (kb true))]
def c210_4 : List RO := [m 8 0, m 9 3, b 10 .sub (t 9) (z 1), ia 11 1 8 10, ld 12 11, m 13 0, m 14 3, ia 15 1 13 14, ld 16 15, b 17 .geq (t 12) (t 16)]
def c210_5 : List RO := [p 2 (.mov (kb false))]
def c210_6 : List RO := [m 18 3, b 19 .add (t 18) (z 1), m 3 19]
def c210m : Mode := ⟨false, []⟩
def c210 : RFunc := ⟨(.seq (.reg c210_0) (.scope (.seq (.reg c210_1) (.seq (.label 0) (.seq (.seq (.reg c210_2) (.cond (t 7) (.seq (.reg c210_3) .ret) .skip)) (.seq (.seq (.regD c210_4 [[], [], [], [], [], [], [], [], [], []]) (.cond (t 17) (.seq (.reg c210_5) .ret) .skip)) (.seq (.reg c210_6) (.goto 0)))))))), 20, [.tmp 2]⟩
def c211_0 : List RO := [p 4 (.mov (kb false))]
def c211_1 : List RO := [m 5 0, m 6 1, c 7 264 [(t 5), (t 6)], b 8 .geq (t 7) (z 0), m 4 8]
def c211m : Mode := ⟨false, []⟩
def c211 : RFunc := ⟨(.seq (.reg c211_0) (.seq (.reg c211_1) .ret)), 9, [.tmp 4]⟩
def c212_0 : List RO := [p 2 (.mov (kb false))]
def c212_1 : List RO := [m 3 0, ln 4 3, b 5 .gtr (t 4) (z 16), m 2 5]
def c212m : Mode := ⟨false, []⟩
def c212 : RFunc := ⟨(.seq (.reg c212_0) (.seq (.reg c212_1) .ret)), 6, [.tmp 2]⟩
def c213_0 : List RO := [p 4 (.mov (.const .nils))]
def c213_1 : List RO := [m 5 1, b 6 .lss (t 5) (z 0)]
def c213_2 : List RO := [p 7 (.stuck), ⟨none, none, (.p (.stuck))⟩]
def c213_3 : List RO := [m 8 1, m 9 0, p 10 (.capS (t 9)), m 11 0, ln 12 11, b 13 .sub (t 10) (t 12), b 14 .sub (t 8) (t 13), m 1 14]
def c213_4 : List RO := [m 15 1, b 16 .gtr (t 15) (z 0)]
def c213_5 : List RO := [m 17 0, m 18 0, p 19 (.capS (t 18)), p 20 (.slc 1 (t 17) none (some (t 19)) none), m 21 1, e 22 (.appendZ 1 [(.int .u8 0)] (t 20) (t 21)), m 23 0, ln 24 23, p 25 (.slc 1 (t 22) none (some (t 24)) none), m 0 25]
def c213_6 : List RO := [m 26 0, m 4 26]
def c213m : Mode := ⟨true, []⟩
def c213 : RFunc := ⟨(.seq (.reg c213_0) (.seq (.seq (.reg c213_1) (.cond (t 6) (.reg c213_2) .skip)) (.seq (.seq (.reg c213_3) (.seq (.reg c213_4) (.cond (t 16) (.reg c213_5) .skip))) (.seq (.reg c213_6) .ret)))), 27, [.tmp 4]⟩
def c214_0 : List RO := [p 2 (.mov (.const (.vs [] .full)))]
def c214_1 : List RO := [m 3 0, p 4 (.eqNil 1 false (t 3))]
def c214_2 : List RO := [p 2 (.mov (.const (.vs [] .full)))]
def c214_3 : List RO := [p 5 (.bslice 0 [(.int .u16 0)] []), m 6 0, e 7 (.append 2 1 (t 5) (t 6)), m 2 7]
def c214m : Mode := ⟨false, []⟩
def c214 : RFunc := ⟨(.seq (.reg c214_0) (.seq (.seq (.reg c214_1) (.cond (t 4) (.seq (.reg c214_2) .ret) .skip)) (.seq (.reg c214_3) .ret))), 8, [.tmp 2]⟩
def c234_0 : List RO := [a 3 (.box (t 1)), p 4 (.mov (z 0))]
def c234_1 : List RO := [m 5 0, p 6 (.mkfn 278 [] [(t 3)]), c 7 153 [(t 5), (t 6)], m 4 7]
def c234m : Mode := ⟨false, []⟩
def c234 : RFunc := ⟨(.seq (.reg c234_0) (.seq (.reg c234_1) .ret)), 8, [.tmp 4]⟩
def c235_0 : List RO := [p 6 (.mov (.const (.vs [] .full)))]
def c235_1 : List RO := [m 8 0, m 9 1, m 10 2, m 11 0, ln 12 11, p 13 (.slc 2 (t 8) (some (t 9)) (some (t 10)) (some (t 12)))]
def c235_2 : List RO := [m 14 1, m 15 2, b 16 .eql (t 14) (t 15)]
def c235_3 : List RO := [m 17 0, m 6 17]
def c235_4 : List RO := [m 18 0, ln 19 18, m 7 19]
def c235_5 : List RO := [m 20 0, m 21 1, p 22 (.slc 2 (t 20) none (some (t 21)) none), m 23 0, m 24 2, p 25 (.slc 2 (t 23) (some (t 24)) none none), e 26 (.appendR 4 2 (t 22) (t 25)), m 0 26]
def c235_6 : List RO := [m 27 0, m 28 0, ln 29 28, m 30 7, p 31 (.slc 2 (t 27) (some (t 29)) (some (t 30)) none), ⟨none, none, (.e (.clearK [(.int .u16 0), (.int .u8 0)] (t 31)))⟩]
def c235_7 : List RO := [m 32 0, m 6 32]
def c235m : Mode := ⟨false, [26]⟩
def c235 : RFunc := ⟨(.seq (.reg c235_0) (.seq (.reg c235_1) (.seq (.seq (.reg c235_2) (.cond (t 16) (.seq (.reg c235_3) .ret) .skip)) (.seq (.reg c235_4) (.seq (.regD c235_5 [[], [], [], [], [], [], [], []]) (.seq (.reg c235_6) (.seq (.reg c235_7) .ret))))))), 33, [.tmp 6]⟩
def c236_0 : List RO := [p 6 (.mov (z 0)), p 7 (.mov (kb false))]
def c236_1 : List RO := [m 12 0, ln 13 12, m 8 13]
def c236_2 : List RO := [m 14 8, p 9 (.mov (z 0)), m 10 14]
def c236_3 : List RO := [m 15 9, m 16 10, b 17 .lss (t 15) (t 16)]
def c236_4 : List RO := [m 18 9, m 19 10, b 20 .add (t 18) (t 19), p 21 (.toInt .u64 (t 20)), b 22 .shr (t 21) (u64 1), p 23 (.toInt .i64 (t 22)), m 11 23]
def c236_5 : List RO := [m 24 2, m 25 0, m 26 11, ia 27 2 25 26, la 28 2 27, m 29 1, ⟨(some 30), none, (.dyn (t 24) [(t 28), (t 29)])⟩, b 31 .lss (t 30) (z 0)]
def c236_6 : List RO := [m 32 11, b 33 .add (t 32) (z 1), m 9 33]
def c236_7 : List RO := [m 34 11, m 10 34]
def c236_8 : List RO := [m 35 9, m 36 9, m 37 8, b 38 .lss (t 36) (t 37), m 39 38, gm 40 39 true 2, gm 41 39 true 0, gm 42 39 true 9, gia 43 39 true 2 41 42, gp 44 39 true (.load true 2 (t 43)), gm 45 39 true 1, ⟨(some 46), (some (39, true)), (.dyn (t 40) [(t 44), (t 45)])⟩, gb 47 39 true .eql (t 46) (z 0), p 48 (.pick (t 39) (t 47) (kb false)), m 6 35, m 7 48]
def c236m : Mode := ⟨false, []⟩
def c236 : RFunc := ⟨(.seq (.reg c236_0) (.seq (.reg c236_1) (.seq (.reg c236_2) (.seq (.block 0 (.loop (.seq (.seq (.reg c236_3) (.cond (t 17) .skip (.exit 0))) (.block 1 (.seq (.reg c236_4) (.seq (.reg c236_5) (.cond (t 31) (.reg c236_6) (.reg c236_7)))))))) (.seq (.reg c236_8) .ret))))), 49, [.tmp 6, .tmp 7]⟩
def c237_0 : List RO := [a 2 (.box (t 0)), p 4 (.mov (z 0))]
def c237_1 : List RO := [fa 5 0 2, ld 6 5, p 7 (.toInt .i64 (t 6)), m 8 1, p 9 (.toInt .i64 (t 8)), b 10 .sub (t 7) (t 9), m 4 10]
def c237m : Mode := ⟨false, []⟩
def c237 : RFunc := ⟨(.seq (.reg c237_0) (.seq (.reg c237_1) .ret)), 11, [.tmp 4]⟩
def c238_0 : List RO := [p 6 (.mov (.const (.vs [] .full)))]
def c238_1 : List RO := [m 10 0, m 11 1, p 12 (.slc 2 (t 10) (some (t 11)) none none)]
def c238_2 : List RO := [m 13 2, ln 14 13, m 7 14]
def c238_3 : List RO := [m 15 7, b 16 .eql (t 15) (z 0)]
def c238_4 : List RO := [m 17 0, m 6 17]
def c238_5 : List RO := [m 18 0, ln 19 18, m 8 19]
def c238_6 : List RO := [m 20 1, m 21 8, b 22 .eql (t 20) (t 21)]
def c238_7 : List RO := [m 23 0, m 24 2, e 25 (.appendR 4 2 (t 23) (t 24)), m 6 25]
def c238_8 : List RO := [m 26 8, m 27 7, b 28 .add (t 26) (t 27), m 29 0, p 30 (.capS (t 29)), b 31 .gtr (t 28) (t 30)]
def c238_9 : List RO := [m 32 0, m 33 1, p 34 (.slc 2 (t 32) none (some (t 33)) none), m 35 8, m 36 7, b 37 .add (t 35) (t 36), m 38 1, b 39 .sub (t 37) (t 38), e 40 (.appendZ 4 [(.int .u16 0), (.int .u8 0)] (t 34) (t 39)), m 9 40]
def c238_10 : List RO := [m 41 9, m 42 1, p 43 (.slc 2 (t 41) (some (t 42)) none none), m 44 2, e 45 (.copy 2 (t 43) (t 44))]
def c238_11 : List RO := [m 46 9, m 47 1, m 48 7, b 49 .add (t 47) (t 48), p 50 (.slc 2 (t 46) (some (t 49)) none none), m 51 0, m 52 1, p 53 (.slc 2 (t 51) (some (t 52)) none none), e 54 (.copy 2 (t 50) (t 53))]
def c238_12 : List RO := [m 55 9, m 6 55]
def c238_13 : List RO := [m 56 0, m 57 8, m 58 7, b 59 .add (t 57) (t 58), p 60 (.slc 2 (t 56) none (some (t 59)) none), m 0 60]
def c238_14 : List RO := [m 61 2, m 62 0, m 63 1, m 64 7, b 65 .add (t 63) (t 64), p 66 (.slc 2 (t 62) (some (t 65)) none none), p 67 (.ovl 2 (t 61) (t 66)), p 68 (.un .not (t 67))]
def c238_15 : List RO := [m 69 0, m 70 1, m 71 7, b 72 .add (t 70) (t 71), p 73 (.slc 2 (t 69) (some (t 72)) none none), m 74 0, m 75 1, p 76 (.slc 2 (t 74) (some (t 75)) none none), e 77 (.copyK 2 (t 73) (t 76))]
def c238_16 : List RO := [m 78 0, m 79 1, p 80 (.slc 2 (t 78) (some (t 79)) none none), m 81 2, e 82 (.copyK 2 (t 80) (t 81))]
def c238_17 : List RO := [m 83 0, m 6 83]
def c238_18 : List RO := [m 84 0, m 85 8, p 86 (.slc 2 (t 84) (some (t 85)) none none), m 87 2, e 88 (.copy 2 (t 86) (t 87))]
def c238_19 : List RO := [m 89 0, m 90 1, p 91 (.slc 2 (t 89) (some (t 90)) none none), m 92 7, c 93 280 [(t 91), (t 92)]]
def c238_20 : List RO := [m 94 0, m 6 94]
def c238m : Mode := ⟨false, [25, 77, 82]⟩
def c238 : RFunc := ⟨(.seq (.reg c238_0) (.seq (.reg c238_1) (.seq (.reg c238_2) (.seq (.seq (.reg c238_3) (.cond (t 16) (.seq (.reg c238_4) .ret) .skip)) (.seq (.reg c238_5) (.seq (.seq (.reg c238_6) (.cond (t 22) (.seq (.reg c238_7) .ret) .skip)) (.seq (.seq (.reg c238_8) (.cond (t 31) (.seq (.reg c238_9) (.seq (.reg c238_10) (.seq (.regD c238_11 [[], [], [], [], [], [], [], [], []]) (.seq (.reg c238_12) .ret)))) .skip)) (.seq (.reg c238_13) (.seq (.seq (.reg c238_14) (.cond (t 68) (.seq (.regD c238_15 [[], [], [], [], [], [], [], [], []]) (.seq (.reg c238_16) (.seq (.reg c238_17) .ret))) .skip)) (.seq (.reg c238_18) (.seq (.reg c238_19) (.seq (.reg c238_20) .ret)))))))))))), 95, [.tmp 6]⟩
def c240_0 : List RO := [p 4 (.mov (kb false))]
def c240_1 : List RO := [m 5 0, m 6 1, c 7 281 [(t 5), (t 6)], b 8 .geq (t 7) (z 0), m 4 8]
def c240m : Mode := ⟨false, []⟩
def c240 : RFunc := ⟨(.seq (.reg c240_0) (.seq (.reg c240_1) .ret)), 9, [.tmp 4]⟩
def c242_0 : List RO := [a 1 (.box (t 0)), p 2 (.mov (.const (.vs [] .full)))]
def c242_1 : List RO := [p 3 (.mov (.const (.vs [] .full)))]
def c242_2 : List RO := [fa 6 1 1, ld 7 6, ln 8 7, p 9 (.mov (z 0))]
def c242_3 : List RO := [b 10 .lss (t 9) (t 8)]
def c242_4 : List RO := [ia 11 2 7 9, la 12 2 11, a 5 (.alloc [(.int .u16 0), (.int .u8 0)]), sn 2 (t 5) (t 12)]
def c242_5 : List RO := [fa 13 1 5, ld 14 13, b 15 .eql (t 14) (u8 0)]
def c242_6 : List RO := [m 16 3, fa 17 0 5, ld 18 17, p 19 (.bslice 1 [(.int .u16 0)] [(0, (t 18))]), e 20 (.append 2 1 (t 16) (t 19)), m 3 20]
def c242_7 : List RO := [b 21 .add (t 9) (z 1), m 9 21]
def c242_8 : List RO := [m 22 3, m 2 22]
def c242m : Mode := ⟨false, []⟩
def c242 : RFunc := ⟨(.seq (.reg c242_0) (.seq (.reg c242_1) (.seq (.seq (.reg c242_2) (.block 0 (.loop (.seq (.reg c242_3) (.seq (.cond (t 10) .skip (.exit 0)) (.seq (.block 1 (.seq (.reg c242_4) (.seq (.reg c242_5) (.cond (t 15) (.reg c242_6) .skip)))) (.reg c242_7))))))) (.seq (.reg c242_8) .ret)))), 23, [.tmp 2]⟩
def c243_0 : List RO := [a 3 (.box (t 0)), a 6 (.alloc [(.int .u8 0), (.vs [] .full)])]
def c243_1 : List RO := [fa 7 0 3, ld 8 7, fa 9 1 3, ld 10 9, c 11 117 [(t 10)], m 12 1, m 13 2, p 14 (.build [(.int .u16 0), (.int .u8 0)] [(0, 1, (t 12)), (1, 1, (t 13))]), p 15 (.bslice 1 [(.int .u16 0), (.int .u8 0)] [(0, (t 14))]), e 16 (.append 4 2 (t 11) (t 15)), c 17 160 [(t 8), (t 16)], sn 2 (t 6) (t 17)]
def c243m : Mode := ⟨false, []⟩
def c243 : RFunc := ⟨(.seq (.reg c243_0) (.seq (.regD c243_1 [[], [], [], [], [1], [], [], [], [], [1], [], []]) .ret)), 18, [.cell 6 true 2]⟩
def c244_0 : List RO := [a 2 (.box (t 0)), p 4 (.mov (u8 0))]
def c244_1 : List RO := [fa 6 1 2, ld 7 6, m 8 1, c 9 234 [(t 7), (t 8)], m 5 9]
def c244_2 : List RO := [m 10 5, b 11 .geq (t 10) (z 0)]
def c244_3 : List RO := [fa 12 1 2, ld 13 12, m 14 5, ia 15 2 13 14, fa 16 1 15, ld 17 16, m 4 17]
def c244_4 : List RO := [fa 18 0 2, ld 19 18, m 4 19]
def c244m : Mode := ⟨false, []⟩
def c244 : RFunc := ⟨(.seq (.reg c244_0) (.seq (.seq (.reg c244_1) (.seq (.reg c244_2) (.cond (t 11) (.seq (.reg c244_3) .ret) .skip))) (.seq (.reg c244_4) .ret))), 20, [.tmp 4]⟩
def c245_0 : List RO := [a 2 (.box (t 0)), a 3 (.box (t 1)), p 4 (.mov (kb false))]
def c245_1 : List RO := [fa 6 0 2, ld 7 6, fa 8 0 3, ld 9 8, c 10 282 [(t 7), (t 9)], a 5 (.alloc [(.bool false)]), s1 (t 5) (t 10)]
def c245_2 : List RO := [la 11 2 2, la 12 2 3, p 13 (.mkfn 284 [] [(t 5)]), c 14 283 [(t 11), (t 12), (t 13)]]
def c245_3 : List RO := [ld 15 5, m 4 15]
def c245m : Mode := ⟨false, []⟩
def c245 : RFunc := ⟨(.seq (.reg c245_0) (.seq (.reg c245_1) (.seq (.reg c245_2) (.seq (.reg c245_3) .ret)))), 16, [.tmp 4]⟩
def c246_0 : List RO := [a 2 (.box (t 0)), p 4 (.mov (kb false))]
def c246_1 : List RO := [m 5 1, p 6 (.mkfn 286 [] [(t 2)]), c 7 285 [(t 5), (t 6)], p 8 (.un .not (t 7)), m 4 8]
def c246m : Mode := ⟨false, []⟩
def c246 : RFunc := ⟨(.seq (.reg c246_0) (.seq (.reg c246_1) .ret)), 9, [.tmp 4]⟩
def c247_0 : List RO := [p 2 (.mov (z 0))]
def c247_1 : List RO := [m 6 0, c 7 209 [(t 6)], m 5 7, ex 8 0 5, ex 9 1 5, m 3 8, m 4 9]
def c247_2 : List RO := [m 10 3, ln 11 10, m 2 11]
def c247m : Mode := ⟨false, []⟩
def c247 : RFunc := ⟨(.seq (.reg c247_0) (.seq (.reg c247_1) (.seq (.reg c247_2) .ret))), 12, [.tmp 2]⟩
def c248_0 : List RO := [a 2 (.box (t 0)), a 3 (.box (t 1)), p 4 (.mov (kb false))]
def c248_1 : List RO := [la 5 2 3, la 6 2 2, c 7 287 [(t 6)], c 8 245 [(t 5), (t 7)], m 4 8]
def c248m : Mode := ⟨false, []⟩
def c248 : RFunc := ⟨(.seq (.reg c248_0) (.seq (.regD c248_1 [[], [], [0], [], []]) .ret)), 9, [.tmp 4]⟩
def c249_0 : List RO := [a 2 (.box (t 0)), a 3 (.box (t 1)), p 4 (.mov (kb false))]
def c249_1 : List RO := [la 5 2 2, la 6 2 3, c 7 245 [(t 5), (t 6)], m 4 7]
def c249m : Mode := ⟨false, []⟩
def c249 : RFunc := ⟨(.seq (.reg c249_0) (.seq (.reg c249_1) .ret)), 8, [.tmp 4]⟩
def c250_0 : List RO := [p 2 (.mov (.const (.vs [] .full)))]
def c250_1 : List RO := [m 8 0, c 9 209 [(t 8)], m 7 9, ex 10 0 7, ex 11 1 7, m 3 10, m 4 11]
def c250_2 : List RO := [m 12 4, p 13 (.un .not (t 12))]
def c250_3 : List RO := [p 2 (.mov (.const (.vs [] .full)))]
def c250_4 : List RO := [p 14 (.bslice 1 [(.int .u64 0)] [(0, (u64 1))]), m 5 14]
def c250_5 : List RO := [m 15 3, ln 16 15, b 17 .sub (t 16) (z 1), m 6 17]
def c250_6 : List RO := [m 18 6, b 19 .geq (t 18) (z 0)]
def c250_7 : List RO := [m 22 5, m 23 5, m 24 5, ln 25 24, b 26 .sub (t 25) (z 1), ia 27 1 23 26, ld 28 27, b 29 .shl (t 28) (u64 6), m 30 3, m 31 6, ia 32 1 30 31, ld 33 32, p 34 (.toInt .u64 (t 33)), b 35 .or (t 29) (t 34), p 36 (.bslice 1 [(.int .u64 0)] [(0, (t 35))]), e 37 (.append 8 1 (t 22) (t 36)), m 5 37]
def c250_8 : List RO := [m 20 6, b 21 .sub (t 20) (z 1), m 6 21]
def c250_9 : List RO := [m 38 5, m 2 38]
def c250m : Mode := ⟨false, []⟩
def c250 : RFunc := ⟨(.seq (.reg c250_0) (.seq (.reg c250_1) (.seq (.seq (.reg c250_2) (.cond (t 13) (.seq (.reg c250_3) .ret) .skip)) (.seq (.reg c250_4) (.seq (.seq (.reg c250_5) (.block 0 (.loop (.seq (.seq (.reg c250_6) (.cond (t 19) .skip (.exit 0))) (.seq (.block 1 (.regD c250_7 [[], [], [], [], [], [], [], [], [], [], [], [], [], [], [], [], []])) (.reg c250_8)))))) (.seq (.reg c250_9) .ret)))))), 39, [.tmp 2]⟩
def c251_0 : List RO := [p 4 (.mov (z 0))]
def c251_1 : List RO := [m 8 0, m 9 1, c 10 132 [(t 8), (t 9)], m 7 10, ex 11 0 7, ex 12 1 7, m 5 11, m 6 12]
def c251_2 : List RO := [m 13 6, b 14 .eql (t 13) (z 0)]
def c251_3 : List RO := [m 15 0, p 16 (.nilchk (t 15)), fa 17 1 16, ld 18 17, m 19 5, m 20 0, p 21 (.nilchk (t 20)), fa 22 1 21, ld 23 22, m 24 5, ia 25 4 23 24, fa 26 3 25, ld 27 26, p 28 (.build [(.int .u64 0), (.vs [] .full), (.bool false), (.int .i64 0)] [(3, 1, (t 27))]), ia 29 4 18 19, sn 4 (t 29) (t 28)]
def c251_4 : List RO := [m 30 0, p 31 (.nilchk (t 30)), fa 32 2 31, ld 33 32, m 34 1, ⟨none, none, (.e (.mapdel (t 33) (t 34)))⟩]
def c251_5 : List RO := [m 35 6, m 4 35]
def c251m : Mode := ⟨false, []⟩
def c251 : RFunc := ⟨(.seq (.reg c251_0) (.seq (.reg c251_1) (.seq (.seq (.reg c251_2) (.cond (t 14) (.seq (.regD c251_3 [[], [], [], [], [], [], [], [], [], [], [], [], [], [], [], []]) (.reg c251_4)) .skip)) (.seq (.reg c251_5) .ret)))), 36, [.tmp 4]⟩
def c252_0 : List RO := [p 4 (.mov (z 0))]
def c252_1 : List RO := [m 10 0, m 11 1, c 12 135 [(t 10), (t 11)], m 9 12, ex 13 0 9, ex 14 1 9, a 5 (.alloc [(.vs [] .full), (.int .i64 0)]), sn 2 (t 5) (t 13), m 6 14]
def c252_2 : List RO := [m 15 6, b 16 .neq (t 15) (z 0)]
def c252_3 : List RO := [m 17 6, m 4 17]
def c252_4 : List RO := [fa 18 0 5, ld 19 18, ln 20 19, p 21 (.mov (z 0))]
def c252_5 : List RO := [b 22 .lss (t 21) (t 20)]
def c252_6 : List RO := [ia 23 1 19 21, ld 24 23, m 8 24]
def c252_7 : List RO := [m 25 0, p 26 (.nilchk (t 25)), fa 27 0 26, ld 28 27, m 29 8, c 30 288 [(t 28), (t 29)]]
def c252_8 : List RO := [b 31 .add (t 21) (z 1), m 21 31]
def c252_9 : List RO := [m 32 0, p 33 (.nilchk (t 32)), fa 34 1 33, ld 35 34, m 36 1, ⟨none, none, (.e (.mapdel (t 35) (t 36)))⟩]
def c252_10 : List RO := [p 4 (.mov (z 0))]
def c252m : Mode := ⟨false, []⟩
def c252 : RFunc := ⟨(.seq (.reg c252_0) (.seq (.reg c252_1) (.seq (.seq (.reg c252_2) (.cond (t 16) (.seq (.reg c252_3) .ret) .skip)) (.seq (.seq (.reg c252_4) (.block 0 (.loop (.seq (.reg c252_5) (.seq (.cond (t 22) .skip (.exit 0)) (.seq (.block 1 (.seq (.reg c252_6) (.reg c252_7))) (.reg c252_8))))))) (.seq (.reg c252_9) (.seq (.reg c252_10) .ret)))))), 37, [.tmp 4]⟩
def c253_0 : List RO := [p 2 (.mov (.const (.vs [] .full)))]
def c253_1 : List RO := [p 3 (.mov (.const (.vs [] .full)))]
def c253_2 : List RO := [m 6 0, ln 7 6, p 8 (.mov (z 0))]
def c253_3 : List RO := [b 9 .lss (t 8) (t 7)]
def c253_4 : List RO := [ia 10 1 6 8, ld 11 10, m 5 11]
def c253_5 : List RO := [m 12 3, m 13 5, c 14 72 [(t 13)], p 15 (.bslice 1 [(.vs [] .full)] [(0, (t 14))]), e 16 (.append 24 1 (t 12) (t 15)), m 3 16]
def c253_6 : List RO := [b 17 .add (t 8) (z 1), m 8 17]
def c253_7 : List RO := [m 18 3, m 2 18]
def c253m : Mode := ⟨false, []⟩
def c253 : RFunc := ⟨(.seq (.reg c253_0) (.seq (.reg c253_1) (.seq (.seq (.reg c253_2) (.block 0 (.loop (.seq (.reg c253_3) (.seq (.cond (t 9) .skip (.exit 0)) (.seq (.block 1 (.seq (.reg c253_4) (.reg c253_5))) (.reg c253_6))))))) (.seq (.reg c253_7) .ret)))), 19, [.tmp 2]⟩
def c254_0 : List RO := [m 10 1, m 8 10]
def c254_1 : List RO := [m 11 8, b 12 .mul (z 2) (t 11), b 13 .add (t 12) (z 1), m 9 13]
def c254_2 : List RO := [m 14 9, m 15 2, b 16 .geq (t 14) (t 15)]
def c254_3 : List RO := [m 17 9, b 18 .add (t 17) (z 1), m 19 2, b 20 .lss (t 18) (t 19), m 21 20, gm 22 21 true 0, gm 23 21 true 3, gm 24 21 true 9, gb 25 21 true .add (t 23) (t 24), gia 26 21 true 1 22 25, gld 27 21 true 26, gm 28 21 true 0, gm 29 21 true 3, gm 30 21 true 9, gb 31 21 true .add (t 29) (t 30), gb 32 21 true .add (t 31) (z 1), gia 33 21 true 1 28 32, gld 34 21 true 33, gc 35 21 true 193 [(t 27), (t 34)], p 36 (.pick (t 21) (t 35) (kb false))]
def c254_4 : List RO := [m 37 9, b 38 .add (t 37) (z 1), m 9 38]
def c254_5 : List RO := [m 39 0, m 40 3, m 41 8, b 42 .add (t 40) (t 41), ia 43 1 39 42, ld 44 43, m 45 0, m 46 3, m 47 9, b 48 .add (t 46) (t 47), ia 49 1 45 48, ld 50 49, c 51 193 [(t 44), (t 50)], p 52 (.un .not (t 51))]
def c254_6 : List RO := [m 53 0, m 54 3, m 55 8, b 56 .add (t 54) (t 55), m 57 0, m 58 3, m 59 9, b 60 .add (t 58) (t 59), m 61 0, m 62 3, m 63 9, b 64 .add (t 62) (t 63), ia 65 1 61 64, ld 66 65, m 67 0, m 68 3, m 69 8, b 70 .add (t 68) (t 69), ia 71 1 67 70, ld 72 71, ia 73 1 53 56, s1 (t 73) (t 66), ia 74 1 57 60, s1 (t 74) (t 72)]
def c254_7 : List RO := [m 75 9, m 8 75]
def c254m : Mode := ⟨false, []⟩
def c254 : RFunc := ⟨(.seq (.reg c254_0) (.block 0 (.loop (.block 1 (.seq (.reg c254_1) (.seq (.seq (.reg c254_2) (.cond (t 16) (.exit 0) .skip)) (.seq (.seq (.regD c254_3 [[], [], [], [], [], [], [], [], [], [], [], [], [], [], [], [], [], [], [], []]) (.cond (t 36) (.reg c254_4) .skip)) (.seq (.seq (.regD c254_5 [[], [], [], [], [], [], [], [], [], [], [], [], [], []]) (.cond (t 52) .ret .skip)) (.seq (.regD c254_6 [[], [], [], [], [], [], [], [], [], [], [], [], [], [], [], [], [], [], [], [], [], [], [], []]) (.reg c254_7)))))))))), 76, []⟩
def c255_0 : List RO := [p 2 (.mov (u64 0))]
def c255_1 : List RO := [m 3 0, p 4 (.toInt .u64 (t 3)), c 5 131 [(t 4)], b 6 .shl (u64 1) (t 5), m 2 6]
def c255m : Mode := ⟨false, []⟩
def c255 : RFunc := ⟨(.seq (.reg c255_0) (.seq (.reg c255_1) .ret)), 7, [.tmp 2]⟩
def c256_0 : List RO := [p 2 (.mov (u64 0))]
def c256_1 : List RO := [m 3 0, p 4 (.nilchk (t 3)), ld 5 4, m 6 0, p 7 (.nilchk (t 6)), ld 8 7, b 9 .shl (t 8) (u64 13), b 10 .xor (t 5) (t 9), p 11 (.nilchk (t 3)), s1 (t 11) (t 10)]
def c256_2 : List RO := [m 12 0, p 13 (.nilchk (t 12)), ld 14 13, m 15 0, p 16 (.nilchk (t 15)), ld 17 16, b 18 .shr (t 17) (u64 7), b 19 .xor (t 14) (t 18), p 20 (.nilchk (t 12)), s1 (t 20) (t 19)]
def c256_3 : List RO := [m 21 0, p 22 (.nilchk (t 21)), ld 23 22, m 24 0, p 25 (.nilchk (t 24)), ld 26 25, b 27 .shl (t 26) (u64 17), b 28 .xor (t 23) (t 27), p 29 (.nilchk (t 21)), s1 (t 29) (t 28)]
def c256_4 : List RO := [m 30 0, p 31 (.nilchk (t 30)), ld 32 31, m 2 32]
def c256m : Mode := ⟨false, []⟩
def c256 : RFunc := ⟨(.seq (.reg c256_0) (.seq (.regD c256_1 [[], [], [], [], [], [], [], [], [], []]) (.seq (.regD c256_2 [[], [], [], [], [], [], [], [], [], []]) (.seq (.regD c256_3 [[], [], [], [], [], [], [], [], [], []]) (.seq (.reg c256_4) .ret))))), 33, [.tmp 2]⟩
def c257_0 : List RO := [p 6 (.mov (z 0))]
def c257_1 : List RO := [m 7 0, m 8 1, b 9 .sub (t 8) (z 1), m 10 1, m 11 1, b 12 .add (t 11) (z 1), m 13 2, c 14 258 [(t 7), (t 9), (t 10), (t 12), (t 13)], m 6 14]
def c257m : Mode := ⟨false, []⟩
def c257 : RFunc := ⟨(.seq (.reg c257_0) (.seq (.reg c257_1) .ret)), 15, [.tmp 6]⟩
def c258_0 : List RO := [p 10 (.mov (z 0))]
def c258_1 : List RO := [m 12 0, m 13 1, m 14 2, m 15 4, c 16 289 [(t 12), (t 13), (t 14), (t 15)], m 11 16, ex 17 0 11, ex 18 1 11, m 1 17, m 2 18]
def c258_2 : List RO := [m 20 0, m 21 2, m 22 3, m 23 4, c 24 289 [(t 20), (t 21), (t 22), (t 23)], m 19 24, ex 25 0 19, ex 26 1 19, m 2 25, m 3 26]
def c258_3 : List RO := [m 28 0, m 29 1, m 30 2, m 31 4, c 32 289 [(t 28), (t 29), (t 30), (t 31)], m 27 32, ex 33 0 27, ex 34 1 27, m 1 33, m 2 34]
def c258_4 : List RO := [m 35 2, m 10 35]
def c258m : Mode := ⟨false, []⟩
def c258 : RFunc := ⟨(.seq (.reg c258_0) (.seq (.reg c258_1) (.seq (.reg c258_2) (.seq (.reg c258_3) (.seq (.reg c258_4) .ret))))), 36, [.tmp 10]⟩
def c259_0 : List RO := [p 2 (.mov (kb false))]
def c259_1 : List RO := [m 3 0, m 4 0, b 5 .neq (t 3) (t 4), m 2 5]
def c259m : Mode := ⟨false, []⟩
def c259 : RFunc := ⟨(.seq (.reg c259_0) (.seq (.reg c259_1) .ret)), 6, [.tmp 2]⟩
def c260_0 : List RO := [p 4 (.mov (.const .nil)), p 5 (.mov (z 0))]
def c260_1 : List RO := [m 7 0, p 8 (.eqNil 0 false (t 7)), m 6 8]
def c260_2 : List RO := [p 4 (.mov (.const .nil)), p 5 (.mov (z 1))]
def c260_3 : List RO := [m 10 1, b 11 .lss (t 10) (z 0), m 12 11, gm 13 12 false 1, gm 14 12 false 0, gp 15 12 false (.nilchk (t 14)), gfa 16 12 false 0 15, gld 17 12 false 16, gp 18 12 false (.lenS (t 17)), gb 19 12 false .geq (t 13) (t 18), p 20 (.pick (t 12) (kb true) (t 19)), m 21 20, gm 22 21 false 0, gp 23 21 false (.nilchk (t 22)), gfa 24 21 false 0 23, gld 25 21 false 24, gm 26 21 false 1, gia 27 21 false 17 25 26, gfa 28 21 false 16 27, gld 29 21 false 28, gp 30 21 false (.un .not (t 29)), p 31 (.pick (t 21) (kb true) (t 30)), m 9 31]
def c260_4 : List RO := [p 4 (.mov (.const .nil)), p 5 (.mov (z 7))]
def c260_5 : List RO := [m 32 0, p 33 (.nilchk (t 32)), fa 34 0 33, ld 35 34, m 36 1, ia 37 17 35 36, m 4 37, p 5 (.mov (z 0))]
def c260m : Mode := ⟨false, []⟩
def c260 : RFunc := ⟨(.seq (.reg c260_0) (.seq (.block 0 (.seq (.reg c260_1) (.cond (t 6) (.seq (.reg c260_2) .ret) (.seq (.reg c260_3) (.cond (t 9) (.seq (.reg c260_4) .ret) .skip))))) (.seq (.reg c260_5) .ret))), 38, [.tmp 4, .tmp 5]⟩
def c264_0 : List RO := [p 4 (.mov (z 0))]
def c264_1 : List RO := [m 6 0, ln 7 6, p 8 (.mov (z 0))]
def c264_2 : List RO := [b 9 .lss (t 8) (t 7)]
def c264_3 : List RO := [m 10 8, m 5 10]
def c264_4 : List RO := [m 11 1, m 12 0, m 13 5, ia 14 1 12 13, ld 15 14, ⟨(some 16), none, (.dyn (t 11) [(t 15)])⟩]
def c264_5 : List RO := [m 17 5, m 4 17]
def c264_6 : List RO := [b 18 .add (t 8) (z 1), m 8 18]
def c264_7 : List RO := [p 4 (.mov (z (.negSucc 0)))]
def c264m : Mode := ⟨false, []⟩
def c264 : RFunc := ⟨(.seq (.reg c264_0) (.seq (.seq (.reg c264_1) (.block 0 (.loop (.seq (.reg c264_2) (.seq (.cond (t 9) .skip (.exit 0)) (.seq (.block 1 (.seq (.reg c264_3) (.seq (.reg c264_4) (.cond (t 16) (.seq (.reg c264_5) .ret) .skip)))) (.reg c264_6))))))) (.seq (.reg c264_7) .ret))), 19, [.tmp 4]⟩
def c278_0 : List RO := [a 2 (.box (t 0)), p 3 (.mov (kb false))]
def c278_1 : List RO := [fa 4 0 2, ld 5 4, ld 6 1, b 7 .eql (t 5) (t 6), m 3 7]
def c278m : Mode := ⟨false, []⟩
def c278 : RFunc := ⟨(.seq (.reg c278_0) (.seq (.reg c278_1) .ret)), 8, [.tmp 3]⟩
def c280_0 : List RO := [m 4 0, m 5 0, ln 6 5, m 7 1, b 8 .sub (t 6) (t 7), c 9 297 [(t 4), (t 8)]]
def c280m : Mode := ⟨false, []⟩
def c280 : RFunc := ⟨(.reg c280_0), 10, []⟩
def c281_0 : List RO := [p 4 (.mov (z 0))]
def c281_1 : List RO := [m 6 0, ln 7 6, p 8 (.mov (z 0))]
def c281_2 : List RO := [b 9 .lss (t 8) (t 7)]
def c281_3 : List RO := [m 10 8, m 5 10]
def c281_4 : List RO := [m 11 1, m 12 0, m 13 5, ia 14 1 12 13, ld 15 14, b 16 .eql (t 11) (t 15)]
def c281_5 : List RO := [m 17 5, m 4 17]
def c281_6 : List RO := [b 18 .add (t 8) (z 1), m 8 18]
def c281_7 : List RO := [p 4 (.mov (z (.negSucc 0)))]
def c281m : Mode := ⟨false, []⟩
def c281 : RFunc := ⟨(.seq (.reg c281_0) (.seq (.seq (.reg c281_1) (.block 0 (.loop (.seq (.reg c281_2) (.seq (.cond (t 9) .skip (.exit 0)) (.seq (.block 1 (.seq (.reg c281_3) (.seq (.reg c281_4) (.cond (t 16) (.seq (.reg c281_5) .ret) .skip)))) (.reg c281_6))))))) (.seq (.reg c281_7) .ret))), 19, [.tmp 4]⟩
def c282_0 : List RO := [p 4 (.mov (kb false))]
def c282_1 : List RO := [m 5 0, b 6 .gtr (t 5) (u8 5), m 7 6, gm 8 7 false 1, gb 9 7 false .gtr (t 8) (u8 5), p 10 (.pick (t 7) (kb true) (t 9))]
def c282_2 : List RO := [m 11 0, m 12 1, b 13 .leq (t 11) (t 12), m 4 13]
def c282_3 : List RO := [m 14 0, c 15 91 [(t 14)], m 16 1, c 17 91 [(t 16)], c 18 298 [(t 15), (t 17)], m 4 18]
def c282m : Mode := ⟨false, []⟩
def c282 : RFunc := ⟨(.seq (.reg c282_0) (.seq (.seq (.reg c282_1) (.cond (t 10) (.seq (.reg c282_2) .ret) .skip)) (.seq (.reg c282_3) .ret))), 19, [.tmp 4]⟩
def c283_0 : List RO := [a 3 (.box (t 0)), a 4 (.box (t 1))]
def c283_1 : List RO := [fa 13 1 3, ld 14 13, fa 15 1 4, ld 16 15, m 6 14, m 7 16]
def c283_2 : List RO := [m 17 6, ln 18 17, m 19 7, ln 20 19, b 21 .add (t 18) (t 20), b 22 .eql (t 21) (z 0)]
def c283_3 : List RO := [fa 23 0 3, ld 24 23, fa 25 0 4, ld 26 25, m 8 24, m 9 26]
def c283_4 : List RO := [m 27 7, ln 28 27, b 29 .eql (t 28) (z 0), m 30 29, gm 31 30 false 6, gp 32 30 false (.lenS (t 31)), gb 33 30 false .gtr (t 32) (z 0), gm 34 30 false 33, gm 35 34 true 6, gp 36 34 true (.iaddrS 2 (t 35) (z 0)), gfa 37 34 true 0 36, gld 38 34 true 37, gm 39 34 true 7, gp 40 34 true (.iaddrS 2 (t 39) (z 0)), gfa 41 34 true 0 40, gld 42 34 true 41, gb 43 34 true .leq (t 38) (t 42), gp 44 30 false (.pick (t 34) (t 43) (kb false)), p 45 (.pick (t 30) (kb true) (t 44)), m 10 45]
def c283_5 : List RO := [m 46 6, ln 47 46, b 48 .eql (t 47) (z 0), m 49 48, gm 50 49 false 7, gp 51 49 false (.lenS (t 50)), gb 52 49 false .gtr (t 51) (z 0), gm 53 49 false 52, gm 54 53 true 7, gp 55 53 true (.iaddrS 2 (t 54) (z 0)), gfa 56 53 true 0 55, gld 57 53 true 56, gm 58 53 true 6, gp 59 53 true (.iaddrS 2 (t 58) (z 0)), gfa 60 53 true 0 59, gld 61 53 true 60, gb 62 53 true .leq (t 57) (t 61), gp 63 49 false (.pick (t 53) (t 62) (kb false)), p 64 (.pick (t 49) (kb true) (t 63)), m 11 64]
def c283_6 : List RO := [p 12 (.mov (u16 0))]
def c283_7 : List RO := [m 65 11]
def c283_8 : List RO := [m 66 7, p 67 (.iaddrS 2 (t 66) (z 0)), fa 68 0 67, ld 69 68, m 70 7, p 71 (.iaddrS 2 (t 70) (z 0)), fa 72 1 71, ld 73 72, m 74 7, p 75 (.slc 2 (t 74) (some (z 1)) none none), m 12 69, m 9 73, m 7 75]
def c283_9 : List RO := [m 76 10]
def c283_10 : List RO := [m 77 6, p 78 (.iaddrS 2 (t 77) (z 0)), fa 79 0 78, ld 80 79, m 81 6, p 82 (.iaddrS 2 (t 81) (z 0)), fa 83 1 82, ld 84 83, m 85 6, p 86 (.slc 2 (t 85) (some (z 1)) none none), m 12 80, m 8 84, m 6 86]
def c283_11 : List RO := [m 87 2, m 88 12, m 89 8, m 90 9, ⟨(some 91), none, (.dyn (t 87) [(t 88), (t 89), (t 90)])⟩]
def c283m : Mode := ⟨false, []⟩
def c283 : RFunc := ⟨(.seq (.reg c283_0) (.scope (.seq (.regD c283_1 [[], [], [], [], [], []]) (.seq (.label 0) (.seq (.seq (.reg c283_2) (.cond (t 22) .ret .skip)) (.seq (.regD c283_3 [[], [], [], [], [], []]) (.seq (.regD c283_4 [[], [], [], [], [], [], [], [], [], [], [], [], [], [], [], [], [], [], [], []]) (.seq (.regD c283_5 [[], [], [], [], [], [], [], [], [], [], [], [], [], [], [], [], [], [], [], []]) (.seq (.reg c283_6) (.seq (.seq (.reg c283_7) (.cond (t 65) (.regD c283_8 [[], [], [], [], [], [], [], [], [], [], [], [], []]) .skip)) (.seq (.seq (.reg c283_9) (.cond (t 76) (.regD c283_10 [[], [], [], [], [], [], [], [], [], [], [], [], []]) .skip)) (.seq (.reg c283_11) (.goto 0))))))))))))), 92, []⟩
def c284_0 : List RO := [ld 7 3, m 8 7, gm 9 8 true 1, gm 10 8 true 2, gc 11 8 true 282 [(t 9), (t 10)], p 12 (.pick (t 8) (t 11) (kb false)), s1 (t 3) (t 12)]
def c284m : Mode := ⟨false, []⟩
def c284 : RFunc := ⟨(.reg c284_0), 13, []⟩
def c285_0 : List RO := [p 4 (.mov (kb false))]
def c285_1 : List RO := [m 5 0, m 6 1, c 7 299 [(t 5), (t 6)], b 8 .geq (t 7) (z 0), m 4 8]
def c285m : Mode := ⟨false, []⟩
def c285 : RFunc := ⟨(.seq (.reg c285_0) (.seq (.reg c285_1) .ret)), 9, [.tmp 4]⟩
def c286_0 : List RO := [p 3 (.mov (kb false))]
def c286_1 : List RO := [ld 4 1, p 5 (.nilchk (t 4)), fa 6 1 5, ld 7 6, p 8 (.nilchk (t 7)), fa 9 0 8, la 10 2 9, m 11 0, c 12 244 [(t 10), (t 11)], b 13 .neq (t 12) (u8 0), m 3 13]
def c286m : Mode := ⟨false, []⟩
def c286 : RFunc := ⟨(.seq (.reg c286_0) (.seq (.reg c286_1) .ret)), 14, [.tmp 3]⟩
def c287_0 : List RO := [a 1 (.box (t 0)), a 2 (.alloc [(.int .u8 0), (.vs [] .full)])]
def c287_1 : List RO := [la 3 2 1, la 4 2 1, c 5 300 [(t 3), (t 4), (.const (.fn 301 [] []))], sn 2 (t 2) (t 5)]
def c287m : Mode := ⟨false, []⟩
def c287 : RFunc := ⟨(.seq (.reg c287_0) (.seq (.reg c287_1) .ret)), 6, [.cell 2 true 2]⟩
def c288_0 : List RO := [p 4 (.mov (z 0))]
def c288_1 : List RO := [m 8 0, m 9 1, c 10 260 [(t 8), (t 9)], m 7 10, ex 11 0 7, ex 12 1 7, m 5 11, m 6 12]
def c288_2 : List RO := [m 13 6, b 14 .eql (t 13) (z 0)]
def c288_3 : List RO := [m 15 5, p 16 (.nilchk (t 15)), fa 17 16 16, s1 (t 17) (kb false)]
def c288_4 : List RO := [m 18 6, m 4 18]
def c288m : Mode := ⟨false, []⟩
def c288 : RFunc := ⟨(.seq (.reg c288_0) (.seq (.reg c288_1) (.seq (.seq (.reg c288_2) (.cond (t 14) (.reg c288_3) .skip)) (.seq (.reg c288_4) .ret)))), 19, [.tmp 4]⟩
def c289_0 : List RO := [p 8 (.mov (z 0)), p 9 (.mov (z 0))]
def c289_1 : List RO := [m 10 0, m 11 2, ia 12 1 10 11, ld 13 12, m 14 0, m 15 1, ia 16 1 14 15, ld 17 16, c 18 193 [(t 13), (t 17)]]
def c289_2 : List RO := [m 19 3, p 20 (.nilchk (t 19)), ld 21 20, b 22 .add (t 21) (z 1), p 23 (.nilchk (t 19)), s1 (t 23) (t 22)]
def c289_3 : List RO := [m 24 2, m 25 1, m 8 24, m 9 25]
def c289_4 : List RO := [m 26 1, m 27 2, m 8 26, m 9 27]
def c289m : Mode := ⟨false, []⟩
def c289 : RFunc := ⟨(.seq (.reg c289_0) (.seq (.seq (.regD c289_1 [[], [], [], [], [], [], [], [], []]) (.cond (t 18) (.seq (.reg c289_2) (.seq (.reg c289_3) .ret)) .skip)) (.seq (.reg c289_4) .ret))), 28, [.tmp 8, .tmp 9]⟩
def c297_0 : List RO := [m 4 0, m 5 1, p 6 (.slc 2 (t 4) none (some (t 5)) none), c 7 304 [(t 6)]]
def c297_1 : List RO := [m 8 0, m 9 1, p 10 (.slc 2 (t 8) (some (t 9)) none none), c 11 304 [(t 10)]]
def c297_2 : List RO := [m 12 0, c 13 304 [(t 12)]]
def c297m : Mode := ⟨false, []⟩
def c297 : RFunc := ⟨(.seq (.reg c297_0) (.seq (.reg c297_1) (.reg c297_2))), 14, []⟩
def c298_0 : List RO := [p 4 (.mov (kb false))]
def c298_1 : List RO := [m 5 0, p 6 (.part false (t 5)), m 7 1, p 8 (.part false (t 7)), b 9 .leq (t 6) (t 8), m 10 9, gm 11 10 true 0, gp 12 10 true (.part true (t 11)), gm 13 10 true 1, gp 14 10 true (.part true (t 13)), gb 15 10 true .geq (t 12) (t 14), p 16 (.pick (t 10) (t 15) (kb false)), m 4 16]
def c298m : Mode := ⟨false, []⟩
def c298 : RFunc := ⟨(.seq (.reg c298_0) (.seq (.reg c298_1) .ret)), 17, [.tmp 4]⟩
def c299_0 : List RO := [p 4 (.mov (z 0))]
def c299_1 : List RO := [m 6 0, ln 7 6, p 8 (.mov (z 0))]
def c299_2 : List RO := [b 9 .lss (t 8) (t 7)]
def c299_3 : List RO := [m 10 8, m 5 10]
def c299_4 : List RO := [m 11 1, m 12 0, m 13 5, ia 14 1 12 13, ld 15 14, ⟨(some 16), none, (.dyn (t 11) [(t 15)])⟩]
def c299_5 : List RO := [m 17 5, m 4 17]
def c299_6 : List RO := [b 18 .add (t 8) (z 1), m 8 18]
def c299_7 : List RO := [p 4 (.mov (z (.negSucc 0)))]
def c299m : Mode := ⟨false, []⟩
def c299 : RFunc := ⟨(.seq (.reg c299_0) (.seq (.seq (.reg c299_1) (.block 0 (.loop (.seq (.reg c299_2) (.seq (.cond (t 9) .skip (.exit 0)) (.seq (.block 1 (.seq (.reg c299_3) (.seq (.reg c299_4) (.cond (t 16) (.seq (.reg c299_5) .ret) .skip)))) (.reg c299_6))))))) (.seq (.reg c299_7) .ret))), 19, [.tmp 4]⟩
def c300_0 : List RO := [a 3 (.box (t 0)), a 4 (.box (t 1)), a 5 (.box (t 2)), a 6 (.alloc [(.int .u8 0), (.vs [] .full)])]
def c300_1 : List RO := [ld 8 5, fa 9 0 3, ld 10 9, fa 11 0 4, ld 12 11, ⟨(some 13), none, (.dyn (t 8) [(t 10), (t 12)])⟩, p 14 (.build [(.int .u8 0), (.vs [] .full)] [(0, 1, (t 13))]), a 7 (.alloc [(.int .u8 0), (.vs [] .full)]), sn 2 (t 7) (t 14)]
def c300_2 : List RO := [la 15 2 3, la 16 2 4, p 17 (.mkfn 305 [] [(t 5), (t 7)]), c 18 283 [(t 15), (t 16), (t 17)]]
def c300_3 : List RO := [la 19 2 7, sn 2 (t 6) (t 19)]
def c300m : Mode := ⟨false, []⟩
def c300 : RFunc := ⟨(.seq (.reg c300_0) (.seq (.reg c300_1) (.seq (.reg c300_2) (.seq (.reg c300_3) .ret)))), 20, [.cell 6 true 2]⟩
def c301_0 : List RO := [p 4 (.mov (u8 0))]
def c301_1 : List RO := [m 5 0, c 6 302 [(t 5)], m 4 6]
def c301m : Mode := ⟨false, []⟩
def c301 : RFunc := ⟨(.seq (.reg c301_0) (.seq (.reg c301_1) .ret)), 7, [.tmp 4]⟩
def c302_0 : List RO := [p 2 (.mov (u8 0))]
def c302_1 : List RO := [m 3 0, b 4 .eql (t 3) (u8 0)]
def c302_2 : List RO := [p 2 (.mov (u8 5))]
def c302_3 : List RO := [m 5 0, m 2 5]
def c302m : Mode := ⟨false, []⟩
def c302 : RFunc := ⟨(.seq (.reg c302_0) (.seq (.seq (.reg c302_1) (.cond (t 4) (.seq (.reg c302_2) .ret) .skip)) (.seq (.reg c302_3) .ret))), 6, [.tmp 2]⟩
def c304_0 : List RO := [m 4 0, ln 5 4, b 6 .sub (t 5) (z 1), p 2 (.mov (z 0)), m 3 6]
def c304_1 : List RO := [m 7 2, m 8 3, b 9 .lss (t 7) (t 8)]
def c304_2 : List RO := [m 14 0, m 15 2, m 16 0, m 17 3, m 18 0, m 19 3, ia 20 2 18 19, la 21 2 20, m 22 0, m 23 2, ia 24 2 22 23, la 25 2 24, ia 26 2 14 15, sn 2 (t 26) (t 21), ia 27 2 16 17, sn 2 (t 27) (t 25)]
def c304_3 : List RO := [m 10 2, b 11 .add (t 10) (z 1), m 12 3, b 13 .sub (t 12) (z 1), m 2 11, m 3 13]
def c304m : Mode := ⟨false, []⟩
def c304 : RFunc := ⟨(.seq (.reg c304_0) (.block 0 (.loop (.seq (.seq (.reg c304_1) (.cond (t 9) .skip (.exit 0))) (.seq (.block 1 (.regD c304_2 [[], [], [], [], [], [], [], [], [], [], [], [], [], [], [], []])) (.reg c304_3)))))), 28, []⟩
def c305_0 : List RO := [ld 9 3, m 10 1, m 11 2, ⟨(some 12), none, (.dyn (t 9) [(t 10), (t 11)])⟩, m 8 12]
def c305_1 : List RO := [m 13 8, fa 14 0 4, ld 15 14, b 16 .neq (t 13) (t 15)]
def c305_2 : List RO := [fa 17 1 4, ld 18 17, m 19 0, m 20 8, p 21 (.build [(.int .u16 0), (.int .u8 0)] [(0, 1, (t 19)), (1, 1, (t 20))]), p 22 (.bslice 1 [(.int .u16 0), (.int .u8 0)] [(0, (t 21))]), e 23 (.append 4 2 (t 18) (t 22)), fa 24 1 4, s1 (t 24) (t 23)]
def c305m : Mode := ⟨false, []⟩
def c305 : RFunc := ⟨(.seq (.reg c305_0) (.seq (.reg c305_1) (.cond (t 16) (.reg c305_2) .skip))), 25, []⟩
theorem c150_ok : cFunc Tryz.prog c150m Tryz.f150 = some c150 := by kernel_rfl
theorem c151_ok : cFunc Tryz.prog c151m Tryz.f151 = some c151 := by kernel_rfl
theorem c153_ok : cFunc Tryz.prog c153m Tryz.f153 = some c153 := by kernel_rfl
theorem c155_ok : cFunc Tryz.prog c155m Tryz.f155 = some c155 := by kernel_rfl
theorem c160_ok : cFunc Tryz.prog c160m Tryz.f160 = some c160 := by kernel_rfl
theorem c167_ok : cFunc Tryz.prog c167m Tryz.f167 = some c167 := by kernel_rfl
theorem c168_ok : cFunc Tryz.prog c168m Tryz.f168 = some c168 := by kernel_rfl
theorem c169_ok : cFunc Tryz.prog c169m Tryz.f169 = some c169 := by kernel_rfl
theorem c170_ok : cFunc Tryz.prog c170m Tryz.f170 = some c170 := by kernel_rfl
theorem c171_ok : cFunc Tryz.prog c171m Tryz.f171 = some c171 := by kernel_rfl
theorem c172_ok : cFunc Tryz.prog c172m Tryz.f172 = some c172 := by kernel_rfl
theorem c173_ok : cFunc Tryz.prog c173m Tryz.f173 = some c173 := by kernel_rfl
theorem c174_ok : cFunc Tryz.prog c174m Tryz.f174 = some c174 := by kernel_rfl
theorem c175_ok : cFunc Tryz.prog c175m Tryz.f175 = some c175 := by kernel_rfl
theorem c176_ok : cFunc Tryz.prog c176m Tryz.f176 = some c176 := by kernel_rfl
theorem c177_ok : cFunc Tryz.prog c177m Tryz.f177 = some c177 := by kernel_rfl
theorem c178_ok : cFunc Tryz.prog c178m Tryz.f178 = some c178 := by kernel_rfl
theorem c179_ok : cFunc Tryz.prog c179m Tryz.f179 = some c179 := by kernel_rfl
theorem c180_ok : cFunc Tryz.prog c180m Tryz.f180 = some c180 := by kernel_rfl
theorem c181_ok : cFunc Tryz.prog c181m Tryz.f181 = some c181 := by kernel_rfl
theorem c182_ok : cFunc Tryz.prog c182m Tryz.f182 = some c182 := by kernel_rfl
theorem c183_ok : cFunc Tryz.prog c183m Tryz.f183 = some c183 := by kernel_rfl
theorem c184_ok : cFunc Tryz.prog c184m Tryz.f184 = some c184 := by kernel_rfl
theorem c185_ok : cFunc Tryz.prog c185m Tryz.f185 = some c185 := by kernel_rfl
theorem c186_ok : cFunc Tryz.prog c186m Tryz.f186 = some c186 := by kernel_rfl
theorem c187_ok : cFunc Tryz.prog c187m Tryz.f187 = some c187 := by kernel_rfl
theorem c188_ok : cFunc Tryz.prog c188m Tryz.f188 = some c188 := by kernel_rfl
theorem c189_ok : cFunc Tryz.prog c189m Tryz.f189 = some c189 := by kernel_rfl
theorem c190_ok : cFunc Tryz.prog c190m Tryz.f190 = some c190 := by kernel_rfl
theorem c191_ok : cFunc Tryz.prog c191m Tryz.f191 = some c191 := by kernel_rfl
theorem c192_ok : cFunc Tryz.prog c192m Tryz.f192 = some c192 := by kernel_rfl
theorem c193_ok : cFunc Tryz.prog c193m Tryz.f193 = some c193 := by kernel_rfl
theorem c194_ok : cFunc Tryz.prog c194m Tryz.f194 = some c194 := by kernel_rfl
theorem c195_ok : cFunc Tryz.prog c195m Tryz.f195 = some c195 := by kernel_rfl
theorem c196_ok : cFunc Tryz.prog c196m Tryz.f196 = some c196 := by kernel_rfl
theorem c197_ok : cFunc Tryz.prog c197m Tryz.f197 = some c197 := by kernel_rfl
theorem c198_ok : cFunc Tryz.prog c198m Tryz.f198 = some c198 := by kernel_rfl
theorem c199_ok : cFunc Tryz.prog c199m Tryz.f199 = some c199 := by kernel_rfl
theorem c200_ok : cFunc Tryz.prog c200m Tryz.f200 = some c200 := by kernel_rfl
theorem c201_ok : cFunc Tryz.prog c201m Tryz.f201 = some c201 := by kernel_rfl
theorem c202_ok : cFunc Tryz.prog c202m Tryz.f202 = some c202 := by kernel_rfl
theorem c203_ok : cFunc Tryz.prog c203m Tryz.f203 = some c203 := by kernel_rfl
theorem c205_ok : cFunc Tryz.prog c205m Tryz.f205 = some c205 := by kernel_rfl
theorem c206_ok : cFunc Tryz.prog c206m Tryz.f206 = some c206 := by kernel_rfl
theorem c209_ok : cFunc Tryz.prog c209m Tryz.f209 = some c209 := by kernel_rfl
theorem c210_ok : cFunc Tryz.prog c210m Tryz.f210 = some c210 := by kernel_rfl
theorem c211_ok : cFunc Tryz.prog c211m Tryz.f211 = some c211 := by kernel_rfl
theorem c212_ok : cFunc Tryz.prog c212m Tryz.f212 = some c212 := by kernel_rfl
theorem c213_ok : cFunc Tryz.prog c213m Tryz.f213 = some c213 := by kernel_rfl
theorem c214_ok : cFunc Tryz.prog c214m Tryz.f214 = some c214 := by kernel_rfl
theorem c234_ok : cFunc Tryz.prog c234m Tryz.f234 = some c234 := by kernel_rfl
theorem c235_ok : cFunc Tryz.prog c235m Tryz.f235 = some c235 := by kernel_rfl
theorem c236_ok : cFunc Tryz.prog c236m Tryz.f236 = some c236 := by kernel_rfl
theorem c237_ok : cFunc Tryz.prog c237m Tryz.f237 = some c237 := by kernel_rfl
theorem c238_ok : cFunc Tryz.prog c238m Tryz.f238 = some c238 := by kernel_rfl
theorem c240_ok : cFunc Tryz.prog c240m Tryz.f240 = some c240 := by kernel_rfl
theorem c242_ok : cFunc Tryz.prog c242m Tryz.f242 = some c242 := by kernel_rfl
theorem c243_ok : cFunc Tryz.prog c243m Tryz.f243 = some c243 := by kernel_rfl
theorem c244_ok : cFunc Tryz.prog c244m Tryz.f244 = some c244 := by kernel_rfl
theorem c245_ok : cFunc Tryz.prog c245m Tryz.f245 = some c245 := by kernel_rfl
theorem c246_ok : cFunc Tryz.prog c246m Tryz.f246 = some c246 := by kernel_rfl
theorem c247_ok : cFunc Tryz.prog c247m Tryz.f247 = some c247 := by kernel_rfl
theorem c248_ok : cFunc Tryz.prog c248m Tryz.f248 = some c248 := by kernel_rfl
theorem c249_ok : cFunc Tryz.prog c249m Tryz.f249 = some c249 := by kernel_rfl
theorem c250_ok : cFunc Tryz.prog c250m Tryz.f250 = some c250 := by kernel_rfl
theorem c251_ok : cFunc Tryz.prog c251m Tryz.f251 = some c251 := by kernel_rfl
theorem c252_ok : cFunc Tryz.prog c252m Tryz.f252 = some c252 := by kernel_rfl
theorem c253_ok : cFunc Tryz.prog c253m Tryz.f253 = some c253 := by kernel_rfl
theorem c254_ok : cFunc Tryz.prog c254m Tryz.f254 = some c254 := by kernel_rfl
theorem c255_ok : cFunc Tryz.prog c255m Tryz.f255 = some c255 := by kernel_rfl
theorem c256_ok : cFunc Tryz.prog c256m Tryz.f256 = some c256 := by kernel_rfl
theorem c257_ok : cFunc Tryz.prog c257m Tryz.f257 = some c257 := by kernel_rfl
theorem c258_ok : cFunc Tryz.prog c258m Tryz.f258 = some c258 := by kernel_rfl
theorem c259_ok : cFunc Tryz.prog c259m Tryz.f259 = some c259 := by kernel_rfl
theorem c260_ok : cFunc Tryz.prog c260m Tryz.f260 = some c260 := by kernel_rfl
theorem c264_ok : cFunc Tryz.prog c264m Tryz.f264 = some c264 := by kernel_rfl
theorem c278_ok : cFunc Tryz.prog c278m Tryz.f278 = some c278 := by kernel_rfl
theorem c280_ok : cFunc Tryz.prog c280m Tryz.f280 = some c280 := by kernel_rfl
theorem c281_ok : cFunc Tryz.prog c281m Tryz.f281 = some c281 := by kernel_rfl
theorem c282_ok : cFunc Tryz.prog c282m Tryz.f282 = some c282 := by kernel_rfl
theorem c283_ok : cFunc Tryz.prog c283m Tryz.f283 = some c283 := by kernel_rfl
theorem c284_ok : cFunc Tryz.prog c284m Tryz.f284 = some c284 := by kernel_rfl
theorem c285_ok : cFunc Tryz.prog c285m Tryz.f285 = some c285 := by kernel_rfl
theorem c286_ok : cFunc Tryz.prog c286m Tryz.f286 = some c286 := by kernel_rfl
theorem c287_ok : cFunc Tryz.prog c287m Tryz.f287 = some c287 := by kernel_rfl
theorem c288_ok : cFunc Tryz.prog c288m Tryz.f288 = some c288 := by kernel_rfl
theorem c289_ok : cFunc Tryz.prog c289m Tryz.f289 = some c289 := by kernel_rfl
theorem c297_ok : cFunc Tryz.prog c297m Tryz.f297 = some c297 := by kernel_rfl
theorem c298_ok : cFunc Tryz.prog c298m Tryz.f298 = some c298 := by kernel_rfl
theorem c299_ok : cFunc Tryz.prog c299m Tryz.f299 = some c299 := by kernel_rfl
theorem c300_ok : cFunc Tryz.prog c300m Tryz.f300 = some c300 := by kernel_rfl
theorem c301_ok : cFunc Tryz.prog c301m Tryz.f301 = some c301 := by kernel_rfl
theorem c302_ok : cFunc Tryz.prog c302m Tryz.f302 = some c302 := by kernel_rfl
theorem c304_ok : cFunc Tryz.prog c304m Tryz.f304 = some c304 := by kernel_rfl
theorem c305_ok : cFunc Tryz.prog c305m Tryz.f305 = some c305 := by kernel_rfl
def tbT : Tr RFunc := (.node (.node (.node (.node (.node (.node (.node (.node (.node .leaf (some c255) .leaf) (some c127) .leaf) none (.node .leaf (some c191) .leaf)) none (.node (.node (.node .leaf (some c287) .leaf) none .leaf) none .leaf)) (some c15) (.node (.node (.node .leaf (some c143) .leaf) (some c79) .leaf) none (.node (.node .leaf (some c175) .leaf) none .leaf))) (some c7) (.node (.node (.node (.node .leaf (some c135) .leaf) none (.node .leaf (some c199) .leaf)) (some c39) (.node (.node .leaf (some c167) .leaf) (some c103) .leaf)) none (.node (.node (.node .leaf (some c151) .leaf) none .leaf) none (.node (.node .leaf (some c183) .leaf) (some c119) (.node .leaf (some c247) .leaf))))) none (.node (.node (.node (.node (.node (.node .leaf (some c259) .leaf) (some c131) .leaf) none (.node .leaf (some c195) .leaf)) none (.node .leaf (some c99) .leaf)) (some c19) (.node (.node (.node .leaf (some c147) .leaf) (some c83) (.node .leaf (some c211) .leaf)) none (.node (.node .leaf (some c179) .leaf) none (.node .leaf (some c243) .leaf)))) none (.node (.node (.node (.node .leaf (some c139) .leaf) (some c75) (.node .leaf (some c203) .leaf)) (some c43) (.node (.node (.node .leaf (some c299) .leaf) (some c171) .leaf) none (.node .leaf (some c235) .leaf))) none (.node (.node (.node (.node .leaf (some c283) .leaf) (some c155) .leaf) (some c91) .leaf) none (.node (.node .leaf (some c187) .leaf) (some c123) (.node .leaf (some c251) .leaf)))))) none (.node (.node (.node (.node (.node (.node (.node .leaf (some c257) .leaf) (some c129) .leaf) none (.node .leaf (some c193) .leaf)) none (.node (.node (.node .leaf (some c289) .leaf) none .leaf) (some c97) .leaf)) (some c17) (.node (.node (.node .leaf (some c145) .leaf) (some c81) (.node .leaf (some c209) .leaf)) none (.node (.node (.node .leaf (some c305) .leaf) (some c177) .leaf) none .leaf))) none (.node (.node (.node (.node .leaf (some c137) .leaf) none (.node .leaf (some c201) .leaf)) (some c41) (.node (.node (.node .leaf (some c297) .leaf) (some c169) .leaf) none .leaf)) none (.node (.node (.node (.node .leaf (some c281) .leaf) (some c153) .leaf) (some c89) .leaf) (some c57) (.node (.node .leaf (some c185) .leaf) (some c121) (.node .leaf (some c249) .leaf))))) (some c5) (.node (.node (.node (.node (.node .leaf (some c133) .leaf) none (.node .leaf (some c197) .leaf)) none .leaf) (some c21) (.node (.node (.node .leaf (some c149) .leaf) (some c85) (.node .leaf (some c213) .leaf)) none (.node (.node .leaf (some c181) .leaf) (some c117) (.node .leaf (some c245) .leaf)))) none (.node (.node (.node (.node .leaf (some c141) .leaf) (some c77) (.node .leaf (some c205) .leaf)) (some c45) (.node (.node (.node .leaf (some c301) .leaf) (some c173) .leaf) none (.node .leaf (some c237) .leaf))) none (.node (.node (.node (.node .leaf (some c285) .leaf) none .leaf) (some c93) .leaf) none (.node (.node .leaf (some c189) .leaf) (some c125) (.node .leaf (some c253) .leaf))))))) none (.node (.node (.node (.node (.node (.node (.node (.node .leaf (some c256) .leaf) (some c128) .leaf) none (.node .leaf (some c192) .leaf)) none (.node (.node (.node .leaf (some c288) .leaf) (some c160) .leaf) (some c96) .leaf)) (some c16) (.node (.node .leaf (some c80) .leaf) none (.node (.node (.node .leaf (some c304) .leaf) (some c176) .leaf) none (.node .leaf (some c240) .leaf)))) none (.node (.node (.node (.node (.node .leaf (some c264) .leaf) (some c136) .leaf) (some c72) (.node .leaf (some c200) .leaf)) (some c40) (.node (.node .leaf (some c168) .leaf) (some c104) .leaf)) none (.node (.node (.node (.node .leaf (some c280) .leaf) none .leaf) none .leaf) none (.node (.node .leaf (some c184) .leaf) (some c120) (.node .leaf (some c248) .leaf))))) (some c4) (.node (.node (.node (.node (.node (.node .leaf (some c260) .leaf) (some c132) .leaf) none (.node .leaf (some c196) .leaf)) none (.node .leaf (some c100) .leaf)) (some c20) (.node (.node (.node .leaf (some c148) .leaf) (some c84) (.node .leaf (some c212) .leaf)) none (.node (.node .leaf (some c180) .leaf) none (.node .leaf (some c244) .leaf)))) none (.node (.node (.node (.node .leaf (some c140) .leaf) (some c76) .leaf) (some c44) (.node (.node (.node .leaf (some c300) .leaf) (some c172) .leaf) none (.node .leaf (some c236) .leaf))) none (.node (.node (.node (.node .leaf (some c284) .leaf) none .leaf) (some c92) .leaf) none (.node (.node .leaf (some c188) .leaf) (some c124) (.node .leaf (some c252) .leaf)))))) none (.node (.node (.node (.node (.node (.node (.node .leaf (some c258) .leaf) (some c130) .leaf) none (.node .leaf (some c194) .leaf)) none (.node .leaf (some c98) .leaf)) (some c18) (.node (.node .leaf (some c82) (.node .leaf (some c210) .leaf)) (some c50) (.node (.node .leaf (some c178) .leaf) none (.node .leaf (some c242) .leaf)))) none (.node (.node (.node .leaf none (.node .leaf (some c202) .leaf)) (some c42) (.node (.node (.node .leaf (some c298) .leaf) (some c170) .leaf) (some c106) (.node .leaf (some c234) .leaf))) none (.node (.node (.node (.node .leaf (some c282) .leaf) none .leaf) (some c90) .leaf) (some c58) (.node (.node .leaf (some c186) .leaf) (some c122) (.node .leaf (some c250) .leaf))))) none (.node (.node (.node (.node (.node .leaf (some c134) .leaf) none (.node .leaf (some c198) .leaf)) (some c38) .leaf) (some c22) (.node (.node (.node (.node .leaf (some c278) .leaf) (some c150) .leaf) (some c86) (.node .leaf (some c214) .leaf)) (some c54) (.node (.node .leaf (some c182) .leaf) (some c118) (.node .leaf (some c246) .leaf)))) none (.node (.node (.node (.node .leaf (some c142) .leaf) (some c78) (.node .leaf (some c206) .leaf)) none (.node (.node (.node .leaf (some c302) .leaf) (some c174) .leaf) none (.node .leaf (some c238) .leaf))) none (.node (.node (.node (.node .leaf (some c286) .leaf) none .leaf) none .leaf) (some c62) (.node (.node .leaf (some c190) .leaf) (some c126) (.node .leaf (some c254) .leaf))))))))
def tb : Tbl := { fn := fun n => tbT.get n, nat := fun _ => none, callable := fun n => (tbT.get n).isSome }
theorem tb_ents : tbT.ents = [(7, c7), (15, c15), (127, c127), (255, c255), (191, c191), (287, c287), (79, c79), (143, c143), (175, c175), (39, c39), (135, c135), (199, c199), (103, c103), (167, c167), (151, c151), (119, c119), (183, c183), (247, c247), (19, c19), (131, c131), (259, c259), (195, c195), (99, c99), (83, c83), (147, c147), (211, c211), (179, c179), (243, c243), (43, c43), (75, c75), (139, c139), (203, c203), (171, c171), (299, c299), (235, c235), (91, c91), (155, c155), (283, c283), (123, c123), (187, c187), (251, c251), (5, c5), (17, c17), (129, c129), (257, c257), (193, c193), (97, c97), (289, c289), (81, c81), (145, c145), (209, c209), (177, c177), (305, c305), (41, c41), (137, c137), (201, c201), (169, c169), (297, c297), (57, c57), (89, c89), (153, c153), (281, c281), (121, c121), (185, c185), (249, c249), (21, c21), (133, c133), (197, c197), (85, c85), (149, c149), (213, c213), (117, c117), (181, c181), (245, c245), (45, c45), (77, c77), (141, c141), (205, c205), (173, c173), (301, c301), (237, c237), (93, c93), (285, c285), (125, c125), (189, c189), (253, c253), (4, c4), (16, c16), (128, c128), (256, c256), (192, c192), (96, c96), (160, c160), (288, c288), (80, c80), (176, c176), (304, c304), (240, c240), (40, c40), (72, c72), (136, c136), (264, c264), (200, c200), (104, c104), (168, c168), (280, c280), (120, c120), (184, c184), (248, c248), (20, c20), (132, c132), (260, c260), (196, c196), (100, c100), (84, c84), (148, c148), (212, c212), (180, c180), (244, c244), (44, c44), (76, c76), (140, c140), (172, c172), (300, c300), (236, c236), (92, c92), (284, c284), (124, c124), (188, c188), (252, c252), (18, c18), (130, c130), (258, c258), (194, c194), (98, c98), (50, c50), (82, c82), (210, c210), (178, c178), (242, c242), (42, c42), (202, c202), (106, c106), (170, c170), (298, c298), (234, c234), (58, c58), (90, c90), (282, c282), (122, c122), (186, c186), (250, c250), (22, c22), (38, c38), (134, c134), (198, c198), (54, c54), (86, c86), (150, c150), (278, c278), (214, c214), (118, c118), (182, c182), (246, c246), (78, c78), (142, c142), (206, c206), (174, c174), (302, c302), (238, c238), (62, c62), (286, c286), (126, c126), (190, c190), (254, c254)] := by kernel_rfl
theorem tb_fns : ∀ e ∈ tbT.ents, ∃ fn md, Tryz.prog.funcs[e.1]? = some fn ∧ cFunc Tryz.prog md fn = some e.2 := by
  rw [tb_ents]
  refine List.forall_mem_cons.2 ⟨⟨Tryz.f7, c7m, Tryz.func7, c7_ok⟩, ?_⟩
  refine List.forall_mem_cons.2 ⟨⟨Tryz.f15, c15m, Tryz.func15, c15_ok⟩, ?_⟩
  refine List.forall_mem_cons.2 ⟨⟨Tryz.f127, c127m, Tryz.func127, c127_ok⟩, ?_⟩
  refine List.forall_mem_cons.2 ⟨⟨Tryz.f255, c255m, Tryz.func255, c255_ok⟩, ?_⟩
  refine List.forall_mem_cons.2 ⟨⟨Tryz.f191, c191m, Tryz.func191, c191_ok⟩, ?_⟩
  refine List.forall_mem_cons.2 ⟨⟨Tryz.f287, c287m, Tryz.func287, c287_ok⟩, ?_⟩
  refine List.forall_mem_cons.2 ⟨⟨Tryz.f79, c79m, Tryz.func79, c79_ok⟩, ?_⟩
  refine List.forall_mem_cons.2 ⟨⟨Tryz.f143, c143m, Tryz.func143, c143_ok⟩, ?_⟩
  refine List.forall_mem_cons.2 ⟨⟨Tryz.f175, c175m, Tryz.func175, c175_ok⟩, ?_⟩
  refine List.forall_mem_cons.2 ⟨⟨Tryz.f39, c39m, Tryz.func39, c39_ok⟩, ?_⟩
  refine List.forall_mem_cons.2 ⟨⟨Tryz.f135, c135m, Tryz.func135, c135_ok⟩, ?_⟩
  refine List.forall_mem_cons.2 ⟨⟨Tryz.f199, c199m, Tryz.func199, c199_ok⟩, ?_⟩
  refine List.forall_mem_cons.2 ⟨⟨Tryz.f103, c103m, Tryz.func103, c103_ok⟩, ?_⟩
  refine List.forall_mem_cons.2 ⟨⟨Tryz.f167, c167m, Tryz.func167, c167_ok⟩, ?_⟩
  refine List.forall_mem_cons.2 ⟨⟨Tryz.f151, c151m, Tryz.func151, c151_ok⟩, ?_⟩
  refine List.forall_mem_cons.2 ⟨⟨Tryz.f119, c119m, Tryz.func119, c119_ok⟩, ?_⟩
  refine List.forall_mem_cons.2 ⟨⟨Tryz.f183, c183m, Tryz.func183, c183_ok⟩, ?_⟩
  refine List.forall_mem_cons.2 ⟨⟨Tryz.f247, c247m, Tryz.func247, c247_ok⟩, ?_⟩
  refine List.forall_mem_cons.2 ⟨⟨Tryz.f19, c19m, Tryz.func19, c19_ok⟩, ?_⟩
  refine List.forall_mem_cons.2 ⟨⟨Tryz.f131, c131m, Tryz.func131, c131_ok⟩, ?_⟩
  refine List.forall_mem_cons.2 ⟨⟨Tryz.f259, c259m, Tryz.func259, c259_ok⟩, ?_⟩
  refine List.forall_mem_cons.2 ⟨⟨Tryz.f195, c195m, Tryz.func195, c195_ok⟩, ?_⟩
  refine List.forall_mem_cons.2 ⟨⟨Tryz.f99, c99m, Tryz.func99, c99_ok⟩, ?_⟩
  refine List.forall_mem_cons.2 ⟨⟨Tryz.f83, c83m, Tryz.func83, c83_ok⟩, ?_⟩
  refine List.forall_mem_cons.2 ⟨⟨Tryz.f147, c147m, Tryz.func147, c147_ok⟩, ?_⟩
  refine List.forall_mem_cons.2 ⟨⟨Tryz.f211, c211m, Tryz.func211, c211_ok⟩, ?_⟩
  refine List.forall_mem_cons.2 ⟨⟨Tryz.f179, c179m, Tryz.func179, c179_ok⟩, ?_⟩
  refine List.forall_mem_cons.2 ⟨⟨Tryz.f243, c243m, Tryz.func243, c243_ok⟩, ?_⟩
  refine List.forall_mem_cons.2 ⟨⟨Tryz.f43, c43m, Tryz.func43, c43_ok⟩, ?_⟩
  refine List.forall_mem_cons.2 ⟨⟨Tryz.f75, c75m, Tryz.func75, c75_ok⟩, ?_⟩
  refine List.forall_mem_cons.2 ⟨⟨Tryz.f139, c139m, Tryz.func139, c139_ok⟩, ?_⟩
  refine List.forall_mem_cons.2 ⟨⟨Tryz.f203, c203m, Tryz.func203, c203_ok⟩, ?_⟩
  refine List.forall_mem_cons.2 ⟨⟨Tryz.f171, c171m, Tryz.func171, c171_ok⟩, ?_⟩
  refine List.forall_mem_cons.2 ⟨⟨Tryz.f299, c299m, Tryz.func299, c299_ok⟩, ?_⟩
  refine List.forall_mem_cons.2 ⟨⟨Tryz.f235, c235m, Tryz.func235, c235_ok⟩, ?_⟩
  refine List.forall_mem_cons.2 ⟨⟨Tryz.f91, c91m, Tryz.func91, c91_ok⟩, ?_⟩
  refine List.forall_mem_cons.2 ⟨⟨Tryz.f155, c155m, Tryz.func155, c155_ok⟩, ?_⟩
  refine List.forall_mem_cons.2 ⟨⟨Tryz.f283, c283m, Tryz.func283, c283_ok⟩, ?_⟩
  refine List.forall_mem_cons.2 ⟨⟨Tryz.f123, c123m, Tryz.func123, c123_ok⟩, ?_⟩
  refine List.forall_mem_cons.2 ⟨⟨Tryz.f187, c187m, Tryz.func187, c187_ok⟩, ?_⟩
  refine List.forall_mem_cons.2 ⟨⟨Tryz.f251, c251m, Tryz.func251, c251_ok⟩, ?_⟩
  refine List.forall_mem_cons.2 ⟨⟨Tryz.f5, c5m, Tryz.func5, c5_ok⟩, ?_⟩
  refine List.forall_mem_cons.2 ⟨⟨Tryz.f17, c17m, Tryz.func17, c17_ok⟩, ?_⟩
  refine List.forall_mem_cons.2 ⟨⟨Tryz.f129, c129m, Tryz.func129, c129_ok⟩, ?_⟩
  refine List.forall_mem_cons.2 ⟨⟨Tryz.f257, c257m, Tryz.func257, c257_ok⟩, ?_⟩
  refine List.forall_mem_cons.2 ⟨⟨Tryz.f193, c193m, Tryz.func193, c193_ok⟩, ?_⟩
  refine List.forall_mem_cons.2 ⟨⟨Tryz.f97, c97m, Tryz.func97, c97_ok⟩, ?_⟩
  refine List.forall_mem_cons.2 ⟨⟨Tryz.f289, c289m, Tryz.func289, c289_ok⟩, ?_⟩
  refine List.forall_mem_cons.2 ⟨⟨Tryz.f81, c81m, Tryz.func81, c81_ok⟩, ?_⟩
  refine List.forall_mem_cons.2 ⟨⟨Tryz.f145, c145m, Tryz.func145, c145_ok⟩, ?_⟩
  refine List.forall_mem_cons.2 ⟨⟨Tryz.f209, c209m, Tryz.func209, c209_ok⟩, ?_⟩
  refine List.forall_mem_cons.2 ⟨⟨Tryz.f177, c177m, Tryz.func177, c177_ok⟩, ?_⟩
  refine List.forall_mem_cons.2 ⟨⟨Tryz.f305, c305m, Tryz.func305, c305_ok⟩, ?_⟩
  refine List.forall_mem_cons.2 ⟨⟨Tryz.f41, c41m, Tryz.func41, c41_ok⟩, ?_⟩
  refine List.forall_mem_cons.2 ⟨⟨Tryz.f137, c137m, Tryz.func137, c137_ok⟩, ?_⟩
  refine List.forall_mem_cons.2 ⟨⟨Tryz.f201, c201m, Tryz.func201, c201_ok⟩, ?_⟩
  refine List.forall_mem_cons.2 ⟨⟨Tryz.f169, c169m, Tryz.func169, c169_ok⟩, ?_⟩
  refine List.forall_mem_cons.2 ⟨⟨Tryz.f297, c297m, Tryz.func297, c297_ok⟩, ?_⟩
  refine List.forall_mem_cons.2 ⟨⟨Tryz.f57, c57m, Tryz.func57, c57_ok⟩, ?_⟩
  refine List.forall_mem_cons.2 ⟨⟨Tryz.f89, c89m, Tryz.func89, c89_ok⟩, ?_⟩
  refine List.forall_mem_cons.2 ⟨⟨Tryz.f153, c153m, Tryz.func153, c153_ok⟩, ?_⟩
  refine List.forall_mem_cons.2 ⟨⟨Tryz.f281, c281m, Tryz.func281, c281_ok⟩, ?_⟩
  refine List.forall_mem_cons.2 ⟨⟨Tryz.f121, c121m, Tryz.func121, c121_ok⟩, ?_⟩
  refine List.forall_mem_cons.2 ⟨⟨Tryz.f185, c185m, Tryz.func185, c185_ok⟩, ?_⟩
  refine List.forall_mem_cons.2 ⟨⟨Tryz.f249, c249m, Tryz.func249, c249_ok⟩, ?_⟩
  refine List.forall_mem_cons.2 ⟨⟨Tryz.f21, c21m, Tryz.func21, c21_ok⟩, ?_⟩
  refine List.forall_mem_cons.2 ⟨⟨Tryz.f133, c133m, Tryz.func133, c133_ok⟩, ?_⟩
  refine List.forall_mem_cons.2 ⟨⟨Tryz.f197, c197m, Tryz.func197, c197_ok⟩, ?_⟩
  refine List.forall_mem_cons.2 ⟨⟨Tryz.f85, c85m, Tryz.func85, c85_ok⟩, ?_⟩
  refine List.forall_mem_cons.2 ⟨⟨Tryz.f149, c149m, Tryz.func149, c149_ok⟩, ?_⟩
  refine List.forall_mem_cons.2 ⟨⟨Tryz.f213, c213m, Tryz.func213, c213_ok⟩, ?_⟩
  refine List.forall_mem_cons.2 ⟨⟨Tryz.f117, c117m, Tryz.func117, c117_ok⟩, ?_⟩
  refine List.forall_mem_cons.2 ⟨⟨Tryz.f181, c181m, Tryz.func181, c181_ok⟩, ?_⟩
  refine List.forall_mem_cons.2 ⟨⟨Tryz.f245, c245m, Tryz.func245, c245_ok⟩, ?_⟩
  refine List.forall_mem_cons.2 ⟨⟨Tryz.f45, c45m, Tryz.func45, c45_ok⟩, ?_⟩
  refine List.forall_mem_cons.2 ⟨⟨Tryz.f77, c77m, Tryz.func77, c77_ok⟩, ?_⟩
  refine List.forall_mem_cons.2 ⟨⟨Tryz.f141, c141m, Tryz.func141, c141_ok⟩, ?_⟩
  refine List.forall_mem_cons.2 ⟨⟨Tryz.f205, c205m, Tryz.func205, c205_ok⟩, ?_⟩
  refine List.forall_mem_cons.2 ⟨⟨Tryz.f173, c173m, Tryz.func173, c173_ok⟩, ?_⟩
  refine List.forall_mem_cons.2 ⟨⟨Tryz.f301, c301m, Tryz.func301, c301_ok⟩, ?_⟩
  refine List.forall_mem_cons.2 ⟨⟨Tryz.f237, c237m, Tryz.func237, c237_ok⟩, ?_⟩
  refine List.forall_mem_cons.2 ⟨⟨Tryz.f93, c93m, Tryz.func93, c93_ok⟩, ?_⟩
  refine List.forall_mem_cons.2 ⟨⟨Tryz.f285, c285m, Tryz.func285, c285_ok⟩, ?_⟩
  refine List.forall_mem_cons.2 ⟨⟨Tryz.f125, c125m, Tryz.func125, c125_ok⟩, ?_⟩
  refine List.forall_mem_cons.2 ⟨⟨Tryz.f189, c189m, Tryz.func189, c189_ok⟩, ?_⟩
  refine List.forall_mem_cons.2 ⟨⟨Tryz.f253, c253m, Tryz.func253, c253_ok⟩, ?_⟩
  refine List.forall_mem_cons.2 ⟨⟨Tryz.f4, c4m, Tryz.func4, c4_ok⟩, ?_⟩
  refine List.forall_mem_cons.2 ⟨⟨Tryz.f16, c16m, Tryz.func16, c16_ok⟩, ?_⟩
  refine List.forall_mem_cons.2 ⟨⟨Tryz.f128, c128m, Tryz.func128, c128_ok⟩, ?_⟩
  refine List.forall_mem_cons.2 ⟨⟨Tryz.f256, c256m, Tryz.func256, c256_ok⟩, ?_⟩
  refine List.forall_mem_cons.2 ⟨⟨Tryz.f192, c192m, Tryz.func192, c192_ok⟩, ?_⟩
  refine List.forall_mem_cons.2 ⟨⟨Tryz.f96, c96m, Tryz.func96, c96_ok⟩, ?_⟩
  refine List.forall_mem_cons.2 ⟨⟨Tryz.f160, c160m, Tryz.func160, c160_ok⟩, ?_⟩
  refine List.forall_mem_cons.2 ⟨⟨Tryz.f288, c288m, Tryz.func288, c288_ok⟩, ?_⟩
  refine List.forall_mem_cons.2 ⟨⟨Tryz.f80, c80m, Tryz.func80, c80_ok⟩, ?_⟩
  refine List.forall_mem_cons.2 ⟨⟨Tryz.f176, c176m, Tryz.func176, c176_ok⟩, ?_⟩
  refine List.forall_mem_cons.2 ⟨⟨Tryz.f304, c304m, Tryz.func304, c304_ok⟩, ?_⟩
  refine List.forall_mem_cons.2 ⟨⟨Tryz.f240, c240m, Tryz.func240, c240_ok⟩, ?_⟩
  refine List.forall_mem_cons.2 ⟨⟨Tryz.f40, c40m, Tryz.func40, c40_ok⟩, ?_⟩
  refine List.forall_mem_cons.2 ⟨⟨Tryz.f72, c72m, Tryz.func72, c72_ok⟩, ?_⟩
  refine List.forall_mem_cons.2 ⟨⟨Tryz.f136, c136m, Tryz.func136, c136_ok⟩, ?_⟩
  refine List.forall_mem_cons.2 ⟨⟨Tryz.f264, c264m, Tryz.func264, c264_ok⟩, ?_⟩
  refine List.forall_mem_cons.2 ⟨⟨Tryz.f200, c200m, Tryz.func200, c200_ok⟩, ?_⟩
  refine List.forall_mem_cons.2 ⟨⟨Tryz.f104, c104m, Tryz.func104, c104_ok⟩, ?_⟩
  refine List.forall_mem_cons.2 ⟨⟨Tryz.f168, c168m, Tryz.func168, c168_ok⟩, ?_⟩
  refine List.forall_mem_cons.2 ⟨⟨Tryz.f280, c280m, Tryz.func280, c280_ok⟩, ?_⟩
  refine List.forall_mem_cons.2 ⟨⟨Tryz.f120, c120m, Tryz.func120, c120_ok⟩, ?_⟩
  refine List.forall_mem_cons.2 ⟨⟨Tryz.f184, c184m, Tryz.func184, c184_ok⟩, ?_⟩
  refine List.forall_mem_cons.2 ⟨⟨Tryz.f248, c248m, Tryz.func248, c248_ok⟩, ?_⟩
  refine List.forall_mem_cons.2 ⟨⟨Tryz.f20, c20m, Tryz.func20, c20_ok⟩, ?_⟩
  refine List.forall_mem_cons.2 ⟨⟨Tryz.f132, c132m, Tryz.func132, c132_ok⟩, ?_⟩
  refine List.forall_mem_cons.2 ⟨⟨Tryz.f260, c260m, Tryz.func260, c260_ok⟩, ?_⟩
  refine List.forall_mem_cons.2 ⟨⟨Tryz.f196, c196m, Tryz.func196, c196_ok⟩, ?_⟩
  refine List.forall_mem_cons.2 ⟨⟨Tryz.f100, c100m, Tryz.func100, c100_ok⟩, ?_⟩
  refine List.forall_mem_cons.2 ⟨⟨Tryz.f84, c84m, Tryz.func84, c84_ok⟩, ?_⟩
  refine List.forall_mem_cons.2 ⟨⟨Tryz.f148, c148m, Tryz.func148, c148_ok⟩, ?_⟩
  refine List.forall_mem_cons.2 ⟨⟨Tryz.f212, c212m, Tryz.func212, c212_ok⟩, ?_⟩
  refine List.forall_mem_cons.2 ⟨⟨Tryz.f180, c180m, Tryz.func180, c180_ok⟩, ?_⟩
  refine List.forall_mem_cons.2 ⟨⟨Tryz.f244, c244m, Tryz.func244, c244_ok⟩, ?_⟩
  refine List.forall_mem_cons.2 ⟨⟨Tryz.f44, c44m, Tryz.func44, c44_ok⟩, ?_⟩
  refine List.forall_mem_cons.2 ⟨⟨Tryz.f76, c76m, Tryz.func76, c76_ok⟩, ?_⟩
  refine List.forall_mem_cons.2 ⟨⟨Tryz.f140, c140m, Tryz.func140, c140_ok⟩, ?_⟩
  refine List.forall_mem_cons.2 ⟨⟨Tryz.f172, c172m, Tryz.func172, c172_ok⟩, ?_⟩
  refine List.forall_mem_cons.2 ⟨⟨Tryz.f300, c300m, Tryz.func300, c300_ok⟩, ?_⟩
  refine List.forall_mem_cons.2 ⟨⟨Tryz.f236, c236m, Tryz.func236, c236_ok⟩, ?_⟩
  refine List.forall_mem_cons.2 ⟨⟨Tryz.f92, c92m, Tryz.func92, c92_ok⟩, ?_⟩
  refine List.forall_mem_cons.2 ⟨⟨Tryz.f284, c284m, Tryz.func284, c284_ok⟩, ?_⟩
  refine List.forall_mem_cons.2 ⟨⟨Tryz.f124, c124m, Tryz.func124, c124_ok⟩, ?_⟩
  refine List.forall_mem_cons.2 ⟨⟨Tryz.f188, c188m, Tryz.func188, c188_ok⟩, ?_⟩
  refine List.forall_mem_cons.2 ⟨⟨Tryz.f252, c252m, Tryz.func252, c252_ok⟩, ?_⟩
  refine List.forall_mem_cons.2 ⟨⟨Tryz.f18, c18m, Tryz.func18, c18_ok⟩, ?_⟩
  refine List.forall_mem_cons.2 ⟨⟨Tryz.f130, c130m, Tryz.func130, c130_ok⟩, ?_⟩
  refine List.forall_mem_cons.2 ⟨⟨Tryz.f258, c258m, Tryz.func258, c258_ok⟩, ?_⟩
  refine List.forall_mem_cons.2 ⟨⟨Tryz.f194, c194m, Tryz.func194, c194_ok⟩, ?_⟩
  refine List.forall_mem_cons.2 ⟨⟨Tryz.f98, c98m, Tryz.func98, c98_ok⟩, ?_⟩
  refine List.forall_mem_cons.2 ⟨⟨Tryz.f50, c50m, Tryz.func50, c50_ok⟩, ?_⟩
  refine List.forall_mem_cons.2 ⟨⟨Tryz.f82, c82m, Tryz.func82, c82_ok⟩, ?_⟩
  refine List.forall_mem_cons.2 ⟨⟨Tryz.f210, c210m, Tryz.func210, c210_ok⟩, ?_⟩
  refine List.forall_mem_cons.2 ⟨⟨Tryz.f178, c178m, Tryz.func178, c178_ok⟩, ?_⟩
  refine List.forall_mem_cons.2 ⟨⟨Tryz.f242, c242m, Tryz.func242, c242_ok⟩, ?_⟩
  refine List.forall_mem_cons.2 ⟨⟨Tryz.f42, c42m, Tryz.func42, c42_ok⟩, ?_⟩
  refine List.forall_mem_cons.2 ⟨⟨Tryz.f202, c202m, Tryz.func202, c202_ok⟩, ?_⟩
  refine List.forall_mem_cons.2 ⟨⟨Tryz.f106, c106m, Tryz.func106, c106_ok⟩, ?_⟩
  refine List.forall_mem_cons.2 ⟨⟨Tryz.f170, c170m, Tryz.func170, c170_ok⟩, ?_⟩
  refine List.forall_mem_cons.2 ⟨⟨Tryz.f298, c298m, Tryz.func298, c298_ok⟩, ?_⟩
  refine List.forall_mem_cons.2 ⟨⟨Tryz.f234, c234m, Tryz.func234, c234_ok⟩, ?_⟩
  refine List.forall_mem_cons.2 ⟨⟨Tryz.f58, c58m, Tryz.func58, c58_ok⟩, ?_⟩
  refine List.forall_mem_cons.2 ⟨⟨Tryz.f90, c90m, Tryz.func90, c90_ok⟩, ?_⟩
  refine List.forall_mem_cons.2 ⟨⟨Tryz.f282, c282m, Tryz.func282, c282_ok⟩, ?_⟩
  refine List.forall_mem_cons.2 ⟨⟨Tryz.f122, c122m, Tryz.func122, c122_ok⟩, ?_⟩
  refine List.forall_mem_cons.2 ⟨⟨Tryz.f186, c186m, Tryz.func186, c186_ok⟩, ?_⟩
  refine List.forall_mem_cons.2 ⟨⟨Tryz.f250, c250m, Tryz.func250, c250_ok⟩, ?_⟩
  refine List.forall_mem_cons.2 ⟨⟨Tryz.f22, c22m, Tryz.func22, c22_ok⟩, ?_⟩
  refine List.forall_mem_cons.2 ⟨⟨Tryz.f38, c38m, Tryz.func38, c38_ok⟩, ?_⟩
  refine List.forall_mem_cons.2 ⟨⟨Tryz.f134, c134m, Tryz.func134, c134_ok⟩, ?_⟩
  refine List.forall_mem_cons.2 ⟨⟨Tryz.f198, c198m, Tryz.func198, c198_ok⟩, ?_⟩
  refine List.forall_mem_cons.2 ⟨⟨Tryz.f54, c54m, Tryz.func54, c54_ok⟩, ?_⟩
  refine List.forall_mem_cons.2 ⟨⟨Tryz.f86, c86m, Tryz.func86, c86_ok⟩, ?_⟩
  refine List.forall_mem_cons.2 ⟨⟨Tryz.f150, c150m, Tryz.func150, c150_ok⟩, ?_⟩
  refine List.forall_mem_cons.2 ⟨⟨Tryz.f278, c278m, Tryz.func278, c278_ok⟩, ?_⟩
  refine List.forall_mem_cons.2 ⟨⟨Tryz.f214, c214m, Tryz.func214, c214_ok⟩, ?_⟩
  refine List.forall_mem_cons.2 ⟨⟨Tryz.f118, c118m, Tryz.func118, c118_ok⟩, ?_⟩
  refine List.forall_mem_cons.2 ⟨⟨Tryz.f182, c182m, Tryz.func182, c182_ok⟩, ?_⟩
  refine List.forall_mem_cons.2 ⟨⟨Tryz.f246, c246m, Tryz.func246, c246_ok⟩, ?_⟩
  refine List.forall_mem_cons.2 ⟨⟨Tryz.f78, c78m, Tryz.func78, c78_ok⟩, ?_⟩
  refine List.forall_mem_cons.2 ⟨⟨Tryz.f142, c142m, Tryz.func142, c142_ok⟩, ?_⟩
  refine List.forall_mem_cons.2 ⟨⟨Tryz.f206, c206m, Tryz.func206, c206_ok⟩, ?_⟩
  refine List.forall_mem_cons.2 ⟨⟨Tryz.f174, c174m, Tryz.func174, c174_ok⟩, ?_⟩
  refine List.forall_mem_cons.2 ⟨⟨Tryz.f302, c302m, Tryz.func302, c302_ok⟩, ?_⟩
  refine List.forall_mem_cons.2 ⟨⟨Tryz.f238, c238m, Tryz.func238, c238_ok⟩, ?_⟩
  refine List.forall_mem_cons.2 ⟨⟨Tryz.f62, c62m, Tryz.func62, c62_ok⟩, ?_⟩
  refine List.forall_mem_cons.2 ⟨⟨Tryz.f286, c286m, Tryz.func286, c286_ok⟩, ?_⟩
  refine List.forall_mem_cons.2 ⟨⟨Tryz.f126, c126m, Tryz.func126, c126_ok⟩, ?_⟩
  refine List.forall_mem_cons.2 ⟨⟨Tryz.f190, c190m, Tryz.func190, c190_ok⟩, ?_⟩
  refine List.forall_mem_cons.2 ⟨⟨Tryz.f254, c254m, Tryz.func254, c254_ok⟩, ?_⟩
  intro e he
  cases he
theorem tb_calls : ∀ e ∈ tbT.ents, callable Tryz.prog e.1 = true := by
  rw [tb_ents]
  refine List.all_eq_true.1 (?_ : List.all _ (fun e : Nat × RFunc => callable Tryz.prog e.1) = true)
  kernel_rfl
theorem tb_ok : TblOK Tryz.prog tb where
  follow := by kernel_rfl
  fn f rf h := tb_fns (f, rf) (Tr.get_ents h)
  nat f g h := by cases h
  callable f h := by
    obtain ⟨rf, hr⟩ := Option.isSome_iff_exists.1 h
    exact tb_calls (f, rf) (Tr.get_ents hr)
def ntT : Tr (List AV → CH → Option (AV × CH)) := (.node (.node (.node .leaf none (.node .leaf none (.node (.node .leaf none (.node .leaf none (.node .leaf (some (delN)) .leaf))) none .leaf))) none (.node .leaf none (.node (.node .leaf none (.node .leaf none (.node .leaf (some (cloneN 4 2)) .leaf))) none .leaf))) none (.node (.node (.node .leaf none (.node (.node (.node .leaf (some (cloneN 1 1)) .leaf) none .leaf) none .leaf)) none .leaf) none (.node .leaf none (.node (.node .leaf none (.node (.node .leaf none (.node .leaf (some (cloneN 2 1)) .leaf)) none .leaf)) none (.node (.node (.node .leaf none (.node .leaf (some (usedN)) .leaf)) none (.node .leaf none (.node .leaf (some (insN)) .leaf))) none .leaf)))))
theorem nt_ents : ntT.ents = [(235, delN), (117, cloneN 4 2), (72, cloneN 1 1), (214, cloneN 2 1), (206, usedN), (238, insN)] := by kernel_rfl
theorem nt_ok : ∀ e ∈ ntT.ents, ∀ args H v H', e.2 args H = some (v, H') → ACalls Tryz.prog e.1 args H.den v H'.den := by
  rw [nt_ents]
  refine List.forall_mem_cons.2 ⟨fun args H v H' h => delN_ok tb_ok (show tb.fn 235 = some lcDel from by kernel_rfl) args H v H' h, ?_⟩
  refine List.forall_mem_cons.2 ⟨fun args H v H' h => cloneN_ok tb_ok (z := [(.int .u16 0), (.int .u8 0)]) (show tb.fn 117 = some (lcClone [(.int .u16 0), (.int .u8 0)] 4 2) from by kernel_rfl) args H v H' h, ?_⟩
  refine List.forall_mem_cons.2 ⟨fun args H v H' h => cloneN_ok tb_ok (z := [(.int .u8 0)]) (show tb.fn 72 = some (lcClone [(.int .u8 0)] 1 1) from by kernel_rfl) args H v H' h, ?_⟩
  refine List.forall_mem_cons.2 ⟨fun args H v H' h => cloneN_ok tb_ok (z := [(.int .u16 0)]) (show tb.fn 214 = some (lcClone [(.int .u16 0)] 2 1) from by kernel_rfl) args H v H' h, ?_⟩
  refine List.forall_mem_cons.2 ⟨fun args H v H' h => usedN_ok tb_ok (show tb.fn 206 = some lcUsed from by kernel_rfl) args H v H' h, ?_⟩
  refine List.forall_mem_cons.2 ⟨fun args H v H' h => insN_ok tb_ok (show tb.fn 238 = some (lcIns (.seq (.reg c238_18) (.seq (.reg c238_19) (.seq (.reg c238_20) .ret)))) from by kernel_rfl) args H v H' h, ?_⟩
  intro e he
  cases he
def tb1 : Tbl := tb.with ntT
theorem tb1_ok : TblOK Tryz.prog tb1 := tb_ok.with nt_ok
end Go.Proofs.YtdhhfiaepnemcaaGreat.Am
