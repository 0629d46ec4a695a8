/- The program's functions as the abstract machine's code (the second part, the table): each is what the compiler of the machine makes of the program's own text. Conditions: none. -/
import Derived.Test.YtjkllffbjeajhaaGreatCodeA
set_option maxRecDepth 100000
set_option linter.unusedVariables false
namespace Go.Proofs.YtjkllffbjeajhaaGreat.Am
open Go Go.Proofs.YtjkllffbjeajhaaGreat
def c139_0 : List RO := [a 1 (.box (t 0)), p 2 (.mov (kb false))]
def c139_1 : List RO := [fa 3 4 1, la 4 3 3, c 5 64 [(t 4)], m 6 5, gfa 7 6 true 4 1, gfa 8 6 true 2 7, gld 9 6 true 8, gp 10 6 true (.lenS (t 9)), gb 11 6 true .eql (t 10) (z 0), p 12 (.pick (t 6) (t 11) (kb false)), m 2 12]
def c139m : Mode := ⟨false, []⟩
def c139 : RFunc := ⟨(.seq (.reg c139_0) (.seq (.reg c139_1) .ret)), 13, [.tmp 2]⟩
def c140_0 : List RO := [p 2 (.mov (kb false))]
def c140_1 : List RO := [p 3 (.mov (z 1))]
def c140_2 : List RO := [m 4 3, m 5 0, ln 6 5, b 7 .geq (t 4) (t 6)]
def c140_3 : List RO := [p 2 (.mov (kb true))]
def c140_4 : List RO := [m 8 0, m 9 3, b 10 .sub (t 9) (z 1), ia 11 1 8 10, ld 12 11, m 13 0, m 14 3, ia 15 1 13 14, ld 16 15, b 17 .geq (t 12) (t 16)]
def c140_5 : List RO := [p 2 (.mov (kb false))]
def c140_6 : List RO := [m 18 3, b 19 .add (t 18) (z 1), m 3 19]
def c140m : Mode := ⟨false, []⟩
def c140 : RFunc := ⟨(.seq (.reg c140_0) (.scope (.seq (.reg c140_1) (.seq (.label 0) (.seq (.seq (.reg c140_2) (.cond (t 7) (.seq (.reg c140_3) .ret) .skip)) (.seq (.seq (.regD c140_4 [[], [], [], [], [], [], [], [], [], []]) (.cond (t 17) (.seq (.reg c140_5) .ret) .skip)) (.seq (.reg c140_6) (.goto 0)))))))), 20, [.tmp 2]⟩
def c141_0 : List RO := [p 6 (.mov (.const (.vs [] .full)))]
def c141_1 : List RO := [p 7 (.mov (.const (.vs [] .full)))]
def c141_2 : List RO := [m 11 0, ln 12 11, m 13 1, ln 14 13, b 15 .add (t 12) (t 14), b 16 .eql (t 15) (z 0)]
def c141_3 : List RO := [m 17 7, m 6 17]
def c141_4 : List RO := [m 18 1, ln 19 18, b 20 .eql (t 19) (z 0), m 21 20, gm 22 21 false 0, gp 23 21 false (.lenS (t 22)), gb 24 21 false .gtr (t 23) (z 0), gm 25 21 false 24, gm 26 25 true 0, gp 27 25 true (.iaddrS 1 (t 26) (z 0)), gld 28 25 true 27, gm 29 25 true 1, gp 30 25 true (.iaddrS 1 (t 29) (z 0)), gld 31 25 true 30, gb 32 25 true .leq (t 28) (t 31), gp 33 21 false (.pick (t 25) (t 32) (kb false)), p 34 (.pick (t 21) (kb true) (t 33)), m 8 34]
def c141_5 : List RO := [m 35 0, ln 36 35, b 37 .eql (t 36) (z 0), m 38 37, gm 39 38 false 1, gp 40 38 false (.lenS (t 39)), gb 41 38 false .gtr (t 40) (z 0), gm 42 38 false 41, gm 43 42 true 1, gp 44 42 true (.iaddrS 1 (t 43) (z 0)), gld 45 42 true 44, gm 46 42 true 0, gp 47 42 true (.iaddrS 1 (t 46) (z 0)), gld 48 42 true 47, gb 49 42 true .leq (t 45) (t 48), gp 50 38 false (.pick (t 42) (t 49) (kb false)), p 51 (.pick (t 38) (kb true) (t 50)), m 9 51]
def c141_6 : List RO := [p 10 (.mov (u16 0))]
def c141_7 : List RO := [m 52 9]
def c141_8 : List RO := [m 53 1, p 54 (.iaddrS 1 (t 53) (z 0)), ld 55 54, m 56 1, p 57 (.slc 1 (t 56) (some (z 1)) none none), m 10 55, m 1 57]
def c141_9 : List RO := [m 58 8]
def c141_10 : List RO := [m 59 0, p 60 (.iaddrS 1 (t 59) (z 0)), ld 61 60, m 62 0, p 63 (.slc 1 (t 62) (some (z 1)) none none), m 10 61, m 0 63]
def c141_11 : List RO := [m 64 2, m 65 8, m 66 9, ⟨(some 67), none, (.dyn (t 64) [(t 65), (t 66)])⟩]
def c141_12 : List RO := [m 68 7, m 69 10, p 70 (.bslice 1 [(.int .u16 0)] [(0, (t 69))]), e 71 (.append 2 1 (t 68) (t 70)), m 7 71]
def c141m : Mode := ⟨false, []⟩
def c141 : RFunc := ⟨(.seq (.reg c141_0) (.scope (.seq (.reg c141_1) (.seq (.label 0) (.seq (.seq (.reg c141_2) (.cond (t 16) (.seq (.reg c141_3) .ret) .skip)) (.seq (.regD c141_4 [[], [], [], [], [], [], [], [], [], [], [], [], [], [], [], [], [], []]) (.seq (.regD c141_5 [[], [], [], [], [], [], [], [], [], [], [], [], [], [], [], [], [], []]) (.seq (.reg c141_6) (.seq (.seq (.reg c141_7) (.cond (t 52) (.regD c141_8 [[], [], [], [], [], [], []]) .skip)) (.seq (.seq (.reg c141_9) (.cond (t 58) (.regD c141_10 [[], [], [], [], [], [], []]) .skip)) (.seq (.seq (.reg c141_11) (.cond (t 67) (.reg c141_12) .skip)) (.goto 0)))))))))))), 72, [.tmp 6]⟩
def c142_0 : List RO := [p 4 (.mov (kb false))]
def c142_1 : List RO := [p 4 (.mov (kb true))]
def c142m : Mode := ⟨false, []⟩
def c142 : RFunc := ⟨(.seq (.reg c142_0) (.seq (.reg c142_1) .ret)), 5, [.tmp 4]⟩
def c143_0 : List RO := [p 2 (.mov (z 0))]
def c143_1 : List RO := [p 3 (.mov (u64 0)), p 4 (.mov (u64 0))]
def c143_2 : List RO := [p 5 (.mov (z 0))]
def c143_3 : List RO := [m 7 0, c 8 178 [(t 7), (z 1)], m 6 8, ex 9 0 6, ex 10 1 6, m 3 9, m 2 10]
def c143_4 : List RO := [m 11 2, b 12 .neq (t 11) (z 0)]
def c143_5 : List RO := [m 13 2, m 2 13]
def c143_6 : List RO := [m 14 3, b 15 .neq (t 14) (u64 2)]
def c143_7 : List RO := [p 2 (.mov (z 2))]
def c143_8 : List RO := [m 17 0, c 18 178 [(t 17), (z 1)], m 16 18, ex 19 0 16, ex 20 1 16, m 4 19, m 2 20]
def c143_9 : List RO := [m 21 2, b 22 .neq (t 21) (z 0)]
def c143_10 : List RO := [m 23 2, m 2 23]
def c143_11 : List RO := [m 24 0, m 25 4, p 26 (.toInt .i64 (t 25)), p 27 (.nilchk (t 24)), fa 28 1 27, fa 29 1 28, s1 (t 29) (t 26)]
def c143_12 : List RO := [m 30 4, b 31 .lss (t 30) (u64 1), m 32 31, gm 33 32 false 4, gb 34 32 false .gtr (t 33) (u64 4), p 35 (.pick (t 32) (kb true) (t 34))]
def c143_13 : List RO := [p 2 (.mov (z 2))]
def c143_14 : List RO := [m 37 0, m 38 0, c 39 178 [(t 38), (z 8)], m 36 39, ex 40 0 36, ex 41 1 36, p 42 (.nilchk (t 37)), fa 43 1 42, fa 44 0 43, s1 (t 44) (t 40), m 2 41]
def c143_15 : List RO := [m 45 2, b 46 .neq (t 45) (z 0)]
def c143_16 : List RO := [m 47 2, m 2 47]
def c143_17 : List RO := [m 49 0, m 50 0, p 51 (.nilchk (t 50)), fa 52 0 51, ld 53 52, c 54 179 [(t 53)], m 48 54, ex 55 0 48, ex 56 1 48, ex 57 2 48, p 58 (.nilchk (t 49)), fa 59 1 58, fa 60 4 59, sn 3 (t 60) (t 55), m 5 56, m 2 57]
def c143_18 : List RO := [m 61 2, b 62 .neq (t 61) (z 0)]
def c143_19 : List RO := [m 63 2, m 2 63]
def c143_20 : List RO := [m 64 0, m 65 0, p 66 (.nilchk (t 65)), fa 67 0 66, ld 68 67, m 69 5, p 70 (.slc 1 (t 68) (some (t 69)) none none), p 71 (.nilchk (t 64)), fa 72 0 71, s1 (t 72) (t 70)]
def c143_21 : List RO := [p 2 (.mov (z 0))]
def c143m : Mode := ⟨false, []⟩
def c143 : RFunc := ⟨(.seq (.reg c143_0) (.seq (.reg c143_1) (.seq (.reg c143_2) (.seq (.seq (.reg c143_3) (.seq (.reg c143_4) (.cond (t 12) (.seq (.reg c143_5) .ret) .skip))) (.seq (.seq (.reg c143_6) (.cond (t 15) (.seq (.reg c143_7) .ret) .skip)) (.seq (.seq (.reg c143_8) (.seq (.reg c143_9) (.cond (t 22) (.seq (.reg c143_10) .ret) .skip))) (.seq (.seq (.reg c143_11) (.seq (.reg c143_12) (.cond (t 35) (.seq (.reg c143_13) .ret) .skip))) (.seq (.seq (.reg c143_14) (.seq (.reg c143_15) (.cond (t 46) (.seq (.reg c143_16) .ret) .skip))) (.seq (.seq (.reg c143_17) (.seq (.reg c143_18) (.cond (t 62) (.seq (.reg c143_19) .ret) .skip))) (.seq (.reg c143_20) (.seq (.reg c143_21) .ret))))))))))), 73, [.tmp 2]⟩
def c144_0 : List RO := [p 2 (.mov (z 0))]
def c144_1 : List RO := [p 3 (.mov (z 0))]
def c144_2 : List RO := [m 4 0, p 5 (.nilchk (t 4)), fa 6 1 5, fa 7 1 6, ld 8 7]
def c144_3 : List RO := [b 23 .eql (t 8) (z 1), m 22 23]
def c144_4 : List RO := [m 24 0, c 25 180 [(t 24)], m 2 25]
def c144_5 : List RO := [b 27 .eql (t 8) (z 2), m 26 27]
def c144_6 : List RO := [m 29 0, m 30 0, p 31 (.nilchk (t 30)), fa 32 0 31, ld 33 32, c 34 169 [(t 33)], m 28 34, ex 35 0 28, ex 36 1 28, ex 37 2 28, p 38 (.nilchk (t 29)), fa 39 1 38, fa 40 10 39, s1 (t 40) (t 35), m 3 36, m 2 37]
def c144_7 : List RO := [b 42 .eql (t 8) (z 3), m 41 42]
def c144_8 : List RO := [m 44 0, m 45 0, p 46 (.nilchk (t 45)), fa 47 0 46, ld 48 47, c 49 170 [(t 48)], m 43 49, ex 50 0 43, ex 51 1 43, ex 52 2 43, p 53 (.nilchk (t 44)), fa 54 1 53, fa 55 11 54, s1 (t 55) (t 50), m 3 51, m 2 52]
def c144_9 : List RO := [m 10 0, m 11 0, p 12 (.nilchk (t 11)), fa 13 0 12, ld 14 13, c 15 171 [(t 14)], m 9 15, ex 16 0 9, ex 17 1 9, ex 18 2 9, p 19 (.nilchk (t 10)), fa 20 1 19, fa 21 12 20, s1 (t 21) (t 16), m 3 17, m 2 18]
def c144_10 : List RO := [m 56 0, m 57 0, p 58 (.nilchk (t 57)), fa 59 0 58, ld 60 59, m 61 3, p 62 (.slc 1 (t 60) (some (t 61)) none none), p 63 (.nilchk (t 56)), fa 64 0 63, s1 (t 64) (t 62)]
def c144_11 : List RO := [m 65 2, m 2 65]
def c144m : Mode := ⟨false, []⟩
def c144 : RFunc := ⟨(.seq (.reg c144_0) (.seq (.reg c144_1) (.seq (.seq (.reg c144_2) (.block 0 (.seq (.reg c144_3) (.cond (t 22) (.seq (.reg c144_4) .ret) (.seq (.reg c144_5) (.cond (t 26) (.reg c144_6) (.seq (.reg c144_7) (.cond (t 41) (.reg c144_8) (.reg c144_9))))))))) (.seq (.reg c144_10) (.seq (.reg c144_11) .ret))))), 66, [.tmp 2]⟩
def c145_0 : List RO := [p 4 (.mov (kb false))]
def c145_1 : List RO := [m 5 0, p 6 (.eqNil 0 true (t 5)), m 7 6, gm 8 7 true 1, gb 9 7 true .geq (t 8) (z 0), p 10 (.pick (t 7) (t 9) (kb false)), m 11 10, gm 12 11 true 1, gm 13 11 true 0, gp 14 11 true (.nilchk (t 13)), gfa 15 11 true 0 14, gld 16 11 true 15, gp 17 11 true (.lenS (t 16)), gb 18 11 true .lss (t 12) (t 17), p 19 (.pick (t 11) (t 18) (kb false)), m 4 19]
def c145m : Mode := ⟨false, []⟩
def c145 : RFunc := ⟨(.seq (.reg c145_0) (.seq (.reg c145_1) .ret)), 20, [.tmp 4]⟩
def c146_0 : List RO := [p 4 (.mov (kb false))]
def c146_1 : List RO := [m 5 0, p 6 (.eqNil 0 true (t 5)), m 7 6, gm 8 7 true 1, gb 9 7 true .geq (t 8) (z 0), p 10 (.pick (t 7) (t 9) (kb false)), m 11 10, gm 12 11 true 1, gm 13 11 true 0, gp 14 11 true (.nilchk (t 13)), gfa 15 11 true 0 14, gld 16 11 true 15, gp 17 11 true (.lenS (t 16)), gb 18 11 true .lss (t 12) (t 17), p 19 (.pick (t 11) (t 18) (kb false)), m 4 19]
def c146m : Mode := ⟨false, []⟩
def c146 : RFunc := ⟨(.seq (.reg c146_0) (.seq (.reg c146_1) .ret)), 20, [.tmp 4]⟩
def c147_0 : List RO := [a 6 (.box (t 2)), a 8 (.alloc [(.int .i64 0), (.int .i64 0), (.int .u64 0), (.vs [] .full)]), p 9 (.mov (kb false))]
def c147_1 : List RO := [m 14 0, m 15 0, p 16 (.nilchk (t 15)), fa 17 0 16, ld 18 17, m 19 1, ia 20 12 18 19, m 21 1, m 22 1, p 23 (.build [(.int .i64 0), (.int .i64 0), (.int .u64 0), (.vs [] .full)] [(0, 1, (t 22))]), p 24 (.build [.nil, .nil, (.int .i64 0), (.int .i64 0), (.int .i64 0), (.int .u64 0), (.vs [] .full)] [(0, 1, (t 14)), (1, 1, (t 20)), (2, 1, (t 21)), (3, 4, (t 23))]), a 25 (.box (t 24)), m 10 25]
def c147_2 : List RO := [m 26 10, p 27 (.nilchk (t 26)), fa 28 1 27, ld 29 28, m 11 29]
def c147_3 : List RO := [m 30 11, m 31 11, m 32 11, m 33 11, m 34 11, p 35 (.nilchk (t 30)), fa 36 6 35, s1 (t 36) (z 0), p 37 (.nilchk (t 31)), fa 38 7 37, s1 (t 38) (u64 0), p 39 (.nilchk (t 32)), fa 40 8 39, s1 (t 40) (u64 0), p 41 (.nilchk (t 33)), fa 42 9 41, s1 (t 42) (z 0), p 43 (.nilchk (t 34)), fa 44 10 43, s1 (t 44) (z 0)]
def c147_4 : List RO := [m 46 10, la 47 13 6, m 48 3, c 49 181 [(t 46), (t 47), (t 48)], m 45 49, ex 50 0 45, ex 51 1 45, m 12 50, m 13 51]
def c147_5 : List RO := [m 53 12, p 54 (.un .not (t 53)), m 52 54]
def c147_6 : List RO := [p 55 (.build [(.int .i64 0), (.int .i64 0), (.int .u64 0), (.vs [] .full)] []), sn 4 (t 8) (t 55), p 9 (.mov (kb false))]
def c147_7 : List RO := [m 57 13, b 58 .neq (t 57) (z 0), m 56 58]
def c147_8 : List RO := [m 59 1, m 60 13, p 61 (.build [(.int .i64 0), (.int .i64 0), (.int .u64 0), (.vs [] .full)] [(0, 1, (t 59)), (1, 1, (t 60))]), sn 4 (t 8) (t 61), p 9 (.mov (kb true))]
def c147_9 : List RO := [m 62 10, p 63 (.nilchk (t 62)), fa 64 3 63, la 65 4 64, sn 4 (t 8) (t 65), p 9 (.mov (kb true))]
def c147m : Mode := ⟨false, []⟩
def c147 : RFunc := ⟨(.seq (.reg c147_0) (.seq (.reg c147_1) (.seq (.reg c147_2) (.seq (.reg c147_3) (.seq (.reg c147_4) (.seq (.block 0 (.seq (.reg c147_5) (.cond (t 52) (.seq (.reg c147_6) .ret) (.seq (.reg c147_7) (.cond (t 56) (.seq (.reg c147_8) .ret) .skip))))) (.seq (.reg c147_9) .ret))))))), 66, [.cell 8 true 4, .tmp 9]⟩
def c148_0 : List RO := [a 6 (.box (t 2)), a 8 (.alloc [(.int .i64 0), (.int .i64 0), (.int .u64 0), (.vs [] .full)]), p 9 (.mov (kb false))]
def c148_1 : List RO := [m 14 0, m 15 0, p 16 (.nilchk (t 15)), fa 17 0 16, ld 18 17, m 19 1, ia 20 12 18 19, m 21 1, m 22 1, p 23 (.build [(.int .i64 0), (.int .i64 0), (.int .u64 0), (.vs [] .full)] [(0, 1, (t 22))]), p 24 (.build [.nil, .nil, (.int .i64 0), (.int .i64 0), (.int .i64 0), (.int .u64 0), (.vs [] .full)] [(0, 1, (t 14)), (1, 1, (t 20)), (2, 1, (t 21)), (3, 4, (t 23))]), a 25 (.box (t 24)), m 10 25]
def c148_2 : List RO := [m 26 10, p 27 (.nilchk (t 26)), fa 28 1 27, ld 29 28, m 11 29]
def c148_3 : List RO := [m 30 11, m 31 11, m 32 11, m 33 11, m 34 11, p 35 (.nilchk (t 30)), fa 36 6 35, s1 (t 36) (z 0), p 37 (.nilchk (t 31)), fa 38 7 37, s1 (t 38) (u64 0), p 39 (.nilchk (t 32)), fa 40 8 39, s1 (t 40) (u64 0), p 41 (.nilchk (t 33)), fa 42 9 41, s1 (t 42) (z 0), p 43 (.nilchk (t 34)), fa 44 10 43, s1 (t 44) (z 0)]
def c148_4 : List RO := [m 46 10, la 47 13 6, m 48 3, c 49 182 [(t 46), (t 47), (t 48)], m 45 49, ex 50 0 45, ex 51 1 45, m 12 50, m 13 51]
def c148_5 : List RO := [m 53 12, p 54 (.un .not (t 53)), m 52 54]
def c148_6 : List RO := [p 55 (.build [(.int .i64 0), (.int .i64 0), (.int .u64 0), (.vs [] .full)] []), sn 4 (t 8) (t 55), p 9 (.mov (kb false))]
def c148_7 : List RO := [m 57 13, b 58 .neq (t 57) (z 0), m 56 58]
def c148_8 : List RO := [m 59 1, m 60 13, p 61 (.build [(.int .i64 0), (.int .i64 0), (.int .u64 0), (.vs [] .full)] [(0, 1, (t 59)), (1, 1, (t 60))]), sn 4 (t 8) (t 61), p 9 (.mov (kb true))]
def c148_9 : List RO := [m 62 10, p 63 (.nilchk (t 62)), fa 64 3 63, la 65 4 64, sn 4 (t 8) (t 65), p 9 (.mov (kb true))]
def c148m : Mode := ⟨false, []⟩
def c148 : RFunc := ⟨(.seq (.reg c148_0) (.seq (.reg c148_1) (.seq (.reg c148_2) (.seq (.reg c148_3) (.seq (.reg c148_4) (.seq (.block 0 (.seq (.reg c148_5) (.cond (t 52) (.seq (.reg c148_6) .ret) (.seq (.reg c148_7) (.cond (t 56) (.seq (.reg c148_8) .ret) .skip))))) (.seq (.reg c148_9) .ret))))))), 66, [.cell 8 true 4, .tmp 9]⟩
def c149_0 : List RO := [a 3 (.box (t 1)), a 4 (.alloc [(.int .i64 0), (.int .i64 0), (.int .u64 0), (.vs [] .full)])]
def c149_1 : List RO := [p 5 (.mov (z 0))]
def c149_2 : List RO := [m 8 0]
def c149_3 : List RO := [b 11 .eql (t 8) (z 11), m 10 11]
def c149_4 : List RO := [p 5 (.mov (z 1))]
def c149_5 : List RO := [b 13 .eql (t 8) (z 12), m 12 13]
def c149_6 : List RO := [la 9 4 3, sn 4 (t 4) (t 9)]
def c149_7 : List RO := [fa 14 1 3, ld 15 14, b 16 .neq (t 15) (z 0), m 17 16, gfa 18 17 false 3 3, gld 19 17 false 18, gp 20 17 false (.lenS (t 19)), gm 21 17 false 5, gb 22 17 false .lss (t 20) (t 21), p 23 (.pick (t 17) (kb true) (t 22))]
def c149_8 : List RO := [la 24 4 3, sn 4 (t 4) (t 24)]
def c149_9 : List RO := [fa 26 3 3, ld 27 26, m 28 5, p 29 (.slc 1 (t 27) (some (t 28)) none none), c 30 183 [(t 29)], m 25 30, ex 31 0 25, ex 32 1 25, m 6 31, m 7 32]
def c149_10 : List RO := [m 33 7]
def c149_11 : List RO := [p 34 (.bslice 0 [(.int .u8 0)] []), fa 35 3 3, ld 36 35, m 37 5, p 38 (.slc 1 (t 36) none (some (t 37)) none), e 39 (.append 1 1 (t 34) (t 38)), m 40 6, e 41 (.append 1 1 (t 39) (t 40)), fa 42 3 3, s1 (t 42) (t 41)]
def c149_12 : List RO := [la 43 4 3, sn 4 (t 4) (t 43)]
def c149m : Mode := ⟨false, []⟩
def c149 : RFunc := ⟨(.seq (.reg c149_0) (.seq (.reg c149_1) (.seq (.seq (.reg c149_2) (.block 0 (.seq (.reg c149_3) (.cond (t 10) (.reg c149_4) (.seq (.reg c149_5) (.cond (t 12) .skip (.seq (.reg c149_6) .ret))))))) (.seq (.seq (.reg c149_7) (.cond (t 23) (.seq (.reg c149_8) .ret) .skip)) (.seq (.seq (.reg c149_9) (.seq (.reg c149_10) (.cond (t 33) (.reg c149_11) .skip))) (.seq (.reg c149_12) .ret)))))), 44, [.cell 4 true 4]⟩
def c150_0 : List RO := [p 4 (.mov (u64 0)), p 5 (.mov (z 0))]
def c150_1 : List RO := [m 8 1, b 9 .lss (t 8) (z 0), m 10 9, gm 11 10 false 1, gb 12 10 false .gtr (t 11) (z 8), p 13 (.pick (t 10) (kb true) (t 12)), m 7 13]
def c150_2 : List RO := [p 4 (.mov (u64 0)), p 5 (.mov (z 1))]
def c150_3 : List RO := [m 15 0, ln 16 15, m 17 1, b 18 .lss (t 16) (t 17), m 14 18]
def c150_4 : List RO := [p 4 (.mov (u64 0)), p 5 (.mov (z 3))]
def c150_5 : List RO := [p 6 (.mov (z 0))]
def c150_6 : List RO := [m 19 6, m 20 1, b 21 .lss (t 19) (t 20)]
def c150_7 : List RO := [m 22 4, b 23 .shl (t 22) (u64 8), m 24 0, m 25 6, ia 26 1 24 25, ld 27 26, p 28 (.toInt .u64 (t 27)), b 29 .or (t 23) (t 28), m 4 29]
def c150_8 : List RO := [m 30 6, b 31 .add (t 30) (z 1), m 6 31]
def c150_9 : List RO := [m 32 4, m 4 32, p 5 (.mov (z 0))]
def c150m : Mode := ⟨false, []⟩
def c150 : RFunc := ⟨(.seq (.reg c150_0) (.scope (.seq (.block 0 (.seq (.reg c150_1) (.cond (t 7) (.seq (.reg c150_2) .ret) (.seq (.reg c150_3) (.cond (t 14) (.seq (.reg c150_4) .ret) .skip))))) (.seq (.reg c150_5) (.seq (.label 0) (.seq (.seq (.reg c150_6) (.cond (t 21) (.seq (.reg c150_7) (.seq (.reg c150_8) (.goto 0))) .skip)) (.seq (.reg c150_9) .ret))))))), 33, [.tmp 4, .tmp 5]⟩
def c151_0 : List RO := [m 6 2, b 7 .neq (t 6) (z 0)]
def c151_1 : List RO := [m 8 0, m 9 2, p 10 (.nilchk (t 8)), fa 11 1 10, s1 (t 11) (t 9)]
def c151_2 : List RO := [m 12 0, m 13 0, p 14 (.nilchk (t 13)), fa 15 0 14, ld 16 15, m 17 1, p 18 (.slc 1 (t 16) (some (t 17)) none none), p 19 (.nilchk (t 12)), fa 20 0 19, s1 (t 20) (t 18)]
def c151m : Mode := ⟨false, []⟩
def c151 : RFunc := ⟨(.seq (.seq (.reg c151_0) (.cond (t 7) (.seq (.reg c151_1) .ret) .skip)) (.reg c151_2)), 21, []⟩
def c152_0 : List RO := [m 7 0, p 8 (.nilchk (t 7)), fa 9 1 8, ld 10 9, b 11 .eql (t 10) (z 0)]
def c152_1 : List RO := [m 13 0, p 14 (.nilchk (t 13)), fa 15 0 14, ld 16 15, c 17 167 [(t 16)], m 12 17, ex 18 0 12, ex 19 1 12, ex 20 2 12, a 4 (.alloc [(.int .u8 0), (.vs [] .full)]), sn 2 (t 4) (t 18), m 5 19, m 6 20]
def c152_2 : List RO := [m 21 0, m 22 5, m 23 6, c 24 151 [(t 21), (t 22), (t 23)]]
def c152_3 : List RO := [m 25 1, la 26 2 4, p 27 (.nilchk (t 25)), fa 28 6 27, sn 2 (t 28) (t 26)]
def c152m : Mode := ⟨false, []⟩
def c152 : RFunc := ⟨(.seq (.reg c152_0) (.cond (t 11) (.seq (.reg c152_1) (.seq (.reg c152_2) (.reg c152_3))) .skip)), 29, []⟩
def c153_0 : List RO := [m 4 1, m 5 0, c 6 107 [(t 5), (z 1)], p 7 (.toInt .i64 (t 6)), p 8 (.nilchk (t 4)), fa 9 1 8, s1 (t 9) (t 7)]
def c153_1 : List RO := [m 10 1, m 11 0, c 12 107 [(t 11), (z 8)], p 13 (.nilchk (t 10)), fa 14 2 13, s1 (t 14) (t 12)]
def c153_2 : List RO := [m 15 0, m 16 1, c 17 152 [(t 15), (t 16)]]
def c153_3 : List RO := [m 18 1, p 19 (.nilchk (t 18)), fa 20 1 19, ld 21 20]
def c153_4 : List RO := [b 23 .eql (t 21) (z 1), m 22 23]
def c153_5 : List RO := [m 24 1, m 25 0, c 26 107 [(t 25), (z 2)], p 27 (.toInt .i64 (t 26)), p 28 (.nilchk (t 24)), fa 29 5 28, s1 (t 29) (t 27)]
def c153_6 : List RO := [b 31 .eql (t 21) (z 2), m 30 31]
def c153_7 : List RO := [m 32 1, m 33 0, c 34 154 [(t 33)], p 35 (.nilchk (t 32)), fa 36 11 35, s1 (t 36) (t 34)]
def c153_8 : List RO := [b 38 .eql (t 21) (z 3), m 37 38]
def c153_9 : List RO := [m 39 1, m 40 0, c 41 184 [(t 40)], p 42 (.nilchk (t 39)), fa 43 12 42, s1 (t 43) (t 41)]
def c153m : Mode := ⟨false, []⟩
def c153 : RFunc := ⟨(.seq (.reg c153_0) (.seq (.reg c153_1) (.seq (.reg c153_2) (.seq (.reg c153_3) (.block 0 (.seq (.reg c153_4) (.cond (t 22) (.reg c153_5) (.seq (.reg c153_6) (.cond (t 30) (.reg c153_7) (.seq (.reg c153_8) (.cond (t 37) (.reg c153_9) .skip))))))))))), 44, []⟩
def c154_0 : List RO := [p 2 (.mov (.const (.vs [] .full)))]
def c154_1 : List RO := [m 5 0, p 6 (.nilchk (t 5)), fa 7 1 6, ld 8 7, b 9 .eql (t 8) (z 0)]
def c154_2 : List RO := [p 3 (.mov (z 0))]
def c154_3 : List RO := [p 4 (.mov (z 0))]
def c154_4 : List RO := [m 11 0, p 12 (.nilchk (t 11)), fa 13 0 12, ld 14 13, c 15 169 [(t 14)], m 10 15, ex 16 0 10, ex 17 1 10, ex 18 2 10, m 2 16, m 3 17, m 4 18]
def c154_5 : List RO := [m 19 0, m 20 3, m 21 4, c 22 151 [(t 19), (t 20), (t 21)]]
def c154_6 : List RO := [m 23 2, m 2 23]
def c154m : Mode := ⟨false, []⟩
def c154 : RFunc := ⟨(.seq (.reg c154_0) (.seq (.seq (.reg c154_1) (.cond (t 9) (.seq (.reg c154_2) (.seq (.reg c154_3) (.seq (.reg c154_4) (.reg c154_5)))) .skip)) (.seq (.reg c154_6) .ret))), 24, [.tmp 2]⟩
def c155_0 : List RO := [m 6 2, b 7 .neq (t 6) (z 0)]
def c155_1 : List RO := [m 8 0, m 9 2, p 10 (.nilchk (t 8)), fa 11 1 10, s1 (t 11) (t 9)]
def c155_2 : List RO := [m 12 0, m 13 0, p 14 (.nilchk (t 13)), fa 15 0 14, ld 16 15, m 17 1, p 18 (.slc 1 (t 16) (some (t 17)) none none), p 19 (.nilchk (t 12)), fa 20 0 19, s1 (t 20) (t 18)]
def c155m : Mode := ⟨false, []⟩
def c155 : RFunc := ⟨(.seq (.seq (.reg c155_0) (.cond (t 7) (.seq (.reg c155_1) .ret) .skip)) (.reg c155_2)), 21, []⟩
def c156_0 : List RO := [m 7 0, p 8 (.nilchk (t 7)), fa 9 1 8, ld 10 9, b 11 .eql (t 10) (z 0)]
def c156_1 : List RO := [m 13 0, p 14 (.nilchk (t 13)), fa 15 0 14, ld 16 15, c 17 179 [(t 16)], m 12 17, ex 18 0 12, ex 19 1 12, ex 20 2 12, a 4 (.alloc [(.vs [] .full), (.vs [] .full), (.vs [] .full)]), sn 3 (t 4) (t 18), m 5 19, m 6 20]
def c156_2 : List RO := [m 21 0, m 22 5, m 23 6, c 24 155 [(t 21), (t 22), (t 23)]]
def c156_3 : List RO := [m 25 1, la 26 3 4, p 27 (.nilchk (t 25)), fa 28 8 27, sn 3 (t 28) (t 26)]
def c156m : Mode := ⟨false, []⟩
def c156 : RFunc := ⟨(.seq (.reg c156_0) (.cond (t 11) (.seq (.reg c156_1) (.seq (.reg c156_2) (.reg c156_3))) .skip)), 29, []⟩
def c157_0 : List RO := [m 4 1, m 5 0, c 6 109 [(t 5), (z 1)], p 7 (.toInt .i64 (t 6)), p 8 (.nilchk (t 4)), fa 9 1 8, s1 (t 9) (t 7)]
def c157_1 : List RO := [m 10 1, m 11 0, c 12 109 [(t 11), (z 8)], p 13 (.nilchk (t 10)), fa 14 2 13, s1 (t 14) (t 12)]
def c157_2 : List RO := [m 15 0, m 16 1, c 17 156 [(t 15), (t 16)]]
def c157_3 : List RO := [m 18 1, p 19 (.nilchk (t 18)), fa 20 1 19, ld 21 20]
def c157_4 : List RO := [b 23 .eql (t 21) (z 1), m 22 23]
def c157_5 : List RO := [m 24 1, m 25 0, c 26 109 [(t 25), (z 2)], p 27 (.toInt .i64 (t 26)), p 28 (.nilchk (t 24)), fa 29 5 28, s1 (t 29) (t 27)]
def c157_6 : List RO := [b 31 .eql (t 21) (z 2), m 30 31]
def c157_7 : List RO := [m 32 1, m 33 0, c 34 158 [(t 33)], p 35 (.nilchk (t 32)), fa 36 11 35, s1 (t 36) (t 34)]
def c157_8 : List RO := [b 38 .eql (t 21) (z 3), m 37 38]
def c157_9 : List RO := [m 39 1, m 40 0, c 41 185 [(t 40)], p 42 (.nilchk (t 39)), fa 43 12 42, s1 (t 43) (t 41)]
def c157m : Mode := ⟨false, []⟩
def c157 : RFunc := ⟨(.seq (.reg c157_0) (.seq (.reg c157_1) (.seq (.reg c157_2) (.seq (.reg c157_3) (.block 0 (.seq (.reg c157_4) (.cond (t 22) (.reg c157_5) (.seq (.reg c157_6) (.cond (t 30) (.reg c157_7) (.seq (.reg c157_8) (.cond (t 37) (.reg c157_9) .skip))))))))))), 44, []⟩
def c158_0 : List RO := [p 2 (.mov (.const (.vs [] .full)))]
def c158_1 : List RO := [m 5 0, p 6 (.nilchk (t 5)), fa 7 1 6, ld 8 7, b 9 .eql (t 8) (z 0)]
def c158_2 : List RO := [p 3 (.mov (z 0))]
def c158_3 : List RO := [p 4 (.mov (z 0))]
def c158_4 : List RO := [m 11 0, p 12 (.nilchk (t 11)), fa 13 0 12, ld 14 13, c 15 169 [(t 14)], m 10 15, ex 16 0 10, ex 17 1 10, ex 18 2 10, m 2 16, m 3 17, m 4 18]
def c158_5 : List RO := [m 19 0, m 20 3, m 21 4, c 22 155 [(t 19), (t 20), (t 21)]]
def c158_6 : List RO := [m 23 2, m 2 23]
def c158m : Mode := ⟨false, []⟩
def c158 : RFunc := ⟨(.seq (.reg c158_0) (.seq (.seq (.reg c158_1) (.cond (t 9) (.seq (.reg c158_2) (.seq (.reg c158_3) (.seq (.reg c158_4) (.reg c158_5)))) .skip)) (.seq (.reg c158_6) .ret))), 24, [.tmp 2]⟩
def c159_0 : List RO := [a 1 (.box (t 0)), p 2 (.mov (kb false))]
def c159_1 : List RO := [fa 3 0 1, ld 4 3, b 5 .eql (t 4) (u8 2), m 6 5, gfa 7 6 true 1 1, gld 8 6 true 7, gc 9 6 true 186 [(t 8), (.const (.fn 187 [] []))], gp 10 6 true (.un .not (t 9)), p 11 (.pick (t 6) (t 10) (kb false)), m 2 11]
def c159m : Mode := ⟨false, []⟩
def c159 : RFunc := ⟨(.seq (.reg c159_0) (.seq (.reg c159_1) .ret)), 12, [.tmp 2]⟩
def c160_0 : List RO := [a 1 (.box (t 0)), p 2 (.mov (.const (.vs [] .full)))]
def c160_1 : List RO := [p 3 (.mov (.const (.vs [] .full)))]
def c160_2 : List RO := [fa 6 1 1, ld 7 6, ln 8 7, p 9 (.mov (z 0))]
def c160_3 : List RO := [b 10 .lss (t 9) (t 8)]
def c160_4 : List RO := [ia 11 2 7 9, la 12 2 11, a 5 (.alloc [(.int .u16 0), (.int .u8 0)]), sn 2 (t 5) (t 12)]
def c160_5 : List RO := [fa 13 1 5, ld 14 13, b 15 .eql (t 14) (u8 0)]
def c160_6 : List RO := [m 16 3, fa 17 0 5, ld 18 17, p 19 (.bslice 1 [(.int .u16 0)] [(0, (t 18))]), e 20 (.append 2 1 (t 16) (t 19)), m 3 20]
def c160_7 : List RO := [b 21 .add (t 9) (z 1), m 9 21]
def c160_8 : List RO := [m 22 3, m 2 22]
def c160m : Mode := ⟨false, []⟩
def c160 : RFunc := ⟨(.seq (.reg c160_0) (.seq (.reg c160_1) (.seq (.seq (.reg c160_2) (.block 0 (.loop (.seq (.reg c160_3) (.seq (.cond (t 10) .skip (.exit 0)) (.seq (.block 1 (.seq (.reg c160_4) (.seq (.reg c160_5) (.cond (t 15) (.reg c160_6) .skip)))) (.reg c160_7))))))) (.seq (.reg c160_8) .ret)))), 23, [.tmp 2]⟩
def c161_0 : List RO := [p 4 (.mov (kb false))]
def c161_1 : List RO := [m 5 0, m 6 1, c 7 188 [(t 5), (t 6)], b 8 .geq (t 7) (z 0), m 4 8]
def c161m : Mode := ⟨false, []⟩
def c161 : RFunc := ⟨(.seq (.reg c161_0) (.seq (.reg c161_1) .ret)), 9, [.tmp 4]⟩
def c162_0 : List RO := [p 2 (.mov (kb false))]
def c162_1 : List RO := [m 3 0, ln 4 3, b 5 .gtr (t 4) (z 16), m 2 5]
def c162m : Mode := ⟨false, []⟩
def c162 : RFunc := ⟨(.seq (.reg c162_0) (.seq (.reg c162_1) .ret)), 6, [.tmp 2]⟩
def c163_0 : List RO := [p 4 (.mov (.const .nils))]
def c163_1 : List RO := [m 5 1, b 6 .lss (t 5) (z 0)]
def c163_2 : List RO := [p 7 (.stuck), ⟨none, none, (.p (.stuck))⟩]
def c163_3 : List RO := [m 8 1, m 9 0, p 10 (.capS (t 9)), m 11 0, ln 12 11, b 13 .sub (t 10) (t 12), b 14 .sub (t 8) (t 13), m 1 14]
def c163_4 : List RO := [m 15 1, b 16 .gtr (t 15) (z 0)]
def c163_5 : List RO := [m 17 0, m 18 0, p 19 (.capS (t 18)), p 20 (.slc 1 (t 17) none (some (t 19)) none), m 21 1, e 22 (.appendZ 1 [(.int .u8 0)] (t 20) (t 21)), m 23 0, ln 24 23, p 25 (.slc 1 (t 22) none (some (t 24)) none), m 0 25]
def c163_6 : List RO := [m 26 0, m 4 26]
def c163m : Mode := ⟨true, []⟩
def c163 : RFunc := ⟨(.seq (.reg c163_0) (.seq (.seq (.reg c163_1) (.cond (t 6) (.reg c163_2) .skip)) (.seq (.seq (.reg c163_3) (.seq (.reg c163_4) (.cond (t 16) (.reg c163_5) .skip))) (.seq (.reg c163_6) .ret)))), 27, [.tmp 4]⟩
def c164_0 : List RO := [p 4 (.mov (.const .nil)), p 5 (.mov (z 0))]
def c164_1 : List RO := [m 7 0, p 8 (.eqNil 0 false (t 7)), m 6 8]
def c164_2 : List RO := [p 4 (.mov (.const .nil)), p 5 (.mov (z 1))]
def c164_3 : List RO := [m 10 1, b 11 .lss (t 10) (z 0), m 12 11, gm 13 12 false 1, gm 14 12 false 0, gp 15 12 false (.nilchk (t 14)), gfa 16 12 false 0 15, gld 17 12 false 16, gp 18 12 false (.lenS (t 17)), gb 19 12 false .geq (t 13) (t 18), p 20 (.pick (t 12) (kb true) (t 19)), m 21 20, gm 22 21 false 0, gp 23 21 false (.nilchk (t 22)), gfa 24 21 false 0 23, gld 25 21 false 24, gm 26 21 false 1, gia 27 21 false 17 25 26, gfa 28 21 false 16 27, gld 29 21 false 28, gp 30 21 false (.un .not (t 29)), p 31 (.pick (t 21) (kb true) (t 30)), m 9 31]
def c164_4 : List RO := [p 4 (.mov (.const .nil)), p 5 (.mov (z 7))]
def c164_5 : List RO := [m 32 0, p 33 (.nilchk (t 32)), fa 34 0 33, ld 35 34, m 36 1, ia 37 17 35 36, m 4 37, p 5 (.mov (z 0))]
def c164m : Mode := ⟨false, []⟩
def c164 : RFunc := ⟨(.seq (.reg c164_0) (.seq (.block 0 (.seq (.reg c164_1) (.cond (t 6) (.seq (.reg c164_2) .ret) (.seq (.reg c164_3) (.cond (t 9) (.seq (.reg c164_4) .ret) .skip))))) (.seq (.reg c164_5) .ret))), 38, [.tmp 4, .tmp 5]⟩
def c165_0 : List RO := [p 0 (.mov (.const (.vs [] .full)))]
def c165_1 : List RO := [p 1 (.bslice 6 [(.cpx .f64 0 0)] [(0, (.const (.cpx .f64 13830554455654793216 4611686018427387904))), (1, (.const (.cpx .f64 0 4607182418800017408))), (2, (.const (.cpx .f64 0 0))), (3, (.const (.cpx .f64 4602678819172646912 0))), (4, (.const (.cpx .f64 4607182418800017408 0))), (5, (.const (.cpx .f64 4611686018427387904 13830554455654793216)))]), m 0 1]
def c165m : Mode := ⟨false, []⟩
def c165 : RFunc := ⟨(.seq (.reg c165_0) (.seq (.reg c165_1) .ret)), 2, [.tmp 0]⟩
def c166_0 : List RO := [p 4 (.mov (u64 0)), p 5 (.mov (z 0))]
def c166_1 : List RO := [m 9 0, p 10 (.nilchk (t 9)), fa 11 0 10, ld 12 11, m 13 1, c 14 150 [(t 12), (t 13)], m 8 14, ex 15 0 8, ex 16 1 8, m 6 15, m 7 16]
def c166_2 : List RO := [m 17 7, b 18 .neq (t 17) (z 0)]
def c166_3 : List RO := [m 19 7, p 4 (.mov (u64 0)), m 5 19]
def c166_4 : List RO := [m 20 0, m 21 0, p 22 (.nilchk (t 21)), fa 23 0 22, ld 24 23, m 25 1, p 26 (.slc 1 (t 24) (some (t 25)) none none), p 27 (.nilchk (t 20)), fa 28 0 27, s1 (t 28) (t 26)]
def c166_5 : List RO := [m 29 6, m 4 29, p 5 (.mov (z 0))]
def c166m : Mode := ⟨false, []⟩
def c166 : RFunc := ⟨(.seq (.reg c166_0) (.seq (.reg c166_1) (.seq (.seq (.reg c166_2) (.cond (t 18) (.seq (.reg c166_3) .ret) .skip)) (.seq (.reg c166_4) (.seq (.reg c166_5) .ret))))), 30, [.tmp 4, .tmp 5]⟩
def c167_0 : List RO := [a 2 (.alloc [(.int .u8 0), (.vs [] .full)]), p 3 (.mov (z 0)), p 4 (.mov (z 0))]
def c167_1 : List RO := [m 8 0, ln 9 8, b 10 .lss (t 9) (z 2)]
def c167_2 : List RO := [p 11 (.build [(.int .u8 0), (.vs [] .full)] []), sn 2 (t 2) (t 11), p 3 (.mov (z 0)), p 4 (.mov (z 3))]
def c167_3 : List RO := [m 12 0, p 13 (.iaddrS 1 (t 12) (z 0)), ld 14 13, fa 15 0 2, s1 (t 15) (t 14), p 3 (.mov (z 2))]
def c167_4 : List RO := [m 16 0, p 17 (.iaddrS 1 (t 16) (z 1)), ld 18 17, p 19 (.toInt .i64 (t 18)), m 5 19]
def c167_5 : List RO := [m 20 5, b 21 .gtr (t 20) (z 0)]
def c167_6 : List RO := [m 22 0, ln 23 22, m 24 3, b 25 .sub (t 23) (t 24), b 26 .lss (t 25) (z 3)]
def c167_7 : List RO := [p 27 (.build [(.int .u8 0), (.vs [] .full)] []), sn 2 (t 2) (t 27), p 3 (.mov (z 0)), p 4 (.mov (z 3))]
def c167_8 : List RO := [m 29 0, m 30 3, p 31 (.slc 1 (t 29) (some (t 30)) none none), c 32 150 [(t 31), (z 2)], m 28 32, ex 33 0 28, ex 34 1 28, m 6 33, m 7 34]
def c167_9 : List RO := [fa 35 1 2, ld 36 35, m 37 6, p 38 (.toInt .u16 (t 37)), m 39 0, m 40 3, b 41 .add (t 40) (z 3), b 42 .sub (t 41) (z 1), ia 43 1 39 42, ld 44 43, p 45 (.build [(.int .u16 0), (.int .u8 0)] [(0, 1, (t 38)), (1, 1, (t 44))]), p 46 (.bslice 1 [(.int .u16 0), (.int .u8 0)] [(0, (t 45))]), e 47 (.append 4 2 (t 36) (t 46)), fa 48 1 2, s1 (t 48) (t 47)]
def c167_10 : List RO := [m 49 3, b 50 .add (t 49) (z 3), m 3 50]
def c167_11 : List RO := [m 51 5, b 52 .sub (t 51) (z 1), m 5 52]
def c167_12 : List RO := [la 53 2 2, c 54 28 [(t 53)], p 55 (.un .not (t 54))]
def c167_13 : List RO := [p 56 (.build [(.int .u8 0), (.vs [] .full)] []), sn 2 (t 2) (t 56), p 3 (.mov (z 0)), p 4 (.mov (z 2))]
def c167_14 : List RO := [la 57 2 2, m 58 3, sn 2 (t 2) (t 57), m 3 58, p 4 (.mov (z 0))]
def c167m : Mode := ⟨false, []⟩
def c167 : RFunc := ⟨(.seq (.reg c167_0) (.scope (.seq (.seq (.reg c167_1) (.cond (t 10) (.seq (.reg c167_2) .ret) .skip)) (.seq (.reg c167_3) (.seq (.reg c167_4) (.seq (.label 0) (.seq (.seq (.reg c167_5) (.cond (t 21) (.seq (.seq (.reg c167_6) (.cond (t 26) (.seq (.reg c167_7) .ret) .skip)) (.seq (.reg c167_8) (.seq (.regD c167_9 [[], [], [], [], [], [], [], [], [], [], [], [], [], [], []]) (.seq (.reg c167_10) (.seq (.reg c167_11) (.goto 0)))))) .skip)) (.seq (.seq (.reg c167_12) (.cond (t 55) (.seq (.reg c167_13) .ret) .skip)) (.seq (.reg c167_14) .ret))))))))), 59, [.cell 2 true 2, .tmp 3, .tmp 4]⟩
def c168_0 : List RO := [p 2 (.mov (z 0))]
def c168_1 : List RO := [m 6 0, p 7 (.nilchk (t 6)), fa 8 1 7, fa 9 7 8, m 10 0, p 11 (.nilchk (t 10)), fa 12 1 11, fa 13 8 12, m 14 0, p 15 (.nilchk (t 14)), fa 16 1 15, fa 17 9 16, p 18 (.bslice 3 [.nil] [(0, (t 9)), (1, (t 13)), (2, (t 17))]), m 3 18]
def c168_2 : List RO := [m 19 3, ln 20 19, b 21 .eql (t 20) (z 0)]
def c168_3 : List RO := [p 2 (.mov (z 0))]
def c168_4 : List RO := [m 23 0, c 24 166 [(t 23), (z 2)], m 22 24, ex 25 0 22, ex 26 1 22, m 4 25, m 5 26]
def c168_5 : List RO := [m 27 5, b 28 .neq (t 27) (z 0)]
def c168_6 : List RO := [m 29 5, m 2 29]
def c168_7 : List RO := [m 30 3, p 31 (.iaddrS 1 (t 30) (z 0)), ld 32 31, m 33 4, p 34 (.toInt .i64 (t 33)), m 35 3, p 36 (.slc 1 (t 35) (some (z 1)) none none), p 37 (.nilchk (t 32)), s1 (t 37) (t 34), m 3 36]
def c168m : Mode := ⟨false, []⟩
def c168 : RFunc := ⟨(.seq (.reg c168_0) (.scope (.seq (.regD c168_1 [[], [], [], [], [], [], [], [], [], [], [], [], [], []]) (.seq (.label 0) (.seq (.seq (.reg c168_2) (.cond (t 21) (.seq (.reg c168_3) .ret) .skip)) (.seq (.reg c168_4) (.seq (.seq (.reg c168_5) (.cond (t 28) (.seq (.reg c168_6) .ret) .skip)) (.seq (.regD c168_7 [[], [], [], [], [], [], [], [], [], []]) (.goto 0))))))))), 38, [.tmp 2]⟩
def c169_0 : List RO := [p 2 (.mov (.const (.vs [] .full))), p 3 (.mov (z 0)), p 4 (.mov (z 0))]
def c169_1 : List RO := [m 7 0, c 8 150 [(t 7), (z 2)], m 6 8, ex 9 0 6, ex 10 1 6, m 5 9, m 4 10]
def c169_2 : List RO := [m 11 4, b 12 .neq (t 11) (z 0)]
def c169_3 : List RO := [m 13 4, p 2 (.mov (.const (.vs [] .full))), p 3 (.mov (z 0)), m 4 13]
def c169_4 : List RO := [m 14 0, ln 15 14, b 16 .sub (t 15) (z 2), m 17 5, p 18 (.toInt .i64 (t 17)), b 19 .lss (t 16) (t 18)]
def c169_5 : List RO := [p 2 (.mov (.const (.vs [] .full))), p 3 (.mov (z 0)), p 4 (.mov (z 3))]
def c169_6 : List RO := [m 20 0, m 21 5, p 22 (.toInt .i64 (t 21)), b 23 .add (z 2) (t 22), p 24 (.slc 1 (t 20) (some (z 2)) (some (t 23)) none), c 25 39 [(t 24)], m 26 5, p 27 (.toInt .i64 (t 26)), b 28 .add (z 2) (t 27), m 2 25, m 3 28, p 4 (.mov (z 0))]
def c169m : Mode := ⟨false, []⟩
def c169 : RFunc := ⟨(.seq (.reg c169_0) (.seq (.reg c169_1) (.seq (.seq (.reg c169_2) (.cond (t 12) (.seq (.reg c169_3) .ret) .skip)) (.seq (.seq (.reg c169_4) (.cond (t 19) (.seq (.reg c169_5) .ret) .skip)) (.seq (.reg c169_6) .ret))))), 29, [.tmp 2, .tmp 3, .tmp 4]⟩
def c170_0 : List RO := [p 2 (.mov (.const (.vs [] .full))), p 3 (.mov (z 0)), p 4 (.mov (z 0))]
def c170_1 : List RO := [m 10 0, c 11 150 [(t 10), (z 1)], m 9 11, ex 12 0 9, ex 13 1 9, m 5 12, m 4 13]
def c170_2 : List RO := [m 14 4, b 15 .neq (t 14) (z 0)]
def c170_3 : List RO := [m 16 4, p 2 (.mov (.const (.vs [] .full))), p 3 (.mov (z 0)), m 4 16]
def c170_4 : List RO := [m 17 5, p 18 (.toInt .i64 (t 17)), b 19 .mul (z 2) (t 18), b 20 .add (z 1) (t 19), m 3 20]
def c170_5 : List RO := [m 21 0, ln 22 21, m 23 3, b 24 .lss (t 22) (t 23)]
def c170_6 : List RO := [p 2 (.mov (.const (.vs [] .full))), p 3 (.mov (z 0)), p 4 (.mov (z 3))]
def c170_7 : List RO := [m 25 5, p 26 (.toInt .i64 (t 25)), p 27 (.mov (z 0))]
def c170_8 : List RO := [b 28 .lss (t 27) (t 26)]
def c170_9 : List RO := [m 29 27, m 6 29]
def c170_10 : List RO := [m 31 0, m 32 6, b 33 .mul (z 2) (t 32), b 34 .add (z 1) (t 33), p 35 (.slc 1 (t 31) (some (t 34)) none none), c 36 150 [(t 35), (z 2)], m 30 36, ex 37 0 30, ex 38 1 30, m 7 37, m 8 38]
def c170_11 : List RO := [m 39 2, m 40 7, p 41 (.toInt .u16 (t 40)), p 42 (.bslice 1 [(.int .u16 0)] [(0, (t 41))]), e 43 (.append 2 1 (t 39) (t 42)), m 2 43]
def c170_12 : List RO := [b 44 .add (t 27) (z 1), m 27 44]
def c170_13 : List RO := [m 45 2, c 46 99 [(t 45)], p 47 (.un .not (t 46))]
def c170_14 : List RO := [p 2 (.mov (.const (.vs [] .full))), p 3 (.mov (z 0)), p 4 (.mov (z 2))]
def c170_15 : List RO := [m 48 2, m 49 3, m 2 48, m 3 49, p 4 (.mov (z 0))]
def c170m : Mode := ⟨false, []⟩
def c170 : RFunc := ⟨(.seq (.reg c170_0) (.seq (.reg c170_1) (.seq (.seq (.reg c170_2) (.cond (t 15) (.seq (.reg c170_3) .ret) .skip)) (.seq (.reg c170_4) (.seq (.seq (.reg c170_5) (.cond (t 24) (.seq (.reg c170_6) .ret) .skip)) (.seq (.seq (.reg c170_7) (.block 0 (.loop (.seq (.reg c170_8) (.seq (.cond (t 28) .skip (.exit 0)) (.seq (.block 1 (.seq (.reg c170_9) (.seq (.reg c170_10) (.reg c170_11)))) (.reg c170_12))))))) (.seq (.seq (.reg c170_13) (.cond (t 47) (.seq (.reg c170_14) .ret) .skip)) (.seq (.reg c170_15) .ret)))))))), 50, [.tmp 2, .tmp 3, .tmp 4]⟩
def c171_0 : List RO := [p 2 (.mov (.const (.vs [] .full))), p 3 (.mov (z 0)), p 4 (.mov (z 0))]
def c171_1 : List RO := [m 10 0, c 11 150 [(t 10), (z 1)], m 9 11, ex 12 0 9, ex 13 1 9, m 5 12, m 4 13]
def c171_2 : List RO := [m 14 4, b 15 .neq (t 14) (z 0)]
def c171_3 : List RO := [m 16 4, p 2 (.mov (.const (.vs [] .full))), p 3 (.mov (z 0)), m 4 16]
def c171_4 : List RO := [p 3 (.mov (z 1))]
def c171_5 : List RO := [m 17 5, p 18 (.mov (u64 0))]
def c171_6 : List RO := [b 19 .lss (t 18) (t 17)]
def c171_7 : List RO := [m 21 0, m 22 3, p 23 (.slc 1 (t 21) (some (t 22)) none none), c 24 169 [(t 23)], m 20 24, ex 25 0 20, ex 26 1 20, ex 27 2 20, m 6 25, m 7 26, m 8 27]
def c171_8 : List RO := [m 28 8, b 29 .neq (t 28) (z 0)]
def c171_9 : List RO := [m 30 8, p 2 (.mov (.const (.vs [] .full))), p 3 (.mov (z 0)), m 4 30]
def c171_10 : List RO := [m 31 2, m 32 6, p 33 (.bslice 1 [(.vs [] .full)] [(0, (t 32))]), e 34 (.append 24 1 (t 31) (t 33)), m 35 3, m 36 7, b 37 .add (t 35) (t 36), m 2 34, m 3 37]
def c171_11 : List RO := [b 38 .add (t 18) (u64 1), m 18 38]
def c171_12 : List RO := [m 39 2, c 40 115 [(t 39)], p 41 (.un .not (t 40))]
def c171_13 : List RO := [p 2 (.mov (.const (.vs [] .full))), p 3 (.mov (z 0)), p 4 (.mov (z 2))]
def c171_14 : List RO := [m 42 2, m 43 3, m 2 42, m 3 43, p 4 (.mov (z 0))]
def c171m : Mode := ⟨false, []⟩
def c171 : RFunc := ⟨(.seq (.reg c171_0) (.seq (.reg c171_1) (.seq (.seq (.reg c171_2) (.cond (t 15) (.seq (.reg c171_3) .ret) .skip)) (.seq (.reg c171_4) (.seq (.seq (.reg c171_5) (.block 0 (.loop (.seq (.reg c171_6) (.seq (.cond (t 19) .skip (.exit 0)) (.seq (.block 1 (.seq (.reg c171_7) (.seq (.seq (.reg c171_8) (.cond (t 29) (.seq (.reg c171_9) .ret) .skip)) (.reg c171_10)))) (.reg c171_11))))))) (.seq (.seq (.reg c171_12) (.cond (t 41) (.seq (.reg c171_13) .ret) .skip)) (.seq (.reg c171_14) .ret))))))), 44, [.tmp 2, .tmp 3, .tmp 4]⟩
def c172_0 : List RO := [m 10 1, m 8 10]
def c172_1 : List RO := [m 11 8, b 12 .mul (z 2) (t 11), b 13 .add (t 12) (z 1), m 9 13]
def c172_2 : List RO := [m 14 9, m 15 2, b 16 .geq (t 14) (t 15)]
def c172_3 : List RO := [m 17 9, b 18 .add (t 17) (z 1), m 19 2, b 20 .lss (t 18) (t 19), m 21 20, gm 22 21 true 0, gm 23 21 true 3, gm 24 21 true 9, gb 25 21 true .add (t 23) (t 24), gia 26 21 true 1 22 25, gld 27 21 true 26, gm 28 21 true 0, gm 29 21 true 3, gm 30 21 true 9, gb 31 21 true .add (t 29) (t 30), gb 32 21 true .add (t 31) (z 1), gia 33 21 true 1 28 32, gld 34 21 true 33, gc 35 21 true 134 [(t 27), (t 34)], p 36 (.pick (t 21) (t 35) (kb false))]
def c172_4 : List RO := [m 37 9, b 38 .add (t 37) (z 1), m 9 38]
def c172_5 : List RO := [m 39 0, m 40 3, m 41 8, b 42 .add (t 40) (t 41), ia 43 1 39 42, ld 44 43, m 45 0, m 46 3, m 47 9, b 48 .add (t 46) (t 47), ia 49 1 45 48, ld 50 49, c 51 134 [(t 44), (t 50)], p 52 (.un .not (t 51))]
def c172_6 : List RO := [m 53 0, m 54 3, m 55 8, b 56 .add (t 54) (t 55), m 57 0, m 58 3, m 59 9, b 60 .add (t 58) (t 59), m 61 0, m 62 3, m 63 9, b 64 .add (t 62) (t 63), ia 65 1 61 64, ld 66 65, m 67 0, m 68 3, m 69 8, b 70 .add (t 68) (t 69), ia 71 1 67 70, ld 72 71, ia 73 1 53 56, s1 (t 73) (t 66), ia 74 1 57 60, s1 (t 74) (t 72)]
def c172_7 : List RO := [m 75 9, m 8 75]
def c172m : Mode := ⟨false, []⟩
def c172 : RFunc := ⟨(.seq (.reg c172_0) (.block 0 (.loop (.block 1 (.seq (.reg c172_1) (.seq (.seq (.reg c172_2) (.cond (t 16) (.exit 0) .skip)) (.seq (.seq (.regD c172_3 [[], [], [], [], [], [], [], [], [], [], [], [], [], [], [], [], [], [], [], []]) (.cond (t 36) (.reg c172_4) .skip)) (.seq (.seq (.regD c172_5 [[], [], [], [], [], [], [], [], [], [], [], [], [], []]) (.cond (t 52) .ret .skip)) (.seq (.regD c172_6 [[], [], [], [], [], [], [], [], [], [], [], [], [], [], [], [], [], [], [], [], [], [], [], []]) (.reg c172_7)))))))))), 76, []⟩
def c173_0 : List RO := [p 2 (.mov (u64 0))]
def c173_1 : List RO := [m 3 0, p 4 (.toInt .u64 (t 3)), c 5 94 [(t 4)], b 6 .shl (u64 1) (t 5), m 2 6]
def c173m : Mode := ⟨false, []⟩
def c173 : RFunc := ⟨(.seq (.reg c173_0) (.seq (.reg c173_1) .ret)), 7, [.tmp 2]⟩
def c174_0 : List RO := [p 2 (.mov (u64 0))]
def c174_1 : List RO := [m 3 0, p 4 (.nilchk (t 3)), ld 5 4, m 6 0, p 7 (.nilchk (t 6)), ld 8 7, b 9 .shl (t 8) (u64 13), b 10 .xor (t 5) (t 9), p 11 (.nilchk (t 3)), s1 (t 11) (t 10)]
def c174_2 : List RO := [m 12 0, p 13 (.nilchk (t 12)), ld 14 13, m 15 0, p 16 (.nilchk (t 15)), ld 17 16, b 18 .shr (t 17) (u64 7), b 19 .xor (t 14) (t 18), p 20 (.nilchk (t 12)), s1 (t 20) (t 19)]
def c174_3 : List RO := [m 21 0, p 22 (.nilchk (t 21)), ld 23 22, m 24 0, p 25 (.nilchk (t 24)), ld 26 25, b 27 .shl (t 26) (u64 17), b 28 .xor (t 23) (t 27), p 29 (.nilchk (t 21)), s1 (t 29) (t 28)]
def c174_4 : List RO := [m 30 0, p 31 (.nilchk (t 30)), ld 32 31, m 2 32]
def c174m : Mode := ⟨false, []⟩
def c174 : RFunc := ⟨(.seq (.reg c174_0) (.seq (.regD c174_1 [[], [], [], [], [], [], [], [], [], []]) (.seq (.regD c174_2 [[], [], [], [], [], [], [], [], [], []]) (.seq (.regD c174_3 [[], [], [], [], [], [], [], [], [], []]) (.seq (.reg c174_4) .ret))))), 33, [.tmp 2]⟩
def c175_0 : List RO := [p 6 (.mov (z 0))]
def c175_1 : List RO := [m 7 0, m 8 1, b 9 .sub (t 8) (z 1), m 10 1, m 11 1, b 12 .add (t 11) (z 1), m 13 2, c 14 176 [(t 7), (t 9), (t 10), (t 12), (t 13)], m 6 14]
def c175m : Mode := ⟨false, []⟩
def c175 : RFunc := ⟨(.seq (.reg c175_0) (.seq (.reg c175_1) .ret)), 15, [.tmp 6]⟩
def c176_0 : List RO := [p 10 (.mov (z 0))]
def c176_1 : List RO := [m 12 0, m 13 1, m 14 2, m 15 4, c 16 189 [(t 12), (t 13), (t 14), (t 15)], m 11 16, ex 17 0 11, ex 18 1 11, m 1 17, m 2 18]
def c176_2 : List RO := [m 20 0, m 21 2, m 22 3, m 23 4, c 24 189 [(t 20), (t 21), (t 22), (t 23)], m 19 24, ex 25 0 19, ex 26 1 19, m 2 25, m 3 26]
def c176_3 : List RO := [m 28 0, m 29 1, m 30 2, m 31 4, c 32 189 [(t 28), (t 29), (t 30), (t 31)], m 27 32, ex 33 0 27, ex 34 1 27, m 1 33, m 2 34]
def c176_4 : List RO := [m 35 2, m 10 35]
def c176m : Mode := ⟨false, []⟩
def c176 : RFunc := ⟨(.seq (.reg c176_0) (.seq (.reg c176_1) (.seq (.reg c176_2) (.seq (.reg c176_3) (.seq (.reg c176_4) .ret))))), 36, [.tmp 10]⟩
def c177_0 : List RO := [p 2 (.mov (kb false))]
def c177_1 : List RO := [m 3 0, m 4 0, b 5 .neq (t 3) (t 4), m 2 5]
def c177m : Mode := ⟨false, []⟩
def c177 : RFunc := ⟨(.seq (.reg c177_0) (.seq (.reg c177_1) .ret)), 6, [.tmp 2]⟩
def c178_0 : List RO := [p 4 (.mov (u64 0)), p 5 (.mov (z 0))]
def c178_1 : List RO := [m 9 0, p 10 (.nilchk (t 9)), fa 11 0 10, ld 12 11, m 13 1, c 14 150 [(t 12), (t 13)], m 8 14, ex 15 0 8, ex 16 1 8, m 6 15, m 7 16]
def c178_2 : List RO := [m 17 7, b 18 .neq (t 17) (z 0)]
def c178_3 : List RO := [m 19 7, p 4 (.mov (u64 0)), m 5 19]
def c178_4 : List RO := [m 20 0, m 21 0, p 22 (.nilchk (t 21)), fa 23 0 22, ld 24 23, m 25 1, p 26 (.slc 1 (t 24) (some (t 25)) none none), p 27 (.nilchk (t 20)), fa 28 0 27, s1 (t 28) (t 26)]
def c178_5 : List RO := [m 29 6, m 4 29, p 5 (.mov (z 0))]
def c178m : Mode := ⟨false, []⟩
def c178 : RFunc := ⟨(.seq (.reg c178_0) (.seq (.reg c178_1) (.seq (.seq (.reg c178_2) (.cond (t 18) (.seq (.reg c178_3) .ret) .skip)) (.seq (.reg c178_4) (.seq (.reg c178_5) .ret))))), 30, [.tmp 4, .tmp 5]⟩
def c179_0 : List RO := [a 2 (.alloc [(.vs [] .full), (.vs [] .full), (.vs [] .full)]), p 3 (.mov (z 0)), p 4 (.mov (z 0))]
def c179_1 : List RO := [fa 9 0 2, fa 10 1 2, fa 11 2 2, p 12 (.bslice 3 [.nil] [(0, (t 9)), (1, (t 10)), (2, (t 11))]), m 5 12]
def c179_2 : List RO := [m 13 5, ln 14 13, b 15 .gtr (t 14) (z 0)]
def c179_3 : List RO := [m 17 0, m 18 3, p 19 (.slc 1 (t 17) (some (t 18)) none none), c 20 170 [(t 19)], m 16 20, ex 21 0 16, ex 22 1 16, ex 23 2 16, m 6 21, m 7 22, m 8 23]
def c179_4 : List RO := [m 24 8, b 25 .neq (t 24) (z 0)]
def c179_5 : List RO := [p 26 (.build [(.vs [] .full), (.vs [] .full), (.vs [] .full)] []), m 27 8, sn 3 (t 2) (t 26), p 3 (.mov (z 0)), m 4 27]
def c179_6 : List RO := [m 28 5, p 29 (.iaddrS 1 (t 28) (z 0)), ld 30 29, m 31 6, p 32 (.nilchk (t 30)), s1 (t 32) (t 31)]
def c179_7 : List RO := [m 33 5, p 34 (.slc 1 (t 33) (some (z 1)) none none), m 35 3, m 36 7, b 37 .add (t 35) (t 36), m 5 34, m 3 37]
def c179_8 : List RO := [la 38 3 2, c 39 64 [(t 38)], p 40 (.un .not (t 39))]
def c179_9 : List RO := [p 41 (.build [(.vs [] .full), (.vs [] .full), (.vs [] .full)] []), sn 3 (t 2) (t 41), p 3 (.mov (z 0)), p 4 (.mov (z 2))]
def c179_10 : List RO := [la 42 3 2, m 43 3, sn 3 (t 2) (t 42), m 3 43, p 4 (.mov (z 0))]
def c179m : Mode := ⟨false, []⟩
def c179 : RFunc := ⟨(.seq (.reg c179_0) (.scope (.seq (.reg c179_1) (.seq (.label 0) (.seq (.seq (.reg c179_2) (.cond (t 15) (.seq (.reg c179_3) (.seq (.seq (.reg c179_4) (.cond (t 25) (.seq (.reg c179_5) .ret) .skip)) (.seq (.reg c179_6) (.seq (.reg c179_7) (.goto 0))))) .skip)) (.seq (.seq (.reg c179_8) (.cond (t 40) (.seq (.reg c179_9) .ret) .skip)) (.seq (.reg c179_10) .ret))))))), 44, [.cell 2 true 3, .tmp 3, .tmp 4]⟩
def c180_0 : List RO := [p 2 (.mov (z 0))]
def c180_1 : List RO := [m 6 0, p 7 (.nilchk (t 6)), fa 8 1 7, fa 9 7 8, m 10 0, p 11 (.nilchk (t 10)), fa 12 1 11, fa 13 8 12, m 14 0, p 15 (.nilchk (t 14)), fa 16 1 15, fa 17 9 16, p 18 (.bslice 3 [.nil] [(0, (t 9)), (1, (t 13)), (2, (t 17))]), m 3 18]
def c180_2 : List RO := [m 19 3, ln 20 19, b 21 .eql (t 20) (z 0)]
def c180_3 : List RO := [p 2 (.mov (z 0))]
def c180_4 : List RO := [m 23 0, c 24 178 [(t 23), (z 2)], m 22 24, ex 25 0 22, ex 26 1 22, m 4 25, m 5 26]
def c180_5 : List RO := [m 27 5, b 28 .neq (t 27) (z 0)]
def c180_6 : List RO := [m 29 5, m 2 29]
def c180_7 : List RO := [m 30 3, p 31 (.iaddrS 1 (t 30) (z 0)), ld 32 31, m 33 4, p 34 (.toInt .i64 (t 33)), m 35 3, p 36 (.slc 1 (t 35) (some (z 1)) none none), p 37 (.nilchk (t 32)), s1 (t 37) (t 34), m 3 36]
def c180m : Mode := ⟨false, []⟩
def c180 : RFunc := ⟨(.seq (.reg c180_0) (.scope (.seq (.regD c180_1 [[], [], [], [], [], [], [], [], [], [], [], [], [], []]) (.seq (.label 0) (.seq (.seq (.reg c180_2) (.cond (t 21) (.seq (.reg c180_3) .ret) .skip)) (.seq (.reg c180_4) (.seq (.seq (.reg c180_5) (.cond (t 28) (.seq (.reg c180_6) .ret) .skip)) (.seq (.regD c180_7 [[], [], [], [], [], [], [], [], [], []]) (.goto 0))))))))), 38, [.tmp 2]⟩
def c181_0 : List RO := [a 4 (.box (t 1)), p 6 (.mov (kb false)), p 7 (.mov (z 0))]
def c181_1 : List RO := [p 6 (.mov (kb true))]
def c181_2 : List RO := [fa 8 0 4, ld 9 8, b 10 .eql (t 9) (z 2), m 11 10, gfa 12 11 false 0 4, gld 13 11 false 12, gb 14 11 false .eql (t 13) (z 3), p 15 (.pick (t 11) (kb true) (t 14)), m 16 15, gfa 17 16 true 6 4, gp 18 16 true (.load true 2 (t 17)), gc 19 16 true 159 [(t 18)], gp 20 16 true (.un .not (t 19)), p 21 (.pick (t 16) (t 20) (kb false))]
def c181_3 : List RO := [p 6 (.mov (kb true)), p 7 (.mov (z 4))]
def c181_4 : List RO := [fa 22 0 4, ld 23 22]
def c181_5 : List RO := [b 25 .eql (t 23) (z 1), m 24 25]
def c181_6 : List RO := [m 26 0, c 27 190 [(t 26)], m 7 27]
def c181_7 : List RO := [b 29 .eql (t 23) (z 2), m 28 29]
def c181_8 : List RO := [m 30 0, la 31 13 4, c 32 191 [(t 30), (t 31)], m 7 32]
def c181_9 : List RO := [b 34 .eql (t 23) (z 3), m 33 34]
def c181_10 : List RO := [m 35 0, la 36 13 4, c 37 192 [(t 35), (t 36)], m 7 37]
def c181_11 : List RO := [b 39 .eql (t 23) (z 4), m 38 39]
def c181_12 : List RO := [m 40 0, la 41 13 4, c 42 193 [(t 40), (t 41)], m 7 42]
def c181_13 : List RO := [b 44 .eql (t 23) (z 5), m 43 44]
def c181_14 : List RO := [m 45 0, la 46 13 4, c 47 194 [(t 45), (t 46)], m 7 47]
def c181_15 : List RO := [b 49 .eql (t 23) (z 6), m 48 49]
def c181_16 : List RO := [m 50 0, la 51 13 4, c 52 195 [(t 50), (t 51)], m 7 52]
def c181_17 : List RO := [b 54 .eql (t 23) (z 7), m 53 54]
def c181_18 : List RO := [m 55 0, la 56 13 4, c 57 196 [(t 55), (t 56)], m 7 57]
def c181_19 : List RO := [b 59 .eql (t 23) (z 8), m 58 59]
def c181_20 : List RO := [m 60 0, la 61 13 4, c 62 197 [(t 60), (t 61)], m 7 62]
def c181_21 : List RO := [b 64 .eql (t 23) (z 9), m 63 64]
def c181_22 : List RO := [m 66 0, la 67 13 4, c 68 198 [(t 66), (t 67)], m 65 68, ex 69 0 65, ex 70 1 65, m 6 69, m 7 70]
def c181_23 : List RO := [b 72 .eql (t 23) (z 10), m 71 72]
def c181_24 : List RO := [m 74 0, la 75 13 4, m 76 2, c 77 199 [(t 74), (t 75), (t 76)], m 73 77, ex 78 0 73, ex 79 1 73, m 6 78, m 7 79]
def c181_25 : List RO := [b 81 .eql (t 23) (z 11), m 80 81]
def c181_26 : List RO := [m 82 0, la 83 13 4, c 84 200 [(t 82), (t 83)], m 7 84]
def c181_27 : List RO := [b 86 .eql (t 23) (z 12), m 85 86]
def c181_28 : List RO := [m 87 0, m 88 0, m 89 0, p 90 (.nilchk (t 89)), fa 91 1 90, ld 92 91, p 93 (.nilchk (t 92)), fa 94 0 93, la 95 2 94, c 96 76 [(.const (.vs [] .full)), (t 95)], m 97 0, p 98 (.nilchk (t 97)), fa 99 2 98, ld 100 99, p 101 (.toInt .u64 (t 100)), p 102 (.nilchk (t 87)), fa 103 3 102, fa 104 3 103, s1 (t 104) (t 96), p 105 (.nilchk (t 88)), fa 106 3 105, fa 107 2 106, s1 (t 107) (t 101)]
def c181_29 : List RO := [b 109 .eql (t 23) (z 13), m 108 109]
def c181_30 : List RO := [p 7 (.mov (z 2))]
def c181_31 : List RO := [m 110 6, m 111 7, m 6 110, m 7 111]
def c181m : Mode := ⟨false, []⟩
def c181 : RFunc := ⟨(.seq (.reg c181_0) (.seq (.reg c181_1) (.seq (.seq (.reg c181_2) (.cond (t 21) (.seq (.reg c181_3) .ret) .skip)) (.seq (.seq (.reg c181_4) (.block 0 (.seq (.reg c181_5) (.cond (t 24) (.reg c181_6) (.seq (.reg c181_7) (.cond (t 28) (.reg c181_8) (.seq (.reg c181_9) (.cond (t 33) (.reg c181_10) (.seq (.reg c181_11) (.cond (t 38) (.reg c181_12) (.seq (.reg c181_13) (.cond (t 43) (.reg c181_14) (.seq (.reg c181_15) (.cond (t 48) (.reg c181_16) (.seq (.reg c181_17) (.cond (t 53) (.reg c181_18) (.seq (.reg c181_19) (.cond (t 58) (.reg c181_20) (.seq (.reg c181_21) (.cond (t 63) (.reg c181_22) (.seq (.reg c181_23) (.cond (t 71) (.reg c181_24) (.seq (.reg c181_25) (.cond (t 80) (.reg c181_26) (.seq (.reg c181_27) (.cond (t 85) (.regD c181_28 [[], [], [], [], [], [], [], [], [], [], [], [], [], [9], [], [], [], [], [], [], [], [], []]) (.seq (.reg c181_29) (.cond (t 108) .skip (.reg c181_30))))))))))))))))))))))))))))) (.seq (.reg c181_31) .ret))))), 112, [.tmp 6, .tmp 7]⟩
def c182_0 : List RO := [a 4 (.box (t 1)), p 6 (.mov (kb false)), p 7 (.mov (z 0))]
def c182_1 : List RO := [p 6 (.mov (kb true))]
def c182_2 : List RO := [fa 8 0 4, ld 9 8]
def c182_3 : List RO := [b 11 .eql (t 9) (z 1), m 10 11]
def c182_4 : List RO := [m 12 0, c 13 201 [(t 12)], m 7 13]
def c182_5 : List RO := [b 15 .eql (t 9) (z 2), m 14 15]
def c182_6 : List RO := [m 16 0, la 17 13 4, c 18 202 [(t 16), (t 17)], m 7 18]
def c182_7 : List RO := [b 20 .eql (t 9) (z 3), m 19 20]
def c182_8 : List RO := [m 21 0, la 22 13 4, c 23 203 [(t 21), (t 22)], m 7 23]
def c182_9 : List RO := [b 25 .eql (t 9) (z 4), m 24 25]
def c182_10 : List RO := [m 26 0, la 27 13 4, c 28 204 [(t 26), (t 27)], m 7 28]
def c182_11 : List RO := [b 30 .eql (t 9) (z 5), m 29 30]
def c182_12 : List RO := [m 31 0, la 32 13 4, c 33 205 [(t 31), (t 32)], m 7 33]
def c182_13 : List RO := [b 35 .eql (t 9) (z 6), m 34 35]
def c182_14 : List RO := [m 36 0, la 37 13 4, c 38 206 [(t 36), (t 37)], m 7 38]
def c182_15 : List RO := [b 40 .eql (t 9) (z 7), m 39 40]
def c182_16 : List RO := [m 41 0, la 42 13 4, c 43 207 [(t 41), (t 42)], m 7 43]
def c182_17 : List RO := [b 45 .eql (t 9) (z 8), m 44 45]
def c182_18 : List RO := [m 46 0, la 47 13 4, c 48 208 [(t 46), (t 47)], m 7 48]
def c182_19 : List RO := [b 50 .eql (t 9) (z 9), m 49 50]
def c182_20 : List RO := [m 52 0, la 53 13 4, c 54 209 [(t 52), (t 53)], m 51 54, ex 55 0 51, ex 56 1 51, m 6 55, m 7 56]
def c182_21 : List RO := [b 58 .eql (t 9) (z 10), m 57 58]
def c182_22 : List RO := [m 60 0, la 61 13 4, m 62 2, c 63 210 [(t 60), (t 61), (t 62)], m 59 63, ex 64 0 59, ex 65 1 59, m 6 64, m 7 65]
def c182_23 : List RO := [b 67 .eql (t 9) (z 11), m 66 67]
def c182_24 : List RO := [m 68 0, la 69 13 4, c 70 211 [(t 68), (t 69)], m 7 70]
def c182_25 : List RO := [b 72 .eql (t 9) (z 12), m 71 72]
def c182_26 : List RO := [m 73 0, m 74 0, m 75 0, p 76 (.nilchk (t 75)), fa 77 1 76, ld 78 77, p 79 (.nilchk (t 78)), fa 80 2 79, la 81 3 80, c 82 97 [(.const (.vs [] .full)), (t 81)], m 83 0, p 84 (.nilchk (t 83)), fa 85 2 84, ld 86 85, p 87 (.toInt .u64 (t 86)), p 88 (.nilchk (t 73)), fa 89 3 88, fa 90 3 89, s1 (t 90) (t 82), p 91 (.nilchk (t 74)), fa 92 3 91, fa 93 2 92, s1 (t 93) (t 87)]
def c182_27 : List RO := [b 95 .eql (t 9) (z 13), m 94 95]
def c182_28 : List RO := [p 7 (.mov (z 2))]
def c182_29 : List RO := [m 96 6, m 97 7, m 6 96, m 7 97]
def c182m : Mode := ⟨false, []⟩
def c182 : RFunc := ⟨(.seq (.reg c182_0) (.seq (.reg c182_1) (.seq (.seq (.reg c182_2) (.block 0 (.seq (.reg c182_3) (.cond (t 10) (.reg c182_4) (.seq (.reg c182_5) (.cond (t 14) (.reg c182_6) (.seq (.reg c182_7) (.cond (t 19) (.reg c182_8) (.seq (.reg c182_9) (.cond (t 24) (.reg c182_10) (.seq (.reg c182_11) (.cond (t 29) (.reg c182_12) (.seq (.reg c182_13) (.cond (t 34) (.reg c182_14) (.seq (.reg c182_15) (.cond (t 39) (.reg c182_16) (.seq (.reg c182_17) (.cond (t 44) (.reg c182_18) (.seq (.reg c182_19) (.cond (t 49) (.reg c182_20) (.seq (.reg c182_21) (.cond (t 57) (.reg c182_22) (.seq (.reg c182_23) (.cond (t 66) (.reg c182_24) (.seq (.reg c182_25) (.cond (t 71) (.regD c182_26 [[], [], [], [], [], [], [], [], [], [], [], [], [], [9], [], [], [], [], [], [], [], [], []]) (.seq (.reg c182_27) (.cond (t 94) .skip (.reg c182_28))))))))))))))))))))))))))))) (.seq (.reg c182_29) .ret)))), 98, [.tmp 6, .tmp 7]⟩
def c183_0 : List RO := [p 2 (.mov (.const (.vs [] .full))), p 3 (.mov (kb false))]
def c183_1 : List RO := [m 8 0, c 9 179 [(t 8)], m 7 9, ex 10 0 7, ex 11 1 7, ex 12 2 7, a 4 (.alloc [(.vs [] .full), (.vs [] .full), (.vs [] .full)]), sn 3 (t 4) (t 10), m 5 11, m 6 12]
def c183_2 : List RO := [m 13 6, b 14 .neq (t 13) (z 0), m 15 14, gm 16 15 false 5, gm 17 15 false 0, gp 18 15 false (.lenS (t 17)), gb 19 15 false .neq (t 16) (t 18), p 20 (.pick (t 15) (kb true) (t 19))]
def c183_3 : List RO := [p 2 (.mov (.const (.vs [] .full))), p 3 (.mov (kb false))]
def c183_4 : List RO := [la 21 3 4, c 22 212 [(t 21)], c 23 76 [(.const (.vs [] .full)), (t 22)], m 2 23, p 3 (.mov (kb true))]
def c183m : Mode := ⟨false, []⟩
def c183 : RFunc := ⟨(.seq (.reg c183_0) (.seq (.reg c183_1) (.seq (.seq (.reg c183_2) (.cond (t 20) (.seq (.reg c183_3) .ret) .skip)) (.seq (.reg c183_4) .ret)))), 24, [.tmp 2, .tmp 3]⟩
def c184_0 : List RO := [p 2 (.mov (.const (.vs [] .full)))]
def c184_1 : List RO := [m 5 0, p 6 (.nilchk (t 5)), fa 7 1 6, ld 8 7, b 9 .eql (t 8) (z 0)]
def c184_2 : List RO := [p 3 (.mov (z 0))]
def c184_3 : List RO := [p 4 (.mov (z 0))]
def c184_4 : List RO := [m 11 0, p 12 (.nilchk (t 11)), fa 13 0 12, ld 14 13, c 15 170 [(t 14)], m 10 15, ex 16 0 10, ex 17 1 10, ex 18 2 10, m 2 16, m 3 17, m 4 18]
def c184_5 : List RO := [m 19 0, m 20 3, m 21 4, c 22 151 [(t 19), (t 20), (t 21)]]
def c184_6 : List RO := [m 23 2, m 2 23]
def c184m : Mode := ⟨false, []⟩
def c184 : RFunc := ⟨(.seq (.reg c184_0) (.seq (.seq (.reg c184_1) (.cond (t 9) (.seq (.reg c184_2) (.seq (.reg c184_3) (.seq (.reg c184_4) (.reg c184_5)))) .skip)) (.seq (.reg c184_6) .ret))), 24, [.tmp 2]⟩
def c185_0 : List RO := [p 2 (.mov (.const (.vs [] .full)))]
def c185_1 : List RO := [m 5 0, p 6 (.nilchk (t 5)), fa 7 1 6, ld 8 7, b 9 .eql (t 8) (z 0)]
def c185_2 : List RO := [p 3 (.mov (z 0))]
def c185_3 : List RO := [p 4 (.mov (z 0))]
def c185_4 : List RO := [m 11 0, p 12 (.nilchk (t 11)), fa 13 0 12, ld 14 13, c 15 170 [(t 14)], m 10 15, ex 16 0 10, ex 17 1 10, ex 18 2 10, m 2 16, m 3 17, m 4 18]
def c185_5 : List RO := [m 19 0, m 20 3, m 21 4, c 22 155 [(t 19), (t 20), (t 21)]]
def c185_6 : List RO := [m 23 2, m 2 23]
def c185m : Mode := ⟨false, []⟩
def c185 : RFunc := ⟨(.seq (.reg c185_0) (.seq (.seq (.reg c185_1) (.cond (t 9) (.seq (.reg c185_2) (.seq (.reg c185_3) (.seq (.reg c185_4) (.reg c185_5)))) .skip)) (.seq (.reg c185_6) .ret))), 24, [.tmp 2]⟩
def c186_0 : List RO := [p 4 (.mov (kb false))]
def c186_1 : List RO := [m 5 0, m 6 1, c 7 213 [(t 5), (t 6)], b 8 .geq (t 7) (z 0), m 4 8]
def c186m : Mode := ⟨false, []⟩
def c186 : RFunc := ⟨(.seq (.reg c186_0) (.seq (.reg c186_1) .ret)), 9, [.tmp 4]⟩
def c187_0 : List RO := [a 1 (.box (t 0)), p 2 (.mov (kb false))]
def c187_1 : List RO := [fa 3 1 1, ld 4 3, b 5 .eql (t 4) (u8 3), m 2 5]
def c187m : Mode := ⟨false, []⟩
def c187 : RFunc := ⟨(.seq (.reg c187_0) (.seq (.reg c187_1) .ret)), 6, [.tmp 2]⟩
def c188_0 : List RO := [p 4 (.mov (z 0))]
def c188_1 : List RO := [m 6 0, ln 7 6, p 8 (.mov (z 0))]
def c188_2 : List RO := [b 9 .lss (t 8) (t 7)]
def c188_3 : List RO := [m 10 8, m 5 10]
def c188_4 : List RO := [m 11 1, m 12 0, m 13 5, ia 14 1 12 13, ld 15 14, ⟨(some 16), none, (.dyn (t 11) [(t 15)])⟩]
def c188_5 : List RO := [m 17 5, m 4 17]
def c188_6 : List RO := [b 18 .add (t 8) (z 1), m 8 18]
def c188_7 : List RO := [p 4 (.mov (z (.negSucc 0)))]
def c188m : Mode := ⟨false, []⟩
def c188 : RFunc := ⟨(.seq (.reg c188_0) (.seq (.seq (.reg c188_1) (.block 0 (.loop (.seq (.reg c188_2) (.seq (.cond (t 9) .skip (.exit 0)) (.seq (.block 1 (.seq (.reg c188_3) (.seq (.reg c188_4) (.cond (t 16) (.seq (.reg c188_5) .ret) .skip)))) (.reg c188_6))))))) (.seq (.reg c188_7) .ret))), 19, [.tmp 4]⟩
def c189_0 : List RO := [p 8 (.mov (z 0)), p 9 (.mov (z 0))]
def c189_1 : List RO := [m 10 0, m 11 2, ia 12 1 10 11, ld 13 12, m 14 0, m 15 1, ia 16 1 14 15, ld 17 16, c 18 134 [(t 13), (t 17)]]
def c189_2 : List RO := [m 19 3, p 20 (.nilchk (t 19)), ld 21 20, b 22 .add (t 21) (z 1), p 23 (.nilchk (t 19)), s1 (t 23) (t 22)]
def c189_3 : List RO := [m 24 2, m 25 1, m 8 24, m 9 25]
def c189_4 : List RO := [m 26 1, m 27 2, m 8 26, m 9 27]
def c189m : Mode := ⟨false, []⟩
def c189 : RFunc := ⟨(.seq (.reg c189_0) (.seq (.seq (.regD c189_1 [[], [], [], [], [], [], [], [], []]) (.cond (t 18) (.seq (.reg c189_2) (.seq (.reg c189_3) .ret)) .skip)) (.seq (.reg c189_4) .ret))), 28, [.tmp 8, .tmp 9]⟩
def c190_0 : List RO := [p 2 (.mov (z 0))]
def c190_1 : List RO := [m 5 0, p 6 (.nilchk (t 5)), fa 7 1 6, ld 8 7, p 9 (.nilchk (t 8)), fa 10 5 9, ld 11 10, b 12 .geq (t 11) (z 15)]
def c190_2 : List RO := [p 2 (.mov (z 9))]
def c190_3 : List RO := [m 13 0, p 14 (.nilchk (t 13)), fa 15 2 14, ld 16 15, b 17 .mul (z 16) (t 16), b 18 .add (z 1000) (t 17), m 19 0, p 20 (.nilchk (t 19)), fa 21 1 20, ld 22 21, p 23 (.nilchk (t 22)), fa 24 5 23, ld 25 24, b 26 .add (t 18) (t 25), b 27 .add (t 26) (z 1), p 28 (.toInt .u16 (t 27)), m 3 28]
def c190_4 : List RO := [m 29 0, m 30 3, p 31 (.bslice 1 [(.int .u16 0)] [(0, (t 30))]), c 32 214 [(t 29), (t 31)], m 4 32]
def c190_5 : List RO := [m 33 4, b 34 .neq (t 33) (z 0)]
def c190_6 : List RO := [m 35 4, m 2 35]
def c190_7 : List RO := [m 36 0, p 37 (.nilchk (t 36)), fa 38 1 37, ld 39 38, p 40 (.nilchk (t 39)), fa 41 5 40, ld 42 41, b 43 .add (t 42) (z 1), p 44 (.nilchk (t 39)), fa 45 5 44, s1 (t 45) (t 43)]
def c190_8 : List RO := [m 46 0, m 47 3, p 48 (.toInt .u64 (t 47)), p 49 (.nilchk (t 46)), fa 50 3 49, fa 51 2 50, s1 (t 51) (t 48)]
def c190_9 : List RO := [p 2 (.mov (z 0))]
def c190m : Mode := ⟨false, []⟩
def c190 : RFunc := ⟨(.seq (.reg c190_0) (.seq (.seq (.reg c190_1) (.cond (t 12) (.seq (.reg c190_2) .ret) .skip)) (.seq (.regD c190_3 [[], [], [], [], [], [], [], [], [], [], [], [], [], [], [], [], []]) (.seq (.seq (.reg c190_4) (.seq (.reg c190_5) (.cond (t 34) (.seq (.reg c190_6) .ret) .skip))) (.seq (.reg c190_7) (.seq (.reg c190_8) (.seq (.reg c190_9) .ret))))))), 52, [.tmp 2]⟩
def c191_0 : List RO := [a 3 (.box (t 1)), p 4 (.mov (z 0))]
def c191_1 : List RO := [m 6 0, p 7 (.nilchk (t 6)), fa 8 1 7, ld 9 8, p 10 (.nilchk (t 9)), fa 11 0 10, la 12 2 11, fa 13 6 3, la 14 2 13, c 15 215 [(t 12), (t 14)], m 5 15]
def c191_2 : List RO := [m 16 5, b 17 .neq (t 16) (z 0)]
def c191_3 : List RO := [m 18 5, m 4 18]
def c191_4 : List RO := [m 19 0, p 20 (.nilchk (t 19)), fa 21 1 20, ld 22 21, fa 23 6 3, la 24 2 23, c 25 29 [(t 24)], p 26 (.nilchk (t 22)), fa 27 0 26, sn 2 (t 27) (t 25)]
def c191_5 : List RO := [p 4 (.mov (z 0))]
def c191m : Mode := ⟨false, []⟩
def c191 : RFunc := ⟨(.seq (.reg c191_0) (.seq (.seq (.regD c191_1 [[], [], [], [], [], [], [], [], [], [], []]) (.seq (.reg c191_2) (.cond (t 17) (.seq (.reg c191_3) .ret) .skip))) (.seq (.regD c191_4 [[], [], [], [], [], [], [3], [], [], []]) (.seq (.reg c191_5) .ret)))), 28, [.tmp 4]⟩
def c192_0 : List RO := [a 3 (.box (t 1)), p 4 (.mov (z 0))]
def c192_1 : List RO := [a 5 (.alloc [(.int .u64 0), (.int .i64 0), (.int .u8 0), (.vs [] .full), (.vs [] .full), (.vs [] .full), (.vs [] .full), (.int .i64 0), (.int .i64 0), (.int .i64 0), (.vs [] .full), (.vs [] .full), (.vs [] .full)]), a 6 (.alloc [(.int .u64 0), (.int .i64 0), (.int .u8 0), (.vs [] .full), (.vs [] .full), (.vs [] .full), (.vs [] .full), (.int .i64 0), (.int .i64 0), (.int .i64 0), (.vs [] .full), (.vs [] .full), (.vs [] .full)])]
def c192_2 : List RO := [p 7 (.mov (u64 0))]
def c192_3 : List RO := [fa 8 1 3, ld 9 8, b 10 .lss (t 9) (z 1), m 11 10, gfa 12 11 false 1 3, gld 13 11 false 12, gb 14 11 false .gtr (t 13) (z 4), p 15 (.pick (t 11) (kb true) (t 14))]
def c192_4 : List RO := [p 4 (.mov (z 8))]
def c192_5 : List RO := [m 17 0, fa 18 2 3, ld 19 18, m 20 0, p 21 (.mkfn 217 [(t 20)] []), c 22 216 [(t 17), (t 19), (z 1), (t 21)], m 16 22, ex 23 0 16, ex 24 1 16, sn 13 (t 5) (t 23), m 4 24]
def c192_6 : List RO := [m 25 4, b 26 .neq (t 25) (z 0)]
def c192_7 : List RO := [m 27 0, p 28 (.nilchk (t 27)), fa 29 1 28, ld 30 29, p 31 (.nilchk (t 30)), fa 32 0 31, la 33 2 32, fa 34 6 3, la 35 2 34, c 36 218 [(t 33), (t 35)], m 4 36]
def c192_8 : List RO := [m 37 4, b 38 .neq (t 37) (z 0)]
def c192_9 : List RO := [m 39 0, la 40 13 3, c 41 219 [(t 39), (t 40)], m 4 41]
def c192_10 : List RO := [m 42 4, b 43 .neq (t 42) (z 0)]
def c192_11 : List RO := [fa 44 9 5, ld 45 44, b 46 .gtr (t 45) (z 63)]
def c192_12 : List RO := [p 4 (.mov (z 9))]
def c192_13 : List RO := [fa 48 0 5, ld 49 48, fa 50 9 5, ld 51 50, c 52 220 [(t 49), (t 51)], m 47 52, ex 53 0 47, ex 54 1 47, m 7 53, m 4 54]
def c192_14 : List RO := [m 55 4, b 56 .neq (t 55) (z 0)]
def c192_15 : List RO := [la 57 13 3, m 58 7, c 59 221 [(t 57), (t 58)], sn 13 (t 6) (t 59)]
def c192_16 : List RO := [la 61 13 5, la 62 13 6, c 63 223 [(t 62)], c 64 222 [(t 61), (t 63)], m 60 64, ex 65 0 60, ex 66 1 60, sn 13 (t 5) (t 65), m 4 66]
def c192_17 : List RO := [m 67 4, b 68 .neq (t 67) (z 0)]
def c192_18 : List RO := [fa 69 9 5, ld 70 69, b 71 .add (t 70) (z 1), fa 72 9 5, s1 (t 72) (t 71)]
def c192_19 : List RO := [m 73 0, p 74 (.nilchk (t 73)), fa 75 0 74, ld 76 75, la 77 13 5, c 78 30 [(t 76), (t 77)]]
def c192_20 : List RO := [m 79 0, p 80 (.nilchk (t 79)), fa 81 0 80, ld 82 81, la 83 13 6, c 84 30 [(t 82), (t 83)]]
def c192_21 : List RO := [m 85 0, m 86 7, p 87 (.nilchk (t 85)), fa 88 3 87, fa 89 2 88, s1 (t 89) (t 86)]
def c192_22 : List RO := [m 90 4, m 4 90]
def c192m : Mode := ⟨false, []⟩
def c192 : RFunc := ⟨(.seq (.reg c192_0) (.scope (.seq (.reg c192_1) (.seq (.reg c192_2) (.seq (.seq (.reg c192_3) (.cond (t 15) (.seq (.reg c192_4) .ret) .skip)) (.seq (.seq (.reg c192_5) (.seq (.reg c192_6) (.cond (t 26) (.goto 0) .skip))) (.seq (.seq (.regD c192_7 [[], [], [], [], [], [], [], [], [], [], []]) (.seq (.reg c192_8) (.cond (t 38) (.goto 0) .skip))) (.seq (.seq (.reg c192_9) (.seq (.reg c192_10) (.cond (t 43) (.goto 0) .skip))) (.seq (.seq (.reg c192_11) (.cond (t 46) (.seq (.reg c192_12) .ret) .skip)) (.seq (.seq (.reg c192_13) (.seq (.reg c192_14) (.cond (t 56) (.goto 0) .skip))) (.seq (.reg c192_15) (.seq (.seq (.regD c192_16 [[], [], [0], [], [], [], [], [], []]) (.seq (.reg c192_17) (.cond (t 68) (.goto 0) .skip))) (.seq (.reg c192_18) (.seq (.regD c192_19 [[], [], [], [], [], []]) (.seq (.regD c192_20 [[], [], [], [], [], []]) (.seq (.reg c192_21) (.seq (.label 0) (.seq (.reg c192_22) .ret)))))))))))))))))), 91, [.tmp 4]⟩
def c193_0 : List RO := [a 3 (.box (t 1)), p 4 (.mov (z 0))]
def c193_1 : List RO := [m 8 0, fa 9 2 3, ld 10 9, m 11 0, p 12 (.mkfn 224 [(t 11)] []), c 13 216 [(t 8), (t 10), (z 2), (t 12)], m 7 13, ex 14 0 7, ex 15 1 7, a 5 (.alloc [(.int .u64 0), (.int .i64 0), (.int .u8 0), (.vs [] .full), (.vs [] .full), (.vs [] .full), (.vs [] .full), (.int .i64 0), (.int .i64 0), (.int .i64 0), (.vs [] .full), (.vs [] .full), (.vs [] .full)]), sn 13 (t 5) (t 14), m 6 15]
def c193_2 : List RO := [m 16 6, b 17 .neq (t 16) (z 0)]
def c193_3 : List RO := [m 18 6, m 4 18]
def c193_4 : List RO := [m 20 0, m 21 0, p 22 (.nilchk (t 21)), fa 23 0 22, ld 24 23, p 25 (.nilchk (t 24)), fa 26 2 25, ld 27 26, fa 28 0 5, ld 29 28, fa 30 4 3, ld 31 30, fa 32 5 3, ld 33 32, c 34 90 [(t 27), (t 29), (t 31), (t 33)], m 19 34, ex 35 0 19, ex 36 1 19, p 37 (.nilchk (t 20)), fa 38 3 37, fa 39 3 38, s1 (t 39) (t 35), m 6 36]
def c193_5 : List RO := [m 40 6, m 4 40]
def c193m : Mode := ⟨false, []⟩
def c193 : RFunc := ⟨(.seq (.reg c193_0) (.seq (.reg c193_1) (.seq (.seq (.reg c193_2) (.cond (t 17) (.seq (.reg c193_3) .ret) .skip)) (.seq (.regD c193_4 [[], [], [], [], [], [], [], [], [], [], [], [], [], [], [], [], [], [], [], [], [], [], []]) (.seq (.reg c193_5) .ret))))), 41, [.tmp 4]⟩
def c194_0 : List RO := [a 3 (.box (t 1)), p 4 (.mov (z 0))]
def c194_1 : List RO := [m 8 0, fa 9 2 3, ld 10 9, m 11 0, p 12 (.mkfn 225 [(t 11)] []), c 13 216 [(t 8), (t 10), (z 2), (t 12)], m 7 13, ex 14 0 7, ex 15 1 7, a 5 (.alloc [(.int .u64 0), (.int .i64 0), (.int .u8 0), (.vs [] .full), (.vs [] .full), (.vs [] .full), (.vs [] .full), (.int .i64 0), (.int .i64 0), (.int .i64 0), (.vs [] .full), (.vs [] .full), (.vs [] .full)]), sn 13 (t 5) (t 14), m 6 15]
def c194_2 : List RO := [m 16 6, b 17 .neq (t 16) (z 0)]
def c194_3 : List RO := [m 18 6, m 4 18]
def c194_4 : List RO := [m 19 0, p 20 (.nilchk (t 19)), fa 21 0 20, ld 22 21, p 23 (.nilchk (t 22)), fa 24 2 23, ld 25 24, fa 26 0 5, ld 27 26, fa 28 4 3, ld 29 28, fa 30 11 3, ld 31 30, c 32 51 [(t 25), (t 27), (t 29), (t 31)], m 4 32]
def c194m : Mode := ⟨false, []⟩
def c194 : RFunc := ⟨(.seq (.reg c194_0) (.seq (.reg c194_1) (.seq (.seq (.reg c194_2) (.cond (t 17) (.seq (.reg c194_3) .ret) .skip)) (.seq (.regD c194_4 [[], [], [], [], [], [], [], [], [], [], [], [], [], [], []]) .ret)))), 33, [.tmp 4]⟩
def c195_0 : List RO := [a 3 (.box (t 1)), p 4 (.mov (z 0))]
def c195_1 : List RO := [fa 11 2 3, ld 12 11, b 13 .eql (t 12) (u64 1)]
def c195_2 : List RO := [p 4 (.mov (z 1))]
def c195_3 : List RO := [m 15 0, fa 16 2 3, ld 17 16, c 18 226 [(t 15), (t 17)], m 14 18, ex 19 0 14, ex 20 1 14, a 5 (.alloc [(.int .u64 0), (.int .i64 0), (.int .u8 0), (.vs [] .full), (.vs [] .full), (.vs [] .full), (.vs [] .full), (.int .i64 0), (.int .i64 0), (.int .i64 0), (.vs [] .full), (.vs [] .full), (.vs [] .full)]), sn 13 (t 5) (t 19), m 6 20]
def c195_4 : List RO := [m 21 6, b 22 .neq (t 21) (z 0)]
def c195_5 : List RO := [m 23 6, m 4 23]
def c195_6 : List RO := [m 25 0, p 26 (.nilchk (t 25)), fa 27 0 26, ld 28 27, fa 29 2 3, ld 30 29, c 31 57 [(t 30)], c 32 55 [(t 28), (t 31)], m 24 32, ex 33 0 24, ex 34 1 24, a 7 (.alloc [(.int .u64 0), (.int .i64 0), (.int .u8 0), (.vs [] .full), (.vs [] .full), (.vs [] .full), (.vs [] .full), (.int .i64 0), (.int .i64 0), (.int .i64 0), (.vs [] .full), (.vs [] .full), (.vs [] .full)]), sn 13 (t 7) (t 33), m 8 34]
def c195_7 : List RO := [m 35 0, la 36 13 7, c 37 217 [(t 35), (t 36)], p 38 (.un .not (t 37))]
def c195_8 : List RO := [p 4 (.mov (z 6))]
def c195_9 : List RO := [m 39 0, p 40 (.nilchk (t 39)), fa 41 0 40, ld 42 41, p 43 (.nilchk (t 42)), fa 44 1 43, ld 45 44, c 46 54 [(t 45)], ln 47 46, p 48 (.mov (z 0))]
def c195_10 : List RO := [b 49 .lss (t 48) (t 47)]
def c195_11 : List RO := [ia 50 1 46 48, ld 51 50, m 10 51]
def c195_12 : List RO := [m 52 10, fa 53 2 3, ld 54 53, c 55 227 [(t 52), (t 54)]]
def c195_13 : List RO := [m 56 0, p 57 (.nilchk (t 56)), fa 58 0 57, ld 59 58, m 60 10, c 61 228 [(t 59), (t 60)]]
def c195_14 : List RO := [b 62 .add (t 48) (z 1), m 48 62]
def c195_15 : List RO := [m 63 0, p 64 (.nilchk (t 63)), fa 65 0 64, ld 66 65, la 67 13 7, la 68 13 5, c 69 223 [(t 68)], c 70 229 [(t 67), (t 69)], c 71 30 [(t 66), (t 70)]]
def c195_16 : List RO := [p 4 (.mov (z 0))]
def c195m : Mode := ⟨false, []⟩
def c195 : RFunc := ⟨(.seq (.reg c195_0) (.seq (.seq (.reg c195_1) (.cond (t 13) (.seq (.reg c195_2) .ret) .skip)) (.seq (.reg c195_3) (.seq (.seq (.reg c195_4) (.cond (t 22) (.seq (.reg c195_5) .ret) .skip)) (.seq (.regD c195_6 [[], [], [], [], [], [], [3], [], [], [], [], [], [], []]) (.seq (.seq (.reg c195_7) (.cond (t 38) (.seq (.reg c195_8) .ret) .skip)) (.seq (.seq (.reg c195_9) (.block 0 (.loop (.seq (.reg c195_10) (.seq (.cond (t 49) .skip (.exit 0)) (.seq (.block 1 (.seq (.reg c195_11) (.seq (.reg c195_12) (.cond (t 55) (.reg c195_13) .skip)))) (.reg c195_14))))))) (.seq (.regD c195_15 [[], [], [], [], [], [], [3, 4], [3], []]) (.seq (.reg c195_16) .ret))))))))), 72, [.tmp 4]⟩
def c196_0 : List RO := [a 3 (.box (t 1)), p 4 (.mov (z 0))]
def c196_1 : List RO := [m 8 0, fa 9 2 3, ld 10 9, m 11 0, p 12 (.mkfn 224 [(t 11)] []), c 13 216 [(t 8), (t 10), (z 3), (t 12)], m 7 13, ex 14 0 7, ex 15 1 7, a 5 (.alloc [(.int .u64 0), (.int .i64 0), (.int .u8 0), (.vs [] .full), (.vs [] .full), (.vs [] .full), (.vs [] .full), (.int .i64 0), (.int .i64 0), (.int .i64 0), (.vs [] .full), (.vs [] .full), (.vs [] .full)]), sn 13 (t 5) (t 14), m 6 15]
def c196_2 : List RO := [m 16 6, b 17 .neq (t 16) (z 0)]
def c196_3 : List RO := [m 18 6, m 4 18]
def c196_4 : List RO := [m 19 0, fa 20 11 5, ld 21 20, c 22 214 [(t 19), (t 21)], m 4 22]
def c196m : Mode := ⟨false, []⟩
def c196 : RFunc := ⟨(.seq (.reg c196_0) (.seq (.reg c196_1) (.seq (.seq (.reg c196_2) (.cond (t 17) (.seq (.reg c196_3) .ret) .skip)) (.seq (.reg c196_4) .ret)))), 23, [.tmp 4]⟩
def c197_0 : List RO := [a 3 (.box (t 1)), p 4 (.mov (z 0))]
def c197_1 : List RO := [m 8 0, fa 9 2 3, ld 10 9, m 11 0, p 12 (.mkfn 217 [(t 11)] []), c 13 216 [(t 8), (t 10), (z 4), (t 12)], m 7 13, ex 14 0 7, ex 15 1 7, a 5 (.alloc [(.int .u64 0), (.int .i64 0), (.int .u8 0), (.vs [] .full), (.vs [] .full), (.vs [] .full), (.vs [] .full), (.int .i64 0), (.int .i64 0), (.int .i64 0), (.vs [] .full), (.vs [] .full), (.vs [] .full)]), sn 13 (t 5) (t 14), m 6 15]
def c197_2 : List RO := [m 16 6, b 17 .neq (t 16) (z 0)]
def c197_3 : List RO := [m 18 6, m 4 18]
def c197_4 : List RO := [fa 20 12 5, ld 21 20, fa 22 11 3, ld 23 22, c 24 230 [(t 21), (t 23)], m 19 24, ex 25 0 19, ex 26 1 19, fa 27 12 5, s1 (t 27) (t 25), m 6 26]
def c197_5 : List RO := [m 28 6, b 29 .neq (t 28) (z 0)]
def c197_6 : List RO := [m 30 6, m 4 30]
def c197_7 : List RO := [m 31 0, p 32 (.nilchk (t 31)), fa 33 0 32, ld 34 33, la 35 13 5, c 36 30 [(t 34), (t 35)]]
def c197_8 : List RO := [p 4 (.mov (z 0))]
def c197m : Mode := ⟨false, []⟩
def c197 : RFunc := ⟨(.seq (.reg c197_0) (.seq (.reg c197_1) (.seq (.seq (.reg c197_2) (.cond (t 17) (.seq (.reg c197_3) .ret) .skip)) (.seq (.seq (.reg c197_4) (.seq (.reg c197_5) (.cond (t 29) (.seq (.reg c197_6) .ret) .skip))) (.seq (.regD c197_7 [[], [], [], [], [], []]) (.seq (.reg c197_8) .ret)))))), 37, [.tmp 4]⟩
def c198_0 : List RO := [a 3 (.box (t 1)), p 4 (.mov (kb false)), p 5 (.mov (z 0))]
def c198_1 : List RO := [m 12 0, fa 13 2 3, ld 14 13, m 15 0, p 16 (.mkfn 217 [(t 15)] []), c 17 216 [(t 12), (t 14), (z 4), (t 16)], m 11 17, ex 18 0 11, ex 19 1 11, a 6 (.alloc [(.int .u64 0), (.int .i64 0), (.int .u8 0), (.vs [] .full), (.vs [] .full), (.vs [] .full), (.vs [] .full), (.int .i64 0), (.int .i64 0), (.int .i64 0), (.vs [] .full), (.vs [] .full), (.vs [] .full)]), sn 13 (t 6) (t 18), m 7 19]
def c198_2 : List RO := [m 20 7, b 21 .neq (t 20) (z 0)]
def c198_3 : List RO := [m 22 7, p 4 (.mov (kb true)), m 5 22]
def c198_4 : List RO := [fa 24 12 6, ld 25 24, c 26 231 [(t 25)], m 23 26, ex 27 0 23, ex 28 1 23, ex 29 2 23, m 8 27, m 9 28, m 10 29]
def c198_5 : List RO := [m 30 10, p 31 (.un .not (t 30))]
def c198_6 : List RO := [m 32 0, p 33 (.nilchk (t 32)), fa 34 1 33, ld 35 34, m 36 0, p 37 (.nilchk (t 36)), fa 38 1 37, ld 39 38, fa 40 2 3, ld 41 40, p 42 (.nilchk (t 35)), fa 43 6 42, s1 (t 43) (z 1), p 44 (.nilchk (t 39)), fa 45 7 44, s1 (t 45) (t 41)]
def c198_7 : List RO := [p 4 (.mov (kb false)), p 5 (.mov (z 0))]
def c198_8 : List RO := [m 46 9, fa 47 12 6, s1 (t 47) (t 46)]
def c198_9 : List RO := [m 48 0, p 49 (.nilchk (t 48)), fa 50 0 49, ld 51 50, la 52 13 6, c 53 30 [(t 51), (t 52)]]
def c198_10 : List RO := [m 54 0, m 55 8, p 56 (.nilchk (t 54)), fa 57 3 56, fa 58 3 57, s1 (t 58) (t 55)]
def c198_11 : List RO := [p 4 (.mov (kb true)), p 5 (.mov (z 0))]
def c198m : Mode := ⟨false, []⟩
def c198 : RFunc := ⟨(.seq (.reg c198_0) (.seq (.reg c198_1) (.seq (.seq (.reg c198_2) (.cond (t 21) (.seq (.reg c198_3) .ret) .skip)) (.seq (.reg c198_4) (.seq (.seq (.reg c198_5) (.cond (t 31) (.seq (.regD c198_6 [[], [], [], [], [], [], [], [], [], [], [], [], [9], [], [], []]) (.seq (.reg c198_7) .ret)) .skip)) (.seq (.reg c198_8) (.seq (.regD c198_9 [[], [], [], [], [], []]) (.seq (.reg c198_10) (.seq (.reg c198_11) .ret))))))))), 59, [.tmp 4, .tmp 5]⟩
def c199_0 : List RO := [a 4 (.box (t 1)), p 6 (.mov (kb false)), p 7 (.mov (z 0))]
def c199_1 : List RO := [m 13 0, fa 14 2 4, ld 15 14, m 16 0, p 17 (.mkfn 224 [(t 16)] []), c 18 216 [(t 13), (t 15), (z 2), (t 17)], m 12 18, ex 19 0 12, ex 20 1 12, a 8 (.alloc [(.int .u64 0), (.int .i64 0), (.int .u8 0), (.vs [] .full), (.vs [] .full), (.vs [] .full), (.vs [] .full), (.int .i64 0), (.int .i64 0), (.int .i64 0), (.vs [] .full), (.vs [] .full), (.vs [] .full)]), sn 13 (t 8) (t 19), m 9 20]
def c199_2 : List RO := [m 21 9, b 22 .neq (t 21) (z 0)]
def c199_3 : List RO := [m 23 9, p 6 (.mov (kb true)), m 7 23]
def c199_4 : List RO := [m 25 0, fa 26 3 4, ld 27 26, m 28 0, p 29 (.mkfn 225 [(t 28)] []), c 30 216 [(t 25), (t 27), (z 2), (t 29)], m 24 30, ex 31 0 24, ex 32 1 24, a 10 (.alloc [(.int .u64 0), (.int .i64 0), (.int .u8 0), (.vs [] .full), (.vs [] .full), (.vs [] .full), (.vs [] .full), (.int .i64 0), (.int .i64 0), (.int .i64 0), (.vs [] .full), (.vs [] .full), (.vs [] .full)]), sn 13 (t 10) (t 31), m 9 32]
def c199_5 : List RO := [m 34 9, b 35 .neq (t 34) (z 0), m 33 35]
def c199_6 : List RO := [m 36 9, p 6 (.mov (kb true)), m 7 36]
def c199_7 : List RO := [fa 38 5 4, ld 39 38, fa 40 10 8, ld 41 40, ln 42 41, fa 43 10 10, ld 44 43, ln 45 44, p 46 (.minmax false (t 42) [(t 45)]), c 47 26 [(t 39), (t 46)], p 48 (.un .not (t 47)), m 37 48]
def c199_8 : List RO := [p 6 (.mov (kb true)), p 7 (.mov (z 11))]
def c199_9 : List RO := [m 49 2, fa 50 5 4, ld 51 50, p 52 (.minmax false (t 49) [(t 51)]), p 53 (.minmax true (z 0) [(t 52)]), m 2 53]
def c199_10 : List RO := [m 54 2, b 55 .add (t 54) (z 4), fa 56 5 4, ld 57 56, p 58 (.minmax false (t 55) [(t 57)]), m 11 58]
def c199_11 : List RO := [m 59 0, p 60 (.nilchk (t 59)), fa 61 0 60, ld 62 61, p 63 (.nilchk (t 62)), fa 64 2 63, ld 65 64, fa 66 0 10, ld 67 66, m 68 2, fa 69 10 8, ld 70 69, m 71 2, m 72 11, p 73 (.slc 1 (t 70) (some (t 71)) (some (t 72)) none), c 74 51 [(t 65), (t 67), (t 68), (t 73)]]
def c199_12 : List RO := [m 75 11, fa 76 5 4, ld 77 76, b 78 .lss (t 75) (t 77)]
def c199_13 : List RO := [m 79 0, p 80 (.nilchk (t 79)), fa 81 1 80, ld 82 81, m 83 0, p 84 (.nilchk (t 83)), fa 85 1 84, ld 86 85, m 87 0, p 88 (.nilchk (t 87)), fa 89 1 88, ld 90 89, m 91 0, p 92 (.nilchk (t 91)), fa 93 1 92, ld 94 93, m 95 0, p 96 (.nilchk (t 95)), fa 97 1 96, ld 98 97, fa 99 2 4, ld 100 99, fa 101 3 4, ld 102 101, m 103 11, fa 104 5 4, ld 105 104, p 106 (.nilchk (t 82)), fa 107 6 106, s1 (t 107) (z 2), p 108 (.nilchk (t 86)), fa 109 7 108, s1 (t 109) (t 100), p 110 (.nilchk (t 90)), fa 111 8 110, s1 (t 111) (t 102), p 112 (.nilchk (t 94)), fa 113 9 112, s1 (t 113) (t 103), p 114 (.nilchk (t 98)), fa 115 10 114, s1 (t 115) (t 105)]
def c199_14 : List RO := [p 6 (.mov (kb false)), p 7 (.mov (z 0))]
def c199_15 : List RO := [m 116 0, fa 117 5 4, ld 118 117, p 119 (.toInt .u64 (t 118)), p 120 (.nilchk (t 116)), fa 121 3 120, fa 122 2 121, s1 (t 122) (t 119)]
def c199_16 : List RO := [p 6 (.mov (kb true)), p 7 (.mov (z 0))]
def c199m : Mode := ⟨false, []⟩
def c199 : RFunc := ⟨(.seq (.reg c199_0) (.seq (.reg c199_1) (.seq (.seq (.reg c199_2) (.cond (t 22) (.seq (.reg c199_3) .ret) .skip)) (.seq (.reg c199_4) (.seq (.block 0 (.seq (.reg c199_5) (.cond (t 33) (.seq (.reg c199_6) .ret) (.seq (.reg c199_7) (.cond (t 37) (.seq (.reg c199_8) .ret) .skip))))) (.seq (.reg c199_9) (.seq (.reg c199_10) (.seq (.regD c199_11 [[], [], [], [], [], [], [], [], [], [], [], [], [], [], [], []]) (.seq (.seq (.reg c199_12) (.cond (t 78) (.seq (.regD c199_13 [[], [], [], [], [], [], [], [], [], [], [], [], [], [], [], [], [], [], [], [], [], [], [], [], [], [], [], [], [], [21, 23, 26], [], [], [23, 26], [], [], [26], [], [], [26], [], [], []]) (.seq (.reg c199_14) .ret)) .skip)) (.seq (.reg c199_15) (.seq (.reg c199_16) .ret))))))))))), 123, [.tmp 6, .tmp 7]⟩
def c200_0 : List RO := [a 3 (.box (t 1)), p 4 (.mov (z 0))]
def c200_1 : List RO := [m 8 0, fa 9 2 3, ld 10 9, c 11 226 [(t 8), (t 10)], m 7 11, ex 12 0 7, ex 13 1 7, a 5 (.alloc [(.int .u64 0), (.int .i64 0), (.int .u8 0), (.vs [] .full), (.vs [] .full), (.vs [] .full), (.vs [] .full), (.int .i64 0), (.int .i64 0), (.int .i64 0), (.vs [] .full), (.vs [] .full), (.vs [] .full)]), sn 13 (t 5) (t 12), m 6 13]
def c200_2 : List RO := [m 14 6, b 15 .neq (t 14) (z 0)]
def c200_3 : List RO := [m 16 6, m 4 16]
def c200_4 : List RO := [m 17 0, fa 18 1 5, ld 19 18, p 20 (.toInt .u8 (t 19)), p 21 (.bslice 1 [(.int .u8 0)] [(0, (t 20))]), fa 22 2 5, la 23 2 22, c 24 76 [(t 21), (t 23)], p 25 (.nilchk (t 17)), fa 26 3 25, fa 27 3 26, s1 (t 27) (t 24)]
def c200_5 : List RO := [fa 28 1 5, ld 29 28]
def c200_6 : List RO := [b 31 .eql (t 29) (z 2), m 30 31]
def c200_7 : List RO := [m 32 0, fa 33 10 5, ld 34 33, ln 35 34, p 36 (.toInt .u64 (t 35)), p 37 (.nilchk (t 32)), fa 38 3 37, fa 39 2 38, s1 (t 39) (t 36)]
def c200_8 : List RO := [b 41 .eql (t 29) (z 1), m 40 41]
def c200_9 : List RO := [m 42 0, fa 43 7 5, ld 44 43, p 45 (.toInt .u64 (t 44)), p 46 (.nilchk (t 42)), fa 47 3 46, fa 48 2 47, s1 (t 48) (t 45)]
def c200_10 : List RO := [p 4 (.mov (z 0))]
def c200m : Mode := ⟨false, []⟩
def c200 : RFunc := ⟨(.seq (.reg c200_0) (.seq (.reg c200_1) (.seq (.seq (.reg c200_2) (.cond (t 15) (.seq (.reg c200_3) .ret) .skip)) (.seq (.reg c200_4) (.seq (.seq (.reg c200_5) (.block 0 (.seq (.reg c200_6) (.cond (t 30) (.reg c200_7) (.seq (.reg c200_8) (.cond (t 40) (.reg c200_9) .skip)))))) (.seq (.reg c200_10) .ret)))))), 49, [.tmp 4]⟩
def c201_0 : List RO := [p 2 (.mov (z 0))]
def c201_1 : List RO := [m 5 0, p 6 (.nilchk (t 5)), fa 7 1 6, ld 8 7, p 9 (.nilchk (t 8)), fa 10 5 9, ld 11 10, b 12 .geq (t 11) (z 15)]
def c201_2 : List RO := [p 2 (.mov (z 9))]
def c201_3 : List RO := [m 13 0, p 14 (.nilchk (t 13)), fa 15 2 14, ld 16 15, b 17 .mul (z 16) (t 16), b 18 .add (z 1000) (t 17), m 19 0, p 20 (.nilchk (t 19)), fa 21 1 20, ld 22 21, p 23 (.nilchk (t 22)), fa 24 5 23, ld 25 24, b 26 .add (t 18) (t 25), b 27 .add (t 26) (z 1), p 28 (.toInt .u16 (t 27)), m 3 28]
def c201_4 : List RO := [m 29 0, m 30 3, p 31 (.bslice 1 [(.int .u16 0)] [(0, (t 30))]), c 32 232 [(t 29), (t 31)], m 4 32]
def c201_5 : List RO := [m 33 4, b 34 .neq (t 33) (z 0)]
def c201_6 : List RO := [m 35 4, m 2 35]
def c201_7 : List RO := [m 36 0, p 37 (.nilchk (t 36)), fa 38 1 37, ld 39 38, p 40 (.nilchk (t 39)), fa 41 5 40, ld 42 41, b 43 .add (t 42) (z 1), p 44 (.nilchk (t 39)), fa 45 5 44, s1 (t 45) (t 43)]
def c201_8 : List RO := [m 46 0, m 47 3, p 48 (.toInt .u64 (t 47)), p 49 (.nilchk (t 46)), fa 50 3 49, fa 51 2 50, s1 (t 51) (t 48)]
def c201_9 : List RO := [p 2 (.mov (z 0))]
def c201m : Mode := ⟨false, []⟩
def c201 : RFunc := ⟨(.seq (.reg c201_0) (.seq (.seq (.reg c201_1) (.cond (t 12) (.seq (.reg c201_2) .ret) .skip)) (.seq (.regD c201_3 [[], [], [], [], [], [], [], [], [], [], [], [], [], [], [], [], []]) (.seq (.seq (.reg c201_4) (.seq (.reg c201_5) (.cond (t 34) (.seq (.reg c201_6) .ret) .skip))) (.seq (.reg c201_7) (.seq (.reg c201_8) (.seq (.reg c201_9) .ret))))))), 52, [.tmp 2]⟩
def c202_0 : List RO := [a 3 (.box (t 1)), p 4 (.mov (z 0))]
def c202_1 : List RO := [m 6 0, p 7 (.nilchk (t 6)), fa 8 1 7, ld 9 8, p 10 (.nilchk (t 9)), fa 11 2 10, la 12 3 11, fa 13 8 3, la 14 3 13, c 15 233 [(t 12), (t 14)], m 5 15]
def c202_2 : List RO := [m 16 5, b 17 .neq (t 16) (z 0)]
def c202_3 : List RO := [m 18 5, m 4 18]
def c202_4 : List RO := [m 19 0, p 20 (.nilchk (t 19)), fa 21 1 20, ld 22 21, fa 23 8 3, la 24 3 23, c 25 98 [(t 24)], p 26 (.nilchk (t 22)), fa 27 2 26, sn 3 (t 27) (t 25)]
def c202_5 : List RO := [p 4 (.mov (z 0))]
def c202m : Mode := ⟨false, []⟩
def c202 : RFunc := ⟨(.seq (.reg c202_0) (.seq (.seq (.regD c202_1 [[], [], [], [], [], [], [], [], [], [], []]) (.seq (.reg c202_2) (.cond (t 17) (.seq (.reg c202_3) .ret) .skip))) (.seq (.regD c202_4 [[], [], [], [], [], [], [3], [], [], []]) (.seq (.reg c202_5) .ret)))), 28, [.tmp 4]⟩
def c203_0 : List RO := [a 3 (.box (t 1)), p 4 (.mov (z 0))]
def c203_1 : List RO := [a 5 (.alloc [(.int .u64 0), (.int .i64 0), (.int .u8 0), (.vs [] .full), (.vs [] .full), (.vs [] .full), (.vs [] .full), (.int .i64 0), (.int .i64 0), (.int .i64 0), (.vs [] .full), (.vs [] .full), (.vs [] .full)]), a 6 (.alloc [(.int .u64 0), (.int .i64 0), (.int .u8 0), (.vs [] .full), (.vs [] .full), (.vs [] .full), (.vs [] .full), (.int .i64 0), (.int .i64 0), (.int .i64 0), (.vs [] .full), (.vs [] .full), (.vs [] .full)])]
def c203_2 : List RO := [p 7 (.mov (u64 0))]
def c203_3 : List RO := [fa 8 1 3, ld 9 8, b 10 .lss (t 9) (z 1), m 11 10, gfa 12 11 false 1 3, gld 13 11 false 12, gb 14 11 false .gtr (t 13) (z 4), p 15 (.pick (t 11) (kb true) (t 14))]
def c203_4 : List RO := [p 4 (.mov (z 8))]
def c203_5 : List RO := [m 17 0, fa 18 2 3, ld 19 18, m 20 0, p 21 (.mkfn 235 [(t 20)] []), c 22 234 [(t 17), (t 19), (z 1), (t 21)], m 16 22, ex 23 0 16, ex 24 1 16, sn 13 (t 5) (t 23), m 4 24]
def c203_6 : List RO := [m 25 4, b 26 .neq (t 25) (z 0)]
def c203_7 : List RO := [m 27 0, p 28 (.nilchk (t 27)), fa 29 1 28, ld 30 29, p 31 (.nilchk (t 30)), fa 32 2 31, la 33 3 32, fa 34 8 3, la 35 3 34, c 36 236 [(t 33), (t 35)], m 4 36]
def c203_8 : List RO := [m 37 4, b 38 .neq (t 37) (z 0)]
def c203_9 : List RO := [m 39 0, la 40 13 3, c 41 237 [(t 39), (t 40)], m 4 41]
def c203_10 : List RO := [m 42 4, b 43 .neq (t 42) (z 0)]
def c203_11 : List RO := [fa 44 9 5, ld 45 44, b 46 .gtr (t 45) (z 63)]
def c203_12 : List RO := [p 4 (.mov (z 9))]
def c203_13 : List RO := [fa 48 0 5, ld 49 48, fa 50 9 5, ld 51 50, c 52 220 [(t 49), (t 51)], m 47 52, ex 53 0 47, ex 54 1 47, m 7 53, m 4 54]
def c203_14 : List RO := [m 55 4, b 56 .neq (t 55) (z 0)]
def c203_15 : List RO := [la 57 13 3, m 58 7, c 59 238 [(t 57), (t 58)], sn 13 (t 6) (t 59)]
def c203_16 : List RO := [la 61 13 5, la 62 13 6, c 63 223 [(t 62)], c 64 222 [(t 61), (t 63)], m 60 64, ex 65 0 60, ex 66 1 60, sn 13 (t 5) (t 65), m 4 66]
def c203_17 : List RO := [m 67 4, b 68 .neq (t 67) (z 0)]
def c203_18 : List RO := [fa 69 9 5, ld 70 69, b 71 .add (t 70) (z 1), fa 72 9 5, s1 (t 72) (t 71)]
def c203_19 : List RO := [m 73 0, p 74 (.nilchk (t 73)), fa 75 0 74, ld 76 75, la 77 13 5, c 78 66 [(t 76), (t 77)]]
def c203_20 : List RO := [m 79 0, p 80 (.nilchk (t 79)), fa 81 0 80, ld 82 81, la 83 13 6, c 84 66 [(t 82), (t 83)]]
def c203_21 : List RO := [m 85 0, m 86 7, p 87 (.nilchk (t 85)), fa 88 3 87, fa 89 2 88, s1 (t 89) (t 86)]
def c203_22 : List RO := [m 90 4, m 4 90]
def c203m : Mode := ⟨false, []⟩
def c203 : RFunc := ⟨(.seq (.reg c203_0) (.scope (.seq (.reg c203_1) (.seq (.reg c203_2) (.seq (.seq (.reg c203_3) (.cond (t 15) (.seq (.reg c203_4) .ret) .skip)) (.seq (.seq (.reg c203_5) (.seq (.reg c203_6) (.cond (t 26) (.goto 0) .skip))) (.seq (.seq (.regD c203_7 [[], [], [], [], [], [], [], [], [], [], []]) (.seq (.reg c203_8) (.cond (t 38) (.goto 0) .skip))) (.seq (.seq (.reg c203_9) (.seq (.reg c203_10) (.cond (t 43) (.goto 0) .skip))) (.seq (.seq (.reg c203_11) (.cond (t 46) (.seq (.reg c203_12) .ret) .skip)) (.seq (.seq (.reg c203_13) (.seq (.reg c203_14) (.cond (t 56) (.goto 0) .skip))) (.seq (.reg c203_15) (.seq (.seq (.regD c203_16 [[], [], [0], [], [], [], [], [], []]) (.seq (.reg c203_17) (.cond (t 68) (.goto 0) .skip))) (.seq (.reg c203_18) (.seq (.regD c203_19 [[], [], [], [], [], []]) (.seq (.regD c203_20 [[], [], [], [], [], []]) (.seq (.reg c203_21) (.seq (.label 0) (.seq (.reg c203_22) .ret)))))))))))))))))), 91, [.tmp 4]⟩
def c204_0 : List RO := [a 3 (.box (t 1)), p 4 (.mov (z 0))]
def c204_1 : List RO := [m 8 0, fa 9 2 3, ld 10 9, m 11 0, p 12 (.mkfn 239 [(t 11)] []), c 13 234 [(t 8), (t 10), (z 2), (t 12)], m 7 13, ex 14 0 7, ex 15 1 7, a 5 (.alloc [(.int .u64 0), (.int .i64 0), (.int .u8 0), (.vs [] .full), (.vs [] .full), (.vs [] .full), (.vs [] .full), (.int .i64 0), (.int .i64 0), (.int .i64 0), (.vs [] .full), (.vs [] .full), (.vs [] .full)]), sn 13 (t 5) (t 14), m 6 15]
def c204_2 : List RO := [m 16 6, b 17 .neq (t 16) (z 0)]
def c204_3 : List RO := [m 18 6, m 4 18]
def c204_4 : List RO := [m 20 0, m 21 0, p 22 (.nilchk (t 21)), fa 23 0 22, ld 24 23, p 25 (.nilchk (t 24)), fa 26 2 25, ld 27 26, fa 28 0 5, ld 29 28, fa 30 4 3, ld 31 30, fa 32 5 3, ld 33 32, c 34 90 [(t 27), (t 29), (t 31), (t 33)], m 19 34, ex 35 0 19, ex 36 1 19, p 37 (.nilchk (t 20)), fa 38 3 37, fa 39 3 38, s1 (t 39) (t 35), m 6 36]
def c204_5 : List RO := [m 40 6, m 4 40]
def c204m : Mode := ⟨false, []⟩
def c204 : RFunc := ⟨(.seq (.reg c204_0) (.seq (.reg c204_1) (.seq (.seq (.reg c204_2) (.cond (t 17) (.seq (.reg c204_3) .ret) .skip)) (.seq (.regD c204_4 [[], [], [], [], [], [], [], [], [], [], [], [], [], [], [], [], [], [], [], [], [], [], []]) (.seq (.reg c204_5) .ret))))), 41, [.tmp 4]⟩
def c205_0 : List RO := [a 3 (.box (t 1)), p 4 (.mov (z 0))]
def c205_1 : List RO := [m 8 0, fa 9 2 3, ld 10 9, m 11 0, p 12 (.mkfn 240 [(t 11)] []), c 13 234 [(t 8), (t 10), (z 2), (t 12)], m 7 13, ex 14 0 7, ex 15 1 7, a 5 (.alloc [(.int .u64 0), (.int .i64 0), (.int .u8 0), (.vs [] .full), (.vs [] .full), (.vs [] .full), (.vs [] .full), (.int .i64 0), (.int .i64 0), (.int .i64 0), (.vs [] .full), (.vs [] .full), (.vs [] .full)]), sn 13 (t 5) (t 14), m 6 15]
def c205_2 : List RO := [m 16 6, b 17 .neq (t 16) (z 0)]
def c205_3 : List RO := [m 18 6, m 4 18]
def c205_4 : List RO := [m 19 0, p 20 (.nilchk (t 19)), fa 21 0 20, ld 22 21, p 23 (.nilchk (t 22)), fa 24 2 23, ld 25 24, fa 26 0 5, ld 27 26, fa 28 4 3, ld 29 28, fa 30 11 3, ld 31 30, c 32 51 [(t 25), (t 27), (t 29), (t 31)], m 4 32]
def c205m : Mode := ⟨false, []⟩
def c205 : RFunc := ⟨(.seq (.reg c205_0) (.seq (.reg c205_1) (.seq (.seq (.reg c205_2) (.cond (t 17) (.seq (.reg c205_3) .ret) .skip)) (.seq (.regD c205_4 [[], [], [], [], [], [], [], [], [], [], [], [], [], [], []]) .ret)))), 33, [.tmp 4]⟩
def c206_0 : List RO := [a 3 (.box (t 1)), p 4 (.mov (z 0))]
def c206_1 : List RO := [fa 11 2 3, ld 12 11, b 13 .eql (t 12) (u64 1)]
def c206_2 : List RO := [p 4 (.mov (z 1))]
def c206_3 : List RO := [m 15 0, fa 16 2 3, ld 17 16, c 18 241 [(t 15), (t 17)], m 14 18, ex 19 0 14, ex 20 1 14, a 5 (.alloc [(.int .u64 0), (.int .i64 0), (.int .u8 0), (.vs [] .full), (.vs [] .full), (.vs [] .full), (.vs [] .full), (.int .i64 0), (.int .i64 0), (.int .i64 0), (.vs [] .full), (.vs [] .full), (.vs [] .full)]), sn 13 (t 5) (t 19), m 6 20]
def c206_4 : List RO := [m 21 6, b 22 .neq (t 21) (z 0)]
def c206_5 : List RO := [m 23 6, m 4 23]
def c206_6 : List RO := [m 25 0, p 26 (.nilchk (t 25)), fa 27 0 26, ld 28 27, fa 29 2 3, ld 30 29, c 31 57 [(t 30)], c 32 65 [(t 28), (t 31)], m 24 32, ex 33 0 24, ex 34 1 24, a 7 (.alloc [(.int .u64 0), (.int .i64 0), (.int .u8 0), (.vs [] .full), (.vs [] .full), (.vs [] .full), (.vs [] .full), (.int .i64 0), (.int .i64 0), (.int .i64 0), (.vs [] .full), (.vs [] .full), (.vs [] .full)]), sn 13 (t 7) (t 33), m 8 34]
def c206_7 : List RO := [m 35 0, la 36 13 7, c 37 235 [(t 35), (t 36)], p 38 (.un .not (t 37))]
def c206_8 : List RO := [p 4 (.mov (z 6))]
def c206_9 : List RO := [m 39 0, p 40 (.nilchk (t 39)), fa 41 0 40, ld 42 41, p 43 (.nilchk (t 42)), fa 44 1 43, ld 45 44, c 46 54 [(t 45)], ln 47 46, p 48 (.mov (z 0))]
def c206_10 : List RO := [b 49 .lss (t 48) (t 47)]
def c206_11 : List RO := [ia 50 1 46 48, ld 51 50, m 10 51]
def c206_12 : List RO := [m 52 10, fa 53 2 3, ld 54 53, c 55 227 [(t 52), (t 54)]]
def c206_13 : List RO := [m 56 0, p 57 (.nilchk (t 56)), fa 58 0 57, ld 59 58, m 60 10, c 61 242 [(t 59), (t 60)]]
def c206_14 : List RO := [b 62 .add (t 48) (z 1), m 48 62]
def c206_15 : List RO := [m 63 0, p 64 (.nilchk (t 63)), fa 65 0 64, ld 66 65, la 67 13 7, la 68 13 5, c 69 223 [(t 68)], c 70 229 [(t 67), (t 69)], c 71 66 [(t 66), (t 70)]]
def c206_16 : List RO := [p 4 (.mov (z 0))]
def c206m : Mode := ⟨false, []⟩
def c206 : RFunc := ⟨(.seq (.reg c206_0) (.seq (.seq (.reg c206_1) (.cond (t 13) (.seq (.reg c206_2) .ret) .skip)) (.seq (.reg c206_3) (.seq (.seq (.reg c206_4) (.cond (t 22) (.seq (.reg c206_5) .ret) .skip)) (.seq (.regD c206_6 [[], [], [], [], [], [], [3], [], [], [], [], [], [], []]) (.seq (.seq (.reg c206_7) (.cond (t 38) (.seq (.reg c206_8) .ret) .skip)) (.seq (.seq (.reg c206_9) (.block 0 (.loop (.seq (.reg c206_10) (.seq (.cond (t 49) .skip (.exit 0)) (.seq (.block 1 (.seq (.reg c206_11) (.seq (.reg c206_12) (.cond (t 55) (.reg c206_13) .skip)))) (.reg c206_14))))))) (.seq (.regD c206_15 [[], [], [], [], [], [], [3, 4], [3], []]) (.seq (.reg c206_16) .ret))))))))), 72, [.tmp 4]⟩
def c207_0 : List RO := [a 3 (.box (t 1)), p 4 (.mov (z 0))]
def c207_1 : List RO := [m 8 0, fa 9 2 3, ld 10 9, m 11 0, p 12 (.mkfn 239 [(t 11)] []), c 13 234 [(t 8), (t 10), (z 3), (t 12)], m 7 13, ex 14 0 7, ex 15 1 7, a 5 (.alloc [(.int .u64 0), (.int .i64 0), (.int .u8 0), (.vs [] .full), (.vs [] .full), (.vs [] .full), (.vs [] .full), (.int .i64 0), (.int .i64 0), (.int .i64 0), (.vs [] .full), (.vs [] .full), (.vs [] .full)]), sn 13 (t 5) (t 14), m 6 15]
def c207_2 : List RO := [m 16 6, b 17 .neq (t 16) (z 0)]
def c207_3 : List RO := [m 18 6, m 4 18]
def c207_4 : List RO := [m 19 0, fa 20 11 5, ld 21 20, c 22 232 [(t 19), (t 21)], m 4 22]
def c207m : Mode := ⟨false, []⟩
def c207 : RFunc := ⟨(.seq (.reg c207_0) (.seq (.reg c207_1) (.seq (.seq (.reg c207_2) (.cond (t 17) (.seq (.reg c207_3) .ret) .skip)) (.seq (.reg c207_4) .ret)))), 23, [.tmp 4]⟩
def c208_0 : List RO := [a 3 (.box (t 1)), p 4 (.mov (z 0))]
def c208_1 : List RO := [m 8 0, fa 9 2 3, ld 10 9, m 11 0, p 12 (.mkfn 235 [(t 11)] []), c 13 234 [(t 8), (t 10), (z 4), (t 12)], m 7 13, ex 14 0 7, ex 15 1 7, a 5 (.alloc [(.int .u64 0), (.int .i64 0), (.int .u8 0), (.vs [] .full), (.vs [] .full), (.vs [] .full), (.vs [] .full), (.int .i64 0), (.int .i64 0), (.int .i64 0), (.vs [] .full), (.vs [] .full), (.vs [] .full)]), sn 13 (t 5) (t 14), m 6 15]
def c208_2 : List RO := [m 16 6, b 17 .neq (t 16) (z 0)]
def c208_3 : List RO := [m 18 6, m 4 18]
def c208_4 : List RO := [fa 20 12 5, ld 21 20, fa 22 11 3, ld 23 22, c 24 230 [(t 21), (t 23)], m 19 24, ex 25 0 19, ex 26 1 19, fa 27 12 5, s1 (t 27) (t 25), m 6 26]
def c208_5 : List RO := [m 28 6, b 29 .neq (t 28) (z 0)]
def c208_6 : List RO := [m 30 6, m 4 30]
def c208_7 : List RO := [m 31 0, p 32 (.nilchk (t 31)), fa 33 0 32, ld 34 33, la 35 13 5, c 36 66 [(t 34), (t 35)]]
def c208_8 : List RO := [p 4 (.mov (z 0))]
def c208m : Mode := ⟨false, []⟩
def c208 : RFunc := ⟨(.seq (.reg c208_0) (.seq (.reg c208_1) (.seq (.seq (.reg c208_2) (.cond (t 17) (.seq (.reg c208_3) .ret) .skip)) (.seq (.seq (.reg c208_4) (.seq (.reg c208_5) (.cond (t 29) (.seq (.reg c208_6) .ret) .skip))) (.seq (.regD c208_7 [[], [], [], [], [], []]) (.seq (.reg c208_8) .ret)))))), 37, [.tmp 4]⟩
def c209_0 : List RO := [a 3 (.box (t 1)), p 4 (.mov (kb false)), p 5 (.mov (z 0))]
def c209_1 : List RO := [m 12 0, fa 13 2 3, ld 14 13, m 15 0, p 16 (.mkfn 235 [(t 15)] []), c 17 234 [(t 12), (t 14), (z 4), (t 16)], m 11 17, ex 18 0 11, ex 19 1 11, a 6 (.alloc [(.int .u64 0), (.int .i64 0), (.int .u8 0), (.vs [] .full), (.vs [] .full), (.vs [] .full), (.vs [] .full), (.int .i64 0), (.int .i64 0), (.int .i64 0), (.vs [] .full), (.vs [] .full), (.vs [] .full)]), sn 13 (t 6) (t 18), m 7 19]
def c209_2 : List RO := [m 20 7, b 21 .neq (t 20) (z 0)]
def c209_3 : List RO := [m 22 7, p 4 (.mov (kb true)), m 5 22]
def c209_4 : List RO := [fa 24 12 6, ld 25 24, c 26 231 [(t 25)], m 23 26, ex 27 0 23, ex 28 1 23, ex 29 2 23, m 8 27, m 9 28, m 10 29]
def c209_5 : List RO := [m 30 10, p 31 (.un .not (t 30))]
def c209_6 : List RO := [m 32 0, p 33 (.nilchk (t 32)), fa 34 1 33, ld 35 34, m 36 0, p 37 (.nilchk (t 36)), fa 38 1 37, ld 39 38, fa 40 2 3, ld 41 40, p 42 (.nilchk (t 35)), fa 43 6 42, s1 (t 43) (z 1), p 44 (.nilchk (t 39)), fa 45 7 44, s1 (t 45) (t 41)]
def c209_7 : List RO := [p 4 (.mov (kb false)), p 5 (.mov (z 0))]
def c209_8 : List RO := [m 46 9, fa 47 12 6, s1 (t 47) (t 46)]
def c209_9 : List RO := [m 48 0, p 49 (.nilchk (t 48)), fa 50 0 49, ld 51 50, la 52 13 6, c 53 66 [(t 51), (t 52)]]
def c209_10 : List RO := [m 54 0, m 55 8, p 56 (.nilchk (t 54)), fa 57 3 56, fa 58 3 57, s1 (t 58) (t 55)]
def c209_11 : List RO := [p 4 (.mov (kb true)), p 5 (.mov (z 0))]
def c209m : Mode := ⟨false, []⟩
def c209 : RFunc := ⟨(.seq (.reg c209_0) (.seq (.reg c209_1) (.seq (.seq (.reg c209_2) (.cond (t 21) (.seq (.reg c209_3) .ret) .skip)) (.seq (.reg c209_4) (.seq (.seq (.reg c209_5) (.cond (t 31) (.seq (.regD c209_6 [[], [], [], [], [], [], [], [], [], [], [], [], [9], [], [], []]) (.seq (.reg c209_7) .ret)) .skip)) (.seq (.reg c209_8) (.seq (.regD c209_9 [[], [], [], [], [], []]) (.seq (.reg c209_10) (.seq (.reg c209_11) .ret))))))))), 59, [.tmp 4, .tmp 5]⟩
def c210_0 : List RO := [a 4 (.box (t 1)), p 6 (.mov (kb false)), p 7 (.mov (z 0))]
def c210_1 : List RO := [m 13 0, fa 14 2 4, ld 15 14, m 16 0, p 17 (.mkfn 239 [(t 16)] []), c 18 234 [(t 13), (t 15), (z 2), (t 17)], m 12 18, ex 19 0 12, ex 20 1 12, a 8 (.alloc [(.int .u64 0), (.int .i64 0), (.int .u8 0), (.vs [] .full), (.vs [] .full), (.vs [] .full), (.vs [] .full), (.int .i64 0), (.int .i64 0), (.int .i64 0), (.vs [] .full), (.vs [] .full), (.vs [] .full)]), sn 13 (t 8) (t 19), m 9 20]
def c210_2 : List RO := [m 21 9, b 22 .neq (t 21) (z 0)]
def c210_3 : List RO := [m 23 9, p 6 (.mov (kb true)), m 7 23]
def c210_4 : List RO := [m 25 0, fa 26 3 4, ld 27 26, m 28 0, p 29 (.mkfn 240 [(t 28)] []), c 30 234 [(t 25), (t 27), (z 2), (t 29)], m 24 30, ex 31 0 24, ex 32 1 24, a 10 (.alloc [(.int .u64 0), (.int .i64 0), (.int .u8 0), (.vs [] .full), (.vs [] .full), (.vs [] .full), (.vs [] .full), (.int .i64 0), (.int .i64 0), (.int .i64 0), (.vs [] .full), (.vs [] .full), (.vs [] .full)]), sn 13 (t 10) (t 31), m 9 32]
def c210_5 : List RO := [m 34 9, b 35 .neq (t 34) (z 0), m 33 35]
def c210_6 : List RO := [m 36 9, p 6 (.mov (kb true)), m 7 36]
def c210_7 : List RO := [fa 38 5 4, ld 39 38, fa 40 10 8, ld 41 40, ln 42 41, fa 43 10 10, ld 44 43, ln 45 44, p 46 (.minmax false (t 42) [(t 45)]), c 47 243 [(t 39), (t 46)], p 48 (.un .not (t 47)), m 37 48]
def c210_8 : List RO := [p 6 (.mov (kb true)), p 7 (.mov (z 11))]
def c210_9 : List RO := [m 49 2, fa 50 5 4, ld 51 50, p 52 (.minmax false (t 49) [(t 51)]), p 53 (.minmax true (z 0) [(t 52)]), m 2 53]
def c210_10 : List RO := [m 54 2, b 55 .add (t 54) (z 4), fa 56 5 4, ld 57 56, p 58 (.minmax false (t 55) [(t 57)]), m 11 58]
def c210_11 : List RO := [m 59 0, p 60 (.nilchk (t 59)), fa 61 0 60, ld 62 61, p 63 (.nilchk (t 62)), fa 64 2 63, ld 65 64, fa 66 0 10, ld 67 66, m 68 2, fa 69 10 8, ld 70 69, m 71 2, m 72 11, p 73 (.slc 1 (t 70) (some (t 71)) (some (t 72)) none), c 74 51 [(t 65), (t 67), (t 68), (t 73)]]
def c210_12 : List RO := [m 75 11, fa 76 5 4, ld 77 76, b 78 .lss (t 75) (t 77)]
def c210_13 : List RO := [m 79 0, p 80 (.nilchk (t 79)), fa 81 1 80, ld 82 81, m 83 0, p 84 (.nilchk (t 83)), fa 85 1 84, ld 86 85, m 87 0, p 88 (.nilchk (t 87)), fa 89 1 88, ld 90 89, m 91 0, p 92 (.nilchk (t 91)), fa 93 1 92, ld 94 93, m 95 0, p 96 (.nilchk (t 95)), fa 97 1 96, ld 98 97, fa 99 2 4, ld 100 99, fa 101 3 4, ld 102 101, m 103 11, fa 104 5 4, ld 105 104, p 106 (.nilchk (t 82)), fa 107 6 106, s1 (t 107) (z 2), p 108 (.nilchk (t 86)), fa 109 7 108, s1 (t 109) (t 100), p 110 (.nilchk (t 90)), fa 111 8 110, s1 (t 111) (t 102), p 112 (.nilchk (t 94)), fa 113 9 112, s1 (t 113) (t 103), p 114 (.nilchk (t 98)), fa 115 10 114, s1 (t 115) (t 105)]
def c210_14 : List RO := [p 6 (.mov (kb false)), p 7 (.mov (z 0))]
def c210_15 : List RO := [m 116 0, fa 117 5 4, ld 118 117, p 119 (.toInt .u64 (t 118)), p 120 (.nilchk (t 116)), fa 121 3 120, fa 122 2 121, s1 (t 122) (t 119)]
def c210_16 : List RO := [p 6 (.mov (kb true)), p 7 (.mov (z 0))]
def c210m : Mode := ⟨false, []⟩
def c210 : RFunc := ⟨(.seq (.reg c210_0) (.seq (.reg c210_1) (.seq (.seq (.reg c210_2) (.cond (t 22) (.seq (.reg c210_3) .ret) .skip)) (.seq (.reg c210_4) (.seq (.block 0 (.seq (.reg c210_5) (.cond (t 33) (.seq (.reg c210_6) .ret) (.seq (.reg c210_7) (.cond (t 37) (.seq (.reg c210_8) .ret) .skip))))) (.seq (.reg c210_9) (.seq (.reg c210_10) (.seq (.regD c210_11 [[], [], [], [], [], [], [], [], [], [], [], [], [], [], [], []]) (.seq (.seq (.reg c210_12) (.cond (t 78) (.seq (.regD c210_13 [[], [], [], [], [], [], [], [], [], [], [], [], [], [], [], [], [], [], [], [], [], [], [], [], [], [], [], [], [], [21, 23, 26], [], [], [23, 26], [], [], [26], [], [], [26], [], [], []]) (.seq (.reg c210_14) .ret)) .skip)) (.seq (.reg c210_15) (.seq (.reg c210_16) .ret))))))))))), 123, [.tmp 6, .tmp 7]⟩
def c211_0 : List RO := [a 3 (.box (t 1)), p 4 (.mov (z 0))]
def c211_1 : List RO := [m 8 0, fa 9 2 3, ld 10 9, c 11 241 [(t 8), (t 10)], m 7 11, ex 12 0 7, ex 13 1 7, a 5 (.alloc [(.int .u64 0), (.int .i64 0), (.int .u8 0), (.vs [] .full), (.vs [] .full), (.vs [] .full), (.vs [] .full), (.int .i64 0), (.int .i64 0), (.int .i64 0), (.vs [] .full), (.vs [] .full), (.vs [] .full)]), sn 13 (t 5) (t 12), m 6 13]
def c211_2 : List RO := [m 14 6, b 15 .neq (t 14) (z 0)]
def c211_3 : List RO := [m 16 6, m 4 16]
def c211_4 : List RO := [m 17 0, fa 18 1 5, ld 19 18, p 20 (.toInt .u8 (t 19)), p 21 (.bslice 1 [(.int .u8 0)] [(0, (t 20))]), fa 22 4 5, la 23 3 22, c 24 97 [(t 21), (t 23)], p 25 (.nilchk (t 17)), fa 26 3 25, fa 27 3 26, s1 (t 27) (t 24)]
def c211_5 : List RO := [fa 28 1 5, ld 29 28]
def c211_6 : List RO := [b 31 .eql (t 29) (z 2), m 30 31]
def c211_7 : List RO := [m 32 0, fa 33 10 5, ld 34 33, ln 35 34, p 36 (.toInt .u64 (t 35)), p 37 (.nilchk (t 32)), fa 38 3 37, fa 39 2 38, s1 (t 39) (t 36)]
def c211_8 : List RO := [b 41 .eql (t 29) (z 1), m 40 41]
def c211_9 : List RO := [m 42 0, fa 43 7 5, ld 44 43, p 45 (.toInt .u64 (t 44)), p 46 (.nilchk (t 42)), fa 47 3 46, fa 48 2 47, s1 (t 48) (t 45)]
def c211_10 : List RO := [p 4 (.mov (z 0))]
def c211m : Mode := ⟨false, []⟩
def c211 : RFunc := ⟨(.seq (.reg c211_0) (.seq (.reg c211_1) (.seq (.seq (.reg c211_2) (.cond (t 15) (.seq (.reg c211_3) .ret) .skip)) (.seq (.reg c211_4) (.seq (.seq (.reg c211_5) (.block 0 (.seq (.reg c211_6) (.cond (t 30) (.reg c211_7) (.seq (.reg c211_8) (.cond (t 40) (.reg c211_9) .skip)))))) (.seq (.reg c211_10) .ret)))))), 49, [.tmp 4]⟩
def c212_0 : List RO := [a 1 (.box (t 0)), a 2 (.alloc [(.int .u8 0), (.vs [] .full)])]
def c212_1 : List RO := [fa 3 0 1, ld 4 3, c 5 245 [(.const (.vs [] .full)), (t 4), (u8 4)], fa 6 1 1, ld 7 6, c 8 245 [(t 5), (t 7), (u8 1)], fa 9 2 1, ld 10 9, c 11 245 [(t 8), (t 10), (u8 0)], c 12 244 [(u8 2), (t 11)], sn 2 (t 2) (t 12)]
def c212m : Mode := ⟨false, []⟩
def c212 : RFunc := ⟨(.seq (.reg c212_0) (.seq (.regD c212_1 [[], [], [], [], [2], [], [], [2, 5], [], [], []]) .ret)), 13, [.cell 2 true 2]⟩
def c213_0 : List RO := [p 4 (.mov (z 0))]
def c213_1 : List RO := [m 6 0, ln 7 6, p 8 (.mov (z 0))]
def c213_2 : List RO := [b 9 .lss (t 8) (t 7)]
def c213_3 : List RO := [m 10 8, m 5 10]
def c213_4 : List RO := [m 11 1, m 12 0, m 13 5, ia 14 2 12 13, la 15 2 14, ⟨(some 16), none, (.dyn (t 11) [(t 15)])⟩]
def c213_5 : List RO := [m 17 5, m 4 17]
def c213_6 : List RO := [b 18 .add (t 8) (z 1), m 8 18]
def c213_7 : List RO := [p 4 (.mov (z (.negSucc 0)))]
def c213m : Mode := ⟨false, []⟩
def c213 : RFunc := ⟨(.seq (.reg c213_0) (.seq (.seq (.reg c213_1) (.block 0 (.loop (.seq (.reg c213_2) (.seq (.cond (t 9) .skip (.exit 0)) (.seq (.block 1 (.seq (.reg c213_3) (.seq (.reg c213_4) (.cond (t 16) (.seq (.reg c213_5) .ret) .skip)))) (.reg c213_6))))))) (.seq (.reg c213_7) .ret))), 19, [.tmp 4]⟩
def c214_0 : List RO := [p 4 (.mov (z 0))]
def c214_1 : List RO := [m 8 0, p 9 (.nilchk (t 8)), fa 10 1 9, ld 11 10, p 12 (.nilchk (t 11)), fa 13 0 12, la 14 2 13, a 5 (.alloc [(.int .u8 0), (.vs [] .full)]), sn 2 (t 5) (t 14)]
def c214_2 : List RO := [m 15 1, ln 16 15, p 17 (.mov (z 0))]
def c214_3 : List RO := [b 18 .lss (t 17) (t 16)]
def c214_4 : List RO := [ia 19 1 15 17, ld 20 19, m 7 20]
def c214_5 : List RO := [la 21 2 5, m 22 7, c 23 246 [(t 21), (t 22), (u8 0)], sn 2 (t 5) (t 23)]
def c214_6 : List RO := [b 24 .add (t 17) (z 1), m 17 24]
def c214_7 : List RO := [fa 25 1 5, ld 26 25, ln 27 26, b 28 .gtr (t 27) (z 16)]
def c214_8 : List RO := [p 4 (.mov (z 9))]
def c214_9 : List RO := [m 29 0, p 30 (.nilchk (t 29)), fa 31 1 30, ld 32 31, la 33 2 5, p 34 (.nilchk (t 32)), fa 35 0 34, sn 2 (t 35) (t 33)]
def c214_10 : List RO := [p 4 (.mov (z 0))]
def c214m : Mode := ⟨false, []⟩
def c214 : RFunc := ⟨(.seq (.reg c214_0) (.seq (.reg c214_1) (.seq (.seq (.reg c214_2) (.block 0 (.loop (.seq (.reg c214_3) (.seq (.cond (t 18) .skip (.exit 0)) (.seq (.block 1 (.seq (.reg c214_4) (.reg c214_5))) (.reg c214_6))))))) (.seq (.seq (.reg c214_7) (.cond (t 28) (.seq (.reg c214_8) .ret) .skip)) (.seq (.regD c214_9 [[], [], [], [], [], [], [], []]) (.seq (.reg c214_10) .ret)))))), 36, [.tmp 4]⟩
def c215_0 : List RO := [a 2 (.box (t 0)), a 3 (.box (t 1)), p 4 (.mov (z 0))]
def c215_1 : List RO := [la 7 2 3, c 8 159 [(t 7)], p 9 (.un .not (t 8))]
def c215_2 : List RO := [p 4 (.mov (z 4))]
def c215_3 : List RO := [la 10 2 3, c 11 160 [(t 10)], ln 12 11, p 13 (.mov (z 0))]
def c215_4 : List RO := [b 14 .lss (t 13) (t 12)]
def c215_5 : List RO := [ia 15 1 11 13, ld 16 15, m 6 16]
def c215_6 : List RO := [la 17 2 2, m 18 6, c 19 247 [(t 17), (t 18)], b 20 .neq (t 19) (u8 0)]
def c215_7 : List RO := [p 4 (.mov (z 5))]
def c215_8 : List RO := [b 21 .add (t 13) (z 1), m 13 21]
def c215_9 : List RO := [la 22 2 2, la 23 2 3, c 24 248 [(t 22), (t 23)], p 25 (.un .not (t 24))]
def c215_10 : List RO := [p 4 (.mov (z 6))]
def c215_11 : List RO := [p 4 (.mov (z 0))]
def c215m : Mode := ⟨false, []⟩
def c215 : RFunc := ⟨(.seq (.reg c215_0) (.seq (.seq (.reg c215_1) (.cond (t 9) (.seq (.reg c215_2) .ret) .skip)) (.seq (.seq (.reg c215_3) (.block 0 (.loop (.seq (.reg c215_4) (.seq (.cond (t 14) .skip (.exit 0)) (.seq (.block 1 (.seq (.reg c215_5) (.seq (.reg c215_6) (.cond (t 20) (.seq (.reg c215_7) .ret) .skip)))) (.reg c215_8))))))) (.seq (.seq (.reg c215_9) (.cond (t 25) (.seq (.reg c215_10) .ret) .skip)) (.seq (.reg c215_11) .ret))))), 26, [.tmp 4]⟩
def c216_0 : List RO := [a 8 (.alloc [(.int .u64 0), (.int .i64 0), (.int .u8 0), (.vs [] .full), (.vs [] .full), (.vs [] .full), (.vs [] .full), (.int .i64 0), (.int .i64 0), (.int .i64 0), (.vs [] .full), (.vs [] .full), (.vs [] .full)]), p 9 (.mov (z 0))]
def c216_1 : List RO := [m 13 0, m 14 1, c 15 226 [(t 13), (t 14)], m 12 15, ex 16 0 12, ex 17 1 12, a 10 (.alloc [(.int .u64 0), (.int .i64 0), (.int .u8 0), (.vs [] .full), (.vs [] .full), (.vs [] .full), (.vs [] .full), (.int .i64 0), (.int .i64 0), (.int .i64 0), (.vs [] .full), (.vs [] .full), (.vs [] .full)]), sn 13 (t 10) (t 16), m 11 17]
def c216_2 : List RO := [m 19 11, b 20 .neq (t 19) (z 0), m 18 20]
def c216_3 : List RO := [p 21 (.build [(.int .u64 0), (.int .i64 0), (.int .u8 0), (.vs [] .full), (.vs [] .full), (.vs [] .full), (.vs [] .full), (.int .i64 0), (.int .i64 0), (.int .i64 0), (.vs [] .full), (.vs [] .full), (.vs [] .full)] []), m 22 11, sn 13 (t 8) (t 21), m 9 22]
def c216_4 : List RO := [fa 24 1 10, ld 25 24, m 26 2, b 27 .neq (t 25) (t 26), m 23 27]
def c216_5 : List RO := [p 28 (.build [(.int .u64 0), (.int .i64 0), (.int .u8 0), (.vs [] .full), (.vs [] .full), (.vs [] .full), (.vs [] .full), (.int .i64 0), (.int .i64 0), (.int .i64 0), (.vs [] .full), (.vs [] .full), (.vs [] .full)] []), sn 13 (t 8) (t 28), p 9 (.mov (z 8))]
def c216_6 : List RO := [m 30 3, la 31 13 10, ⟨(some 32), none, (.dyn (t 30) [(t 31)])⟩, p 33 (.un .not (t 32)), m 29 33]
def c216_7 : List RO := [p 34 (.build [(.int .u64 0), (.int .i64 0), (.int .u8 0), (.vs [] .full), (.vs [] .full), (.vs [] .full), (.vs [] .full), (.int .i64 0), (.int .i64 0), (.int .i64 0), (.vs [] .full), (.vs [] .full), (.vs [] .full)] []), sn 13 (t 8) (t 34), p 9 (.mov (z 6))]
def c216_8 : List RO := [la 35 13 10, sn 13 (t 8) (t 35), p 9 (.mov (z 0))]
def c216m : Mode := ⟨false, []⟩
def c216 : RFunc := ⟨(.seq (.reg c216_0) (.seq (.reg c216_1) (.seq (.block 0 (.seq (.reg c216_2) (.cond (t 18) (.seq (.reg c216_3) .ret) (.seq (.reg c216_4) (.cond (t 23) (.seq (.reg c216_5) .ret) (.seq (.reg c216_6) (.cond (t 29) (.seq (.reg c216_7) .ret) .skip))))))) (.seq (.reg c216_8) .ret)))), 36, [.cell 8 true 13, .tmp 9]⟩
def c217_0 : List RO := [a 3 (.box (t 1)), p 4 (.mov (kb false))]
def c217_1 : List RO := [m 5 0, la 6 13 3, c 7 224 [(t 5), (t 6)], m 8 7, gm 9 8 true 0, gp 10 8 true (.load true 13 (t 3)), gc 11 8 true 225 [(t 9), (t 10)], p 12 (.pick (t 8) (t 11) (kb false)), m 4 12]
def c217m : Mode := ⟨false, []⟩
def c217 : RFunc := ⟨(.seq (.reg c217_0) (.seq (.reg c217_1) .ret)), 13, [.tmp 4]⟩
def c218_0 : List RO := [a 2 (.box (t 0)), a 3 (.box (t 1)), p 4 (.mov (z 0))]
def c218_1 : List RO := [la 6 2 3, c 7 159 [(t 6)], p 8 (.un .not (t 7)), m 5 8]
def c218_2 : List RO := [p 4 (.mov (z 4))]
def c218_3 : List RO := [la 10 2 3, c 11 160 [(t 10)], ln 12 11, b 13 .gtr (t 12) (z 0), m 9 13]
def c218_4 : List RO := [p 4 (.mov (z 5))]
def c218_5 : List RO := [la 15 2 2, la 16 2 3, c 17 248 [(t 15), (t 16)], p 18 (.un .not (t 17)), m 14 18]
def c218_6 : List RO := [p 4 (.mov (z 6))]
def c218_7 : List RO := [p 4 (.mov (z 0))]
def c218m : Mode := ⟨false, []⟩
def c218 : RFunc := ⟨(.seq (.reg c218_0) (.seq (.block 0 (.seq (.reg c218_1) (.cond (t 5) (.seq (.reg c218_2) .ret) (.seq (.reg c218_3) (.cond (t 9) (.seq (.reg c218_4) .ret) (.seq (.reg c218_5) (.cond (t 14) (.seq (.reg c218_6) .ret) .skip))))))) (.seq (.reg c218_7) .ret))), 19, [.tmp 4]⟩
def c219_0 : List RO := [a 3 (.box (t 1)), p 4 (.mov (z 0))]
def c219_1 : List RO := [fa 6 1 3, ld 7 6, b 8 .eql (t 7) (z 1), m 9 8, gfa 10 9 true 5 3, gld 11 9 true 10, gc 12 9 true 26 [(t 11), (z 400)], gp 13 9 true (.un .not (t 12)), p 14 (.pick (t 9) (t 13) (kb false)), m 5 14]
def c219_2 : List RO := [p 4 (.mov (z 1))]
def c219_3 : List RO := [fa 16 1 3, ld 17 16, b 18 .eql (t 17) (z 2), m 19 18, gfa 20 19 true 11 3, gld 21 19 true 20, gp 22 19 true (.lenS (t 21)), gb 23 19 true .gtr (t 22) (z 64), p 24 (.pick (t 19) (t 23) (kb false)), m 15 24]
def c219_4 : List RO := [p 4 (.mov (z 12))]
def c219_5 : List RO := [fa 26 1 3, ld 27 26, b 28 .eql (t 27) (z 3), m 29 28, gm 30 29 true 0, gfa 31 29 true 12 3, gld 32 29 true 31, gc 33 29 true 249 [(t 30), (t 32)], gp 34 29 true (.un .not (t 33)), p 35 (.pick (t 29) (t 34) (kb false)), m 25 35]
def c219_6 : List RO := [p 4 (.mov (z 5))]
def c219_7 : List RO := [p 4 (.mov (z 0))]
def c219m : Mode := ⟨false, []⟩
def c219 : RFunc := ⟨(.seq (.reg c219_0) (.seq (.block 0 (.seq (.reg c219_1) (.cond (t 5) (.seq (.reg c219_2) .ret) (.seq (.reg c219_3) (.cond (t 15) (.seq (.reg c219_4) .ret) (.seq (.reg c219_5) (.cond (t 25) (.seq (.reg c219_6) .ret) .skip))))))) (.seq (.reg c219_7) .ret))), 36, [.tmp 4]⟩
def c220_0 : List RO := [p 4 (.mov (u64 0)), p 5 (.mov (z 0))]
def c220_1 : List RO := [m 7 0, c 8 56 [(t 7)], p 9 (.un .not (t 8)), m 10 9, gm 11 10 false 1, gb 12 10 false .lss (t 11) (z 1), p 13 (.pick (t 10) (kb true) (t 12)), m 14 13, gm 15 14 false 1, gb 16 14 false .gtr (t 15) (z 63), p 17 (.pick (t 14) (kb true) (t 16)), m 6 17]
def c220_2 : List RO := [p 4 (.mov (u64 0)), p 5 (.mov (z 1))]
def c220_3 : List RO := [m 19 0, c 20 250 [(t 19)], b 21 .eql (t 20) (z 6), m 18 21]
def c220_4 : List RO := [p 4 (.mov (u64 0)), p 5 (.mov (z 13))]
def c220_5 : List RO := [m 22 0, b 23 .shl (t 22) (u64 6), m 24 1, p 25 (.toInt .u64 (t 24)), b 26 .or (t 23) (t 25), m 4 26, p 5 (.mov (z 0))]
def c220m : Mode := ⟨false, []⟩
def c220 : RFunc := ⟨(.seq (.reg c220_0) (.seq (.block 0 (.seq (.reg c220_1) (.cond (t 6) (.seq (.reg c220_2) .ret) (.seq (.reg c220_3) (.cond (t 18) (.seq (.reg c220_4) .ret) .skip))))) (.seq (.reg c220_5) .ret))), 27, [.tmp 4, .tmp 5]⟩
def c221_0 : List RO := [a 2 (.box (t 0)), a 4 (.alloc [(.int .u64 0), (.int .i64 0), (.int .u8 0), (.vs [] .full), (.vs [] .full), (.vs [] .full), (.vs [] .full), (.int .i64 0), (.int .i64 0), (.int .i64 0), (.vs [] .full), (.vs [] .full), (.vs [] .full)])]
def c221_1 : List RO := [m 6 1, fa 7 1 2, ld 8 7, fa 9 6 2, la 10 2 9, c 11 29 [(t 10)], p 12 (.build [(.int .u64 0), (.int .i64 0), (.int .u8 0), (.vs [] .full), (.vs [] .full), (.vs [] .full), (.vs [] .full), (.int .i64 0), (.int .i64 0), (.int .i64 0), (.vs [] .full), (.vs [] .full), (.vs [] .full)] [(0, 1, (t 6)), (1, 1, (t 8)), (2, 2, (t 11))]), a 5 (.alloc [(.int .u64 0), (.int .i64 0), (.int .u8 0), (.vs [] .full), (.vs [] .full), (.vs [] .full), (.vs [] .full), (.int .i64 0), (.int .i64 0), (.int .i64 0), (.vs [] .full), (.vs [] .full), (.vs [] .full)]), sn 13 (t 5) (t 12)]
def c221_2 : List RO := [fa 13 1 2, ld 14 13]
def c221_3 : List RO := [b 16 .eql (t 14) (z 1), m 15 16]
def c221_4 : List RO := [fa 17 5 2, ld 18 17, fa 19 7 5, s1 (t 19) (t 18), fa 20 9 5, s1 (t 20) (z 1)]
def c221_5 : List RO := [b 22 .eql (t 14) (z 2), m 21 22]
def c221_6 : List RO := [fa 23 11 2, ld 24 23, c 25 39 [(t 24)], fa 26 10 5, s1 (t 26) (t 25)]
def c221_7 : List RO := [b 28 .eql (t 14) (z 3), m 27 28]
def c221_8 : List RO := [fa 29 12 2, ld 30 29, c 31 95 [(t 30)], fa 32 11 5, s1 (t 32) (t 31)]
def c221_9 : List RO := [la 33 13 5, sn 13 (t 4) (t 33)]
def c221m : Mode := ⟨false, []⟩
def c221 : RFunc := ⟨(.seq (.reg c221_0) (.seq (.regD c221_1 [[], [], [], [], [], [2], [], [], []]) (.seq (.seq (.reg c221_2) (.block 0 (.seq (.reg c221_3) (.cond (t 15) (.reg c221_4) (.seq (.reg c221_5) (.cond (t 21) (.reg c221_6) (.seq (.reg c221_7) (.cond (t 27) (.reg c221_8) .skip)))))))) (.seq (.reg c221_9) .ret)))), 34, [.cell 4 true 13]⟩
def c222_0 : List RO := [a 2 (.box (t 0)), a 4 (.alloc [(.int .u64 0), (.int .i64 0), (.int .u8 0), (.vs [] .full), (.vs [] .full), (.vs [] .full), (.vs [] .full), (.int .i64 0), (.int .i64 0), (.int .i64 0), (.vs [] .full), (.vs [] .full), (.vs [] .full)]), p 5 (.mov (z 0))]
def c222_1 : List RO := [m 7 1, b 8 .lss (t 7) (z 0), m 6 8]
def c222_2 : List RO := [p 9 (.build [(.int .u64 0), (.int .i64 0), (.int .u8 0), (.vs [] .full), (.vs [] .full), (.vs [] .full), (.vs [] .full), (.int .i64 0), (.int .i64 0), (.int .i64 0), (.vs [] .full), (.vs [] .full), (.vs [] .full)] []), sn 13 (t 4) (t 9), p 5 (.mov (z 1))]
def c222_3 : List RO := [m 11 1, fa 12 7 2, ld 13 12, fa 14 8 2, ld 15 14, b 16 .sub (t 13) (t 15), b 17 .gtr (t 11) (t 16), m 10 17]
def c222_4 : List RO := [p 18 (.build [(.int .u64 0), (.int .i64 0), (.int .u8 0), (.vs [] .full), (.vs [] .full), (.vs [] .full), (.vs [] .full), (.int .i64 0), (.int .i64 0), (.int .i64 0), (.vs [] .full), (.vs [] .full), (.vs [] .full)] []), sn 13 (t 4) (t 18), p 5 (.mov (z 10))]
def c222_5 : List RO := [fa 19 8 2, ld 20 19, m 21 1, b 22 .add (t 20) (t 21), fa 23 8 2, s1 (t 23) (t 22)]
def c222_6 : List RO := [la 24 13 2, sn 13 (t 4) (t 24), p 5 (.mov (z 0))]
def c222m : Mode := ⟨false, []⟩
def c222 : RFunc := ⟨(.seq (.reg c222_0) (.seq (.block 0 (.seq (.reg c222_1) (.cond (t 6) (.seq (.reg c222_2) .ret) (.seq (.reg c222_3) (.cond (t 10) (.seq (.reg c222_4) .ret) .skip))))) (.seq (.reg c222_5) (.seq (.reg c222_6) .ret)))), 25, [.cell 4 true 13, .tmp 5]⟩
def c223_0 : List RO := [a 1 (.box (t 0)), p 2 (.mov (z 0))]
def c223_1 : List RO := [fa 3 1 1, ld 4 3]
def c223_2 : List RO := [b 6 .eql (t 4) (z 1), m 5 6]
def c223_3 : List RO := [fa 7 7 1, ld 8 7, b 9 .add (z 1) (t 8), m 2 9]
def c223_4 : List RO := [b 11 .eql (t 4) (z 2), m 10 11]
def c223_5 : List RO := [fa 12 10 1, ld 13 12, ln 14 13, b 15 .add (z 1) (t 14), m 2 15]
def c223_6 : List RO := [b 17 .eql (t 4) (z 3), m 16 17]
def c223_7 : List RO := [p 2 (.mov (z 2))]
def c223_8 : List RO := [b 19 .eql (t 4) (z 4), m 18 19]
def c223_9 : List RO := [p 2 (.mov (z 8))]
def c223_10 : List RO := [p 2 (.mov (z 0))]
def c223m : Mode := ⟨false, []⟩
def c223 : RFunc := ⟨(.seq (.reg c223_0) (.seq (.seq (.reg c223_1) (.block 0 (.seq (.reg c223_2) (.cond (t 5) (.seq (.reg c223_3) .ret) (.seq (.reg c223_4) (.cond (t 10) (.seq (.reg c223_5) .ret) (.seq (.reg c223_6) (.cond (t 16) (.seq (.reg c223_7) .ret) (.seq (.reg c223_8) (.cond (t 18) (.seq (.reg c223_9) .ret) .skip)))))))))) (.seq (.reg c223_10) .ret))), 20, [.tmp 2]⟩
def c224_0 : List RO := [a 3 (.box (t 1)), p 4 (.mov (kb false))]
def c224_1 : List RO := [m 5 0, p 6 (.nilchk (t 5)), fa 7 1 6, ld 8 7, p 9 (.nilchk (t 8)), fa 10 0 9, la 11 2 10, fa 12 2 3, la 13 2 12, c 14 251 [(t 11), (t 13)], m 4 14]
def c224m : Mode := ⟨false, []⟩
def c224 : RFunc := ⟨(.seq (.reg c224_0) (.seq (.regD c224_1 [[], [], [], [], [], [], [], [], [], [], []]) .ret)), 15, [.tmp 4]⟩
def c225_0 : List RO := [a 3 (.box (t 1)), p 4 (.mov (kb false))]
def c225_1 : List RO := [m 5 0, p 6 (.nilchk (t 5)), fa 7 1 6, ld 8 7, p 9 (.nilchk (t 8)), fa 10 0 9, la 11 2 10, fa 12 2 3, la 13 2 12, c 14 252 [(t 11), (t 13)], m 4 14]
def c225m : Mode := ⟨false, []⟩
def c225 : RFunc := ⟨(.seq (.reg c225_0) (.seq (.regD c225_1 [[], [], [], [], [], [], [], [], [], [], []]) .ret)), 15, [.tmp 4]⟩
def c226_0 : List RO := [a 4 (.alloc [(.int .u64 0), (.int .i64 0), (.int .u8 0), (.vs [] .full), (.vs [] .full), (.vs [] .full), (.vs [] .full), (.int .i64 0), (.int .i64 0), (.int .i64 0), (.vs [] .full), (.vs [] .full), (.vs [] .full)]), p 5 (.mov (z 0))]
def c226_1 : List RO := [m 10 1, c 11 56 [(t 10)], p 12 (.un .not (t 11))]
def c226_2 : List RO := [p 13 (.build [(.int .u64 0), (.int .i64 0), (.int .u8 0), (.vs [] .full), (.vs [] .full), (.vs [] .full), (.vs [] .full), (.int .i64 0), (.int .i64 0), (.int .i64 0), (.vs [] .full), (.vs [] .full), (.vs [] .full)] []), sn 13 (t 4) (t 13), p 5 (.mov (z 7))]
def c226_3 : List RO := [m 14 1, c 15 253 [(t 14)], m 6 15]
def c226_4 : List RO := [m 17 0, p 18 (.nilchk (t 17)), fa 19 0 18, ld 20 19, m 21 6, p 22 (.iaddrS 1 (t 21) (z 0)), ld 23 22, c 24 55 [(t 20), (t 23)], m 16 24, ex 25 0 16, ex 26 1 16, a 7 (.alloc [(.int .u64 0), (.int .i64 0), (.int .u8 0), (.vs [] .full), (.vs [] .full), (.vs [] .full), (.vs [] .full), (.int .i64 0), (.int .i64 0), (.int .i64 0), (.vs [] .full), (.vs [] .full), (.vs [] .full)]), sn 13 (t 7) (t 25), m 8 26]
def c226_5 : List RO := [m 27 6, p 28 (.slc 1 (t 27) (some (z 1)) none none), m 6 28]
def c226_6 : List RO := [m 29 6, ln 30 29, b 31 .eql (t 30) (z 0)]
def c226_7 : List RO := [la 32 13 7, sn 13 (t 4) (t 32), p 5 (.mov (z 0))]
def c226_8 : List RO := [fa 33 1 7, ld 34 33, b 35 .neq (t 34) (z 1)]
def c226_9 : List RO := [p 36 (.build [(.int .u64 0), (.int .i64 0), (.int .u8 0), (.vs [] .full), (.vs [] .full), (.vs [] .full), (.vs [] .full), (.int .i64 0), (.int .i64 0), (.int .i64 0), (.vs [] .full), (.vs [] .full), (.vs [] .full)] []), sn 13 (t 4) (t 36), p 5 (.mov (z 7))]
def c226_10 : List RO := [m 37 0, la 38 13 7, c 39 224 [(t 37), (t 38)], p 40 (.un .not (t 39))]
def c226_11 : List RO := [p 41 (.build [(.int .u64 0), (.int .i64 0), (.int .u8 0), (.vs [] .full), (.vs [] .full), (.vs [] .full), (.vs [] .full), (.int .i64 0), (.int .i64 0), (.int .i64 0), (.vs [] .full), (.vs [] .full), (.vs [] .full)] []), sn 13 (t 4) (t 41), p 5 (.mov (z 6))]
def c226_12 : List RO := [p 9 (.mov (kb false))]
def c226_13 : List RO := [m 43 0, p 44 (.nilchk (t 43)), fa 45 0 44, ld 46 45, m 47 6, p 48 (.iaddrS 1 (t 47) (z 0)), ld 49 48, c 50 55 [(t 46), (t 49)], m 42 50, ex 51 0 42, ex 52 1 42, sn 13 (t 7) (t 51), m 9 52]
def c226_14 : List RO := [m 53 9, p 54 (.un .not (t 53))]
def c226_15 : List RO := [p 55 (.build [(.int .u64 0), (.int .i64 0), (.int .u8 0), (.vs [] .full), (.vs [] .full), (.vs [] .full), (.vs [] .full), (.int .i64 0), (.int .i64 0), (.int .i64 0), (.vs [] .full), (.vs [] .full), (.vs [] .full)] []), sn 13 (t 4) (t 55), p 5 (.mov (z 7))]
def c226m : Mode := ⟨false, []⟩
def c226 : RFunc := ⟨(.seq (.reg c226_0) (.scope (.seq (.seq (.reg c226_1) (.cond (t 12) (.seq (.reg c226_2) .ret) .skip)) (.seq (.reg c226_3) (.seq (.regD c226_4 [[], [], [], [], [], [], [], [], [], [], [], [], [], []]) (.seq (.label 0) (.seq (.seq (.reg c226_5) (.seq (.reg c226_6) (.cond (t 31) (.seq (.reg c226_7) .ret) .skip))) (.seq (.seq (.reg c226_8) (.cond (t 35) (.seq (.reg c226_9) .ret) .skip)) (.seq (.seq (.reg c226_10) (.cond (t 40) (.seq (.reg c226_11) .ret) .skip)) (.seq (.reg c226_12) (.seq (.seq (.regD c226_13 [[], [], [], [], [], [], [], [], [], [], [], [], []]) (.seq (.reg c226_14) (.cond (t 54) (.seq (.reg c226_15) .ret) .skip))) (.goto 0)))))))))))), 56, [.cell 4 true 13, .tmp 5]⟩
def c227_0 : List RO := [p 4 (.mov (kb false))]
def c227_1 : List RO := [m 5 0, c 6 253 [(t 5)], m 7 1, c 8 58 [(t 6), (t 7)], m 4 8]
def c227m : Mode := ⟨false, []⟩
def c227 : RFunc := ⟨(.seq (.reg c227_0) (.seq (.reg c227_1) .ret)), 9, [.tmp 4]⟩
def c228_0 : List RO := [m 4 0, p 5 (.nilchk (t 4)), fa 6 1 5, ld 7 6, m 8 1, c 9 254 [(t 7), (t 8)]]
def c228_1 : List RO := [m 10 0, p 11 (.nilchk (t 10)), fa 12 2 11, ld 13 12, m 14 1, c 15 255 [(t 13), (t 14)]]
def c228m : Mode := ⟨false, []⟩
def c228 : RFunc := ⟨(.seq (.reg c228_0) (.reg c228_1)), 16, []⟩
def c229_0 : List RO := [a 2 (.box (t 0)), a 4 (.alloc [(.int .u64 0), (.int .i64 0), (.int .u8 0), (.vs [] .full), (.vs [] .full), (.vs [] .full), (.vs [] .full), (.int .i64 0), (.int .i64 0), (.int .i64 0), (.vs [] .full), (.vs [] .full), (.vs [] .full)])]
def c229_1 : List RO := [m 5 1, b 6 .gtr (t 5) (z 0)]
def c229_2 : List RO := [fa 7 8 2, ld 8 7, m 9 1, b 10 .sub (t 8) (t 9), p 11 (.minmax true (t 10) [(z 0)]), fa 12 8 2, s1 (t 12) (t 11)]
def c229_3 : List RO := [la 13 13 2, sn 13 (t 4) (t 13)]
def c229m : Mode := ⟨false, []⟩
def c229 : RFunc := ⟨(.seq (.reg c229_0) (.seq (.seq (.reg c229_1) (.cond (t 6) (.reg c229_2) .skip)) (.seq (.reg c229_3) .ret))), 14, [.cell 4 true 13]⟩
def c230_0 : List RO := [p 4 (.mov (.const (.vs [] .full))), p 5 (.mov (z 0))]
def c230_1 : List RO := [m 7 1, ln 8 7, b 9 .gtr (t 8) (z 16), m 6 9]
def c230_2 : List RO := [p 4 (.mov (.const (.vs [] .full))), p 5 (.mov (z 12))]
def c230_3 : List RO := [m 11 0, ln 12 11, b 13 .geq (t 12) (z 4), m 10 13]
def c230_4 : List RO := [p 4 (.mov (.const (.vs [] .full))), p 5 (.mov (z 9))]
def c230_5 : List RO := [m 14 0, c 15 256 [(t 14)], m 16 1, c 17 39 [(t 16)], p 18 (.bslice 1 [(.vs [] .full)] [(0, (t 17))]), e 19 (.append 24 1 (t 15) (t 18)), m 4 19, p 5 (.mov (z 0))]
def c230m : Mode := ⟨false, []⟩
def c230 : RFunc := ⟨(.seq (.reg c230_0) (.seq (.block 0 (.seq (.reg c230_1) (.cond (t 6) (.seq (.reg c230_2) .ret) (.seq (.reg c230_3) (.cond (t 10) (.seq (.reg c230_4) .ret) .skip))))) (.seq (.reg c230_5) .ret))), 20, [.tmp 4, .tmp 5]⟩
def c231_0 : List RO := [p 2 (.mov (.const (.vs [] .full))), p 3 (.mov (.const (.vs [] .full))), p 4 (.mov (kb false))]
def c231_1 : List RO := [m 5 0, ln 6 5, b 7 .eql (t 6) (z 0)]
def c231_2 : List RO := [p 2 (.mov (.const (.vs [] .full))), p 3 (.mov (.const (.vs [] .full))), p 4 (.mov (kb false))]
def c231_3 : List RO := [m 8 0, p 9 (.iaddrS 1 (t 8) (z 0)), ld 10 9, c 11 39 [(t 10)], m 12 0, p 13 (.slc 1 (t 12) (some (z 1)) none none), c 14 256 [(t 13)], m 2 11, m 3 14, p 4 (.mov (kb true))]
def c231m : Mode := ⟨false, []⟩
def c231 : RFunc := ⟨(.seq (.reg c231_0) (.seq (.seq (.reg c231_1) (.cond (t 7) (.seq (.reg c231_2) .ret) .skip)) (.seq (.regD c231_3 [[], [], [], [], [], [], [], [], [], []]) .ret))), 15, [.tmp 2, .tmp 3, .tmp 4]⟩
def c232_0 : List RO := [p 4 (.mov (z 0))]
def c232_1 : List RO := [m 8 0, p 9 (.nilchk (t 8)), fa 10 1 9, ld 11 10, p 12 (.nilchk (t 11)), fa 13 2 12, la 14 3 13, a 5 (.alloc [(.vs [] .full), (.vs [] .full), (.vs [] .full)]), sn 3 (t 5) (t 14)]
def c232_2 : List RO := [m 15 1, ln 16 15, p 17 (.mov (z 0))]
def c232_3 : List RO := [b 18 .lss (t 17) (t 16)]
def c232_4 : List RO := [ia 19 1 15 17, ld 20 19, m 7 20]
def c232_5 : List RO := [la 21 3 5, m 22 7, c 23 257 [(t 21), (t 22)], sn 3 (t 5) (t 23)]
def c232_6 : List RO := [b 24 .add (t 17) (z 1), m 17 24]
def c232_7 : List RO := [fa 25 0 5, ld 26 25, ln 27 26, fa 28 1 5, ld 29 28, ln 30 29, b 31 .add (t 27) (t 30), fa 32 2 5, ld 33 32, ln 34 33, b 35 .add (t 31) (t 34), b 36 .gtr (t 35) (z 16)]
def c232_8 : List RO := [p 4 (.mov (z 9))]
def c232_9 : List RO := [m 37 0, p 38 (.nilchk (t 37)), fa 39 1 38, ld 40 39, la 41 3 5, p 42 (.nilchk (t 40)), fa 43 2 42, sn 3 (t 43) (t 41)]
def c232_10 : List RO := [p 4 (.mov (z 0))]
def c232m : Mode := ⟨false, []⟩
def c232 : RFunc := ⟨(.seq (.reg c232_0) (.seq (.reg c232_1) (.seq (.seq (.reg c232_2) (.block 0 (.loop (.seq (.reg c232_3) (.seq (.cond (t 18) .skip (.exit 0)) (.seq (.block 1 (.seq (.reg c232_4) (.reg c232_5))) (.reg c232_6))))))) (.seq (.seq (.reg c232_7) (.cond (t 36) (.seq (.reg c232_8) .ret) .skip)) (.seq (.regD c232_9 [[], [], [], [], [], [], [], []]) (.seq (.reg c232_10) .ret)))))), 44, [.tmp 4]⟩
def c233_0 : List RO := [a 2 (.box (t 0)), a 3 (.box (t 1)), p 4 (.mov (z 0))]
def c233_1 : List RO := [fa 6 2 3, ld 7 6, fa 8 2 2, ld 9 8, c 10 258 [(t 7), (t 9)], p 11 (.un .not (t 10)), m 5 11]
def c233_2 : List RO := [p 4 (.mov (z 5))]
def c233_3 : List RO := [la 13 3 2, la 14 3 3, c 15 259 [(t 13), (t 14)], p 16 (.un .not (t 15)), m 12 16]
def c233_4 : List RO := [p 4 (.mov (z 6))]
def c233_5 : List RO := [p 4 (.mov (z 0))]
def c233m : Mode := ⟨false, []⟩
def c233 : RFunc := ⟨(.seq (.reg c233_0) (.seq (.block 0 (.seq (.reg c233_1) (.cond (t 5) (.seq (.reg c233_2) .ret) (.seq (.reg c233_3) (.cond (t 12) (.seq (.reg c233_4) .ret) .skip))))) (.seq (.reg c233_5) .ret))), 17, [.tmp 4]⟩
def c234_0 : List RO := [a 8 (.alloc [(.int .u64 0), (.int .i64 0), (.int .u8 0), (.vs [] .full), (.vs [] .full), (.vs [] .full), (.vs [] .full), (.int .i64 0), (.int .i64 0), (.int .i64 0), (.vs [] .full), (.vs [] .full), (.vs [] .full)]), p 9 (.mov (z 0))]
def c234_1 : List RO := [m 13 0, m 14 1, c 15 241 [(t 13), (t 14)], m 12 15, ex 16 0 12, ex 17 1 12, a 10 (.alloc [(.int .u64 0), (.int .i64 0), (.int .u8 0), (.vs [] .full), (.vs [] .full), (.vs [] .full), (.vs [] .full), (.int .i64 0), (.int .i64 0), (.int .i64 0), (.vs [] .full), (.vs [] .full), (.vs [] .full)]), sn 13 (t 10) (t 16), m 11 17]
def c234_2 : List RO := [m 19 11, b 20 .neq (t 19) (z 0), m 18 20]
def c234_3 : List RO := [p 21 (.build [(.int .u64 0), (.int .i64 0), (.int .u8 0), (.vs [] .full), (.vs [] .full), (.vs [] .full), (.vs [] .full), (.int .i64 0), (.int .i64 0), (.int .i64 0), (.vs [] .full), (.vs [] .full), (.vs [] .full)] []), m 22 11, sn 13 (t 8) (t 21), m 9 22]
def c234_4 : List RO := [fa 24 1 10, ld 25 24, m 26 2, b 27 .neq (t 25) (t 26), m 23 27]
def c234_5 : List RO := [p 28 (.build [(.int .u64 0), (.int .i64 0), (.int .u8 0), (.vs [] .full), (.vs [] .full), (.vs [] .full), (.vs [] .full), (.int .i64 0), (.int .i64 0), (.int .i64 0), (.vs [] .full), (.vs [] .full), (.vs [] .full)] []), sn 13 (t 8) (t 28), p 9 (.mov (z 8))]
def c234_6 : List RO := [m 30 3, la 31 13 10, ⟨(some 32), none, (.dyn (t 30) [(t 31)])⟩, p 33 (.un .not (t 32)), m 29 33]
def c234_7 : List RO := [p 34 (.build [(.int .u64 0), (.int .i64 0), (.int .u8 0), (.vs [] .full), (.vs [] .full), (.vs [] .full), (.vs [] .full), (.int .i64 0), (.int .i64 0), (.int .i64 0), (.vs [] .full), (.vs [] .full), (.vs [] .full)] []), sn 13 (t 8) (t 34), p 9 (.mov (z 6))]
def c234_8 : List RO := [la 35 13 10, sn 13 (t 8) (t 35), p 9 (.mov (z 0))]
def c234m : Mode := ⟨false, []⟩
def c234 : RFunc := ⟨(.seq (.reg c234_0) (.seq (.reg c234_1) (.seq (.block 0 (.seq (.reg c234_2) (.cond (t 18) (.seq (.reg c234_3) .ret) (.seq (.reg c234_4) (.cond (t 23) (.seq (.reg c234_5) .ret) (.seq (.reg c234_6) (.cond (t 29) (.seq (.reg c234_7) .ret) .skip))))))) (.seq (.reg c234_8) .ret)))), 36, [.cell 8 true 13, .tmp 9]⟩
def c235_0 : List RO := [a 3 (.box (t 1)), p 4 (.mov (kb false))]
def c235_1 : List RO := [m 5 0, la 6 13 3, c 7 239 [(t 5), (t 6)], m 8 7, gm 9 8 true 0, gp 10 8 true (.load true 13 (t 3)), gc 11 8 true 240 [(t 9), (t 10)], p 12 (.pick (t 8) (t 11) (kb false)), m 4 12]
def c235m : Mode := ⟨false, []⟩
def c235 : RFunc := ⟨(.seq (.reg c235_0) (.seq (.reg c235_1) .ret)), 13, [.tmp 4]⟩
def c236_0 : List RO := [a 2 (.box (t 0)), a 3 (.box (t 1)), p 4 (.mov (z 0))]
def c236_1 : List RO := [fa 6 2 3, ld 7 6, ln 8 7, b 9 .gtr (t 8) (z 0), m 5 9]
def c236_2 : List RO := [p 4 (.mov (z 5))]
def c236_3 : List RO := [la 11 3 2, la 12 3 3, c 13 259 [(t 11), (t 12)], p 14 (.un .not (t 13)), m 10 14]
def c236_4 : List RO := [p 4 (.mov (z 6))]
def c236_5 : List RO := [p 4 (.mov (z 0))]
def c236m : Mode := ⟨false, []⟩
def c236 : RFunc := ⟨(.seq (.reg c236_0) (.seq (.block 0 (.seq (.reg c236_1) (.cond (t 5) (.seq (.reg c236_2) .ret) (.seq (.reg c236_3) (.cond (t 10) (.seq (.reg c236_4) .ret) .skip))))) (.seq (.reg c236_5) .ret))), 15, [.tmp 4]⟩
def c237_0 : List RO := [a 3 (.box (t 1)), p 4 (.mov (z 0))]
def c237_1 : List RO := [fa 6 1 3, ld 7 6, b 8 .eql (t 7) (z 1), m 9 8, gfa 10 9 true 5 3, gld 11 9 true 10, gc 12 9 true 243 [(t 11), (z 400)], gp 13 9 true (.un .not (t 12)), p 14 (.pick (t 9) (t 13) (kb false)), m 5 14]
def c237_2 : List RO := [p 4 (.mov (z 1))]
def c237_3 : List RO := [fa 16 1 3, ld 17 16, b 18 .eql (t 17) (z 2), m 19 18, gfa 20 19 true 11 3, gld 21 19 true 20, gp 22 19 true (.lenS (t 21)), gb 23 19 true .gtr (t 22) (z 64), p 24 (.pick (t 19) (t 23) (kb false)), m 15 24]
def c237_4 : List RO := [p 4 (.mov (z 12))]
def c237_5 : List RO := [fa 26 1 3, ld 27 26, b 28 .eql (t 27) (z 3), m 29 28, gm 30 29 true 0, gfa 31 29 true 12 3, gld 32 29 true 31, gc 33 29 true 260 [(t 30), (t 32)], gp 34 29 true (.un .not (t 33)), p 35 (.pick (t 29) (t 34) (kb false)), m 25 35]
def c237_6 : List RO := [p 4 (.mov (z 5))]
def c237_7 : List RO := [p 4 (.mov (z 0))]
def c237m : Mode := ⟨false, []⟩
def c237 : RFunc := ⟨(.seq (.reg c237_0) (.seq (.block 0 (.seq (.reg c237_1) (.cond (t 5) (.seq (.reg c237_2) .ret) (.seq (.reg c237_3) (.cond (t 15) (.seq (.reg c237_4) .ret) (.seq (.reg c237_5) (.cond (t 25) (.seq (.reg c237_6) .ret) .skip))))))) (.seq (.reg c237_7) .ret))), 36, [.tmp 4]⟩
def c238_0 : List RO := [a 2 (.box (t 0)), a 4 (.alloc [(.int .u64 0), (.int .i64 0), (.int .u8 0), (.vs [] .full), (.vs [] .full), (.vs [] .full), (.vs [] .full), (.int .i64 0), (.int .i64 0), (.int .i64 0), (.vs [] .full), (.vs [] .full), (.vs [] .full)])]
def c238_1 : List RO := [m 6 1, fa 7 1 2, ld 8 7, fa 9 8 2, la 10 3 9, c 11 98 [(t 10)], p 12 (.build [(.int .u64 0), (.int .i64 0), (.int .u8 0), (.vs [] .full), (.vs [] .full), (.vs [] .full), (.vs [] .full), (.int .i64 0), (.int .i64 0), (.int .i64 0), (.vs [] .full), (.vs [] .full), (.vs [] .full)] [(0, 1, (t 6)), (1, 1, (t 8)), (4, 3, (t 11))]), a 5 (.alloc [(.int .u64 0), (.int .i64 0), (.int .u8 0), (.vs [] .full), (.vs [] .full), (.vs [] .full), (.vs [] .full), (.int .i64 0), (.int .i64 0), (.int .i64 0), (.vs [] .full), (.vs [] .full), (.vs [] .full)]), sn 13 (t 5) (t 12)]
def c238_2 : List RO := [fa 13 1 2, ld 14 13]
def c238_3 : List RO := [b 16 .eql (t 14) (z 1), m 15 16]
def c238_4 : List RO := [fa 17 5 2, ld 18 17, fa 19 7 5, s1 (t 19) (t 18), fa 20 9 5, s1 (t 20) (z 1)]
def c238_5 : List RO := [b 22 .eql (t 14) (z 2), m 21 22]
def c238_6 : List RO := [fa 23 11 2, ld 24 23, c 25 39 [(t 24)], fa 26 10 5, s1 (t 26) (t 25)]
def c238_7 : List RO := [b 28 .eql (t 14) (z 3), m 27 28]
def c238_8 : List RO := [fa 29 12 2, ld 30 29, c 31 95 [(t 30)], fa 32 11 5, s1 (t 32) (t 31)]
def c238_9 : List RO := [la 33 13 5, sn 13 (t 4) (t 33)]
def c238m : Mode := ⟨false, []⟩
def c238 : RFunc := ⟨(.seq (.reg c238_0) (.seq (.regD c238_1 [[], [], [], [], [], [2], [], [], []]) (.seq (.seq (.reg c238_2) (.block 0 (.seq (.reg c238_3) (.cond (t 15) (.reg c238_4) (.seq (.reg c238_5) (.cond (t 21) (.reg c238_6) (.seq (.reg c238_7) (.cond (t 27) (.reg c238_8) .skip)))))))) (.seq (.reg c238_9) .ret)))), 34, [.cell 4 true 13]⟩
def c239_0 : List RO := [a 3 (.box (t 1)), p 4 (.mov (kb false))]
def c239_1 : List RO := [m 5 0, p 6 (.nilchk (t 5)), fa 7 1 6, ld 8 7, p 9 (.nilchk (t 8)), fa 10 2 9, la 11 3 10, fa 12 4 3, la 13 3 12, c 14 261 [(t 11), (t 13)], m 4 14]
def c239m : Mode := ⟨false, []⟩
def c239 : RFunc := ⟨(.seq (.reg c239_0) (.seq (.regD c239_1 [[], [], [], [], [], [], [], [], [], [], []]) .ret)), 15, [.tmp 4]⟩
def c240_0 : List RO := [a 3 (.box (t 1)), p 4 (.mov (kb false))]
def c240_1 : List RO := [m 5 0, p 6 (.nilchk (t 5)), fa 7 1 6, ld 8 7, p 9 (.nilchk (t 8)), fa 10 2 9, la 11 3 10, fa 12 4 3, la 13 3 12, c 14 259 [(t 11), (t 13)], m 4 14]
def c240m : Mode := ⟨false, []⟩
def c240 : RFunc := ⟨(.seq (.reg c240_0) (.seq (.regD c240_1 [[], [], [], [], [], [], [], [], [], [], []]) .ret)), 15, [.tmp 4]⟩
def c241_0 : List RO := [a 4 (.alloc [(.int .u64 0), (.int .i64 0), (.int .u8 0), (.vs [] .full), (.vs [] .full), (.vs [] .full), (.vs [] .full), (.int .i64 0), (.int .i64 0), (.int .i64 0), (.vs [] .full), (.vs [] .full), (.vs [] .full)]), p 5 (.mov (z 0))]
def c241_1 : List RO := [m 10 1, c 11 56 [(t 10)], p 12 (.un .not (t 11))]
def c241_2 : List RO := [p 13 (.build [(.int .u64 0), (.int .i64 0), (.int .u8 0), (.vs [] .full), (.vs [] .full), (.vs [] .full), (.vs [] .full), (.int .i64 0), (.int .i64 0), (.int .i64 0), (.vs [] .full), (.vs [] .full), (.vs [] .full)] []), sn 13 (t 4) (t 13), p 5 (.mov (z 7))]
def c241_3 : List RO := [m 14 1, c 15 253 [(t 14)], m 6 15]
def c241_4 : List RO := [m 17 0, p 18 (.nilchk (t 17)), fa 19 0 18, ld 20 19, m 21 6, p 22 (.iaddrS 1 (t 21) (z 0)), ld 23 22, c 24 65 [(t 20), (t 23)], m 16 24, ex 25 0 16, ex 26 1 16, a 7 (.alloc [(.int .u64 0), (.int .i64 0), (.int .u8 0), (.vs [] .full), (.vs [] .full), (.vs [] .full), (.vs [] .full), (.int .i64 0), (.int .i64 0), (.int .i64 0), (.vs [] .full), (.vs [] .full), (.vs [] .full)]), sn 13 (t 7) (t 25), m 8 26]
def c241_5 : List RO := [m 27 6, p 28 (.slc 1 (t 27) (some (z 1)) none none), m 6 28]
def c241_6 : List RO := [m 29 6, ln 30 29, b 31 .eql (t 30) (z 0)]
def c241_7 : List RO := [la 32 13 7, sn 13 (t 4) (t 32), p 5 (.mov (z 0))]
def c241_8 : List RO := [fa 33 1 7, ld 34 33, b 35 .neq (t 34) (z 1)]
def c241_9 : List RO := [p 36 (.build [(.int .u64 0), (.int .i64 0), (.int .u8 0), (.vs [] .full), (.vs [] .full), (.vs [] .full), (.vs [] .full), (.int .i64 0), (.int .i64 0), (.int .i64 0), (.vs [] .full), (.vs [] .full), (.vs [] .full)] []), sn 13 (t 4) (t 36), p 5 (.mov (z 7))]
def c241_10 : List RO := [m 37 0, la 38 13 7, c 39 239 [(t 37), (t 38)], p 40 (.un .not (t 39))]
def c241_11 : List RO := [p 41 (.build [(.int .u64 0), (.int .i64 0), (.int .u8 0), (.vs [] .full), (.vs [] .full), (.vs [] .full), (.vs [] .full), (.int .i64 0), (.int .i64 0), (.int .i64 0), (.vs [] .full), (.vs [] .full), (.vs [] .full)] []), sn 13 (t 4) (t 41), p 5 (.mov (z 6))]
def c241_12 : List RO := [p 9 (.mov (kb false))]
def c241_13 : List RO := [m 43 0, p 44 (.nilchk (t 43)), fa 45 0 44, ld 46 45, m 47 6, p 48 (.iaddrS 1 (t 47) (z 0)), ld 49 48, c 50 65 [(t 46), (t 49)], m 42 50, ex 51 0 42, ex 52 1 42, sn 13 (t 7) (t 51), m 9 52]
def c241_14 : List RO := [m 53 9, p 54 (.un .not (t 53))]
def c241_15 : List RO := [p 55 (.build [(.int .u64 0), (.int .i64 0), (.int .u8 0), (.vs [] .full), (.vs [] .full), (.vs [] .full), (.vs [] .full), (.int .i64 0), (.int .i64 0), (.int .i64 0), (.vs [] .full), (.vs [] .full), (.vs [] .full)] []), sn 13 (t 4) (t 55), p 5 (.mov (z 7))]
def c241m : Mode := ⟨false, []⟩
def c241 : RFunc := ⟨(.seq (.reg c241_0) (.scope (.seq (.seq (.reg c241_1) (.cond (t 12) (.seq (.reg c241_2) .ret) .skip)) (.seq (.reg c241_3) (.seq (.regD c241_4 [[], [], [], [], [], [], [], [], [], [], [], [], [], []]) (.seq (.label 0) (.seq (.seq (.reg c241_5) (.seq (.reg c241_6) (.cond (t 31) (.seq (.reg c241_7) .ret) .skip))) (.seq (.seq (.reg c241_8) (.cond (t 35) (.seq (.reg c241_9) .ret) .skip)) (.seq (.seq (.reg c241_10) (.cond (t 40) (.seq (.reg c241_11) .ret) .skip)) (.seq (.reg c241_12) (.seq (.seq (.regD c241_13 [[], [], [], [], [], [], [], [], [], [], [], [], []]) (.seq (.reg c241_14) (.cond (t 54) (.seq (.reg c241_15) .ret) .skip))) (.goto 0)))))))))))), 56, [.cell 4 true 13, .tmp 5]⟩
def c242_0 : List RO := [m 4 0, p 5 (.nilchk (t 4)), fa 6 1 5, ld 7 6, m 8 1, c 9 254 [(t 7), (t 8)]]
def c242_1 : List RO := [m 10 0, p 11 (.nilchk (t 10)), fa 12 2 11, ld 13 12, m 14 1, c 15 255 [(t 13), (t 14)]]
def c242m : Mode := ⟨false, []⟩
def c242 : RFunc := ⟨(.seq (.reg c242_0) (.reg c242_1)), 16, []⟩
def c243_0 : List RO := [p 4 (.mov (kb false))]
def c243_1 : List RO := [m 5 0, b 6 .geq (t 5) (z 0), m 7 6, gm 8 7 true 0, gm 9 7 true 1, gb 10 7 true .leq (t 8) (t 9), p 11 (.pick (t 7) (t 10) (kb false)), m 4 11]
def c243m : Mode := ⟨false, []⟩
def c243 : RFunc := ⟨(.seq (.reg c243_0) (.seq (.reg c243_1) .ret)), 12, [.tmp 4]⟩
def c244_0 : List RO := [a 4 (.alloc [(.int .u8 0), (.vs [] .full)])]
def c244_1 : List RO := [m 11 0, p 12 (.build [(.int .u8 0), (.vs [] .full)] [(0, 1, (t 11))]), a 5 (.alloc [(.int .u8 0), (.vs [] .full)]), sn 2 (t 5) (t 12)]
def c244_2 : List RO := [m 13 1, ln 14 13, p 15 (.mov (z 0))]
def c244_3 : List RO := [b 16 .lss (t 15) (t 14)]
def c244_4 : List RO := [ia 17 2 13 15, la 18 2 17, a 7 (.alloc [(.int .u16 0), (.int .u8 0)]), sn 2 (t 7) (t 18)]
def c244_5 : List RO := [fa 19 1 5, ld 20 19, fa 21 0 7, ld 22 21, c 23 262 [(t 20), (t 22)], m 8 23]
def c244_6 : List RO := [m 24 8, b 25 .geq (t 24) (z 0)]
def c244_7 : List RO := [fa 26 1 5, ld 27 26, m 28 8, m 29 8, b 30 .add (t 29) (z 1), c 31 263 [(t 27), (t 28), (t 30)], fa 32 1 5, s1 (t 32) (t 31)]
def c244_8 : List RO := [fa 33 1 7, ld 34 33, m 35 0, b 36 .neq (t 34) (t 35)]
def c244_9 : List RO := [fa 38 1 5, ld 39 38, fa 40 0 7, ld 41 40, c 42 264 [(t 39), (t 41), (.const (.fn 265 [] []))], m 37 42, ex 43 0 37, ex 44 1 37, m 9 43, m 10 44]
def c244_10 : List RO := [fa 45 1 5, ld 46 45, m 47 9, la 48 2 7, p 49 (.bslice 1 [(.int .u16 0), (.int .u8 0)] [(0, (t 48))]), c 50 266 [(t 46), (t 47), (t 49)], fa 51 1 5, s1 (t 51) (t 50)]
def c244_11 : List RO := [b 52 .add (t 15) (z 1), m 15 52]
def c244_12 : List RO := [la 53 2 5, sn 2 (t 4) (t 53)]
def c244m : Mode := ⟨false, []⟩
def c244 : RFunc := ⟨(.seq (.reg c244_0) (.seq (.reg c244_1) (.seq (.seq (.reg c244_2) (.block 0 (.loop (.seq (.reg c244_3) (.seq (.cond (t 16) .skip (.exit 0)) (.seq (.block 1 (.seq (.reg c244_4) (.seq (.seq (.reg c244_5) (.seq (.reg c244_6) (.cond (t 25) (.reg c244_7) .skip))) (.seq (.reg c244_8) (.cond (t 36) (.seq (.reg c244_9) (.reg c244_10)) .skip))))) (.reg c244_11))))))) (.seq (.reg c244_12) .ret)))), 54, [.cell 4 true 2]⟩
def c245_0 : List RO := [p 6 (.mov (.const (.vs [] .full)))]
def c245_1 : List RO := [m 9 1, ln 10 9, p 11 (.mov (z 0))]
def c245_2 : List RO := [b 12 .lss (t 11) (t 10)]
def c245_3 : List RO := [ia 13 1 9 11, ld 14 13, m 8 14]
def c245_4 : List RO := [m 15 0, m 16 8, m 17 2, p 18 (.build [(.int .u16 0), (.int .u8 0)] [(0, 1, (t 16)), (1, 1, (t 17))]), p 19 (.bslice 1 [(.int .u16 0), (.int .u8 0)] [(0, (t 18))]), e 20 (.append 4 2 (t 15) (t 19)), m 0 20]
def c245_5 : List RO := [b 21 .add (t 11) (z 1), m 11 21]
def c245_6 : List RO := [m 22 0, m 6 22]
def c245m : Mode := ⟨false, []⟩
def c245 : RFunc := ⟨(.seq (.reg c245_0) (.seq (.seq (.reg c245_1) (.block 0 (.loop (.seq (.reg c245_2) (.seq (.cond (t 12) .skip (.exit 0)) (.seq (.block 1 (.seq (.reg c245_3) (.reg c245_4))) (.reg c245_5))))))) (.seq (.reg c245_6) .ret))), 23, [.tmp 6]⟩
def c246_0 : List RO := [a 3 (.box (t 0)), a 6 (.alloc [(.int .u8 0), (.vs [] .full)])]
def c246_1 : List RO := [fa 7 0 3, ld 8 7, fa 9 1 3, ld 10 9, c 11 47 [(t 10)], m 12 1, m 13 2, p 14 (.build [(.int .u16 0), (.int .u8 0)] [(0, 1, (t 12)), (1, 1, (t 13))]), p 15 (.bslice 1 [(.int .u16 0), (.int .u8 0)] [(0, (t 14))]), e 16 (.append 4 2 (t 11) (t 15)), c 17 244 [(t 8), (t 16)], sn 2 (t 6) (t 17)]
def c246m : Mode := ⟨false, []⟩
def c246 : RFunc := ⟨(.seq (.reg c246_0) (.seq (.regD c246_1 [[], [], [], [], [1], [], [], [], [], [1], [], []]) .ret)), 18, [.cell 6 true 2]⟩
def c247_0 : List RO := [a 2 (.box (t 0)), p 4 (.mov (u8 0))]
def c247_1 : List RO := [fa 6 1 2, ld 7 6, m 8 1, c 9 262 [(t 7), (t 8)], m 5 9]
def c247_2 : List RO := [m 10 5, b 11 .geq (t 10) (z 0)]
def c247_3 : List RO := [fa 12 1 2, ld 13 12, m 14 5, ia 15 2 13 14, fa 16 1 15, ld 17 16, m 4 17]
def c247_4 : List RO := [fa 18 0 2, ld 19 18, m 4 19]
def c247m : Mode := ⟨false, []⟩
def c247 : RFunc := ⟨(.seq (.reg c247_0) (.seq (.seq (.reg c247_1) (.seq (.reg c247_2) (.cond (t 11) (.seq (.reg c247_3) .ret) .skip))) (.seq (.reg c247_4) .ret))), 20, [.tmp 4]⟩
def c248_0 : List RO := [a 2 (.box (t 0)), a 3 (.box (t 1)), p 4 (.mov (kb false))]
def c248_1 : List RO := [fa 6 0 2, ld 7 6, fa 8 0 3, ld 9 8, c 10 267 [(t 7), (t 9)], a 5 (.alloc [(.bool false)]), s1 (t 5) (t 10)]
def c248_2 : List RO := [la 11 2 2, la 12 2 3, p 13 (.mkfn 269 [] [(t 5)]), c 14 268 [(t 11), (t 12), (t 13)]]
def c248_3 : List RO := [ld 15 5, m 4 15]
def c248m : Mode := ⟨false, []⟩
def c248 : RFunc := ⟨(.seq (.reg c248_0) (.seq (.reg c248_1) (.seq (.reg c248_2) (.seq (.reg c248_3) .ret)))), 16, [.tmp 4]⟩
def c249_0 : List RO := [a 2 (.box (t 0)), p 4 (.mov (kb false))]
def c249_1 : List RO := [m 5 1, p 6 (.mkfn 271 [] [(t 2)]), c 7 270 [(t 5), (t 6)], p 8 (.un .not (t 7)), m 4 8]
def c249m : Mode := ⟨false, []⟩
def c249 : RFunc := ⟨(.seq (.reg c249_0) (.seq (.reg c249_1) .ret)), 9, [.tmp 4]⟩
def c250_0 : List RO := [p 2 (.mov (z 0))]
def c250_1 : List RO := [m 6 0, c 7 91 [(t 6)], m 5 7, ex 8 0 5, ex 9 1 5, m 3 8, m 4 9]
def c250_2 : List RO := [m 10 3, ln 11 10, m 2 11]
def c250m : Mode := ⟨false, []⟩
def c250 : RFunc := ⟨(.seq (.reg c250_0) (.seq (.reg c250_1) (.seq (.reg c250_2) .ret))), 12, [.tmp 2]⟩
def c251_0 : List RO := [a 2 (.box (t 0)), a 3 (.box (t 1)), p 4 (.mov (kb false))]
def c251_1 : List RO := [la 5 2 3, la 6 2 2, c 7 272 [(t 6)], c 8 248 [(t 5), (t 7)], m 4 8]
def c251m : Mode := ⟨false, []⟩
def c251 : RFunc := ⟨(.seq (.reg c251_0) (.seq (.regD c251_1 [[], [], [0], [], []]) .ret)), 9, [.tmp 4]⟩
def c252_0 : List RO := [a 2 (.box (t 0)), a 3 (.box (t 1)), p 4 (.mov (kb false))]
def c252_1 : List RO := [la 5 2 2, la 6 2 3, c 7 248 [(t 5), (t 6)], m 4 7]
def c252m : Mode := ⟨false, []⟩
def c252 : RFunc := ⟨(.seq (.reg c252_0) (.seq (.reg c252_1) .ret)), 8, [.tmp 4]⟩
def c253_0 : List RO := [p 2 (.mov (.const (.vs [] .full)))]
def c253_1 : List RO := [m 8 0, c 9 91 [(t 8)], m 7 9, ex 10 0 7, ex 11 1 7, m 3 10, m 4 11]
def c253_2 : List RO := [m 12 4, p 13 (.un .not (t 12))]
def c253_3 : List RO := [p 2 (.mov (.const (.vs [] .full)))]
def c253_4 : List RO := [p 14 (.bslice 1 [(.int .u64 0)] [(0, (u64 1))]), m 5 14]
def c253_5 : List RO := [m 15 3, ln 16 15, b 17 .sub (t 16) (z 1), m 6 17]
def c253_6 : List RO := [m 18 6, b 19 .geq (t 18) (z 0)]
def c253_7 : List RO := [m 22 5, m 23 5, m 24 5, ln 25 24, b 26 .sub (t 25) (z 1), ia 27 1 23 26, ld 28 27, b 29 .shl (t 28) (u64 6), m 30 3, m 31 6, ia 32 1 30 31, ld 33 32, p 34 (.toInt .u64 (t 33)), b 35 .or (t 29) (t 34), p 36 (.bslice 1 [(.int .u64 0)] [(0, (t 35))]), e 37 (.append 8 1 (t 22) (t 36)), m 5 37]
def c253_8 : List RO := [m 20 6, b 21 .sub (t 20) (z 1), m 6 21]
def c253_9 : List RO := [m 38 5, m 2 38]
def c253m : Mode := ⟨false, []⟩
def c253 : RFunc := ⟨(.seq (.reg c253_0) (.seq (.reg c253_1) (.seq (.seq (.reg c253_2) (.cond (t 13) (.seq (.reg c253_3) .ret) .skip)) (.seq (.reg c253_4) (.seq (.seq (.reg c253_5) (.block 0 (.loop (.seq (.seq (.reg c253_6) (.cond (t 19) .skip (.exit 0))) (.seq (.block 1 (.regD c253_7 [[], [], [], [], [], [], [], [], [], [], [], [], [], [], [], [], []])) (.reg c253_8)))))) (.seq (.reg c253_9) .ret)))))), 39, [.tmp 2]⟩
def c254_0 : List RO := [p 4 (.mov (z 0))]
def c254_1 : List RO := [m 8 0, m 9 1, c 10 124 [(t 8), (t 9)], m 7 10, ex 11 0 7, ex 12 1 7, m 5 11, m 6 12]
def c254_2 : List RO := [m 13 6, b 14 .eql (t 13) (z 0)]
def c254_3 : List RO := [m 15 0, p 16 (.nilchk (t 15)), fa 17 1 16, ld 18 17, m 19 5, m 20 0, p 21 (.nilchk (t 20)), fa 22 1 21, ld 23 22, m 24 5, ia 25 4 23 24, fa 26 3 25, ld 27 26, p 28 (.build [(.int .u64 0), (.vs [] .full), (.bool false), (.int .i64 0)] [(3, 1, (t 27))]), ia 29 4 18 19, sn 4 (t 29) (t 28)]
def c254_4 : List RO := [m 30 0, p 31 (.nilchk (t 30)), fa 32 2 31, ld 33 32, m 34 1, ⟨none, none, (.e (.mapdel (t 33) (t 34)))⟩]
def c254_5 : List RO := [m 35 6, m 4 35]
def c254m : Mode := ⟨false, []⟩
def c254 : RFunc := ⟨(.seq (.reg c254_0) (.seq (.reg c254_1) (.seq (.seq (.reg c254_2) (.cond (t 14) (.seq (.regD c254_3 [[], [], [], [], [], [], [], [], [], [], [], [], [], [], [], []]) (.reg c254_4)) .skip)) (.seq (.reg c254_5) .ret)))), 36, [.tmp 4]⟩
def c255_0 : List RO := [p 4 (.mov (z 0))]
def c255_1 : List RO := [m 10 0, m 11 1, c 12 121 [(t 10), (t 11)], m 9 12, ex 13 0 9, ex 14 1 9, a 5 (.alloc [(.vs [] .full), (.int .i64 0)]), sn 2 (t 5) (t 13), m 6 14]
def c255_2 : List RO := [m 15 6, b 16 .neq (t 15) (z 0)]
def c255_3 : List RO := [m 17 6, m 4 17]
def c255_4 : List RO := [fa 18 0 5, ld 19 18, ln 20 19, p 21 (.mov (z 0))]
def c255_5 : List RO := [b 22 .lss (t 21) (t 20)]
def c255_6 : List RO := [ia 23 1 19 21, ld 24 23, m 8 24]
def c255_7 : List RO := [m 25 0, p 26 (.nilchk (t 25)), fa 27 0 26, ld 28 27, m 29 8, c 30 273 [(t 28), (t 29)]]
def c255_8 : List RO := [b 31 .add (t 21) (z 1), m 21 31]
def c255_9 : List RO := [m 32 0, p 33 (.nilchk (t 32)), fa 34 1 33, ld 35 34, m 36 1, ⟨none, none, (.e (.mapdel (t 35) (t 36)))⟩]
def c255_10 : List RO := [p 4 (.mov (z 0))]
def c255m : Mode := ⟨false, []⟩
def c255 : RFunc := ⟨(.seq (.reg c255_0) (.seq (.reg c255_1) (.seq (.seq (.reg c255_2) (.cond (t 16) (.seq (.reg c255_3) .ret) .skip)) (.seq (.seq (.reg c255_4) (.block 0 (.loop (.seq (.reg c255_5) (.seq (.cond (t 22) .skip (.exit 0)) (.seq (.block 1 (.seq (.reg c255_6) (.reg c255_7))) (.reg c255_8))))))) (.seq (.reg c255_9) (.seq (.reg c255_10) .ret)))))), 37, [.tmp 4]⟩
def c256_0 : List RO := [p 2 (.mov (.const (.vs [] .full)))]
def c256_1 : List RO := [p 3 (.mov (.const (.vs [] .full)))]
def c256_2 : List RO := [m 6 0, ln 7 6, p 8 (.mov (z 0))]
def c256_3 : List RO := [b 9 .lss (t 8) (t 7)]
def c256_4 : List RO := [ia 10 1 6 8, ld 11 10, m 5 11]
def c256_5 : List RO := [m 12 3, m 13 5, c 14 39 [(t 13)], p 15 (.bslice 1 [(.vs [] .full)] [(0, (t 14))]), e 16 (.append 24 1 (t 12) (t 15)), m 3 16]
def c256_6 : List RO := [b 17 .add (t 8) (z 1), m 8 17]
def c256_7 : List RO := [m 18 3, m 2 18]
def c256m : Mode := ⟨false, []⟩
def c256 : RFunc := ⟨(.seq (.reg c256_0) (.seq (.reg c256_1) (.seq (.seq (.reg c256_2) (.block 0 (.loop (.seq (.reg c256_3) (.seq (.cond (t 9) .skip (.exit 0)) (.seq (.block 1 (.seq (.reg c256_4) (.reg c256_5))) (.reg c256_6))))))) (.seq (.reg c256_7) .ret)))), 19, [.tmp 2]⟩
def c257_0 : List RO := [a 2 (.box (t 0)), a 4 (.alloc [(.vs [] .full), (.vs [] .full), (.vs [] .full)])]
def c257_1 : List RO := [m 6 1, p 7 (.bslice 1 [(.int .u16 0)] [(0, (t 6))]), m 5 7]
def c257_2 : List RO := [fa 8 0 2, ld 9 8, m 10 5, c 11 274 [(t 9), (t 10)], fa 12 1 2, ld 13 12, m 14 5, c 15 274 [(t 13), (t 14)], fa 16 2 2, ld 17 16, m 18 5, c 19 100 [(t 17), (t 18)], p 20 (.build [(.vs [] .full), (.vs [] .full), (.vs [] .full)] [(0, 1, (t 11)), (1, 1, (t 15)), (2, 1, (t 19))]), sn 3 (t 4) (t 20)]
def c257m : Mode := ⟨false, []⟩
def c257 : RFunc := ⟨(.seq (.reg c257_0) (.seq (.reg c257_1) (.seq (.regD c257_2 [[], [], [], [], [], [3], [], [], [], [3, 7], [], [], [], []]) .ret))), 21, [.cell 4 true 3]⟩
def c258_0 : List RO := [p 4 (.mov (kb false))]
def c258_1 : List RO := [m 5 0, m 6 1, c 7 274 [(t 5), (t 6)], ln 8 7, b 9 .eql (t 8) (z 0), m 4 9]
def c258m : Mode := ⟨false, []⟩
def c258 : RFunc := ⟨(.seq (.reg c258_0) (.seq (.reg c258_1) .ret)), 10, [.tmp 4]⟩
def c259_0 : List RO := [a 2 (.box (t 0)), a 3 (.box (t 1)), p 4 (.mov (kb false))]
def c259_1 : List RO := [fa 5 0 2, ld 6 5, fa 7 0 3, ld 8 7, c 9 258 [(t 6), (t 8)], m 10 9, gfa 11 10 true 1 3, gld 12 10 true 11, gfa 13 10 true 1 2, gld 14 10 true 13, gfa 15 10 true 2 2, gld 16 10 true 15, gc 17 10 true 100 [(t 14), (t 16)], gc 18 10 true 258 [(t 12), (t 17)], p 19 (.pick (t 10) (t 18) (kb false)), m 4 19]
def c259m : Mode := ⟨false, []⟩
def c259 : RFunc := ⟨(.seq (.reg c259_0) (.seq (.regD c259_1 [[], [], [], [], [], [], [], [], [], [], [], [], [7], [], [], []]) .ret)), 20, [.tmp 4]⟩
def c260_0 : List RO := [p 4 (.mov (kb false))]
def c260_1 : List RO := [m 5 1, m 6 0, p 7 (.nilchk (t 6)), fa 8 1 7, ld 9 8, p 10 (.nilchk (t 9)), fa 11 2 10, fa 12 2 11, ld 13 12, c 14 258 [(t 5), (t 13)], m 4 14]
def c260m : Mode := ⟨false, []⟩
def c260 : RFunc := ⟨(.seq (.reg c260_0) (.seq (.reg c260_1) .ret)), 15, [.tmp 4]⟩
def c261_0 : List RO := [a 2 (.box (t 0)), a 3 (.box (t 1)), p 4 (.mov (kb false))]
def c261_1 : List RO := [fa 5 0 3, ld 6 5, fa 7 0 2, ld 8 7, fa 9 2 2, ld 10 9, c 11 100 [(t 8), (t 10)], c 12 258 [(t 6), (t 11)], m 13 12, gfa 14 13 true 1 2, gld 15 13 true 14, gfa 16 13 true 1 3, gld 17 13 true 16, gc 18 13 true 258 [(t 15), (t 17)], p 19 (.pick (t 13) (t 18) (kb false)), m 4 19]
def c261m : Mode := ⟨false, []⟩
def c261 : RFunc := ⟨(.seq (.reg c261_0) (.seq (.regD c261_1 [[], [], [], [], [], [], [1], [], [], [], [], [], [], [], [], []]) .ret)), 20, [.tmp 4]⟩
def c262_0 : List RO := [a 3 (.box (t 1)), p 4 (.mov (z 0))]
def c262_1 : List RO := [m 5 0, p 6 (.mkfn 275 [] [(t 3)]), c 7 213 [(t 5), (t 6)], m 4 7]
def c262m : Mode := ⟨false, []⟩
def c262 : RFunc := ⟨(.seq (.reg c262_0) (.seq (.reg c262_1) .ret)), 8, [.tmp 4]⟩
def c263_0 : List RO := [p 6 (.mov (.const (.vs [] .full)))]
def c263_1 : List RO := [m 8 0, m 9 1, m 10 2, m 11 0, ln 12 11, p 13 (.slc 2 (t 8) (some (t 9)) (some (t 10)) (some (t 12)))]
def c263_2 : List RO := [m 14 1, m 15 2, b 16 .eql (t 14) (t 15)]
def c263_3 : List RO := [m 17 0, m 6 17]
def c263_4 : List RO := [m 18 0, ln 19 18, m 7 19]
def c263_5 : List RO := [m 20 0, m 21 1, p 22 (.slc 2 (t 20) none (some (t 21)) none), m 23 0, m 24 2, p 25 (.slc 2 (t 23) (some (t 24)) none none), e 26 (.appendR 4 2 (t 22) (t 25)), m 0 26]
def c263_6 : List RO := [m 27 0, m 28 0, ln 29 28, m 30 7, p 31 (.slc 2 (t 27) (some (t 29)) (some (t 30)) none), ⟨none, none, (.e (.clearK [(.int .u16 0), (.int .u8 0)] (t 31)))⟩]
def c263_7 : List RO := [m 32 0, m 6 32]
def c263m : Mode := ⟨false, [26]⟩
def c263 : RFunc := ⟨(.seq (.reg c263_0) (.seq (.reg c263_1) (.seq (.seq (.reg c263_2) (.cond (t 16) (.seq (.reg c263_3) .ret) .skip)) (.seq (.reg c263_4) (.seq (.regD c263_5 [[], [], [], [], [], [], [], []]) (.seq (.reg c263_6) (.seq (.reg c263_7) .ret))))))), 33, [.tmp 6]⟩
def c264_0 : List RO := [p 6 (.mov (z 0)), p 7 (.mov (kb false))]
def c264_1 : List RO := [m 12 0, ln 13 12, m 8 13]
def c264_2 : List RO := [m 14 8, p 9 (.mov (z 0)), m 10 14]
def c264_3 : List RO := [m 15 9, m 16 10, b 17 .lss (t 15) (t 16)]
def c264_4 : List RO := [m 18 9, m 19 10, b 20 .add (t 18) (t 19), p 21 (.toInt .u64 (t 20)), b 22 .shr (t 21) (u64 1), p 23 (.toInt .i64 (t 22)), m 11 23]
def c264_5 : List RO := [m 24 2, m 25 0, m 26 11, ia 27 2 25 26, la 28 2 27, m 29 1, ⟨(some 30), none, (.dyn (t 24) [(t 28), (t 29)])⟩, b 31 .lss (t 30) (z 0)]
def c264_6 : List RO := [m 32 11, b 33 .add (t 32) (z 1), m 9 33]
def c264_7 : List RO := [m 34 11, m 10 34]
def c264_8 : List RO := [m 35 9, m 36 9, m 37 8, b 38 .lss (t 36) (t 37), m 39 38, gm 40 39 true 2, gm 41 39 true 0, gm 42 39 true 9, gia 43 39 true 2 41 42, gp 44 39 true (.load true 2 (t 43)), gm 45 39 true 1, ⟨(some 46), (some (39, true)), (.dyn (t 40) [(t 44), (t 45)])⟩, gb 47 39 true .eql (t 46) (z 0), p 48 (.pick (t 39) (t 47) (kb false)), m 6 35, m 7 48]
def c264m : Mode := ⟨false, []⟩
def c264 : RFunc := ⟨(.seq (.reg c264_0) (.seq (.reg c264_1) (.seq (.reg c264_2) (.seq (.block 0 (.loop (.seq (.seq (.reg c264_3) (.cond (t 17) .skip (.exit 0))) (.block 1 (.seq (.reg c264_4) (.seq (.reg c264_5) (.cond (t 31) (.reg c264_6) (.reg c264_7)))))))) (.seq (.reg c264_8) .ret))))), 49, [.tmp 6, .tmp 7]⟩
def c265_0 : List RO := [a 2 (.box (t 0)), p 4 (.mov (z 0))]
def c265_1 : List RO := [fa 5 0 2, ld 6 5, p 7 (.toInt .i64 (t 6)), m 8 1, p 9 (.toInt .i64 (t 8)), b 10 .sub (t 7) (t 9), m 4 10]
def c265m : Mode := ⟨false, []⟩
def c265 : RFunc := ⟨(.seq (.reg c265_0) (.seq (.reg c265_1) .ret)), 11, [.tmp 4]⟩
def c266_0 : List RO := [p 6 (.mov (.const (.vs [] .full)))]
def c266_1 : List RO := [m 10 0, m 11 1, p 12 (.slc 2 (t 10) (some (t 11)) none none)]
def c266_2 : List RO := [m 13 2, ln 14 13, m 7 14]
def c266_3 : List RO := [m 15 7, b 16 .eql (t 15) (z 0)]
def c266_4 : List RO := [m 17 0, m 6 17]
def c266_5 : List RO := [m 18 0, ln 19 18, m 8 19]
def c266_6 : List RO := [m 20 1, m 21 8, b 22 .eql (t 20) (t 21)]
def c266_7 : List RO := [m 23 0, m 24 2, e 25 (.appendR 4 2 (t 23) (t 24)), m 6 25]
def c266_8 : List RO := [m 26 8, m 27 7, b 28 .add (t 26) (t 27), m 29 0, p 30 (.capS (t 29)), b 31 .gtr (t 28) (t 30)]
def c266_9 : List RO := [m 32 0, m 33 1, p 34 (.slc 2 (t 32) none (some (t 33)) none), m 35 8, m 36 7, b 37 .add (t 35) (t 36), m 38 1, b 39 .sub (t 37) (t 38), e 40 (.appendZ 4 [(.int .u16 0), (.int .u8 0)] (t 34) (t 39)), m 9 40]
def c266_10 : List RO := [m 41 9, m 42 1, p 43 (.slc 2 (t 41) (some (t 42)) none none), m 44 2, e 45 (.copy 2 (t 43) (t 44))]
def c266_11 : List RO := [m 46 9, m 47 1, m 48 7, b 49 .add (t 47) (t 48), p 50 (.slc 2 (t 46) (some (t 49)) none none), m 51 0, m 52 1, p 53 (.slc 2 (t 51) (some (t 52)) none none), e 54 (.copy 2 (t 50) (t 53))]
def c266_12 : List RO := [m 55 9, m 6 55]
def c266_13 : List RO := [m 56 0, m 57 8, m 58 7, b 59 .add (t 57) (t 58), p 60 (.slc 2 (t 56) none (some (t 59)) none), m 0 60]
def c266_14 : List RO := [m 61 2, m 62 0, m 63 1, m 64 7, b 65 .add (t 63) (t 64), p 66 (.slc 2 (t 62) (some (t 65)) none none), p 67 (.ovl 2 (t 61) (t 66)), p 68 (.un .not (t 67))]
def c266_15 : List RO := [m 69 0, m 70 1, m 71 7, b 72 .add (t 70) (t 71), p 73 (.slc 2 (t 69) (some (t 72)) none none), m 74 0, m 75 1, p 76 (.slc 2 (t 74) (some (t 75)) none none), e 77 (.copyK 2 (t 73) (t 76))]
def c266_16 : List RO := [m 78 0, m 79 1, p 80 (.slc 2 (t 78) (some (t 79)) none none), m 81 2, e 82 (.copyK 2 (t 80) (t 81))]
def c266_17 : List RO := [m 83 0, m 6 83]
def c266_18 : List RO := [m 84 0, m 85 8, p 86 (.slc 2 (t 84) (some (t 85)) none none), m 87 2, e 88 (.copy 2 (t 86) (t 87))]
def c266_19 : List RO := [m 89 0, m 90 1, p 91 (.slc 2 (t 89) (some (t 90)) none none), m 92 7, c 93 277 [(t 91), (t 92)]]
def c266_20 : List RO := [m 94 0, m 6 94]
def c266m : Mode := ⟨false, [25, 77, 82]⟩
def c266 : RFunc := ⟨(.seq (.reg c266_0) (.seq (.reg c266_1) (.seq (.reg c266_2) (.seq (.seq (.reg c266_3) (.cond (t 16) (.seq (.reg c266_4) .ret) .skip)) (.seq (.reg c266_5) (.seq (.seq (.reg c266_6) (.cond (t 22) (.seq (.reg c266_7) .ret) .skip)) (.seq (.seq (.reg c266_8) (.cond (t 31) (.seq (.reg c266_9) (.seq (.reg c266_10) (.seq (.regD c266_11 [[], [], [], [], [], [], [], [], []]) (.seq (.reg c266_12) .ret)))) .skip)) (.seq (.reg c266_13) (.seq (.seq (.reg c266_14) (.cond (t 68) (.seq (.regD c266_15 [[], [], [], [], [], [], [], [], []]) (.seq (.reg c266_16) (.seq (.reg c266_17) .ret))) .skip)) (.seq (.reg c266_18) (.seq (.reg c266_19) (.seq (.reg c266_20) .ret)))))))))))), 95, [.tmp 6]⟩
def c267_0 : List RO := [p 4 (.mov (kb false))]
def c267_1 : List RO := [m 5 0, b 6 .gtr (t 5) (u8 5), m 7 6, gm 8 7 false 1, gb 9 7 false .gtr (t 8) (u8 5), p 10 (.pick (t 7) (kb true) (t 9))]
def c267_2 : List RO := [m 11 0, m 12 1, b 13 .leq (t 11) (t 12), m 4 13]
def c267_3 : List RO := [m 14 0, c 15 123 [(t 14)], m 16 1, c 17 123 [(t 16)], c 18 278 [(t 15), (t 17)], m 4 18]
def c267m : Mode := ⟨false, []⟩
def c267 : RFunc := ⟨(.seq (.reg c267_0) (.seq (.seq (.reg c267_1) (.cond (t 10) (.seq (.reg c267_2) .ret) .skip)) (.seq (.reg c267_3) .ret))), 19, [.tmp 4]⟩
def c268_0 : List RO := [a 3 (.box (t 0)), a 4 (.box (t 1))]
def c268_1 : List RO := [fa 13 1 3, ld 14 13, fa 15 1 4, ld 16 15, m 6 14, m 7 16]
def c268_2 : List RO := [m 17 6, ln 18 17, m 19 7, ln 20 19, b 21 .add (t 18) (t 20), b 22 .eql (t 21) (z 0)]
def c268_3 : List RO := [fa 23 0 3, ld 24 23, fa 25 0 4, ld 26 25, m 8 24, m 9 26]
def c268_4 : List RO := [m 27 7, ln 28 27, b 29 .eql (t 28) (z 0), m 30 29, gm 31 30 false 6, gp 32 30 false (.lenS (t 31)), gb 33 30 false .gtr (t 32) (z 0), gm 34 30 false 33, gm 35 34 true 6, gp 36 34 true (.iaddrS 2 (t 35) (z 0)), gfa 37 34 true 0 36, gld 38 34 true 37, gm 39 34 true 7, gp 40 34 true (.iaddrS 2 (t 39) (z 0)), gfa 41 34 true 0 40, gld 42 34 true 41, gb 43 34 true .leq (t 38) (t 42), gp 44 30 false (.pick (t 34) (t 43) (kb false)), p 45 (.pick (t 30) (kb true) (t 44)), m 10 45]
def c268_5 : List RO := [m 46 6, ln 47 46, b 48 .eql (t 47) (z 0), m 49 48, gm 50 49 false 7, gp 51 49 false (.lenS (t 50)), gb 52 49 false .gtr (t 51) (z 0), gm 53 49 false 52, gm 54 53 true 7, gp 55 53 true (.iaddrS 2 (t 54) (z 0)), gfa 56 53 true 0 55, gld 57 53 true 56, gm 58 53 true 6, gp 59 53 true (.iaddrS 2 (t 58) (z 0)), gfa 60 53 true 0 59, gld 61 53 true 60, gb 62 53 true .leq (t 57) (t 61), gp 63 49 false (.pick (t 53) (t 62) (kb false)), p 64 (.pick (t 49) (kb true) (t 63)), m 11 64]
def c268_6 : List RO := [p 12 (.mov (u16 0))]
def c268_7 : List RO := [m 65 11]
def c268_8 : List RO := [m 66 7, p 67 (.iaddrS 2 (t 66) (z 0)), fa 68 0 67, ld 69 68, m 70 7, p 71 (.iaddrS 2 (t 70) (z 0)), fa 72 1 71, ld 73 72, m 74 7, p 75 (.slc 2 (t 74) (some (z 1)) none none), m 12 69, m 9 73, m 7 75]
def c268_9 : List RO := [m 76 10]
def c268_10 : List RO := [m 77 6, p 78 (.iaddrS 2 (t 77) (z 0)), fa 79 0 78, ld 80 79, m 81 6, p 82 (.iaddrS 2 (t 81) (z 0)), fa 83 1 82, ld 84 83, m 85 6, p 86 (.slc 2 (t 85) (some (z 1)) none none), m 12 80, m 8 84, m 6 86]
def c268_11 : List RO := [m 87 2, m 88 12, m 89 8, m 90 9, ⟨(some 91), none, (.dyn (t 87) [(t 88), (t 89), (t 90)])⟩]
def c268m : Mode := ⟨false, []⟩
def c268 : RFunc := ⟨(.seq (.reg c268_0) (.scope (.seq (.regD c268_1 [[], [], [], [], [], []]) (.seq (.label 0) (.seq (.seq (.reg c268_2) (.cond (t 22) .ret .skip)) (.seq (.regD c268_3 [[], [], [], [], [], []]) (.seq (.regD c268_4 [[], [], [], [], [], [], [], [], [], [], [], [], [], [], [], [], [], [], [], []]) (.seq (.regD c268_5 [[], [], [], [], [], [], [], [], [], [], [], [], [], [], [], [], [], [], [], []]) (.seq (.reg c268_6) (.seq (.seq (.reg c268_7) (.cond (t 65) (.regD c268_8 [[], [], [], [], [], [], [], [], [], [], [], [], []]) .skip)) (.seq (.seq (.reg c268_9) (.cond (t 76) (.regD c268_10 [[], [], [], [], [], [], [], [], [], [], [], [], []]) .skip)) (.seq (.reg c268_11) (.goto 0))))))))))))), 92, []⟩
def c269_0 : List RO := [ld 7 3, m 8 7, gm 9 8 true 1, gm 10 8 true 2, gc 11 8 true 267 [(t 9), (t 10)], p 12 (.pick (t 8) (t 11) (kb false)), s1 (t 3) (t 12)]
def c269m : Mode := ⟨false, []⟩
def c269 : RFunc := ⟨(.reg c269_0), 13, []⟩
def c270_0 : List RO := [p 4 (.mov (kb false))]
def c270_1 : List RO := [m 5 0, m 6 1, c 7 279 [(t 5), (t 6)], b 8 .geq (t 7) (z 0), m 4 8]
def c270m : Mode := ⟨false, []⟩
def c270 : RFunc := ⟨(.seq (.reg c270_0) (.seq (.reg c270_1) .ret)), 9, [.tmp 4]⟩
def c271_0 : List RO := [p 3 (.mov (kb false))]
def c271_1 : List RO := [ld 4 1, p 5 (.nilchk (t 4)), fa 6 1 5, ld 7 6, p 8 (.nilchk (t 7)), fa 9 0 8, la 10 2 9, m 11 0, c 12 247 [(t 10), (t 11)], b 13 .neq (t 12) (u8 0), m 3 13]
def c271m : Mode := ⟨false, []⟩
def c271 : RFunc := ⟨(.seq (.reg c271_0) (.seq (.reg c271_1) .ret)), 14, [.tmp 3]⟩
def c272_0 : List RO := [a 1 (.box (t 0)), a 2 (.alloc [(.int .u8 0), (.vs [] .full)])]
def c272_1 : List RO := [la 3 2 1, la 4 2 1, c 5 280 [(t 3), (t 4), (.const (.fn 281 [] []))], sn 2 (t 2) (t 5)]
def c272m : Mode := ⟨false, []⟩
def c272 : RFunc := ⟨(.seq (.reg c272_0) (.seq (.reg c272_1) .ret)), 6, [.cell 2 true 2]⟩
def c273_0 : List RO := [p 4 (.mov (z 0))]
def c273_1 : List RO := [m 8 0, m 9 1, c 10 164 [(t 8), (t 9)], m 7 10, ex 11 0 7, ex 12 1 7, m 5 11, m 6 12]
def c273_2 : List RO := [m 13 6, b 14 .eql (t 13) (z 0)]
def c273_3 : List RO := [m 15 5, p 16 (.nilchk (t 15)), fa 17 16 16, s1 (t 17) (kb false)]
def c273_4 : List RO := [m 18 6, m 4 18]
def c273m : Mode := ⟨false, []⟩
def c273 : RFunc := ⟨(.seq (.reg c273_0) (.seq (.reg c273_1) (.seq (.seq (.reg c273_2) (.cond (t 14) (.reg c273_3) .skip)) (.seq (.reg c273_4) .ret)))), 19, [.tmp 4]⟩
def c274_0 : List RO := [p 4 (.mov (.const (.vs [] .full)))]
def c274_1 : List RO := [m 5 0, m 6 1, c 7 141 [(t 5), (t 6), (.const (.fn 283 [] []))], m 4 7]
def c274m : Mode := ⟨false, []⟩
def c274 : RFunc := ⟨(.seq (.reg c274_0) (.seq (.reg c274_1) .ret)), 8, [.tmp 4]⟩
def c275_0 : List RO := [a 2 (.box (t 0)), p 3 (.mov (kb false))]
def c275_1 : List RO := [fa 4 0 2, ld 5 4, ld 6 1, b 7 .eql (t 5) (t 6), m 3 7]
def c275m : Mode := ⟨false, []⟩
def c275 : RFunc := ⟨(.seq (.reg c275_0) (.seq (.reg c275_1) .ret)), 8, [.tmp 3]⟩
def c277_0 : List RO := [m 4 0, m 5 0, ln 6 5, m 7 1, b 8 .sub (t 6) (t 7), c 9 284 [(t 4), (t 8)]]
def c277m : Mode := ⟨false, []⟩
def c277 : RFunc := ⟨(.reg c277_0), 10, []⟩
def c278_0 : List RO := [p 4 (.mov (kb false))]
def c278_1 : List RO := [m 5 0, p 6 (.part false (t 5)), m 7 1, p 8 (.part false (t 7)), b 9 .leq (t 6) (t 8), m 10 9, gm 11 10 true 0, gp 12 10 true (.part true (t 11)), gm 13 10 true 1, gp 14 10 true (.part true (t 13)), gb 15 10 true .geq (t 12) (t 14), p 16 (.pick (t 10) (t 15) (kb false)), m 4 16]
def c278m : Mode := ⟨false, []⟩
def c278 : RFunc := ⟨(.seq (.reg c278_0) (.seq (.reg c278_1) .ret)), 17, [.tmp 4]⟩
def c279_0 : List RO := [p 4 (.mov (z 0))]
def c279_1 : List RO := [m 6 0, ln 7 6, p 8 (.mov (z 0))]
def c279_2 : List RO := [b 9 .lss (t 8) (t 7)]
def c279_3 : List RO := [m 10 8, m 5 10]
def c279_4 : List RO := [m 11 1, m 12 0, m 13 5, ia 14 1 12 13, ld 15 14, ⟨(some 16), none, (.dyn (t 11) [(t 15)])⟩]
def c279_5 : List RO := [m 17 5, m 4 17]
def c279_6 : List RO := [b 18 .add (t 8) (z 1), m 8 18]
def c279_7 : List RO := [p 4 (.mov (z (.negSucc 0)))]
def c279m : Mode := ⟨false, []⟩
def c279 : RFunc := ⟨(.seq (.reg c279_0) (.seq (.seq (.reg c279_1) (.block 0 (.loop (.seq (.reg c279_2) (.seq (.cond (t 9) .skip (.exit 0)) (.seq (.block 1 (.seq (.reg c279_3) (.seq (.reg c279_4) (.cond (t 16) (.seq (.reg c279_5) .ret) .skip)))) (.reg c279_6))))))) (.seq (.reg c279_7) .ret))), 19, [.tmp 4]⟩
def c280_0 : List RO := [a 3 (.box (t 0)), a 4 (.box (t 1)), a 5 (.box (t 2)), a 6 (.alloc [(.int .u8 0), (.vs [] .full)])]
def c280_1 : List RO := [ld 8 5, fa 9 0 3, ld 10 9, fa 11 0 4, ld 12 11, ⟨(some 13), none, (.dyn (t 8) [(t 10), (t 12)])⟩, p 14 (.build [(.int .u8 0), (.vs [] .full)] [(0, 1, (t 13))]), a 7 (.alloc [(.int .u8 0), (.vs [] .full)]), sn 2 (t 7) (t 14)]
def c280_2 : List RO := [la 15 2 3, la 16 2 4, p 17 (.mkfn 285 [] [(t 5), (t 7)]), c 18 268 [(t 15), (t 16), (t 17)]]
def c280_3 : List RO := [la 19 2 7, sn 2 (t 6) (t 19)]
def c280m : Mode := ⟨false, []⟩
def c280 : RFunc := ⟨(.seq (.reg c280_0) (.seq (.reg c280_1) (.seq (.reg c280_2) (.seq (.reg c280_3) .ret)))), 20, [.cell 6 true 2]⟩
def c281_0 : List RO := [p 4 (.mov (u8 0))]
def c281_1 : List RO := [m 5 0, c 6 282 [(t 5)], m 4 6]
def c281m : Mode := ⟨false, []⟩
def c281 : RFunc := ⟨(.seq (.reg c281_0) (.seq (.reg c281_1) .ret)), 7, [.tmp 4]⟩
def c282_0 : List RO := [p 2 (.mov (u8 0))]
def c282_1 : List RO := [m 3 0, b 4 .eql (t 3) (u8 0)]
def c282_2 : List RO := [p 2 (.mov (u8 5))]
def c282_3 : List RO := [m 5 0, m 2 5]
def c282m : Mode := ⟨false, []⟩
def c282 : RFunc := ⟨(.seq (.reg c282_0) (.seq (.seq (.reg c282_1) (.cond (t 4) (.seq (.reg c282_2) .ret) .skip)) (.seq (.reg c282_3) .ret))), 6, [.tmp 2]⟩
def c283_0 : List RO := [p 4 (.mov (kb false))]
def c283_1 : List RO := [m 5 1, p 6 (.un .not (t 5)), m 4 6]
def c283m : Mode := ⟨false, []⟩
def c283 : RFunc := ⟨(.seq (.reg c283_0) (.seq (.reg c283_1) .ret)), 7, [.tmp 4]⟩
def c284_0 : List RO := [m 4 0, m 5 1, p 6 (.slc 2 (t 4) none (some (t 5)) none), c 7 286 [(t 6)]]
def c284_1 : List RO := [m 8 0, m 9 1, p 10 (.slc 2 (t 8) (some (t 9)) none none), c 11 286 [(t 10)]]
def c284_2 : List RO := [m 12 0, c 13 286 [(t 12)]]
def c284m : Mode := ⟨false, []⟩
def c284 : RFunc := ⟨(.seq (.reg c284_0) (.seq (.reg c284_1) (.reg c284_2))), 14, []⟩
def c285_0 : List RO := [ld 9 3, m 10 1, m 11 2, ⟨(some 12), none, (.dyn (t 9) [(t 10), (t 11)])⟩, m 8 12]
def c285_1 : List RO := [m 13 8, fa 14 0 4, ld 15 14, b 16 .neq (t 13) (t 15)]
def c285_2 : List RO := [fa 17 1 4, ld 18 17, m 19 0, m 20 8, p 21 (.build [(.int .u16 0), (.int .u8 0)] [(0, 1, (t 19)), (1, 1, (t 20))]), p 22 (.bslice 1 [(.int .u16 0), (.int .u8 0)] [(0, (t 21))]), e 23 (.append 4 2 (t 18) (t 22)), fa 24 1 4, s1 (t 24) (t 23)]
def c285m : Mode := ⟨false, []⟩
def c285 : RFunc := ⟨(.seq (.reg c285_0) (.seq (.reg c285_1) (.cond (t 16) (.reg c285_2) .skip))), 25, []⟩
def c286_0 : List RO := [m 4 0, ln 5 4, b 6 .sub (t 5) (z 1), p 2 (.mov (z 0)), m 3 6]
def c286_1 : List RO := [m 7 2, m 8 3, b 9 .lss (t 7) (t 8)]
def c286_2 : List RO := [m 14 0, m 15 2, m 16 0, m 17 3, m 18 0, m 19 3, ia 20 2 18 19, la 21 2 20, m 22 0, m 23 2, ia 24 2 22 23, la 25 2 24, ia 26 2 14 15, sn 2 (t 26) (t 21), ia 27 2 16 17, sn 2 (t 27) (t 25)]
def c286_3 : List RO := [m 10 2, b 11 .add (t 10) (z 1), m 12 3, b 13 .sub (t 12) (z 1), m 2 11, m 3 13]
def c286m : Mode := ⟨false, []⟩
def c286 : RFunc := ⟨(.seq (.reg c286_0) (.block 0 (.loop (.seq (.seq (.reg c286_1) (.cond (t 9) .skip (.exit 0))) (.seq (.block 1 (.regD c286_2 [[], [], [], [], [], [], [], [], [], [], [], [], [], [], [], []])) (.reg c286_3)))))), 28, []⟩
theorem c139_ok : cFunc Tryz.prog c139m Tryz.f139 = some c139 := by kernel_rfl
theorem c140_ok : cFunc Tryz.prog c140m Tryz.f140 = some c140 := by kernel_rfl
theorem c141_ok : cFunc Tryz.prog c141m Tryz.f141 = some c141 := by kernel_rfl
theorem c142_ok : cFunc Tryz.prog c142m Tryz.f142 = some c142 := by kernel_rfl
theorem c143_ok : cFunc Tryz.prog c143m Tryz.f143 = some c143 := by kernel_rfl
theorem c144_ok : cFunc Tryz.prog c144m Tryz.f144 = some c144 := by kernel_rfl
theorem c145_ok : cFunc Tryz.prog c145m Tryz.f145 = some c145 := by kernel_rfl
theorem c146_ok : cFunc Tryz.prog c146m Tryz.f146 = some c146 := by kernel_rfl
theorem c147_ok : cFunc Tryz.prog c147m Tryz.f147 = some c147 := by kernel_rfl
theorem c148_ok : cFunc Tryz.prog c148m Tryz.f148 = some c148 := by kernel_rfl
theorem c149_ok : cFunc Tryz.prog c149m Tryz.f149 = some c149 := by kernel_rfl
theorem c150_ok : cFunc Tryz.prog c150m Tryz.f150 = some c150 := by kernel_rfl
theorem c151_ok : cFunc Tryz.prog c151m Tryz.f151 = some c151 := by kernel_rfl
theorem c152_ok : cFunc Tryz.prog c152m Tryz.f152 = some c152 := by kernel_rfl
theorem c153_ok : cFunc Tryz.prog c153m Tryz.f153 = some c153 := by kernel_rfl
theorem c154_ok : cFunc Tryz.prog c154m Tryz.f154 = some c154 := by kernel_rfl
theorem c155_ok : cFunc Tryz.prog c155m Tryz.f155 = some c155 := by kernel_rfl
theorem c156_ok : cFunc Tryz.prog c156m Tryz.f156 = some c156 := by kernel_rfl
theorem c157_ok : cFunc Tryz.prog c157m Tryz.f157 = some c157 := by kernel_rfl
theorem c158_ok : cFunc Tryz.prog c158m Tryz.f158 = some c158 := by kernel_rfl
theorem c159_ok : cFunc Tryz.prog c159m Tryz.f159 = some c159 := by kernel_rfl
theorem c160_ok : cFunc Tryz.prog c160m Tryz.f160 = some c160 := by kernel_rfl
theorem c161_ok : cFunc Tryz.prog c161m Tryz.f161 = some c161 := by kernel_rfl
theorem c162_ok : cFunc Tryz.prog c162m Tryz.f162 = some c162 := by kernel_rfl
theorem c163_ok : cFunc Tryz.prog c163m Tryz.f163 = some c163 := by kernel_rfl
theorem c164_ok : cFunc Tryz.prog c164m Tryz.f164 = some c164 := by kernel_rfl
theorem c165_ok : cFunc Tryz.prog c165m Tryz.f165 = some c165 := by kernel_rfl
theorem c166_ok : cFunc Tryz.prog c166m Tryz.f166 = some c166 := by kernel_rfl
theorem c167_ok : cFunc Tryz.prog c167m Tryz.f167 = some c167 := by kernel_rfl
theorem c168_ok : cFunc Tryz.prog c168m Tryz.f168 = some c168 := by kernel_rfl
theorem c169_ok : cFunc Tryz.prog c169m Tryz.f169 = some c169 := by kernel_rfl
theorem c170_ok : cFunc Tryz.prog c170m Tryz.f170 = some c170 := by kernel_rfl
theorem c171_ok : cFunc Tryz.prog c171m Tryz.f171 = some c171 := by kernel_rfl
theorem c172_ok : cFunc Tryz.prog c172m Tryz.f172 = some c172 := by kernel_rfl
theorem c173_ok : cFunc Tryz.prog c173m Tryz.f173 = some c173 := by kernel_rfl
theorem c174_ok : cFunc Tryz.prog c174m Tryz.f174 = some c174 := by kernel_rfl
theorem c175_ok : cFunc Tryz.prog c175m Tryz.f175 = some c175 := by kernel_rfl
theorem c176_ok : cFunc Tryz.prog c176m Tryz.f176 = some c176 := by kernel_rfl
theorem c177_ok : cFunc Tryz.prog c177m Tryz.f177 = some c177 := by kernel_rfl
theorem c178_ok : cFunc Tryz.prog c178m Tryz.f178 = some c178 := by kernel_rfl
theorem c179_ok : cFunc Tryz.prog c179m Tryz.f179 = some c179 := by kernel_rfl
theorem c180_ok : cFunc Tryz.prog c180m Tryz.f180 = some c180 := by kernel_rfl
theorem c181_ok : cFunc Tryz.prog c181m Tryz.f181 = some c181 := by kernel_rfl
theorem c182_ok : cFunc Tryz.prog c182m Tryz.f182 = some c182 := by kernel_rfl
theorem c183_ok : cFunc Tryz.prog c183m Tryz.f183 = some c183 := by kernel_rfl
theorem c184_ok : cFunc Tryz.prog c184m Tryz.f184 = some c184 := by kernel_rfl
theorem c185_ok : cFunc Tryz.prog c185m Tryz.f185 = some c185 := by kernel_rfl
theorem c186_ok : cFunc Tryz.prog c186m Tryz.f186 = some c186 := by kernel_rfl
theorem c187_ok : cFunc Tryz.prog c187m Tryz.f187 = some c187 := by kernel_rfl
theorem c188_ok : cFunc Tryz.prog c188m Tryz.f188 = some c188 := by kernel_rfl
theorem c189_ok : cFunc Tryz.prog c189m Tryz.f189 = some c189 := by kernel_rfl
theorem c190_ok : cFunc Tryz.prog c190m Tryz.f190 = some c190 := by kernel_rfl
theorem c191_ok : cFunc Tryz.prog c191m Tryz.f191 = some c191 := by kernel_rfl
theorem c192_ok : cFunc Tryz.prog c192m Tryz.f192 = some c192 := by kernel_rfl
theorem c193_ok : cFunc Tryz.prog c193m Tryz.f193 = some c193 := by kernel_rfl
theorem c194_ok : cFunc Tryz.prog c194m Tryz.f194 = some c194 := by kernel_rfl
theorem c195_ok : cFunc Tryz.prog c195m Tryz.f195 = some c195 := by kernel_rfl
theorem c196_ok : cFunc Tryz.prog c196m Tryz.f196 = some c196 := by kernel_rfl
theorem c197_ok : cFunc Tryz.prog c197m Tryz.f197 = some c197 := by kernel_rfl
theorem c198_ok : cFunc Tryz.prog c198m Tryz.f198 = some c198 := by kernel_rfl
theorem c199_ok : cFunc Tryz.prog c199m Tryz.f199 = some c199 := by kernel_rfl
theorem c200_ok : cFunc Tryz.prog c200m Tryz.f200 = some c200 := by kernel_rfl
theorem c201_ok : cFunc Tryz.prog c201m Tryz.f201 = some c201 := by kernel_rfl
theorem c202_ok : cFunc Tryz.prog c202m Tryz.f202 = some c202 := by kernel_rfl
theorem c203_ok : cFunc Tryz.prog c203m Tryz.f203 = some c203 := by kernel_rfl
theorem c204_ok : cFunc Tryz.prog c204m Tryz.f204 = some c204 := by kernel_rfl
theorem c205_ok : cFunc Tryz.prog c205m Tryz.f205 = some c205 := by kernel_rfl
theorem c206_ok : cFunc Tryz.prog c206m Tryz.f206 = some c206 := by kernel_rfl
theorem c207_ok : cFunc Tryz.prog c207m Tryz.f207 = some c207 := by kernel_rfl
theorem c208_ok : cFunc Tryz.prog c208m Tryz.f208 = some c208 := by kernel_rfl
theorem c209_ok : cFunc Tryz.prog c209m Tryz.f209 = some c209 := by kernel_rfl
theorem c210_ok : cFunc Tryz.prog c210m Tryz.f210 = some c210 := by kernel_rfl
theorem c211_ok : cFunc Tryz.prog c211m Tryz.f211 = some c211 := by kernel_rfl
theorem c212_ok : cFunc Tryz.prog c212m Tryz.f212 = some c212 := by kernel_rfl
theorem c213_ok : cFunc Tryz.prog c213m Tryz.f213 = some c213 := by kernel_rfl
theorem c214_ok : cFunc Tryz.prog c214m Tryz.f214 = some c214 := by kernel_rfl
theorem c215_ok : cFunc Tryz.prog c215m Tryz.f215 = some c215 := by kernel_rfl
theorem c216_ok : cFunc Tryz.prog c216m Tryz.f216 = some c216 := by kernel_rfl
theorem c217_ok : cFunc Tryz.prog c217m Tryz.f217 = some c217 := by kernel_rfl
theorem c218_ok : cFunc Tryz.prog c218m Tryz.f218 = some c218 := by kernel_rfl
theorem c219_ok : cFunc Tryz.prog c219m Tryz.f219 = some c219 := by kernel_rfl
theorem c220_ok : cFunc Tryz.prog c220m Tryz.f220 = some c220 := by kernel_rfl
theorem c221_ok : cFunc Tryz.prog c221m Tryz.f221 = some c221 := by kernel_rfl
theorem c222_ok : cFunc Tryz.prog c222m Tryz.f222 = some c222 := by kernel_rfl
theorem c223_ok : cFunc Tryz.prog c223m Tryz.f223 = some c223 := by kernel_rfl
theorem c224_ok : cFunc Tryz.prog c224m Tryz.f224 = some c224 := by kernel_rfl
theorem c225_ok : cFunc Tryz.prog c225m Tryz.f225 = some c225 := by kernel_rfl
theorem c226_ok : cFunc Tryz.prog c226m Tryz.f226 = some c226 := by kernel_rfl
theorem c227_ok : cFunc Tryz.prog c227m Tryz.f227 = some c227 := by kernel_rfl
theorem c228_ok : cFunc Tryz.prog c228m Tryz.f228 = some c228 := by kernel_rfl
theorem c229_ok : cFunc Tryz.prog c229m Tryz.f229 = some c229 := by kernel_rfl
theorem c230_ok : cFunc Tryz.prog c230m Tryz.f230 = some c230 := by kernel_rfl
theorem c231_ok : cFunc Tryz.prog c231m Tryz.f231 = some c231 := by kernel_rfl
theorem c232_ok : cFunc Tryz.prog c232m Tryz.f232 = some c232 := by kernel_rfl
theorem c233_ok : cFunc Tryz.prog c233m Tryz.f233 = some c233 := by kernel_rfl
theorem c234_ok : cFunc Tryz.prog c234m Tryz.f234 = some c234 := by kernel_rfl
theorem c235_ok : cFunc Tryz.prog c235m Tryz.f235 = some c235 := by kernel_rfl
theorem c236_ok : cFunc Tryz.prog c236m Tryz.f236 = some c236 := by kernel_rfl
theorem c237_ok : cFunc Tryz.prog c237m Tryz.f237 = some c237 := by kernel_rfl
theorem c238_ok : cFunc Tryz.prog c238m Tryz.f238 = some c238 := by kernel_rfl
theorem c239_ok : cFunc Tryz.prog c239m Tryz.f239 = some c239 := by kernel_rfl
theorem c240_ok : cFunc Tryz.prog c240m Tryz.f240 = some c240 := by kernel_rfl
theorem c241_ok : cFunc Tryz.prog c241m Tryz.f241 = some c241 := by kernel_rfl
theorem c242_ok : cFunc Tryz.prog c242m Tryz.f242 = some c242 := by kernel_rfl
theorem c243_ok : cFunc Tryz.prog c243m Tryz.f243 = some c243 := by kernel_rfl
theorem c244_ok : cFunc Tryz.prog c244m Tryz.f244 = some c244 := by kernel_rfl
theorem c245_ok : cFunc Tryz.prog c245m Tryz.f245 = some c245 := by kernel_rfl
theorem c246_ok : cFunc Tryz.prog c246m Tryz.f246 = some c246 := by kernel_rfl
theorem c247_ok : cFunc Tryz.prog c247m Tryz.f247 = some c247 := by kernel_rfl
theorem c248_ok : cFunc Tryz.prog c248m Tryz.f248 = some c248 := by kernel_rfl
theorem c249_ok : cFunc Tryz.prog c249m Tryz.f249 = some c249 := by kernel_rfl
theorem c250_ok : cFunc Tryz.prog c250m Tryz.f250 = some c250 := by kernel_rfl
theorem c251_ok : cFunc Tryz.prog c251m Tryz.f251 = some c251 := by kernel_rfl
theorem c252_ok : cFunc Tryz.prog c252m Tryz.f252 = some c252 := by kernel_rfl
theorem c253_ok : cFunc Tryz.prog c253m Tryz.f253 = some c253 := by kernel_rfl
theorem c254_ok : cFunc Tryz.prog c254m Tryz.f254 = some c254 := by kernel_rfl
theorem c255_ok : cFunc Tryz.prog c255m Tryz.f255 = some c255 := by kernel_rfl
theorem c256_ok : cFunc Tryz.prog c256m Tryz.f256 = some c256 := by kernel_rfl
theorem c257_ok : cFunc Tryz.prog c257m Tryz.f257 = some c257 := by kernel_rfl
theorem c258_ok : cFunc Tryz.prog c258m Tryz.f258 = some c258 := by kernel_rfl
theorem c259_ok : cFunc Tryz.prog c259m Tryz.f259 = some c259 := by kernel_rfl
theorem c260_ok : cFunc Tryz.prog c260m Tryz.f260 = some c260 := by kernel_rfl
theorem c261_ok : cFunc Tryz.prog c261m Tryz.f261 = some c261 := by kernel_rfl
theorem c262_ok : cFunc Tryz.prog c262m Tryz.f262 = some c262 := by kernel_rfl
theorem c263_ok : cFunc Tryz.prog c263m Tryz.f263 = some c263 := by kernel_rfl
theorem c264_ok : cFunc Tryz.prog c264m Tryz.f264 = some c264 := by kernel_rfl
theorem c265_ok : cFunc Tryz.prog c265m Tryz.f265 = some c265 := by kernel_rfl
theorem c266_ok : cFunc Tryz.prog c266m Tryz.f266 = some c266 := by kernel_rfl
theorem c267_ok : cFunc Tryz.prog c267m Tryz.f267 = some c267 := by kernel_rfl
theorem c268_ok : cFunc Tryz.prog c268m Tryz.f268 = some c268 := by kernel_rfl
theorem c269_ok : cFunc Tryz.prog c269m Tryz.f269 = some c269 := by kernel_rfl
theorem c270_ok : cFunc Tryz.prog c270m Tryz.f270 = some c270 := by kernel_rfl
theorem c271_ok : cFunc Tryz.prog c271m Tryz.f271 = some c271 := by kernel_rfl
theorem c272_ok : cFunc Tryz.prog c272m Tryz.f272 = some c272 := by kernel_rfl
theorem c273_ok : cFunc Tryz.prog c273m Tryz.f273 = some c273 := by kernel_rfl
theorem c274_ok : cFunc Tryz.prog c274m Tryz.f274 = some c274 := by kernel_rfl
theorem c275_ok : cFunc Tryz.prog c275m Tryz.f275 = some c275 := by kernel_rfl
theorem c277_ok : cFunc Tryz.prog c277m Tryz.f277 = some c277 := by kernel_rfl
theorem c278_ok : cFunc Tryz.prog c278m Tryz.f278 = some c278 := by kernel_rfl
theorem c279_ok : cFunc Tryz.prog c279m Tryz.f279 = some c279 := by kernel_rfl
theorem c280_ok : cFunc Tryz.prog c280m Tryz.f280 = some c280 := by kernel_rfl
theorem c281_ok : cFunc Tryz.prog c281m Tryz.f281 = some c281 := by kernel_rfl
theorem c282_ok : cFunc Tryz.prog c282m Tryz.f282 = some c282 := by kernel_rfl
theorem c283_ok : cFunc Tryz.prog c283m Tryz.f283 = some c283 := by kernel_rfl
theorem c284_ok : cFunc Tryz.prog c284m Tryz.f284 = some c284 := by kernel_rfl
theorem c285_ok : cFunc Tryz.prog c285m Tryz.f285 = some c285 := by kernel_rfl
theorem c286_ok : cFunc Tryz.prog c286m Tryz.f286 = some c286 := by kernel_rfl
def tbT : Tr RFunc := (.node (.node (.node (.node (.node (.node (.node (.node (.node .leaf (some c255) .leaf) (some c127) .leaf) (some c63) (.node .leaf (some c191) .leaf)) (some c31) (.node (.node .leaf (some c159) .leaf) (some c95) (.node .leaf (some c223) .leaf))) (some c15) (.node (.node (.node (.node .leaf (some c271) .leaf) (some c143) .leaf) (some c79) (.node .leaf (some c207) .leaf)) (some c47) (.node (.node .leaf (some c175) .leaf) (some c111) (.node .leaf (some c239) .leaf)))) (some c7) (.node (.node (.node (.node (.node .leaf (some c263) .leaf) (some c135) .leaf) (some c71) (.node .leaf (some c199) .leaf)) (some c39) (.node (.node .leaf (some c167) .leaf) (some c103) (.node .leaf (some c231) .leaf))) (some c23) (.node (.node (.node (.node .leaf (some c279) .leaf) (some c151) .leaf) (some c87) (.node .leaf (some c215) .leaf)) (some c55) (.node (.node .leaf (some c183) .leaf) (some c119) (.node .leaf (some c247) .leaf))))) (some c3) (.node (.node (.node (.node (.node (.node .leaf (some c259) .leaf) (some c131) .leaf) (some c67) (.node .leaf (some c195) .leaf)) (some c35) (.node (.node .leaf (some c163) .leaf) (some c99) (.node .leaf (some c227) .leaf))) (some c19) (.node (.node (.node (.node .leaf (some c275) .leaf) (some c147) .leaf) (some c83) (.node .leaf (some c211) .leaf)) (some c51) (.node (.node .leaf (some c179) .leaf) (some c115) (.node .leaf (some c243) .leaf)))) (some c11) (.node (.node (.node (.node (.node .leaf (some c267) .leaf) (some c139) .leaf) (some c75) (.node .leaf (some c203) .leaf)) (some c43) (.node (.node .leaf (some c171) .leaf) (some c107) (.node .leaf (some c235) .leaf))) (some c27) (.node (.node (.node (.node .leaf (some c283) .leaf) (some c155) .leaf) (some c91) (.node .leaf (some c219) .leaf)) (some c59) (.node (.node .leaf (some c187) .leaf) (some c123) (.node .leaf (some c251) .leaf)))))) none (.node (.node (.node (.node (.node (.node (.node .leaf (some c257) .leaf) (some c129) .leaf) (some c65) (.node .leaf (some c193) .leaf)) (some c33) (.node (.node .leaf (some c161) .leaf) (some c97) (.node .leaf (some c225) .leaf))) (some c17) (.node (.node (.node (.node .leaf (some c273) .leaf) (some c145) .leaf) (some c81) (.node .leaf (some c209) .leaf)) (some c49) (.node (.node .leaf (some c177) .leaf) (some c113) (.node .leaf (some c241) .leaf)))) (some c9) (.node (.node (.node (.node (.node .leaf (some c265) .leaf) (some c137) .leaf) (some c73) (.node .leaf (some c201) .leaf)) (some c41) (.node (.node .leaf (some c169) .leaf) (some c105) (.node .leaf (some c233) .leaf))) (some c25) (.node (.node (.node (.node .leaf (some c281) .leaf) (some c153) .leaf) (some c89) (.node .leaf (some c217) .leaf)) (some c57) (.node (.node .leaf (some c185) .leaf) (some c121) (.node .leaf (some c249) .leaf))))) (some c5) (.node (.node (.node (.node (.node (.node .leaf (some c261) .leaf) (some c133) .leaf) (some c69) (.node .leaf (some c197) .leaf)) (some c37) (.node (.node .leaf (some c165) .leaf) (some c101) (.node .leaf (some c229) .leaf))) (some c21) (.node (.node (.node (.node .leaf (some c277) .leaf) (some c149) .leaf) (some c85) (.node .leaf (some c213) .leaf)) (some c53) (.node (.node .leaf (some c181) .leaf) (some c117) (.node .leaf (some c245) .leaf)))) (some c13) (.node (.node (.node (.node (.node .leaf (some c269) .leaf) (some c141) .leaf) (some c77) (.node .leaf (some c205) .leaf)) (some c45) (.node (.node .leaf (some c173) .leaf) (some c109) (.node .leaf (some c237) .leaf))) (some c29) (.node (.node (.node (.node .leaf (some c285) .leaf) (some c157) .leaf) (some c93) (.node .leaf (some c221) .leaf)) (some c61) (.node (.node .leaf (some c189) .leaf) (some c125) (.node .leaf (some c253) .leaf))))))) none (.node (.node (.node (.node (.node (.node (.node (.node .leaf (some c256) .leaf) (some c128) .leaf) (some c64) (.node .leaf (some c192) .leaf)) (some c32) (.node (.node .leaf (some c160) .leaf) (some c96) (.node .leaf (some c224) .leaf))) (some c16) (.node (.node (.node (.node .leaf (some c272) .leaf) (some c144) .leaf) (some c80) (.node .leaf (some c208) .leaf)) (some c48) (.node (.node .leaf (some c176) .leaf) (some c112) (.node .leaf (some c240) .leaf)))) (some c8) (.node (.node (.node (.node (.node .leaf (some c264) .leaf) (some c136) .leaf) (some c72) (.node .leaf (some c200) .leaf)) (some c40) (.node (.node .leaf (some c168) .leaf) (some c104) (.node .leaf (some c232) .leaf))) (some c24) (.node (.node (.node (.node .leaf (some c280) .leaf) (some c152) .leaf) (some c88) (.node .leaf (some c216) .leaf)) (some c56) (.node (.node .leaf (some c184) .leaf) (some c120) (.node .leaf (some c248) .leaf))))) (some c4) (.node (.node (.node (.node (.node (.node .leaf (some c260) .leaf) (some c132) .leaf) (some c68) (.node .leaf (some c196) .leaf)) (some c36) (.node (.node .leaf (some c164) .leaf) (some c100) (.node .leaf (some c228) .leaf))) (some c20) (.node (.node (.node .leaf (some c148) .leaf) (some c84) (.node .leaf (some c212) .leaf)) (some c52) (.node (.node .leaf (some c180) .leaf) (some c116) (.node .leaf (some c244) .leaf)))) (some c12) (.node (.node (.node (.node (.node .leaf (some c268) .leaf) (some c140) .leaf) (some c76) (.node .leaf (some c204) .leaf)) (some c44) (.node (.node .leaf (some c172) .leaf) (some c108) (.node .leaf (some c236) .leaf))) (some c28) (.node (.node (.node (.node .leaf (some c284) .leaf) (some c156) .leaf) (some c92) (.node .leaf (some c220) .leaf)) (some c60) (.node (.node .leaf (some c188) .leaf) (some c124) (.node .leaf (some c252) .leaf)))))) none (.node (.node (.node (.node (.node (.node (.node .leaf (some c258) .leaf) (some c130) .leaf) (some c66) (.node .leaf (some c194) .leaf)) (some c34) (.node (.node .leaf (some c162) .leaf) (some c98) (.node .leaf (some c226) .leaf))) (some c18) (.node (.node (.node (.node .leaf (some c274) .leaf) (some c146) .leaf) (some c82) (.node .leaf (some c210) .leaf)) (some c50) (.node (.node .leaf (some c178) .leaf) (some c114) (.node .leaf (some c242) .leaf)))) (some c10) (.node (.node (.node (.node (.node .leaf (some c266) .leaf) (some c138) .leaf) (some c74) (.node .leaf (some c202) .leaf)) (some c42) (.node (.node .leaf (some c170) .leaf) (some c106) (.node .leaf (some c234) .leaf))) (some c26) (.node (.node (.node (.node .leaf (some c282) .leaf) (some c154) .leaf) (some c90) (.node .leaf (some c218) .leaf)) (some c58) (.node (.node .leaf (some c186) .leaf) (some c122) (.node .leaf (some c250) .leaf))))) (some c6) (.node (.node (.node (.node (.node (.node .leaf (some c262) .leaf) (some c134) .leaf) (some c70) (.node .leaf (some c198) .leaf)) (some c38) (.node (.node .leaf (some c166) .leaf) (some c102) (.node .leaf (some c230) .leaf))) (some c22) (.node (.node (.node (.node .leaf (some c278) .leaf) (some c150) .leaf) (some c86) (.node .leaf (some c214) .leaf)) (some c54) (.node (.node .leaf (some c182) .leaf) (some c118) (.node .leaf (some c246) .leaf)))) (some c14) (.node (.node (.node (.node (.node .leaf (some c270) .leaf) (some c142) .leaf) (some c78) (.node .leaf (some c206) .leaf)) (some c46) (.node (.node .leaf (some c174) .leaf) (some c110) (.node .leaf (some c238) .leaf))) (some c30) (.node (.node (.node (.node .leaf (some c286) .leaf) (some c158) .leaf) (some c94) (.node .leaf (some c222) .leaf)) (some c62) (.node (.node .leaf (some c190) .leaf) (some c126) (.node .leaf (some c254) .leaf))))))))
def tb : Tbl := { fn := fun n => tbT.get n, nat := fun _ => none, callable := fun n => (tbT.get n).isSome }
theorem tb_ents : tbT.ents = [(3, c3), (7, c7), (15, c15), (31, c31), (63, c63), (127, c127), (255, c255), (191, c191), (95, c95), (159, c159), (223, c223), (47, c47), (79, c79), (143, c143), (271, c271), (207, c207), (111, c111), (175, c175), (239, c239), (23, c23), (39, c39), (71, c71), (135, c135), (263, c263), (199, c199), (103, c103), (167, c167), (231, c231), (55, c55), (87, c87), (151, c151), (279, c279), (215, c215), (119, c119), (183, c183), (247, c247), (11, c11), (19, c19), (35, c35), (67, c67), (131, c131), (259, c259), (195, c195), (99, c99), (163, c163), (227, c227), (51, c51), (83, c83), (147, c147), (275, c275), (211, c211), (115, c115), (179, c179), (243, c243), (27, c27), (43, c43), (75, c75), (139, c139), (267, c267), (203, c203), (107, c107), (171, c171), (235, c235), (59, c59), (91, c91), (155, c155), (283, c283), (219, c219), (123, c123), (187, c187), (251, c251), (5, c5), (9, c9), (17, c17), (33, c33), (65, c65), (129, c129), (257, c257), (193, c193), (97, c97), (161, c161), (225, c225), (49, c49), (81, c81), (145, c145), (273, c273), (209, c209), (113, c113), (177, c177), (241, c241), (25, c25), (41, c41), (73, c73), (137, c137), (265, c265), (201, c201), (105, c105), (169, c169), (233, c233), (57, c57), (89, c89), (153, c153), (281, c281), (217, c217), (121, c121), (185, c185), (249, c249), (13, c13), (21, c21), (37, c37), (69, c69), (133, c133), (261, c261), (197, c197), (101, c101), (165, c165), (229, c229), (53, c53), (85, c85), (149, c149), (277, c277), (213, c213), (117, c117), (181, c181), (245, c245), (29, c29), (45, c45), (77, c77), (141, c141), (269, c269), (205, c205), (109, c109), (173, c173), (237, c237), (61, c61), (93, c93), (157, c157), (285, c285), (221, c221), (125, c125), (189, c189), (253, c253), (4, c4), (8, c8), (16, c16), (32, c32), (64, c64), (128, c128), (256, c256), (192, c192), (96, c96), (160, c160), (224, c224), (48, c48), (80, c80), (144, c144), (272, c272), (208, c208), (112, c112), (176, c176), (240, c240), (24, c24), (40, c40), (72, c72), (136, c136), (264, c264), (200, c200), (104, c104), (168, c168), (232, c232), (56, c56), (88, c88), (152, c152), (280, c280), (216, c216), (120, c120), (184, c184), (248, c248), (12, c12), (20, c20), (36, c36), (68, c68), (132, c132), (260, c260), (196, c196), (100, c100), (164, c164), (228, c228), (52, c52), (84, c84), (148, c148), (212, c212), (116, c116), (180, c180), (244, c244), (28, c28), (44, c44), (76, c76), (140, c140), (268, c268), (204, c204), (108, c108), (172, c172), (236, c236), (60, c60), (92, c92), (156, c156), (284, c284), (220, c220), (124, c124), (188, c188), (252, c252), (6, c6), (10, c10), (18, c18), (34, c34), (66, c66), (130, c130), (258, c258), (194, c194), (98, c98), (162, c162), (226, c226), (50, c50), (82, c82), (146, c146), (274, c274), (210, c210), (114, c114), (178, c178), (242, c242), (26, c26), (42, c42), (74, c74), (138, c138), (266, c266), (202, c202), (106, c106), (170, c170), (234, c234), (58, c58), (90, c90), (154, c154), (282, c282), (218, c218), (122, c122), (186, c186), (250, c250), (14, c14), (22, c22), (38, c38), (70, c70), (134, c134), (262, c262), (198, c198), (102, c102), (166, c166), (230, c230), (54, c54), (86, c86), (150, c150), (278, c278), (214, c214), (118, c118), (182, c182), (246, c246), (30, c30), (46, c46), (78, c78), (142, c142), (270, c270), (206, c206), (110, c110), (174, c174), (238, c238), (62, c62), (94, c94), (158, c158), (286, c286), (222, c222), (126, c126), (190, c190), (254, c254)] := by kernel_rfl
theorem tb_fns : ∀ e ∈ tbT.ents, ∃ fn md, Tryz.prog.funcs[e.1]? = some fn ∧ cFunc Tryz.prog md fn = some e.2 := by
  rw [tb_ents]
  refine List.forall_mem_cons.2 ⟨⟨Tryz.f3, c3m, Tryz.func3, c3_ok⟩, ?_⟩
  refine List.forall_mem_cons.2 ⟨⟨Tryz.f7, c7m, Tryz.func7, c7_ok⟩, ?_⟩
  refine List.forall_mem_cons.2 ⟨⟨Tryz.f15, c15m, Tryz.func15, c15_ok⟩, ?_⟩
  refine List.forall_mem_cons.2 ⟨⟨Tryz.f31, c31m, Tryz.func31, c31_ok⟩, ?_⟩
  refine List.forall_mem_cons.2 ⟨⟨Tryz.f63, c63m, Tryz.func63, c63_ok⟩, ?_⟩
  refine List.forall_mem_cons.2 ⟨⟨Tryz.f127, c127m, Tryz.func127, c127_ok⟩, ?_⟩
  refine List.forall_mem_cons.2 ⟨⟨Tryz.f255, c255m, Tryz.func255, c255_ok⟩, ?_⟩
  refine List.forall_mem_cons.2 ⟨⟨Tryz.f191, c191m, Tryz.func191, c191_ok⟩, ?_⟩
  refine List.forall_mem_cons.2 ⟨⟨Tryz.f95, c95m, Tryz.func95, c95_ok⟩, ?_⟩
  refine List.forall_mem_cons.2 ⟨⟨Tryz.f159, c159m, Tryz.func159, c159_ok⟩, ?_⟩
  refine List.forall_mem_cons.2 ⟨⟨Tryz.f223, c223m, Tryz.func223, c223_ok⟩, ?_⟩
  refine List.forall_mem_cons.2 ⟨⟨Tryz.f47, c47m, Tryz.func47, c47_ok⟩, ?_⟩
  refine List.forall_mem_cons.2 ⟨⟨Tryz.f79, c79m, Tryz.func79, c79_ok⟩, ?_⟩
  refine List.forall_mem_cons.2 ⟨⟨Tryz.f143, c143m, Tryz.func143, c143_ok⟩, ?_⟩
  refine List.forall_mem_cons.2 ⟨⟨Tryz.f271, c271m, Tryz.func271, c271_ok⟩, ?_⟩
  refine List.forall_mem_cons.2 ⟨⟨Tryz.f207, c207m, Tryz.func207, c207_ok⟩, ?_⟩
  refine List.forall_mem_cons.2 ⟨⟨Tryz.f111, c111m, Tryz.func111, c111_ok⟩, ?_⟩
  refine List.forall_mem_cons.2 ⟨⟨Tryz.f175, c175m, Tryz.func175, c175_ok⟩, ?_⟩
  refine List.forall_mem_cons.2 ⟨⟨Tryz.f239, c239m, Tryz.func239, c239_ok⟩, ?_⟩
  refine List.forall_mem_cons.2 ⟨⟨Tryz.f23, c23m, Tryz.func23, c23_ok⟩, ?_⟩
  refine List.forall_mem_cons.2 ⟨⟨Tryz.f39, c39m, Tryz.func39, c39_ok⟩, ?_⟩
  refine List.forall_mem_cons.2 ⟨⟨Tryz.f71, c71m, Tryz.func71, c71_ok⟩, ?_⟩
  refine List.forall_mem_cons.2 ⟨⟨Tryz.f135, c135m, Tryz.func135, c135_ok⟩, ?_⟩
  refine List.forall_mem_cons.2 ⟨⟨Tryz.f263, c263m, Tryz.func263, c263_ok⟩, ?_⟩
  refine List.forall_mem_cons.2 ⟨⟨Tryz.f199, c199m, Tryz.func199, c199_ok⟩, ?_⟩
  refine List.forall_mem_cons.2 ⟨⟨Tryz.f103, c103m, Tryz.func103, c103_ok⟩, ?_⟩
  refine List.forall_mem_cons.2 ⟨⟨Tryz.f167, c167m, Tryz.func167, c167_ok⟩, ?_⟩
  refine List.forall_mem_cons.2 ⟨⟨Tryz.f231, c231m, Tryz.func231, c231_ok⟩, ?_⟩
  refine List.forall_mem_cons.2 ⟨⟨Tryz.f55, c55m, Tryz.func55, c55_ok⟩, ?_⟩
  refine List.forall_mem_cons.2 ⟨⟨Tryz.f87, c87m, Tryz.func87, c87_ok⟩, ?_⟩
  refine List.forall_mem_cons.2 ⟨⟨Tryz.f151, c151m, Tryz.func151, c151_ok⟩, ?_⟩
  refine List.forall_mem_cons.2 ⟨⟨Tryz.f279, c279m, Tryz.func279, c279_ok⟩, ?_⟩
  refine List.forall_mem_cons.2 ⟨⟨Tryz.f215, c215m, Tryz.func215, c215_ok⟩, ?_⟩
  refine List.forall_mem_cons.2 ⟨⟨Tryz.f119, c119m, Tryz.func119, c119_ok⟩, ?_⟩
  refine List.forall_mem_cons.2 ⟨⟨Tryz.f183, c183m, Tryz.func183, c183_ok⟩, ?_⟩
  refine List.forall_mem_cons.2 ⟨⟨Tryz.f247, c247m, Tryz.func247, c247_ok⟩, ?_⟩
  refine List.forall_mem_cons.2 ⟨⟨Tryz.f11, c11m, Tryz.func11, c11_ok⟩, ?_⟩
  refine List.forall_mem_cons.2 ⟨⟨Tryz.f19, c19m, Tryz.func19, c19_ok⟩, ?_⟩
  refine List.forall_mem_cons.2 ⟨⟨Tryz.f35, c35m, Tryz.func35, c35_ok⟩, ?_⟩
  refine List.forall_mem_cons.2 ⟨⟨Tryz.f67, c67m, Tryz.func67, c67_ok⟩, ?_⟩
  refine List.forall_mem_cons.2 ⟨⟨Tryz.f131, c131m, Tryz.func131, c131_ok⟩, ?_⟩
  refine List.forall_mem_cons.2 ⟨⟨Tryz.f259, c259m, Tryz.func259, c259_ok⟩, ?_⟩
  refine List.forall_mem_cons.2 ⟨⟨Tryz.f195, c195m, Tryz.func195, c195_ok⟩, ?_⟩
  refine List.forall_mem_cons.2 ⟨⟨Tryz.f99, c99m, Tryz.func99, c99_ok⟩, ?_⟩
  refine List.forall_mem_cons.2 ⟨⟨Tryz.f163, c163m, Tryz.func163, c163_ok⟩, ?_⟩
  refine List.forall_mem_cons.2 ⟨⟨Tryz.f227, c227m, Tryz.func227, c227_ok⟩, ?_⟩
  refine List.forall_mem_cons.2 ⟨⟨Tryz.f51, c51m, Tryz.func51, c51_ok⟩, ?_⟩
  refine List.forall_mem_cons.2 ⟨⟨Tryz.f83, c83m, Tryz.func83, c83_ok⟩, ?_⟩
  refine List.forall_mem_cons.2 ⟨⟨Tryz.f147, c147m, Tryz.func147, c147_ok⟩, ?_⟩
  refine List.forall_mem_cons.2 ⟨⟨Tryz.f275, c275m, Tryz.func275, c275_ok⟩, ?_⟩
  refine List.forall_mem_cons.2 ⟨⟨Tryz.f211, c211m, Tryz.func211, c211_ok⟩, ?_⟩
  refine List.forall_mem_cons.2 ⟨⟨Tryz.f115, c115m, Tryz.func115, c115_ok⟩, ?_⟩
  refine List.forall_mem_cons.2 ⟨⟨Tryz.f179, c179m, Tryz.func179, c179_ok⟩, ?_⟩
  refine List.forall_mem_cons.2 ⟨⟨Tryz.f243, c243m, Tryz.func243, c243_ok⟩, ?_⟩
  refine List.forall_mem_cons.2 ⟨⟨Tryz.f27, c27m, Tryz.func27, c27_ok⟩, ?_⟩
  refine List.forall_mem_cons.2 ⟨⟨Tryz.f43, c43m, Tryz.func43, c43_ok⟩, ?_⟩
  refine List.forall_mem_cons.2 ⟨⟨Tryz.f75, c75m, Tryz.func75, c75_ok⟩, ?_⟩
  refine List.forall_mem_cons.2 ⟨⟨Tryz.f139, c139m, Tryz.func139, c139_ok⟩, ?_⟩
  refine List.forall_mem_cons.2 ⟨⟨Tryz.f267, c267m, Tryz.func267, c267_ok⟩, ?_⟩
  refine List.forall_mem_cons.2 ⟨⟨Tryz.f203, c203m, Tryz.func203, c203_ok⟩, ?_⟩
  refine List.forall_mem_cons.2 ⟨⟨Tryz.f107, c107m, Tryz.func107, c107_ok⟩, ?_⟩
  refine List.forall_mem_cons.2 ⟨⟨Tryz.f171, c171m, Tryz.func171, c171_ok⟩, ?_⟩
  refine List.forall_mem_cons.2 ⟨⟨Tryz.f235, c235m, Tryz.func235, c235_ok⟩, ?_⟩
  refine List.forall_mem_cons.2 ⟨⟨Tryz.f59, c59m, Tryz.func59, c59_ok⟩, ?_⟩
  refine List.forall_mem_cons.2 ⟨⟨Tryz.f91, c91m, Tryz.func91, c91_ok⟩, ?_⟩
  refine List.forall_mem_cons.2 ⟨⟨Tryz.f155, c155m, Tryz.func155, c155_ok⟩, ?_⟩
  refine List.forall_mem_cons.2 ⟨⟨Tryz.f283, c283m, Tryz.func283, c283_ok⟩, ?_⟩
  refine List.forall_mem_cons.2 ⟨⟨Tryz.f219, c219m, Tryz.func219, c219_ok⟩, ?_⟩
  refine List.forall_mem_cons.2 ⟨⟨Tryz.f123, c123m, Tryz.func123, c123_ok⟩, ?_⟩
  refine List.forall_mem_cons.2 ⟨⟨Tryz.f187, c187m, Tryz.func187, c187_ok⟩, ?_⟩
  refine List.forall_mem_cons.2 ⟨⟨Tryz.f251, c251m, Tryz.func251, c251_ok⟩, ?_⟩
  refine List.forall_mem_cons.2 ⟨⟨Tryz.f5, c5m, Tryz.func5, c5_ok⟩, ?_⟩
  refine List.forall_mem_cons.2 ⟨⟨Tryz.f9, c9m, Tryz.func9, c9_ok⟩, ?_⟩
  refine List.forall_mem_cons.2 ⟨⟨Tryz.f17, c17m, Tryz.func17, c17_ok⟩, ?_⟩
  refine List.forall_mem_cons.2 ⟨⟨Tryz.f33, c33m, Tryz.func33, c33_ok⟩, ?_⟩
  refine List.forall_mem_cons.2 ⟨⟨Tryz.f65, c65m, Tryz.func65, c65_ok⟩, ?_⟩
  refine List.forall_mem_cons.2 ⟨⟨Tryz.f129, c129m, Tryz.func129, c129_ok⟩, ?_⟩
  refine List.forall_mem_cons.2 ⟨⟨Tryz.f257, c257m, Tryz.func257, c257_ok⟩, ?_⟩
  refine List.forall_mem_cons.2 ⟨⟨Tryz.f193, c193m, Tryz.func193, c193_ok⟩, ?_⟩
  refine List.forall_mem_cons.2 ⟨⟨Tryz.f97, c97m, Tryz.func97, c97_ok⟩, ?_⟩
  refine List.forall_mem_cons.2 ⟨⟨Tryz.f161, c161m, Tryz.func161, c161_ok⟩, ?_⟩
  refine List.forall_mem_cons.2 ⟨⟨Tryz.f225, c225m, Tryz.func225, c225_ok⟩, ?_⟩
  refine List.forall_mem_cons.2 ⟨⟨Tryz.f49, c49m, Tryz.func49, c49_ok⟩, ?_⟩
  refine List.forall_mem_cons.2 ⟨⟨Tryz.f81, c81m, Tryz.func81, c81_ok⟩, ?_⟩
  refine List.forall_mem_cons.2 ⟨⟨Tryz.f145, c145m, Tryz.func145, c145_ok⟩, ?_⟩
  refine List.forall_mem_cons.2 ⟨⟨Tryz.f273, c273m, Tryz.func273, c273_ok⟩, ?_⟩
  refine List.forall_mem_cons.2 ⟨⟨Tryz.f209, c209m, Tryz.func209, c209_ok⟩, ?_⟩
  refine List.forall_mem_cons.2 ⟨⟨Tryz.f113, c113m, Tryz.func113, c113_ok⟩, ?_⟩
  refine List.forall_mem_cons.2 ⟨⟨Tryz.f177, c177m, Tryz.func177, c177_ok⟩, ?_⟩
  refine List.forall_mem_cons.2 ⟨⟨Tryz.f241, c241m, Tryz.func241, c241_ok⟩, ?_⟩
  refine List.forall_mem_cons.2 ⟨⟨Tryz.f25, c25m, Tryz.func25, c25_ok⟩, ?_⟩
  refine List.forall_mem_cons.2 ⟨⟨Tryz.f41, c41m, Tryz.func41, c41_ok⟩, ?_⟩
  refine List.forall_mem_cons.2 ⟨⟨Tryz.f73, c73m, Tryz.func73, c73_ok⟩, ?_⟩
  refine List.forall_mem_cons.2 ⟨⟨Tryz.f137, c137m, Tryz.func137, c137_ok⟩, ?_⟩
  refine List.forall_mem_cons.2 ⟨⟨Tryz.f265, c265m, Tryz.func265, c265_ok⟩, ?_⟩
  refine List.forall_mem_cons.2 ⟨⟨Tryz.f201, c201m, Tryz.func201, c201_ok⟩, ?_⟩
  refine List.forall_mem_cons.2 ⟨⟨Tryz.f105, c105m, Tryz.func105, c105_ok⟩, ?_⟩
  refine List.forall_mem_cons.2 ⟨⟨Tryz.f169, c169m, Tryz.func169, c169_ok⟩, ?_⟩
  refine List.forall_mem_cons.2 ⟨⟨Tryz.f233, c233m, Tryz.func233, c233_ok⟩, ?_⟩
  refine List.forall_mem_cons.2 ⟨⟨Tryz.f57, c57m, Tryz.func57, c57_ok⟩, ?_⟩
  refine List.forall_mem_cons.2 ⟨⟨Tryz.f89, c89m, Tryz.func89, c89_ok⟩, ?_⟩
  refine List.forall_mem_cons.2 ⟨⟨Tryz.f153, c153m, Tryz.func153, c153_ok⟩, ?_⟩
  refine List.forall_mem_cons.2 ⟨⟨Tryz.f281, c281m, Tryz.func281, c281_ok⟩, ?_⟩
  refine List.forall_mem_cons.2 ⟨⟨Tryz.f217, c217m, Tryz.func217, c217_ok⟩, ?_⟩
  refine List.forall_mem_cons.2 ⟨⟨Tryz.f121, c121m, Tryz.func121, c121_ok⟩, ?_⟩
  refine List.forall_mem_cons.2 ⟨⟨Tryz.f185, c185m, Tryz.func185, c185_ok⟩, ?_⟩
  refine List.forall_mem_cons.2 ⟨⟨Tryz.f249, c249m, Tryz.func249, c249_ok⟩, ?_⟩
  refine List.forall_mem_cons.2 ⟨⟨Tryz.f13, c13m, Tryz.func13, c13_ok⟩, ?_⟩
  refine List.forall_mem_cons.2 ⟨⟨Tryz.f21, c21m, Tryz.func21, c21_ok⟩, ?_⟩
  refine List.forall_mem_cons.2 ⟨⟨Tryz.f37, c37m, Tryz.func37, c37_ok⟩, ?_⟩
  refine List.forall_mem_cons.2 ⟨⟨Tryz.f69, c69m, Tryz.func69, c69_ok⟩, ?_⟩
  refine List.forall_mem_cons.2 ⟨⟨Tryz.f133, c133m, Tryz.func133, c133_ok⟩, ?_⟩
  refine List.forall_mem_cons.2 ⟨⟨Tryz.f261, c261m, Tryz.func261, c261_ok⟩, ?_⟩
  refine List.forall_mem_cons.2 ⟨⟨Tryz.f197, c197m, Tryz.func197, c197_ok⟩, ?_⟩
  refine List.forall_mem_cons.2 ⟨⟨Tryz.f101, c101m, Tryz.func101, c101_ok⟩, ?_⟩
  refine List.forall_mem_cons.2 ⟨⟨Tryz.f165, c165m, Tryz.func165, c165_ok⟩, ?_⟩
  refine List.forall_mem_cons.2 ⟨⟨Tryz.f229, c229m, Tryz.func229, c229_ok⟩, ?_⟩
  refine List.forall_mem_cons.2 ⟨⟨Tryz.f53, c53m, Tryz.func53, c53_ok⟩, ?_⟩
  refine List.forall_mem_cons.2 ⟨⟨Tryz.f85, c85m, Tryz.func85, c85_ok⟩, ?_⟩
  refine List.forall_mem_cons.2 ⟨⟨Tryz.f149, c149m, Tryz.func149, c149_ok⟩, ?_⟩
  refine List.forall_mem_cons.2 ⟨⟨Tryz.f277, c277m, Tryz.func277, c277_ok⟩, ?_⟩
  refine List.forall_mem_cons.2 ⟨⟨Tryz.f213, c213m, Tryz.func213, c213_ok⟩, ?_⟩
  refine List.forall_mem_cons.2 ⟨⟨Tryz.f117, c117m, Tryz.func117, c117_ok⟩, ?_⟩
  refine List.forall_mem_cons.2 ⟨⟨Tryz.f181, c181m, Tryz.func181, c181_ok⟩, ?_⟩
  refine List.forall_mem_cons.2 ⟨⟨Tryz.f245, c245m, Tryz.func245, c245_ok⟩, ?_⟩
  refine List.forall_mem_cons.2 ⟨⟨Tryz.f29, c29m, Tryz.func29, c29_ok⟩, ?_⟩
  refine List.forall_mem_cons.2 ⟨⟨Tryz.f45, c45m, Tryz.func45, c45_ok⟩, ?_⟩
  refine List.forall_mem_cons.2 ⟨⟨Tryz.f77, c77m, Tryz.func77, c77_ok⟩, ?_⟩
  refine List.forall_mem_cons.2 ⟨⟨Tryz.f141, c141m, Tryz.func141, c141_ok⟩, ?_⟩
  refine List.forall_mem_cons.2 ⟨⟨Tryz.f269, c269m, Tryz.func269, c269_ok⟩, ?_⟩
  refine List.forall_mem_cons.2 ⟨⟨Tryz.f205, c205m, Tryz.func205, c205_ok⟩, ?_⟩
  refine List.forall_mem_cons.2 ⟨⟨Tryz.f109, c109m, Tryz.func109, c109_ok⟩, ?_⟩
  refine List.forall_mem_cons.2 ⟨⟨Tryz.f173, c173m, Tryz.func173, c173_ok⟩, ?_⟩
  refine List.forall_mem_cons.2 ⟨⟨Tryz.f237, c237m, Tryz.func237, c237_ok⟩, ?_⟩
  refine List.forall_mem_cons.2 ⟨⟨Tryz.f61, c61m, Tryz.func61, c61_ok⟩, ?_⟩
  refine List.forall_mem_cons.2 ⟨⟨Tryz.f93, c93m, Tryz.func93, c93_ok⟩, ?_⟩
  refine List.forall_mem_cons.2 ⟨⟨Tryz.f157, c157m, Tryz.func157, c157_ok⟩, ?_⟩
  refine List.forall_mem_cons.2 ⟨⟨Tryz.f285, c285m, Tryz.func285, c285_ok⟩, ?_⟩
  refine List.forall_mem_cons.2 ⟨⟨Tryz.f221, c221m, Tryz.func221, c221_ok⟩, ?_⟩
  refine List.forall_mem_cons.2 ⟨⟨Tryz.f125, c125m, Tryz.func125, c125_ok⟩, ?_⟩
  refine List.forall_mem_cons.2 ⟨⟨Tryz.f189, c189m, Tryz.func189, c189_ok⟩, ?_⟩
  refine List.forall_mem_cons.2 ⟨⟨Tryz.f253, c253m, Tryz.func253, c253_ok⟩, ?_⟩
  refine List.forall_mem_cons.2 ⟨⟨Tryz.f4, c4m, Tryz.func4, c4_ok⟩, ?_⟩
  refine List.forall_mem_cons.2 ⟨⟨Tryz.f8, c8m, Tryz.func8, c8_ok⟩, ?_⟩
  refine List.forall_mem_cons.2 ⟨⟨Tryz.f16, c16m, Tryz.func16, c16_ok⟩, ?_⟩
  refine List.forall_mem_cons.2 ⟨⟨Tryz.f32, c32m, Tryz.func32, c32_ok⟩, ?_⟩
  refine List.forall_mem_cons.2 ⟨⟨Tryz.f64, c64m, Tryz.func64, c64_ok⟩, ?_⟩
  refine List.forall_mem_cons.2 ⟨⟨Tryz.f128, c128m, Tryz.func128, c128_ok⟩, ?_⟩
  refine List.forall_mem_cons.2 ⟨⟨Tryz.f256, c256m, Tryz.func256, c256_ok⟩, ?_⟩
  refine List.forall_mem_cons.2 ⟨⟨Tryz.f192, c192m, Tryz.func192, c192_ok⟩, ?_⟩
  refine List.forall_mem_cons.2 ⟨⟨Tryz.f96, c96m, Tryz.func96, c96_ok⟩, ?_⟩
  refine List.forall_mem_cons.2 ⟨⟨Tryz.f160, c160m, Tryz.func160, c160_ok⟩, ?_⟩
  refine List.forall_mem_cons.2 ⟨⟨Tryz.f224, c224m, Tryz.func224, c224_ok⟩, ?_⟩
  refine List.forall_mem_cons.2 ⟨⟨Tryz.f48, c48m, Tryz.func48, c48_ok⟩, ?_⟩
  refine List.forall_mem_cons.2 ⟨⟨Tryz.f80, c80m, Tryz.func80, c80_ok⟩, ?_⟩
  refine List.forall_mem_cons.2 ⟨⟨Tryz.f144, c144m, Tryz.func144, c144_ok⟩, ?_⟩
  refine List.forall_mem_cons.2 ⟨⟨Tryz.f272, c272m, Tryz.func272, c272_ok⟩, ?_⟩
  refine List.forall_mem_cons.2 ⟨⟨Tryz.f208, c208m, Tryz.func208, c208_ok⟩, ?_⟩
  refine List.forall_mem_cons.2 ⟨⟨Tryz.f112, c112m, Tryz.func112, c112_ok⟩, ?_⟩
  refine List.forall_mem_cons.2 ⟨⟨Tryz.f176, c176m, Tryz.func176, c176_ok⟩, ?_⟩
  refine List.forall_mem_cons.2 ⟨⟨Tryz.f240, c240m, Tryz.func240, c240_ok⟩, ?_⟩
  refine List.forall_mem_cons.2 ⟨⟨Tryz.f24, c24m, Tryz.func24, c24_ok⟩, ?_⟩
  refine List.forall_mem_cons.2 ⟨⟨Tryz.f40, c40m, Tryz.func40, c40_ok⟩, ?_⟩
  refine List.forall_mem_cons.2 ⟨⟨Tryz.f72, c72m, Tryz.func72, c72_ok⟩, ?_⟩
  refine List.forall_mem_cons.2 ⟨⟨Tryz.f136, c136m, Tryz.func136, c136_ok⟩, ?_⟩
  refine List.forall_mem_cons.2 ⟨⟨Tryz.f264, c264m, Tryz.func264, c264_ok⟩, ?_⟩
  refine List.forall_mem_cons.2 ⟨⟨Tryz.f200, c200m, Tryz.func200, c200_ok⟩, ?_⟩
  refine List.forall_mem_cons.2 ⟨⟨Tryz.f104, c104m, Tryz.func104, c104_ok⟩, ?_⟩
  refine List.forall_mem_cons.2 ⟨⟨Tryz.f168, c168m, Tryz.func168, c168_ok⟩, ?_⟩
  refine List.forall_mem_cons.2 ⟨⟨Tryz.f232, c232m, Tryz.func232, c232_ok⟩, ?_⟩
  refine List.forall_mem_cons.2 ⟨⟨Tryz.f56, c56m, Tryz.func56, c56_ok⟩, ?_⟩
  refine List.forall_mem_cons.2 ⟨⟨Tryz.f88, c88m, Tryz.func88, c88_ok⟩, ?_⟩
  refine List.forall_mem_cons.2 ⟨⟨Tryz.f152, c152m, Tryz.func152, c152_ok⟩, ?_⟩
  refine List.forall_mem_cons.2 ⟨⟨Tryz.f280, c280m, Tryz.func280, c280_ok⟩, ?_⟩
  refine List.forall_mem_cons.2 ⟨⟨Tryz.f216, c216m, Tryz.func216, c216_ok⟩, ?_⟩
  refine List.forall_mem_cons.2 ⟨⟨Tryz.f120, c120m, Tryz.func120, c120_ok⟩, ?_⟩
  refine List.forall_mem_cons.2 ⟨⟨Tryz.f184, c184m, Tryz.func184, c184_ok⟩, ?_⟩
  refine List.forall_mem_cons.2 ⟨⟨Tryz.f248, c248m, Tryz.func248, c248_ok⟩, ?_⟩
  refine List.forall_mem_cons.2 ⟨⟨Tryz.f12, c12m, Tryz.func12, c12_ok⟩, ?_⟩
  refine List.forall_mem_cons.2 ⟨⟨Tryz.f20, c20m, Tryz.func20, c20_ok⟩, ?_⟩
  refine List.forall_mem_cons.2 ⟨⟨Tryz.f36, c36m, Tryz.func36, c36_ok⟩, ?_⟩
  refine List.forall_mem_cons.2 ⟨⟨Tryz.f68, c68m, Tryz.func68, c68_ok⟩, ?_⟩
  refine List.forall_mem_cons.2 ⟨⟨Tryz.f132, c132m, Tryz.func132, c132_ok⟩, ?_⟩
  refine List.forall_mem_cons.2 ⟨⟨Tryz.f260, c260m, Tryz.func260, c260_ok⟩, ?_⟩
  refine List.forall_mem_cons.2 ⟨⟨Tryz.f196, c196m, Tryz.func196, c196_ok⟩, ?_⟩
  refine List.forall_mem_cons.2 ⟨⟨Tryz.f100, c100m, Tryz.func100, c100_ok⟩, ?_⟩
  refine List.forall_mem_cons.2 ⟨⟨Tryz.f164, c164m, Tryz.func164, c164_ok⟩, ?_⟩
  refine List.forall_mem_cons.2 ⟨⟨Tryz.f228, c228m, Tryz.func228, c228_ok⟩, ?_⟩
  refine List.forall_mem_cons.2 ⟨⟨Tryz.f52, c52m, Tryz.func52, c52_ok⟩, ?_⟩
  refine List.forall_mem_cons.2 ⟨⟨Tryz.f84, c84m, Tryz.func84, c84_ok⟩, ?_⟩
  refine List.forall_mem_cons.2 ⟨⟨Tryz.f148, c148m, Tryz.func148, c148_ok⟩, ?_⟩
  refine List.forall_mem_cons.2 ⟨⟨Tryz.f212, c212m, Tryz.func212, c212_ok⟩, ?_⟩
  refine List.forall_mem_cons.2 ⟨⟨Tryz.f116, c116m, Tryz.func116, c116_ok⟩, ?_⟩
  refine List.forall_mem_cons.2 ⟨⟨Tryz.f180, c180m, Tryz.func180, c180_ok⟩, ?_⟩
  refine List.forall_mem_cons.2 ⟨⟨Tryz.f244, c244m, Tryz.func244, c244_ok⟩, ?_⟩
  refine List.forall_mem_cons.2 ⟨⟨Tryz.f28, c28m, Tryz.func28, c28_ok⟩, ?_⟩
  refine List.forall_mem_cons.2 ⟨⟨Tryz.f44, c44m, Tryz.func44, c44_ok⟩, ?_⟩
  refine List.forall_mem_cons.2 ⟨⟨Tryz.f76, c76m, Tryz.func76, c76_ok⟩, ?_⟩
  refine List.forall_mem_cons.2 ⟨⟨Tryz.f140, c140m, Tryz.func140, c140_ok⟩, ?_⟩
  refine List.forall_mem_cons.2 ⟨⟨Tryz.f268, c268m, Tryz.func268, c268_ok⟩, ?_⟩
  refine List.forall_mem_cons.2 ⟨⟨Tryz.f204, c204m, Tryz.func204, c204_ok⟩, ?_⟩
  refine List.forall_mem_cons.2 ⟨⟨Tryz.f108, c108m, Tryz.func108, c108_ok⟩, ?_⟩
  refine List.forall_mem_cons.2 ⟨⟨Tryz.f172, c172m, Tryz.func172, c172_ok⟩, ?_⟩
  refine List.forall_mem_cons.2 ⟨⟨Tryz.f236, c236m, Tryz.func236, c236_ok⟩, ?_⟩
  refine List.forall_mem_cons.2 ⟨⟨Tryz.f60, c60m, Tryz.func60, c60_ok⟩, ?_⟩
  refine List.forall_mem_cons.2 ⟨⟨Tryz.f92, c92m, Tryz.func92, c92_ok⟩, ?_⟩
  refine List.forall_mem_cons.2 ⟨⟨Tryz.f156, c156m, Tryz.func156, c156_ok⟩, ?_⟩
  refine List.forall_mem_cons.2 ⟨⟨Tryz.f284, c284m, Tryz.func284, c284_ok⟩, ?_⟩
  refine List.forall_mem_cons.2 ⟨⟨Tryz.f220, c220m, Tryz.func220, c220_ok⟩, ?_⟩
  refine List.forall_mem_cons.2 ⟨⟨Tryz.f124, c124m, Tryz.func124, c124_ok⟩, ?_⟩
  refine List.forall_mem_cons.2 ⟨⟨Tryz.f188, c188m, Tryz.func188, c188_ok⟩, ?_⟩
  refine List.forall_mem_cons.2 ⟨⟨Tryz.f252, c252m, Tryz.func252, c252_ok⟩, ?_⟩
  refine List.forall_mem_cons.2 ⟨⟨Tryz.f6, c6m, Tryz.func6, c6_ok⟩, ?_⟩
  refine List.forall_mem_cons.2 ⟨⟨Tryz.f10, c10m, Tryz.func10, c10_ok⟩, ?_⟩
  refine List.forall_mem_cons.2 ⟨⟨Tryz.f18, c18m, Tryz.func18, c18_ok⟩, ?_⟩
  refine List.forall_mem_cons.2 ⟨⟨Tryz.f34, c34m, Tryz.func34, c34_ok⟩, ?_⟩
  refine List.forall_mem_cons.2 ⟨⟨Tryz.f66, c66m, Tryz.func66, c66_ok⟩, ?_⟩
  refine List.forall_mem_cons.2 ⟨⟨Tryz.f130, c130m, Tryz.func130, c130_ok⟩, ?_⟩
  refine List.forall_mem_cons.2 ⟨⟨Tryz.f258, c258m, Tryz.func258, c258_ok⟩, ?_⟩
  refine List.forall_mem_cons.2 ⟨⟨Tryz.f194, c194m, Tryz.func194, c194_ok⟩, ?_⟩
  refine List.forall_mem_cons.2 ⟨⟨Tryz.f98, c98m, Tryz.func98, c98_ok⟩, ?_⟩
  refine List.forall_mem_cons.2 ⟨⟨Tryz.f162, c162m, Tryz.func162, c162_ok⟩, ?_⟩
  refine List.forall_mem_cons.2 ⟨⟨Tryz.f226, c226m, Tryz.func226, c226_ok⟩, ?_⟩
  refine List.forall_mem_cons.2 ⟨⟨Tryz.f50, c50m, Tryz.func50, c50_ok⟩, ?_⟩
  refine List.forall_mem_cons.2 ⟨⟨Tryz.f82, c82m, Tryz.func82, c82_ok⟩, ?_⟩
  refine List.forall_mem_cons.2 ⟨⟨Tryz.f146, c146m, Tryz.func146, c146_ok⟩, ?_⟩
  refine List.forall_mem_cons.2 ⟨⟨Tryz.f274, c274m, Tryz.func274, c274_ok⟩, ?_⟩
  refine List.forall_mem_cons.2 ⟨⟨Tryz.f210, c210m, Tryz.func210, c210_ok⟩, ?_⟩
  refine List.forall_mem_cons.2 ⟨⟨Tryz.f114, c114m, Tryz.func114, c114_ok⟩, ?_⟩
  refine List.forall_mem_cons.2 ⟨⟨Tryz.f178, c178m, Tryz.func178, c178_ok⟩, ?_⟩
  refine List.forall_mem_cons.2 ⟨⟨Tryz.f242, c242m, Tryz.func242, c242_ok⟩, ?_⟩
  refine List.forall_mem_cons.2 ⟨⟨Tryz.f26, c26m, Tryz.func26, c26_ok⟩, ?_⟩
  refine List.forall_mem_cons.2 ⟨⟨Tryz.f42, c42m, Tryz.func42, c42_ok⟩, ?_⟩
  refine List.forall_mem_cons.2 ⟨⟨Tryz.f74, c74m, Tryz.func74, c74_ok⟩, ?_⟩
  refine List.forall_mem_cons.2 ⟨⟨Tryz.f138, c138m, Tryz.func138, c138_ok⟩, ?_⟩
  refine List.forall_mem_cons.2 ⟨⟨Tryz.f266, c266m, Tryz.func266, c266_ok⟩, ?_⟩
  refine List.forall_mem_cons.2 ⟨⟨Tryz.f202, c202m, Tryz.func202, c202_ok⟩, ?_⟩
  refine List.forall_mem_cons.2 ⟨⟨Tryz.f106, c106m, Tryz.func106, c106_ok⟩, ?_⟩
  refine List.forall_mem_cons.2 ⟨⟨Tryz.f170, c170m, Tryz.func170, c170_ok⟩, ?_⟩
  refine List.forall_mem_cons.2 ⟨⟨Tryz.f234, c234m, Tryz.func234, c234_ok⟩, ?_⟩
  refine List.forall_mem_cons.2 ⟨⟨Tryz.f58, c58m, Tryz.func58, c58_ok⟩, ?_⟩
  refine List.forall_mem_cons.2 ⟨⟨Tryz.f90, c90m, Tryz.func90, c90_ok⟩, ?_⟩
  refine List.forall_mem_cons.2 ⟨⟨Tryz.f154, c154m, Tryz.func154, c154_ok⟩, ?_⟩
  refine List.forall_mem_cons.2 ⟨⟨Tryz.f282, c282m, Tryz.func282, c282_ok⟩, ?_⟩
  refine List.forall_mem_cons.2 ⟨⟨Tryz.f218, c218m, Tryz.func218, c218_ok⟩, ?_⟩
  refine List.forall_mem_cons.2 ⟨⟨Tryz.f122, c122m, Tryz.func122, c122_ok⟩, ?_⟩
  refine List.forall_mem_cons.2 ⟨⟨Tryz.f186, c186m, Tryz.func186, c186_ok⟩, ?_⟩
  refine List.forall_mem_cons.2 ⟨⟨Tryz.f250, c250m, Tryz.func250, c250_ok⟩, ?_⟩
  refine List.forall_mem_cons.2 ⟨⟨Tryz.f14, c14m, Tryz.func14, c14_ok⟩, ?_⟩
  refine List.forall_mem_cons.2 ⟨⟨Tryz.f22, c22m, Tryz.func22, c22_ok⟩, ?_⟩
  refine List.forall_mem_cons.2 ⟨⟨Tryz.f38, c38m, Tryz.func38, c38_ok⟩, ?_⟩
  refine List.forall_mem_cons.2 ⟨⟨Tryz.f70, c70m, Tryz.func70, c70_ok⟩, ?_⟩
  refine List.forall_mem_cons.2 ⟨⟨Tryz.f134, c134m, Tryz.func134, c134_ok⟩, ?_⟩
  refine List.forall_mem_cons.2 ⟨⟨Tryz.f262, c262m, Tryz.func262, c262_ok⟩, ?_⟩
  refine List.forall_mem_cons.2 ⟨⟨Tryz.f198, c198m, Tryz.func198, c198_ok⟩, ?_⟩
  refine List.forall_mem_cons.2 ⟨⟨Tryz.f102, c102m, Tryz.func102, c102_ok⟩, ?_⟩
  refine List.forall_mem_cons.2 ⟨⟨Tryz.f166, c166m, Tryz.func166, c166_ok⟩, ?_⟩
  refine List.forall_mem_cons.2 ⟨⟨Tryz.f230, c230m, Tryz.func230, c230_ok⟩, ?_⟩
  refine List.forall_mem_cons.2 ⟨⟨Tryz.f54, c54m, Tryz.func54, c54_ok⟩, ?_⟩
  refine List.forall_mem_cons.2 ⟨⟨Tryz.f86, c86m, Tryz.func86, c86_ok⟩, ?_⟩
  refine List.forall_mem_cons.2 ⟨⟨Tryz.f150, c150m, Tryz.func150, c150_ok⟩, ?_⟩
  refine List.forall_mem_cons.2 ⟨⟨Tryz.f278, c278m, Tryz.func278, c278_ok⟩, ?_⟩
  refine List.forall_mem_cons.2 ⟨⟨Tryz.f214, c214m, Tryz.func214, c214_ok⟩, ?_⟩
  refine List.forall_mem_cons.2 ⟨⟨Tryz.f118, c118m, Tryz.func118, c118_ok⟩, ?_⟩
  refine List.forall_mem_cons.2 ⟨⟨Tryz.f182, c182m, Tryz.func182, c182_ok⟩, ?_⟩
  refine List.forall_mem_cons.2 ⟨⟨Tryz.f246, c246m, Tryz.func246, c246_ok⟩, ?_⟩
  refine List.forall_mem_cons.2 ⟨⟨Tryz.f30, c30m, Tryz.func30, c30_ok⟩, ?_⟩
  refine List.forall_mem_cons.2 ⟨⟨Tryz.f46, c46m, Tryz.func46, c46_ok⟩, ?_⟩
  refine List.forall_mem_cons.2 ⟨⟨Tryz.f78, c78m, Tryz.func78, c78_ok⟩, ?_⟩
  refine List.forall_mem_cons.2 ⟨⟨Tryz.f142, c142m, Tryz.func142, c142_ok⟩, ?_⟩
  refine List.forall_mem_cons.2 ⟨⟨Tryz.f270, c270m, Tryz.func270, c270_ok⟩, ?_⟩
  refine List.forall_mem_cons.2 ⟨⟨Tryz.f206, c206m, Tryz.func206, c206_ok⟩, ?_⟩
  refine List.forall_mem_cons.2 ⟨⟨Tryz.f110, c110m, Tryz.func110, c110_ok⟩, ?_⟩
  refine List.forall_mem_cons.2 ⟨⟨Tryz.f174, c174m, Tryz.func174, c174_ok⟩, ?_⟩
  refine List.forall_mem_cons.2 ⟨⟨Tryz.f238, c238m, Tryz.func238, c238_ok⟩, ?_⟩
  refine List.forall_mem_cons.2 ⟨⟨Tryz.f62, c62m, Tryz.func62, c62_ok⟩, ?_⟩
  refine List.forall_mem_cons.2 ⟨⟨Tryz.f94, c94m, Tryz.func94, c94_ok⟩, ?_⟩
  refine List.forall_mem_cons.2 ⟨⟨Tryz.f158, c158m, Tryz.func158, c158_ok⟩, ?_⟩
  refine List.forall_mem_cons.2 ⟨⟨Tryz.f286, c286m, Tryz.func286, c286_ok⟩, ?_⟩
  refine List.forall_mem_cons.2 ⟨⟨Tryz.f222, c222m, Tryz.func222, c222_ok⟩, ?_⟩
  refine List.forall_mem_cons.2 ⟨⟨Tryz.f126, c126m, Tryz.func126, c126_ok⟩, ?_⟩
  refine List.forall_mem_cons.2 ⟨⟨Tryz.f190, c190m, Tryz.func190, c190_ok⟩, ?_⟩
  refine List.forall_mem_cons.2 ⟨⟨Tryz.f254, c254m, Tryz.func254, c254_ok⟩, ?_⟩
  intro e he
  cases he
theorem tb_calls : ∀ e ∈ tbT.ents, callable Tryz.prog e.1 = true := by
  rw [tb_ents]
  refine List.all_eq_true.1 (?_ : List.all _ (fun e : Nat × RFunc => callable Tryz.prog e.1) = true)
  kernel_rfl
theorem tb_ok : TblOK Tryz.prog tb where
  follow := by kernel_rfl
  fn f rf h := tb_fns (f, rf) (Tr.get_ents h)
  nat f g h := by cases h
  callable f h := by
    obtain ⟨rf, hr⟩ := Option.isSome_iff_exists.1 h
    exact tb_calls (f, rf) (Tr.get_ents hr)
def ntT : Tr (List AV → CH → Option (AV × CH)) := (.node (.node (.node (.node (.node (.node .leaf none (.node .leaf (some (cloneN 2 1)) .leaf)) none (.node .leaf (some (cloneN 4 2)) .leaf)) none (.node (.node (.node (.node (.node .leaf (some (delN)) .leaf) none .leaf) none .leaf) (some (cloneN 1 1)) .leaf) none .leaf)) none (.node (.node (.node .leaf (some (reachN)) .leaf) none .leaf) none .leaf)) none .leaf) none (.node (.node (.node .leaf none (.node .leaf none (.node .leaf none (.node .leaf (some (usedN)) .leaf)))) none .leaf) none (.node (.node .leaf none (.node (.node (.node (.node (.node .leaf (some (insN)) .leaf) none .leaf) none .leaf) none .leaf) none .leaf)) none .leaf)))
theorem nt_ents : ntT.ents = [(95, cloneN 2 1), (47, cloneN 4 2), (39, cloneN 1 1), (263, delN), (35, reachN), (120, usedN), (266, insN)] := by kernel_rfl
theorem nt_ok : ∀ e ∈ ntT.ents, ∀ args H v H', e.2 args H = some (v, H') → ACalls Tryz.prog e.1 args H.den v H'.den := by
  rw [nt_ents]
  refine List.forall_mem_cons.2 ⟨fun args H v H' h => cloneN_ok tb_ok (z := [(.int .u16 0)]) (show tb.fn 95 = some (lcClone [(.int .u16 0)] 2 1) from by kernel_rfl) args H v H' h, ?_⟩
  refine List.forall_mem_cons.2 ⟨fun args H v H' h => cloneN_ok tb_ok (z := [(.int .u16 0), (.int .u8 0)]) (show tb.fn 47 = some (lcClone [(.int .u16 0), (.int .u8 0)] 4 2) from by kernel_rfl) args H v H' h, ?_⟩
  refine List.forall_mem_cons.2 ⟨fun args H v H' h => cloneN_ok tb_ok (z := [(.int .u8 0)]) (show tb.fn 39 = some (lcClone [(.int .u8 0)] 1 1) from by kernel_rfl) args H v H' h, ?_⟩
  refine List.forall_mem_cons.2 ⟨fun args H v H' h => delN_ok tb_ok (show tb.fn 263 = some lcDel from by kernel_rfl) args H v H' h, ?_⟩
  refine List.forall_mem_cons.2 ⟨fun args H v H' h => reachN_ok tb_ok (show tb.fn 35 = some (lcReach 56 57 58 59) from by kernel_rfl) (acalls_eval tb_ok (fuel := 100) (show callOf tb (runK tb 100) 56 [.int .u64 1] ⟨.leaf, 0⟩ (fun v _ => some v) = some (.bool true) from by kernel_rfl) rfl rfl) (acalls_eval tb_ok (fuel := 100) (show callOf tb (runK tb 100) 57 [.int .u64 1] ⟨.leaf, 0⟩ (fun v _ => some v) = some (.int .u64 0) from by kernel_rfl) rfl rfl) (acalls_eval tb_ok (fuel := 100) (show callOf tb (runK tb 100) 58 [.vs [[.int .u64 1]] .full, .int .u64 0] ⟨.leaf, 0⟩ (fun v _ => some v) = some (.bool false) from by kernel_rfl) rfl rfl) (acalls_eval tb_ok (fuel := 100) (show callOf tb (runK tb 100) 59 [.vs [] .full] ⟨.leaf, 0⟩ (fun v _ => some v) = some (.tup []) from by kernel_rfl) rfl rfl) args H v H' h, ?_⟩
  refine List.forall_mem_cons.2 ⟨fun args H v H' h => usedN_ok tb_ok (show tb.fn 120 = some lcUsed from by kernel_rfl) args H v H' h, ?_⟩
  refine List.forall_mem_cons.2 ⟨fun args H v H' h => insN_ok tb_ok (show tb.fn 266 = some (lcIns (.seq (.reg c266_18) (.seq (.reg c266_19) (.seq (.reg c266_20) .ret)))) from by kernel_rfl) args H v H' h, ?_⟩
  intro e he
  cases he
def tb1 : Tbl := tb.with ntT
theorem tb1_ok : TblOK Tryz.prog tb1 := tb_ok.with nt_ok
end Go.Proofs.YtjkllffbjeajhaaGreat.Am
