/-
  The small code of the functions, written by program; that the program's code is this one, the kernel looks at.
-/
import Derived.Test.YthagmdhmgailfaaGreatAx3
import Derived.Test.YthagmdhmgailfaaGreatProg
import Derived.KernelRfl
import Derived.Test.YthagmdhmgailfaaGreatNum
namespace Go.Proofs.YthagmdhmgailfaaGreat.Ax
open Go
set_option maxRecDepth 100000
def Uw : ACode :=
 (.seq (.reg [un (.mov 32 (.t 4)),
 un (.bin 33 .eql (.t 32) (.c (.int .i64 4))),
 un (.asg 34 (.t 33)),
 ⟨some (34, true), .fadr 35 0 (.t 7)⟩,
 ⟨some (34, true), .ld 36 1 false (.t 35)⟩,
 ⟨some (34, true), .bin 37 .eql (.t 36) (.c (.int .i64 3))⟩,
 un (.pick 38 (.t 34) (.t 37) (.c (.bool false)))])
 (.drop [32, 33, 34, 35, 36, 37] (.cond (.t 38) (.reg [un (.fadr 39 0 (.t 7)),
 un (.st 1 (.t 39) (.c (.int .i64 2)))])
 .skip)))
def Ls : ACode :=
 (.seq (.seq (.reg [un (.mov 44 (.t 8)),
 un (.bin 45 .gtr (.t 44) (.c (.int .i64 0)))])
 (.drop [44] (.cond (.t 45) .skip
 (.exit 2))))
 (.drop [44, 45] (.seq (.block 3 (.dreg [(un (.fadr 48 1 (.t 7)), [132, 52]),
 (un (.ld 49 1 false (.t 48)), [132, 52]),
 (un (.mov 50 (.t 0)), [48, 49]),
 (un (.mov 51 (.t 4)), [48, 49, 50]),
 (un (.call 52 Aw [((.t 50), true), ((.t 51), false)]), [132, 48, 49]),
 (un (.bsl 53 1 [(.t 52)]), [48, 49])]
 [un (.app 54 1 (.t 49) (.t 53)),
 un (.fadr 55 1 (.t 7)),
 un (.st 1 (.t 55) (.t 54))]))
 (.drop [48, 49, 50, 51, 52, 53, 54, 55] (.reg [un (.mov 46 (.t 8)),
 un (.bin 47 .sub (.t 46) (.c (.int .i64 1))),
 un (.asg 8 (.t 47))])))))
def Lp : ACode :=
 (.seq (.seq (.reg [un (.mov 24 (.t 6)),
 un (.bin 25 .gtr (.t 24) (.c (.int .i64 0)))])
 (.drop [24] (.cond (.t 25) .skip
 (.exit 0))))
 (.drop [24, 25] (.seq (.block 1 (.seq (.reg [un (.mov 28 (.t 0)),
 un (.bsl 29 1 [(.c (.int .i64 0)), (.c (.int .i64 1)), (.c (.int .i64 2)), (.c (.int .i64 2)), (.c (.int .i64 3))]),
 un (.call 30 Bg [((.t 28), true), ((.t 29), false)]),
 un (.bld 31 [.int .i64 0, .nilsl 1] [(0, 1, (.t 30))]),
 un (.alc 7 (.agg [.int .i64 0, .nilsl 1])),
 un (.st 2 (.t 7) (.t 31))])
 (.drop [28, 29, 30, 31] (.seq (.cut Uw)
 (.drop [32, 33, 34, 35, 36, 37, 38, 39] (.seq (.seq (.reg [un (.mov 40 (.t 4)),
 un (.fadr 41 0 (.t 7)),
 un (.ld 42 1 false (.t 41)),
 un (.call 43 Ql [((.t 40), false), ((.t 42), false)]),
 un (.asg 8 (.t 43))])
 (.drop [40, 41, 42, 43] (.block 2 (.loop Ls))))
 (.drop [40, 41, 42, 43, 8, 44, 45, 48, 49, 50, 51, 52, 53, 54, 55, 46, 47] (.reg [un (.fadr 56 1 (.t 5)),
 un (.ld 57 1 false (.t 56)),
 un (.ld 58 2 true (.t 7)),
 un (.bsl 59 2 [(.t 58)]),
 un (.app 60 2 (.t 57) (.t 59)),
 un (.fadr 61 1 (.t 5)),
 un (.st 1 (.t 61) (.t 60))]))))))))
 (.drop [28, 29, 30, 31, 7, 32, 33, 34, 35, 36, 37, 38, 39, 40, 41, 42, 43, 8, 44, 45, 48, 49, 50, 51, 52, 53, 54, 55, 46, 47, 56, 57, 58, 59, 60, 61] (.reg [un (.mov 26 (.t 6)),
 un (.bin 27 .sub (.t 26) (.c (.int .i64 1))),
 un (.asg 6 (.t 27))])))))
def Lq : ACode :=
 (.seq (.seq (.dreg [(un (.fadr 116 1 (.t 5)), [132]),
 (un (.ld 117 1 false (.t 116)), [132]),
 (un (.len 118 (.t 117)), [132]),
 (un (.mov 119 (.t 0)), [116, 117, 118]),
 (un (.call 120 Aw [((.t 119), true), ((.c (.int .i64 2)), false)]), [132, 116, 117, 118]),
 (un (.bin 121 .add (.c (.int .i64 4)) (.t 120)), [116, 117, 118])]
 [un (.bin 122 .lss (.t 118) (.t 121))])
 (.drop [116, 117, 118, 119, 120, 121] (.cond (.t 122) .skip
 (.exit 5))))
 (.drop [116, 117, 118, 119, 120, 121, 122] (.block 6 (.dregl [(0, .fadr 123 1 (.t 5)),
 (1, .ld 124 1 false (.t 123)),
 (2, .mov 125 (.t 4))]
 (.alt 3 (.mk 126 1 (.int .i64 0) (.t 125)) [0, 1, 2] [] (.alt 4 (.bld 127 [.int .i64 0, .nilsl 1] [(0, 1, (.c (.int .i64 1))), (1, 1, (.t 126))]) [0, 1] [] (.alt 5 (.bsl 128 2 [(.t 127)]) [0, 1] [] (.alt 6 (.app 129 2 (.t 124) (.t 128)) [0, 1] [124] (.alt 7 (.fadr 130 1 (.t 5)) [] [] (.alt 8 (.st 1 (.t 130) (.t 129)) [] [] .nil .nil) .nil) .nil) .nil) .nil) .nil)))))
def Yk : ACode :=
 (.seq (.reg [un (.alc 2 (.agg [.int .i64 0, .nilsl 2]))])
 (.seq (.seq (.reg [un (.mov 9 (.t 0)),
 un (.call 10 Hp [((.t 9), true), ((.c (.int .i64 4)), false)]),
 un (.un 11 .not (.t 10))])
 (.drop [9, 10] (.cond (.t 11) (.seq (.reg [un (.mov 12 (.t 0)),
 un (.call 13 Aw [((.t 12), true), ((.c (.int .i64 17)), false)]),
 un (.call 14 Rk [((.t 13), false)]),
 un (.alc 3 (.agg [.int .i64 0, .nilsl 2])),
 un (.st 2 (.t 3) (.t 14))])
 (.drop [12, 13, 14] (.seq (.reg [un (.ld 15 2 true (.t 3)),
 un (.st 2 (.t 2) (.t 15))])
 (.drop [15] .ret))))
 .skip)))
 (.drop [9, 10, 11, 12, 13, 14, 3, 15] (.seq (.reg [un (.mov 16 (.t 0)),
 un (.bsl 17 1 [(.c (.int .i64 2)), (.c (.int .i64 2)), (.c (.int .i64 3)), (.c (.int .i64 3)), (.c (.int .i64 4))]),
 un (.call 18 Bg [((.t 16), true), ((.t 17), false)]),
 un (.asg 4 (.t 18))])
 (.drop [16, 17, 18] (.seq (.reg [un (.mov 19 (.t 4)),
 un (.bld 20 [.int .i64 0, .nilsl 2] [(0, 1, (.t 19))]),
 un (.alc 5 (.agg [.int .i64 0, .nilsl 2])),
 un (.st 2 (.t 5) (.t 20))])
 (.drop [19, 20] (.seq (.seq (.reg [un (.mov 21 (.t 0)),
 un (.bsl 22 1 [(.c (.int .i64 1)), (.c (.int .i64 1)), (.c (.int .i64 2))]),
 un (.call 23 Bg [((.t 21), true), ((.t 22), false)]),
 un (.asg 6 (.t 23))])
 (.drop [21, 22, 23] (.block 0 (.loop Lp))))
 (.drop [21, 22, 23, 6, 24, 25, 28, 29, 30, 31, 7, 32, 33, 34, 35, 36, 37, 38, 39, 40, 41, 42, 43, 8, 44, 45, 48, 49, 50, 51, 52, 53, 54, 55, 46, 47, 56, 57, 58, 59, 60, 61, 26, 27] (.seq (.seq (.reg [un (.mov 62 (.t 0)),
 un (.call 63 Aw [((.t 62), true), ((.c (.int .i64 16)), false)])])
 (.drop [62] (.block 4 (.seq (.reg [un (.bin 65 .eql (.t 63) (.c (.int .i64 0))),
 un (.asg 64 (.t 65))])
 (.drop [65] (.cond (.t 64) (.reg [un (.mov 66 (.t 0)),
 un (.mov 67 (.t 4)),
 un (.bin 68 .add (.t 67) (.c (.int .i64 1))),
 un (.bsl 69 1 [(.c (.int .i64 0)), (.c (.int .i64 9)), (.t 68)]),
 un (.call 70 Bg [((.t 66), true), ((.t 69), false)]),
 un (.fadr 71 0 (.t 5)),
 un (.st 1 (.t 71) (.t 70))])
 (.seq (.reg [un (.bin 73 .eql (.t 63) (.c (.int .i64 1))),
 un (.asg 72 (.t 73))])
 (.drop [73] (.cond (.t 72) (.dregl [(0, .fadr 74 1 (.t 5)),
 (1, .ld 75 1 false (.t 74)),
 (2, .fadr 76 1 (.t 5)),
 (3, .ld 77 1 false (.t 76)),
 (4, .iad 78 2 (.t 77) (.c (.int .i64 0))),
 (5, .fadr 79 1 (.t 78)),
 (6, .ld 80 1 false (.t 79))]
 (.alt 7 (.bsl 81 1 [(.c (.int .i64 0))]) [0, 1, 2, 3, 4, 5, 6] [] (.alt 8 (.app 82 1 (.t 80) (.t 81)) [0, 1, 2, 3, 4, 5, 6] [80] (.alt 9 (.iad 83 2 (.t 75) (.c (.int .i64 0))) [0, 1] [] (.alt 10 (.fadr 84 1 (.t 83)) [] [] (.alt 11 (.st 1 (.t 84) (.t 82)) [] [] .nil .nil) .nil) .nil) .nil) .nil))
 (.seq (.reg [un (.bin 86 .eql (.t 63) (.c (.int .i64 2))),
 un (.asg 85 (.t 86))])
 (.drop [86] (.cond (.t 85) (.dregl [(0, .fadr 87 1 (.t 5)),
 (1, .ld 88 1 false (.t 87)),
 (2, .iad 89 2 (.t 88) (.c (.int .i64 0))),
 (3, .fadr 90 1 (.t 89)),
 (4, .ld 91 1 false (.t 90)),
 (5, .mov 92 (.t 0)),
 (6, .fadr 93 1 (.t 5)),
 (7, .ld 94 1 false (.t 93)),
 (8, .iad 95 2 (.t 94) (.c (.int .i64 0))),
 (9, .fadr 96 1 (.t 95)),
 (10, .ld 97 1 false (.t 96)),
 (13, .mov 100 (.t 0)),
 (14, .mov 101 (.t 4))]
 (.alt 11 (.len 98 (.t 97)) [0, 1, 2, 3, 4, 5, 6, 7, 8, 9, 10, 13, 14] [] (.alt 12 (.call 99 Aw [((.t 92), true), ((.t 98), false)]) [0, 1, 2, 3, 4, 5, 13, 14] [] (.alt 15 (.bsl 102 1 [(.c (.int .i64 (-1))), (.t 101)]) [0, 1, 2, 3, 4, 13, 14] [] (.alt 16 (.call 103 Bg [((.t 100), true), ((.t 102), false)]) [0, 1, 2, 3, 4, 13] [] (.alt 17 (.iad 104 1 (.t 91) (.t 99)) [0, 1, 2, 3, 4] [] (.alt 18 (.st 1 (.t 104) (.t 103)) [] [] .nil .nil) .nil) .nil) .nil) (.alt 15 (.bsl 102 1 [(.c (.int .i64 (-1))), (.t 101)]) [0, 1, 2, 3, 4, 5, 13, 14] [] (.alt 12 (.call 99 Aw [((.t 92), true), ((.t 98), false)]) [0, 1, 2, 3, 4, 5, 13] [] (.alt 16 (.call 103 Bg [((.t 100), true), ((.t 102), false)]) [0, 1, 2, 3, 4, 13] [] (.alt 17 (.iad 104 1 (.t 91) (.t 99)) [0, 1, 2, 3, 4] [] (.alt 18 (.st 1 (.t 104) (.t 103)) [] [] .nil .nil) .nil) .nil) .nil) .nil)) (.alt 15 (.bsl 102 1 [(.c (.int .i64 (-1))), (.t 101)]) [0, 1, 2, 3, 4, 5, 6, 7, 8, 9, 10, 13, 14] [] (.alt 11 (.len 98 (.t 97)) [0, 1, 2, 3, 4, 5, 6, 7, 8, 9, 10, 13] [] (.alt 12 (.call 99 Aw [((.t 92), true), ((.t 98), false)]) [0, 1, 2, 3, 4, 5, 13] [] (.alt 16 (.call 103 Bg [((.t 100), true), ((.t 102), false)]) [0, 1, 2, 3, 4, 13] [] (.alt 17 (.iad 104 1 (.t 91) (.t 99)) [0, 1, 2, 3, 4] [] (.alt 18 (.st 1 (.t 104) (.t 103)) [] [] .nil .nil) .nil) .nil) .nil) .nil) .nil)))
 (.seq (.reg [un (.bin 106 .eql (.t 63) (.c (.int .i64 3))),
 un (.asg 105 (.t 106))])
 (.drop [106] (.cond (.t 105) (.dregl [(0, .fadr 107 1 (.t 5)),
 (1, .ld 108 1 false (.t 107)),
 (2, .mov 109 (.t 0))]
 (.alt 3 (.bsl 110 1 [(.c (.int .i64 (-1))), (.c (.int .i64 4))]) [0, 1, 2] [] (.alt 4 (.call 111 Bg [((.t 109), true), ((.t 110), false)]) [0, 1, 2] [] (.alt 5 (.iad 112 2 (.t 108) (.c (.int .i64 0))) [0, 1] [] (.alt 6 (.fadr 113 0 (.t 112)) [] [] (.alt 7 (.st 1 (.t 113) (.t 111)) [] [] .nil .nil) .nil) .nil) .nil) .nil))
 (.seq (.reg [un (.bin 115 .eql (.t 63) (.c (.int .i64 4))),
 un (.asg 114 (.t 115))])
 (.drop [115] (.cond (.t 114) (.block 5 (.loop Lq))
 .skip))))))))))))))))))
 (.drop [62, 63, 65, 64, 66, 67, 68, 69, 70, 71, 73, 72, 74, 75, 76, 77, 78, 79, 80, 81, 82, 83, 84, 86, 85, 87, 88, 89, 90, 91, 92, 93, 94, 95, 96, 97, 98, 99, 100, 101, 102, 103, 104, 106, 105, 107, 108, 109, 110, 111, 112, 113, 115, 114, 116, 117, 118, 119, 120, 121, 122, 123, 124, 125, 126, 127, 128, 129, 130] (.seq (.reg [un (.ld 131 2 true (.t 5)),
 un (.st 2 (.t 2) (.t 131))])
 (.drop [131] .ret)))))))))))))
abbrev Ya : List RS := [.c 2 2 true]
theorem Y9 : A2 Tryz.prog Gx 132 Yk Ya = true := by kernel_rfl
def Y2 : ACode :=
 (.seq (.reg [un (.box 3 (.t 1)),
 un (.asg 4 (.c (.int .i64 0)))])
 (.seq (.seq (.reg [un (.fadr 5 0 (.t 3)),
 un (.ld 6 1 false (.t 5)),
 un (.bin 7 .lss (.t 6) (.c (.int .i64 1))),
 un (.asg 8 (.t 7)),
 ⟨some (8, false), .mov 9 (.t 0)⟩,
 ⟨some (8, false), .call 10 Hp [((.t 9), true), ((.c (.int .i64 24)), false)]⟩,
 un (.pick 11 (.t 8) (.c (.bool true)) (.t 10))])
 (.drop [5, 6, 7, 8, 9, 10] (.cond (.t 11) (.seq (.reg [un (.mov 12 (.t 0)),
 un (.fadr 13 0 (.t 3)),
 un (.ld 14 1 false (.t 13)),
 un (.bsl 15 1 [(.c (.int .i64 (-1))), (.t 14)]),
 un (.call 16 Bg [((.t 12), true), ((.t 15), false)]),
 un (.asg 4 (.t 16))])
 (.drop [12, 13, 14, 15, 16] .ret))
 .skip)))
 (.drop [5, 6, 7, 8, 9, 10, 11, 12, 13, 14, 15, 16] (.seq (.reg [un (.mov 17 (.t 0)),
 un (.fadr 18 0 (.t 3)),
 un (.ld 19 1 false (.t 18)),
 un (.call 20 Aw [((.t 17), true), ((.t 19), false)]),
 un (.asg 4 (.t 20))])
 (.drop [17, 18, 19, 20] .ret)))))
abbrev Yv : List RS := [.t 4]
theorem Zs : A2 Tryz.prog Gy 21 Y2 Yv = true := by kernel_rfl
def S0 : ACode :=
 (.seq (.seq (.reg [un (.mov 6 (.t 5)),
 un (.fadr 7 0 (.t 2)),
 un (.ld 8 1 false (.t 7)),
 un (.bin 9 .lss (.t 6) (.t 8))])
 (.drop [6, 7, 8] (.cond (.t 9) .skip
 (.exit 0))))
 (.drop [6, 7, 8, 9] (.seq (.block 1 (.reg [un (.ld 12 2 true (.t 2)),
 un (.mov 13 (.t 1)),
 un (.call 14 N3 [((.t 12), false), ((.t 13), false)]),
 un (.asg 1 (.t 14))]))
 (.drop [12, 13, 14] (.frz [1] (.reg [un (.mov 10 (.t 5)),
 un (.bin 11 .add (.t 10) (.c (.int .i64 1))),
 un (.asg 5 (.t 11))]))))))
def Aj0 : ACode :=
 (.seq (.reg [un (.box 2 (.t 0)),
 un (.asg 4 (.c (.nilsl 1)))])
 (.seq (.seq (.reg [un (.asg 5 (.c (.int .i64 0)))])
 (.block 0 (.loop S0)))
 (.drop [5, 6, 7, 8, 9, 12, 13, 14, 10, 11] (.seq (.reg [un (.mov 15 (.t 1)),
 un (.asg 4 (.t 15))])
 (.drop [15] .ret)))))
abbrev Aib : List RS := [.t 4]
theorem Aj7 : A2 Tryz.prog L2 16 Aj0 Aib = true := by kernel_rfl
def Alx : ACode :=
 (.seq (.reg [un (.box 3 (.t 0)),
 un (.asg 6 (.c (.bool false)))])
 (.seq (.reg [un (.ld 7 2 true (.t 3)),
 un (.call 8 Ho [((.t 7), false)]),
 un (.asg 9 (.t 8)),
 ⟨some (9, true), .mov 10 (.t 1)⟩,
 ⟨some (9, true), .mov 11 (.t 2)⟩,
 ⟨some (9, true), .bsl 12 1 [(.t 10), (.t 11)]⟩,
 ⟨some (9, true), .fadr 13 0 (.t 3)⟩,
 ⟨some (9, true), .ld 14 1 false (.t 13)⟩,
 ⟨some (9, true), .call 15 Ky [((.t 12), false), ((.t 14), false)]⟩,
 un (.pick 16 (.t 9) (.t 15) (.c (.bool false))),
 un (.asg 6 (.t 16))])
 (.drop [7, 8, 9, 10, 11, 12, 13, 14, 15, 16] .ret)))
abbrev Ala : List RS := [.t 6]
theorem Ama : A2 Tryz.prog Uh 17 Alx Ala = true := by kernel_rfl
def Kt : ACode :=
 (.seq (.seq (.reg [un (.mov 23 (.t 6)),
 un (.fadr 24 0 (.t 1)),
 un (.ld 25 1 false (.t 24)),
 un (.bin 26 .lss (.t 23) (.t 25))])
 (.drop [23, 24, 25] (.cond (.t 26) .skip
 (.exit 2))))
 (.drop [23, 24, 25, 26] (.seq (.block 3 (.reg [un (.mov 29 (.t 4)),
 un (.ld 30 2 true (.t 1)),
 un (.mov 31 (.t 5)),
 un (.mov 32 (.t 6)),
 un (.bld 33 [.int .i64 0, .int .i64 0] [(0, 1, (.t 31)), (1, 1, (.t 32))]),
 un (.bsl 34 2 [(.t 33)]),
 un (.call 35 Fu [((.t 30), false), ((.t 34), false)]),
 un (.bsl 36 1 [(.t 35)]),
 un (.app 37 1 (.t 29) (.t 36)),
 un (.asg 4 (.t 37))]))
 (.drop [29, 30, 31, 32, 33, 34, 35, 36, 37] (.reg [un (.mov 27 (.t 6)),
 un (.bin 28 .add (.t 27) (.c (.int .i64 1))),
 un (.asg 6 (.t 28))])))))
def Kh : ACode :=
 (.seq (.seq (.reg [un (.mov 15 (.t 5)),
 un (.fadr 16 0 (.t 1)),
 un (.ld 17 1 false (.t 16)),
 un (.bin 18 .lss (.t 15) (.t 17))])
 (.drop [15, 16, 17] (.cond (.t 18) .skip
 (.exit 0))))
 (.drop [15, 16, 17, 18] (.seq (.block 1 (.seq (.reg [un (.mov 21 (.t 5)),
 un (.bin 22 .add (.t 21) (.c (.int .i64 1))),
 un (.asg 6 (.t 22))])
 (.drop [21, 22] (.block 2 (.loop Kt)))))
 (.drop [21, 22, 6, 23, 24, 25, 26, 29, 30, 31, 32, 33, 34, 35, 36, 37, 27, 28] (.reg [un (.mov 19 (.t 5)),
 un (.bin 20 .add (.t 19) (.c (.int .i64 1))),
 un (.asg 5 (.t 20))])))))
def Kw : ACode :=
 (.seq (.reg [un (.bin 57 .lss (.t 56) (.t 55))])
 (.seq (.cond (.t 57) .skip
 (.exit 6))
 (.seq (.block 7 (.seq (.reg [un (.iad 58 1 (.t 54) (.t 56)),
 un (.ld 59 1 false (.t 58)),
 un (.asg 11 (.t 59))])
 (.drop [58, 59] (.seq (.reg [un (.mov 60 (.t 7)),
 un (.mov 61 (.t 9)),
 un (.iad 62 1 (.t 60) (.t 61)),
 un (.ld 63 1 false (.t 62)),
 un (.mov 64 (.t 11)),
 un (.call 65 Sr [((.t 63), false), ((.t 64), false)]),
 un (.asg 12 (.t 65))])
 (.drop [60, 61, 62, 63, 64, 65] (.seq (.seq (.reg [un (.mov 66 (.t 12)),
 un (.call 67 P3 [((.t 66), false)]),
 un (.asg 13 (.t 67))])
 (.drop [66, 67] (.seq (.reg [un (.mov 68 (.t 8)),
 un (.mov 69 (.t 13)),
 un (.mlk 70 (.t 68) (.t 69) (.bool false) false),
 un (.un 71 .not (.t 70))])
 (.drop [68, 69, 70] (.cond (.t 71) (.seq (.reg [un (.mov 72 (.t 8)),
 un (.mov 73 (.t 13)),
 un (.mup (.t 72) (.t 73) (.c (.bool true)))])
 (.drop [72, 73] (.reg [un (.mov 74 (.t 7)),
 un (.mov 75 (.t 12)),
 un (.bsl 76 1 [(.t 75)]),
 un (.app 77 1 (.t 74) (.t 76)),
 un (.asg 7 (.t 77))])))
 .skip)))))
 (.drop [66, 67, 13, 68, 69, 70, 71, 72, 73, 74, 75, 76, 77] (.seq (.reg [un (.mov 78 (.t 7)),
 un (.len 79 (.t 78)),
 un (.bin 80 .gtr (.t 79) (.c (.int .i64 200)))])
 (.drop [78, 79] (.cond (.t 80) (.seq (.reg [un (.asg 2 (.c (.nilsl 1))),
 un (.asg 3 (.c (.bool false)))])
 .ret)
 .skip))))))))))
 (.drop [58, 59, 11, 60, 61, 62, 63, 64, 65, 12, 66, 67, 13, 68, 69, 70, 71, 72, 73, 74, 75, 76, 77, 78, 79, 80] (.reg [un (.bin 81 .add (.t 56) (.c (.int .i64 1))),
 un (.asg 56 (.t 81))])))))
def K1 : ACode :=
 (.seq (.seq (.reg [un (.mov 48 (.t 9)),
 un (.mov 49 (.t 7)),
 un (.len 50 (.t 49)),
 un (.bin 51 .lss (.t 48) (.t 50))])
 (.drop [48, 49, 50] (.cond (.t 51) .skip
 (.exit 4))))
 (.drop [48, 49, 50, 51] (.seq (.block 5 (.seq (.reg [un (.mov 54 (.t 4)),
 un (.len 55 (.t 54)),
 un (.mov 56 (.c (.int .i64 0)))])
 (.block 6 (.loop Kw))))
 (.drop [54, 55, 56, 57, 58, 59, 11, 60, 61, 62, 63, 64, 65, 12, 66, 67, 13, 68, 69, 70, 71, 72, 73, 74, 75, 76, 77, 78, 79, 80, 81] (.reg [un (.mov 52 (.t 9)),
 un (.bin 53 .add (.t 52) (.c (.int .i64 1))),
 un (.asg 9 (.t 53))])))))
def X3 : ACode :=
 (.seq (.reg [un (.box 1 (.t 0)),
 un (.asg 2 (.c (.nilsl 1))),
 un (.asg 3 (.c (.bool false)))])
 (.seq (.reg [un (.bsl 14 1 []),
 un (.asg 4 (.t 14))])
 (.drop [14] (.seq (.seq (.reg [un (.asg 5 (.c (.int .i64 0)))])
 (.block 0 (.loop Kh)))
 (.drop [5, 15, 16, 17, 18, 21, 22, 6, 23, 24, 25, 26, 29, 30, 31, 32, 33, 34, 35, 36, 37, 27, 28, 19, 20] (.seq (.reg [un (.fadr 38 0 (.t 1)),
 un (.ld 39 1 false (.t 38)),
 un (.call 40 Ix [((.t 39), false)]),
 un (.bsl 41 1 [(.t 40)]),
 un (.asg 7 (.t 41))])
 (.drop [38, 39, 40, 41] (.seq (.reg [un (.mkm 42),
 un (.mov 43 (.t 7)),
 un (.iad 44 1 (.t 43) (.c (.int .i64 0))),
 un (.ld 45 1 false (.t 44)),
 un (.call 46 P3 [((.t 45), false)]),
 un (.mup (.t 42) (.t 46) (.c (.bool true))),
 un (.asg 47 (.t 42)),
 un (.asg 8 (.t 47))])
 (.drop [42, 43, 44, 45, 46, 47] (.seq (.seq (.reg [un (.asg 9 (.c (.int .i64 0)))])
 (.block 4 (.loop K1)))
 (.drop [9, 48, 49, 50, 51, 54, 55, 56, 57, 58, 59, 11, 60, 61, 62, 63, 64, 65, 12, 66, 67, 13, 68, 69, 70, 71, 72, 73, 74, 75, 76, 77, 78, 79, 80, 81, 52, 53] (.seq (.reg [un (.mov 82 (.t 7)),
 un (.call 83 Xk [((.t 82), true), ((.c (.clo Ei [])), false)])])
 (.drop [82, 83] (.seq (.reg [un (.mov 84 (.t 7)),
 un (.asg 2 (.t 84)),
 un (.asg 3 (.c (.bool true)))])
 (.drop [84] .ret)))))))))))))))
abbrev Xx : List RS := [.t 2, .t 3]
theorem X4 : A2 Tryz.prog Iu 85 X3 Xx = true := by kernel_rfl
def Qz : ACode :=
 (.seq (.reg [un (.mov 13 (.t 6)),
 un (.bin 14 .gtr (.t 13) (.c (.int .i64 0))),
 un (.asg 15 (.t 14)),
 ⟨some (15, true), .mov 16 (.t 5)⟩,
 ⟨some (15, true), .len 17 (.t 16)⟩,
 ⟨some (15, true), .bin 18 .gtr (.t 17) (.c (.int .i64 1))⟩,
 un (.pick 19 (.t 15) (.t 18) (.c (.bool false)))])
 (.drop [13, 14, 15, 16, 17, 18] (.cond (.t 19) .skip
 (.exit 0))))
def Jo : ACode :=
 (.seq (.cut Qz)
 (.drop [13, 14, 15, 16, 17, 18, 19] (.seq (.block 1 (.reg [un (.mov 22 (.t 5)),
 un (.mov 23 (.t 0)),
 un (.mov 24 (.t 5)),
 un (.len 25 (.t 24)),
 un (.call 26 Aw [((.t 23), true), ((.t 25), false)]),
 un (.mov 27 (.t 0)),
 un (.mov 28 (.t 5)),
 un (.len 29 (.t 28)),
 un (.call 30 Aw [((.t 27), true), ((.t 29), false)]),
 un (.call 31 Gf [((.t 22), false), ((.t 26), false), ((.t 30), false)]),
 un (.asg 5 (.t 31))]))
 (.drop [22, 23, 24, 25, 26, 27, 28, 29, 30, 31] (.reg [un (.mov 20 (.t 6)),
 un (.bin 21 .sub (.t 20) (.c (.int .i64 1))),
 un (.asg 6 (.t 21))])))))
def Wa : ACode :=
 (.seq (.reg [un (.asg 4 (.c (.nilsl 1)))])
 (.seq (.reg [un (.mov 7 (.t 1)),
 un (.call 8 N2 [((.t 7), false), ((.c (.int .i64 0)), false)]),
 un (.call 9 Mj [((.t 8), false), ((.c (.int .i64 9)), false)]),
 un (.call 10 C8 [((.t 9), false)]),
 un (.asg 5 (.t 10))])
 (.drop [7, 8, 9, 10] (.seq (.seq (.reg [un (.mov 11 (.t 0)),
 un (.call 12 Aw [((.t 11), true), ((.c (.int .i64 4)), false)]),
 un (.asg 6 (.t 12))])
 (.drop [11, 12] (.block 0 (.loop Jo))))
 (.drop [11, 12, 6, 13, 14, 15, 16, 17, 18, 19, 22, 23, 24, 25, 26, 27, 28, 29, 30, 31, 20, 21] (.seq (.seq (.reg [un (.mov 32 (.t 0)),
 un (.call 33 Aw [((.t 32), true), ((.c (.int .i64 24)), false)])])
 (.drop [32] (.block 2 (.seq (.reg [un (.bin 35 .eql (.t 33) (.c (.int .i64 0))),
 un (.asg 34 (.t 35))])
 (.drop [35] (.cond (.t 34) (.reg [un (.mov 36 (.t 5)),
 un (.bsl 37 1 [(.c (.int .i64 0))]),
 un (.app 38 1 (.t 36) (.t 37)),
 un (.asg 5 (.t 38))])
 (.seq (.reg [un (.bin 40 .eql (.t 33) (.c (.int .i64 1))),
 un (.asg 39 (.t 40))])
 (.drop [40] (.cond (.t 39) (.seq (.reg [un (.mov 41 (.t 5)),
 un (.len 42 (.t 41)),
 un (.bin 43 .gtr (.t 42) (.c (.int .i64 0)))])
 (.drop [41, 42] (.cond (.t 43) (.reg [un (.mov 44 (.t 5)),
 un (.mov 45 (.t 0)),
 un (.mov 46 (.t 5)),
 un (.len 47 (.t 46)),
 un (.call 48 Aw [((.t 45), true), ((.t 47), false)]),
 un (.mov 49 (.t 0)),
 un (.mov 50 (.t 5)),
 un (.len 51 (.t 50)),
 un (.mov 52 (.t 5)),
 un (.len 53 (.t 52)),
 un (.bin 54 .sub (.t 53) (.c (.int .i64 1))),
 un (.bsl 55 1 [(.c (.int .i64 (-1))), (.t 51), (.t 54), (.c (.int .i64 0))]),
 un (.call 56 Bg [((.t 49), true), ((.t 55), false)]),
 un (.iad 57 1 (.t 44) (.t 48)),
 un (.st 1 (.t 57) (.t 56))])
 .skip)))
 .skip)))))))))
 (.drop [32, 33, 35, 34, 36, 37, 38, 40, 39, 41, 42, 43, 44, 45, 46, 47, 48, 49, 50, 51, 52, 53, 54, 55, 56, 57] (.seq (.reg [un (.mov 58 (.t 5)),
 un (.asg 4 (.t 58))])
 (.drop [58] .ret)))))))))
abbrev V4 : List RS := [.t 4]
theorem We : A2 Tryz.prog Hx 59 Wa V4 = true := by kernel_rfl
def Hm : ACode :=
 (.seq (.seq (.reg [un (.mov 22 (.t 7)),
 un (.bin 23 .gtr (.t 22) (.c (.int .i64 0)))])
 (.drop [22] (.cond (.t 23) .skip
 (.exit 0))))
 (.drop [22, 23] (.seq (.block 1 (.dregl [(0, .mov 26 (.t 6)),
 (1, .mov 27 (.t 4)),
 (2, .ld 28 2 true (.t 5)),
 (4, .mov 30 (.t 4)),
 (5, .ld 31 2 true (.t 5))]
 (.alt 3 (.call 29 Gy [((.t 27), true), ((.t 28), false)]) [0, 1, 2, 4, 5] [] (.alt 6 (.call 32 Gy [((.t 30), true), ((.t 31), false)]) [0, 4, 5] [] (.alt 7 (.bld 33 [.int .i64 0, .int .i64 0] [(0, 1, (.t 29)), (1, 1, (.t 32))]) [0] [] (.alt 8 (.bsl 34 2 [(.t 33)]) [0] [] (.alt 9 (.app 35 2 (.t 26) (.t 34)) [0] [26] (.alt 10 (.asg 6 (.t 35)) [] [] .nil .nil) .nil) .nil) .nil) .nil) .nil)))
 (.drop [26, 27, 28, 29, 30, 31, 32, 33, 34, 35] (.reg [un (.mov 24 (.t 7)),
 un (.bin 25 .sub (.t 24) (.c (.int .i64 1))),
 un (.asg 7 (.t 25))])))))
def Pl : ACode :=
 (.seq (.reg [un (.alc 2 (.agg [.int .i64 0, .nilsl 2])),
 un (.asg 3 (.c (.nilsl 2)))])
 (.seq (.reg [un (.mov 8 (.t 0)),
 un (.bld 9 [.nilsl 1, .int .i64 0, .int .u64 0] [(0, 1, (.t 8))]),
 un (.box 10 (.t 9)),
 un (.asg 4 (.t 10))])
 (.drop [8, 9, 10] (.seq (.reg [un (.mov 11 (.t 4)),
 un (.call 12 Gx [((.t 11), true)]),
 un (.alc 5 (.agg [.int .i64 0, .nilsl 2])),
 un (.st 2 (.t 5) (.t 12))])
 (.drop [11, 12] (.seq (.reg [un (.bsl 13 2 []),
 un (.asg 6 (.t 13))])
 (.drop [13] (.seq (.seq (.reg [un (.mov 14 (.t 4)),
 un (.bsl 15 1 [(.c (.int .i64 0)), (.c (.int .i64 1)), (.c (.int .i64 1)), (.c (.int .i64 2)), (.c (.int .i64 3)), (.c (.int .i64 20)), (.c (.int .i64 21))]),
 un (.mov 16 (.t 4)),
 un (.call 17 Aw [((.t 16), true), ((.c (.int .i64 24)), false)]),
 un (.bin 18 .quo (.t 17) (.c (.int .i64 11))),
 un (.bin 19 .add (.c (.int .i64 5)) (.t 18)),
 un (.slc 20 1 (.t 15) none (some (.t 19))),
 un (.call 21 Bg [((.t 14), true), ((.t 20), false)]),
 un (.asg 7 (.t 21))])
 (.drop [14, 15, 16, 17, 18, 19, 20, 21] (.frz [100005] (.block 0 (.loop Hm)))))
 (.drop [14, 15, 16, 17, 18, 19, 20, 21, 7, 22, 23, 26, 27, 28, 29, 30, 31, 32, 33, 34, 35, 24, 25] (.seq (.reg [un (.ld 36 2 true (.t 5)),
 un (.mov 37 (.t 6)),
 un (.st 2 (.t 2) (.t 36)),
 un (.asg 3 (.t 37))])
 (.drop [36, 37] .ret)))))))))))
abbrev Po : List RS := [.c 2 2 true, .t 3]
theorem Pr : A2 Tryz.prog Fk 38 Pl Po = true := by kernel_rfl
def Qe : ACode :=
 (.seq (.reg [un (.ld 8 2 true (.t 2)),
 un (.call 9 K0 [((.t 8), false)]),
 un (.un 10 .not (.t 9)),
 un (.asg 11 (.t 10)),
 ⟨some (11, false), .mov 12 (.t 1)⟩,
 ⟨some (11, false), .len 13 (.t 12)⟩,
 ⟨some (11, false), .bin 14 .gtr (.t 13) (.c (.int .i64 20))⟩,
 un (.pick 15 (.t 11) (.c (.bool true)) (.t 14))])
 (.drop [8, 9, 10, 11, 12, 13, 14] (.cond (.t 15) (.seq (.reg [un (.bsl 16 1 []),
 un (.asg 4 (.t 16)),
 un (.asg 5 (.c (.bool false)))])
 (.drop [16] .ret))
 .skip)))
def Qb : ACode :=
 (.seq (.dreg [(un (.mov 26 (.t 1)), []),
 (un (.mov 27 (.t 7)), [26]),
 (un (.iad 28 2 (.t 26) (.t 27)), []),
 (un (.aad 29 1 2 (.t 28) (.c (.int .i64 0))), []),
 (un (.ld 30 1 false (.t 29)), []),
 (un (.fadr 31 0 (.t 2)), [26, 27, 28, 29, 30]),
 (un (.ld 32 1 false (.t 31)), [26, 27, 28, 29, 30]),
 (un (.bin 33 .sub (.t 32) (.c (.int .i64 1))), [26, 27, 28, 29, 30]),
 (un (.call 34 H6 [((.t 30), false), ((.c (.int .i64 0)), false), ((.t 33), false)]), []),
 (un (.un 35 .not (.t 34)), []),
 (un (.asg 36 (.t 35)), []),
 (⟨some (36, false), .mov 37 (.t 1)⟩, [35]),
 (⟨some (36, false), .mov 38 (.t 7)⟩, [37, 35]),
 (⟨some (36, false), .iad 39 2 (.t 37) (.t 38)⟩, [35]),
 (⟨some (36, false), .aad 40 1 2 (.t 39) (.c (.int .i64 1))⟩, [35]),
 (⟨some (36, false), .ld 41 1 false (.t 40)⟩, [35]),
 (⟨some (36, false), .fadr 42 0 (.t 2)⟩, [37, 38, 39, 40, 41, 35]),
 (⟨some (36, false), .ld 43 1 false (.t 42)⟩, [37, 38, 39, 40, 41, 35]),
 (⟨some (36, false), .bin 44 .sub (.t 43) (.c (.int .i64 1))⟩, [37, 38, 39, 40, 41, 35])]
 [⟨some (36, false), .call 45 H6 [((.t 41), false), ((.c (.int .i64 0)), false), ((.t 44), false)]⟩,
 ⟨some (36, false), .un 46 .not (.t 45)⟩,
 un (.pick 47 (.t 36) (.c (.bool true)) (.t 46))])
 (.drop [26, 27, 28, 29, 30, 31, 32, 33, 34, 35, 36, 37, 38, 39, 40, 41, 42, 43, 44, 45, 46] (.cond (.t 47) (.seq (.reg [un (.bsl 48 1 []),
 un (.asg 4 (.t 48)),
 un (.asg 5 (.c (.bool false)))])
 (.drop [48] .ret))
 .skip)))
def I0 : ACode :=
 (.seq (.seq (.reg [un (.mov 20 (.t 7)),
 un (.mov 21 (.t 1)),
 un (.len 22 (.t 21)),
 un (.bin 23 .lss (.t 20) (.t 22))])
 (.drop [20, 21, 22] (.cond (.t 23) .skip
 (.exit 0))))
 (.drop [20, 21, 22, 23] (.seq (.block 1 (.seq (.cut Qb)
 (.drop [26, 27, 28, 29, 30, 31, 32, 33, 34, 35, 36, 37, 38, 39, 40, 41, 42, 43, 44, 45, 46, 47, 48] (.dreg [(un (.mov 49 (.t 6)), []),
 (un (.mov 50 (.t 1)), [49]),
 (un (.mov 51 (.t 7)), [49, 50]),
 (un (.iad 52 2 (.t 50) (.t 51)), [49]),
 (un (.aad 53 1 2 (.t 52) (.c (.int .i64 0))), [49]),
 (un (.ld 54 1 false (.t 53)), [49]),
 (un (.mov 55 (.t 1)), [49, 50, 51, 52, 53, 54]),
 (un (.mov 56 (.t 7)), [49, 50, 51, 52, 53, 54, 55]),
 (un (.iad 57 2 (.t 55) (.t 56)), [49, 50, 51, 52, 53, 54]),
 (un (.aad 58 1 2 (.t 57) (.c (.int .i64 1))), [49, 50, 51, 52, 53, 54]),
 (un (.ld 59 1 false (.t 58)), [49, 50, 51, 52, 53, 54])]
 [un (.call 60 Gf [((.t 49), false), ((.t 54), false), ((.t 59), false)]),
 un (.asg 6 (.t 60))]))))
 (.drop [26, 27, 28, 29, 30, 31, 32, 33, 34, 35, 36, 37, 38, 39, 40, 41, 42, 43, 44, 45, 46, 47, 48, 49, 50, 51, 52, 53, 54, 55, 56, 57, 58, 59, 60] (.reg [un (.mov 24 (.t 7)),
 un (.bin 25 .add (.t 24) (.c (.int .i64 1))),
 un (.asg 7 (.t 25))])))))
def Tq : ACode :=
 (.seq (.reg [un (.box 2 (.t 0)),
 un (.asg 4 (.c (.nilsl 1))),
 un (.asg 5 (.c (.bool false)))])
 (.seq (.cut Qe)
 (.drop [8, 9, 10, 11, 12, 13, 14, 15, 16] (.seq (.reg [un (.fadr 17 0 (.t 2)),
 un (.ld 18 1 false (.t 17)),
 un (.call 19 C8 [((.t 18), false)]),
 un (.asg 6 (.t 19))])
 (.drop [17, 18, 19] (.seq (.seq (.reg [un (.asg 7 (.c (.int .i64 0)))])
 (.block 0 (.loop I0)))
 (.drop [7, 20, 21, 22, 23, 26, 27, 28, 29, 30, 31, 32, 33, 34, 35, 36, 37, 38, 39, 40, 41, 42, 43, 44, 45, 46, 47, 48, 49, 50, 51, 52, 53, 54, 55, 56, 57, 58, 59, 60, 24, 25] (.seq (.frz [6] (.reg [un (.ld 61 2 true (.t 2)),
 un (.mov 62 (.t 6)),
 un (.call 63 L2 [((.t 61), false), ((.t 62), false)]),
 un (.asg 4 (.t 63)),
 un (.asg 5 (.c (.bool true)))]))
 (.drop [61, 62, 63] .ret)))))))))
abbrev Tx : List RS := [.t 4, .t 5]
theorem Tn : A2 Tryz.prog Hg 64 Tq Tx = true := by kernel_rfl
def Va : ACode :=
 (.seq (.reg [un (.box 3 (.t 0)),
 un (.asg 6 (.c (.nilsl 1))),
 un (.asg 7 (.c (.bool false)))])
 (.seq (.seq (.reg [un (.ld 8 2 true (.t 3)),
 un (.mov 9 (.t 1)),
 un (.mov 10 (.t 2)),
 un (.call 11 Uh [((.t 8), false), ((.t 9), false), ((.t 10), false)]),
 un (.un 12 .not (.t 11))])
 (.drop [8, 9, 10, 11] (.cond (.t 12) (.seq (.reg [un (.bsl 13 1 []),
 un (.asg 6 (.t 13)),
 un (.asg 7 (.c (.bool false)))])
 (.drop [13] .ret))
 .skip)))
 (.drop [8, 9, 10, 11, 12, 13] (.seq (.reg [un (.ld 14 2 true (.t 3)),
 un (.mov 15 (.t 1)),
 un (.mov 16 (.t 2)),
 un (.bld 17 [.int .i64 0, .int .i64 0] [(0, 1, (.t 15)), (1, 1, (.t 16))]),
 un (.bsl 18 2 [(.t 17)]),
 un (.call 19 Fu [((.t 14), false), ((.t 18), false)]),
 un (.asg 6 (.t 19)),
 un (.asg 7 (.c (.bool true)))])
 (.drop [14, 15, 16, 17, 18, 19] .ret)))))
abbrev U7 : List RS := [.t 6, .t 7]
theorem Vi : A2 Tryz.prog H3 20 Va U7 = true := by kernel_rfl
def Abf : ACode :=
 (.seq (.reg [un (.box 1 (.t 0)),
 un (.asg 2 (.c (.nilsl 1))),
 un (.asg 3 (.c (.bool false)))])
 (.seq (.seq (.reg [un (.ld 4 2 true (.t 1)),
 un (.call 5 Ho [((.t 4), false)]),
 un (.un 6 .not (.t 5))])
 (.drop [4, 5] (.cond (.t 6) (.seq (.reg [un (.asg 2 (.c (.nilsl 1))),
 un (.asg 3 (.c (.bool false)))])
 .ret)
 .skip)))
 (.drop [4, 5, 6] (.seq (.reg [un (.ld 7 2 true (.t 1)),
 un (.call 8 Iu [((.t 7), false)]),
 un (.ext 9 (.t 8) 0),
 un (.ext 10 (.t 8) 1),
 un (.asg 2 (.t 9)),
 un (.asg 3 (.t 10))])
 (.drop [7, 8, 9, 10] .ret)))))
abbrev Abm : List RS := [.t 2, .t 3]
theorem Ab6 : A2 Tryz.prog Ge 11 Abf Abm = true := by kernel_rfl
def Abu : ACode :=
 (.seq (.reg [un (.box 3 (.t 0)),
 un (.asg 6 (.c (.nilsl 1)))])
 (.seq (.dreg [(un (.ld 7 2 true (.t 3)), []),
 (un (.fadr 8 0 (.t 3)), [7]),
 (un (.ld 9 1 false (.t 8)), [7]),
 (un (.call 10 C8 [((.t 9), false)]), [7]),
 (un (.mov 11 (.t 1)), [7, 8, 9, 10]),
 (un (.mov 12 (.t 2)), [7, 8, 9, 10, 11]),
 (un (.call 13 Gf [((.t 10), false), ((.t 11), false), ((.t 12), false)]), [7])]
 [un (.call 14 L2 [((.t 7), false), ((.t 13), false)]),
 un (.asg 6 (.t 14))])
 (.drop [7, 8, 9, 10, 11, 12, 13, 14] .ret)))
abbrev Abj : List RS := [.t 6]
theorem Abk : A2 Tryz.prog Lb 15 Abu Abj = true := by kernel_rfl
def R9 : ACode :=
 (.seq (.reg [un (.box 1 (.t 0)),
 un (.asg 2 (.c (.nilsl 1))),
 un (.asg 3 (.c (.bool false)))])
 (.seq (.reg [un (.ld 7 2 true (.t 1)),
 un (.call 8 Ge [((.t 7), false)]),
 un (.asg 6 (.t 8)),
 un (.ext 9 (.t 6) 0),
 un (.ext 10 (.t 6) 1),
 un (.asg 4 (.t 9)),
 un (.asg 5 (.t 10))])
 (.drop [7, 8, 6, 9, 10] (.seq (.seq (.reg [un (.mov 11 (.t 5)),
 un (.un 12 .not (.t 11))])
 (.drop [11] (.cond (.t 12) (.seq (.reg [un (.bsl 13 1 []),
 un (.asg 2 (.t 13)),
 un (.asg 3 (.c (.bool false)))])
 (.drop [13] .ret))
 .skip)))
 (.drop [11, 12, 13] (.seq (.frz [4] (.reg [un (.mov 14 (.t 4)),
 un (.slc 15 1 (.t 14) (some (.c (.int .i64 1))) none),
 un (.call 16 Il [((.t 15), false), ((.c (.clo Dz [])), false)]),
 un (.asg 2 (.t 16)),
 un (.asg 3 (.c (.bool true)))]))
 (.drop [14, 15, 16] .ret)))))))
abbrev R3 : List RS := [.t 2, .t 3]
theorem Sf : A2 Tryz.prog Gn 17 R9 R3 = true := by kernel_rfl
def Rq : ACode :=
 (.seq (.reg [un (.box 2 (.t 0)),
 un (.asg 4 (.c (.nilsl 1))),
 un (.asg 5 (.c (.bool false)))])
 (.seq (.reg [un (.ld 9 2 true (.t 2)),
 un (.call 10 Ge [((.t 9), false)]),
 un (.asg 8 (.t 10)),
 un (.ext 11 (.t 8) 0),
 un (.ext 12 (.t 8) 1),
 un (.asg 6 (.t 11)),
 un (.asg 7 (.t 12))])
 (.drop [9, 10, 8, 11, 12] (.seq (.seq (.reg [un (.mov 13 (.t 7)),
 un (.un 14 .not (.t 13)),
 un (.asg 15 (.t 14)),
 ⟨some (15, false), .ld 16 2 true (.t 2)⟩,
 ⟨some (15, false), .mov 17 (.t 1)⟩,
 ⟨some (15, false), .call 18 J6 [((.t 16), false), ((.t 17), false)]⟩,
 ⟨some (15, false), .un 19 .not (.t 18)⟩,
 un (.pick 20 (.t 15) (.c (.bool true)) (.t 19))])
 (.drop [13, 14, 15, 16, 17, 18, 19] (.cond (.t 20) (.seq (.reg [un (.bsl 21 1 []),
 un (.asg 4 (.t 21)),
 un (.asg 5 (.c (.bool false)))])
 (.drop [21] .ret))
 .skip)))
 (.drop [13, 14, 15, 16, 17, 18, 19, 20, 21] (.seq (.reg [un (.mov 22 (.t 6)),
 un (.mov 23 (.t 1)),
 un (.call 24 Ps [((.t 22), false), ((.t 23), false)]),
 un (.asg 4 (.t 24)),
 un (.asg 5 (.c (.bool true)))])
 (.drop [22, 23, 24] .ret)))))))
abbrev Rj : List RS := [.t 4, .t 5]
theorem Rw : A2 Tryz.prog D6 25 Rq Rj = true := by kernel_rfl
def Sg : ACode :=
 (.seq (.reg [un (.box 1 (.t 0)),
 un (.asg 2 (.c (.nilsl 1))),
 un (.asg 3 (.c (.bool false)))])
 (.seq (.reg [un (.ld 7 2 true (.t 1)),
 un (.call 8 Ge [((.t 7), false)]),
 un (.asg 6 (.t 8)),
 un (.ext 9 (.t 6) 0),
 un (.ext 10 (.t 6) 1),
 un (.asg 4 (.t 9)),
 un (.asg 5 (.t 10))])
 (.drop [7, 8, 6, 9, 10] (.seq (.seq (.reg [un (.mov 11 (.t 5)),
 un (.un 12 .not (.t 11))])
 (.drop [11] (.cond (.t 12) (.seq (.reg [un (.bsl 13 1 []),
 un (.asg 2 (.t 13)),
 un (.asg 3 (.c (.bool false)))])
 (.drop [13] .ret))
 .skip)))
 (.drop [11, 12, 13] (.seq (.reg [un (.mov 14 (.t 4)),
 un (.call 15 My [((.t 14), false)]),
 un (.asg 2 (.t 15)),
 un (.asg 3 (.c (.bool true)))])
 (.drop [14, 15] .ret)))))))
abbrev R8 : List RS := [.t 2, .t 3]
theorem Sa : A2 Tryz.prog Gm 16 Sg R8 = true := by kernel_rfl
def Vn : ACode :=
 (.seq (.seq (.reg [un (.mov 21 (.t 7)),
 un (.mov 22 (.t 6)),
 un (.bin 23 .lss (.t 21) (.t 22))])
 (.drop [21, 22] (.cond (.t 23) .skip
 (.exit 2))))
 (.drop [21, 22, 23] (.seq (.block 3 (.reg [un (.mov 26 (.t 5)),
 un (.ld 27 2 true (.t 2)),
 un (.mov 28 (.t 6)),
 un (.mov 29 (.t 7)),
 un (.call 30 Lb [((.t 27), false), ((.t 28), false), ((.t 29), false)]),
 un (.call 31 Qa [((.t 26), false), ((.t 30), false)]),
 un (.asg 5 (.t 31))]))
 (.drop [26, 27, 28, 29, 30, 31] (.reg [un (.mov 24 (.t 7)),
 un (.bin 25 .add (.t 24) (.c (.int .i64 1))),
 un (.asg 7 (.t 25))])))))
def Uu : ACode :=
 (.seq (.seq (.reg [un (.mov 15 (.t 6)),
 un (.fadr 16 0 (.t 2)),
 un (.ld 17 1 false (.t 16)),
 un (.bin 18 .lss (.t 15) (.t 17))])
 (.drop [15, 16, 17] (.cond (.t 18) .skip
 (.exit 0))))
 (.drop [15, 16, 17, 18] (.seq (.block 1 (.seq (.reg [un (.asg 7 (.c (.int .i64 0)))])
 (.block 2 (.loop Vn))))
 (.drop [7, 21, 22, 23, 26, 27, 28, 29, 30, 31, 24, 25] (.reg [un (.mov 19 (.t 6)),
 un (.bin 20 .add (.t 19) (.c (.int .i64 1))),
 un (.asg 6 (.t 20))])))))
def Agb : ACode :=
 (.seq (.reg [un (.mov 40 (.t 10)),
 un (.mov 41 (.t 9)),
 un (.len 42 (.t 41)),
 un (.bin 43 .lss (.t 40) (.t 42)),
 un (.asg 44 (.t 43)),
 ⟨some (44, true), .mov 45 (.t 8)⟩,
 ⟨some (44, true), .len 46 (.t 45)⟩,
 ⟨some (44, true), .mov 47 (.t 1)⟩,
 ⟨some (44, true), .bin 48 .leq (.t 46) (.t 47)⟩,
 un (.pick 49 (.t 44) (.t 48) (.c (.bool false)))])
 (.drop [40, 41, 42, 43, 44, 45, 46, 47, 48] (.cond (.t 49) .skip
 (.exit 4))))
def Afz : ACode :=
 (.seq (.reg [un (.mov 52 (.t 11)),
 un (.mov 53 (.t 5)),
 un (.len 54 (.t 53)),
 un (.bin 55 .lss (.t 52) (.t 54)),
 un (.asg 56 (.t 55)),
 ⟨some (56, true), .mov 57 (.t 8)⟩,
 ⟨some (56, true), .len 58 (.t 57)⟩,
 ⟨some (56, true), .mov 59 (.t 1)⟩,
 ⟨some (56, true), .bin 60 .leq (.t 58) (.t 59)⟩,
 un (.pick 61 (.t 56) (.t 60) (.c (.bool false)))])
 (.drop [52, 53, 54, 55, 56, 57, 58, 59, 60] (.cond (.t 61) .skip
 (.exit 6))))
def U3 : ACode :=
 (.seq (.cut Afz)
 (.drop [52, 53, 54, 55, 56, 57, 58, 59, 60, 61] (.seq (.block 7 (.seq (.dreg [(un (.mov 64 (.t 9)), []),
 (un (.mov 65 (.t 10)), [64]),
 (un (.iad 66 1 (.t 64) (.t 65)), []),
 (un (.ld 67 1 false (.t 66)), []),
 (un (.mov 68 (.t 5)), [64, 65, 66, 67]),
 (un (.mov 69 (.t 11)), [64, 65, 66, 67, 68]),
 (un (.iad 70 1 (.t 68) (.t 69)), [64, 65, 66, 67]),
 (un (.ld 71 1 false (.t 70)), [64, 65, 66, 67])]
 [un (.call 72 Tr [((.t 67), false), ((.t 71), false)]),
 un (.asg 12 (.t 72))])
 (.drop [64, 65, 66, 67, 68, 69, 70, 71, 72] (.seq (.frz [12] (.reg [un (.mov 73 (.t 8)),
 un (.mov 74 (.t 12)),
 un (.call 75 Qa [((.t 73), false), ((.t 74), false)]),
 un (.asg 13 (.t 75))]))
 (.drop [73, 74, 75] (.seq (.reg [un (.mov 76 (.t 13)),
 un (.len 77 (.t 76)),
 un (.mov 78 (.t 8)),
 un (.len 79 (.t 78)),
 un (.bin 80 .gtr (.t 77) (.t 79))])
 (.drop [76, 77, 78, 79] (.cond (.t 80) (.seq (.reg [un (.mov 81 (.t 13)),
 un (.asg 8 (.t 81))])
 (.drop [81] (.reg [un (.mov 82 (.t 9)),
 un (.mov 83 (.t 12)),
 un (.bsl 84 1 [(.t 83)]),
 un (.app 85 1 (.t 82) (.t 84)),
 un (.asg 9 (.t 85))])))
 .skip))))))))
 (.drop [64, 65, 66, 67, 68, 69, 70, 71, 72, 12, 73, 74, 75, 13, 76, 77, 78, 79, 80, 81, 82, 83, 84, 85] (.reg [un (.mov 62 (.t 11)),
 un (.bin 63 .add (.t 62) (.c (.int .i64 1))),
 un (.asg 11 (.t 63))])))))
def U1 : ACode :=
 (.seq (.cut Agb)
 (.drop [40, 41, 42, 43, 44, 45, 46, 47, 48, 49] (.seq (.block 5 (.seq (.reg [un (.asg 11 (.c (.int .i64 0)))])
 (.block 6 (.loop U3))))
 (.drop [11, 52, 53, 54, 55, 56, 57, 58, 59, 60, 61, 64, 65, 66, 67, 68, 69, 70, 71, 72, 12, 73, 74, 75, 13, 76, 77, 78, 79, 80, 81, 82, 83, 84, 85, 62, 63] (.reg [un (.mov 50 (.t 10)),
 un (.bin 51 .add (.t 50) (.c (.int .i64 1))),
 un (.asg 10 (.t 51))])))))
def Al8 : ACode :=
 (.seq (.reg [un (.box 2 (.t 0)),
 un (.asg 4 (.c (.nilsl 1)))])
 (.seq (.reg [un (.bsl 14 1 []),
 un (.asg 5 (.t 14))])
 (.drop [14] (.seq (.seq (.reg [un (.asg 6 (.c (.int .i64 0)))])
 (.frz [5] (.block 0 (.loop Uu))))
 (.drop [6, 15, 16, 17, 18, 7, 21, 22, 23, 26, 27, 28, 29, 30, 31, 24, 25, 19, 20] (.seq (.reg [un (.fadr 32 0 (.t 2)),
 un (.ld 33 1 false (.t 32)),
 un (.call 34 C8 [((.t 33), false)]),
 un (.bsl 35 1 [(.t 34)]),
 un (.asg 8 (.t 35))])
 (.drop [32, 33, 34, 35] (.seq (.reg [un (.fadr 36 0 (.t 2)),
 un (.ld 37 1 false (.t 36)),
 un (.call 38 C8 [((.t 37), false)]),
 un (.bsl 39 1 [(.t 38)]),
 un (.asg 9 (.t 39))])
 (.drop [36, 37, 38, 39] (.seq (.seq (.reg [un (.asg 10 (.c (.int .i64 0)))])
 (.frz [8, 100009] (.block 4 (.loop U1))))
 (.drop [10, 40, 41, 42, 43, 44, 45, 46, 47, 48, 49, 11, 52, 53, 54, 55, 56, 57, 58, 59, 60, 61, 64, 65, 66, 67, 68, 69, 70, 71, 72, 12, 73, 74, 75, 13, 76, 77, 78, 79, 80, 81, 82, 83, 84, 85, 62, 63, 50, 51] (.seq (.reg [un (.mov 86 (.t 8)),
 un (.asg 4 (.t 86))])
 (.drop [86] .ret)))))))))))))
abbrev Akz : List RS := [.t 4]
theorem Al2 : A2 Tryz.prog Ke 87 Al8 Akz = true := by kernel_rfl
def Aok : ACode :=
 (.seq (.reg [un (.box 1 (.t 0)),
 un (.asg 2 (.c (.bool false)))])
 (.seq (.reg [un (.ld 3 2 true (.t 1)),
 un (.call 4 K0 [((.t 3), false)]),
 un (.asg 5 (.t 4)),
 ⟨some (5, true), .ld 6 2 true (.t 1)⟩,
 ⟨some (5, true), .call 7 Ke [((.t 6), false), ((.c (.int .i64 200)), false)]⟩,
 ⟨some (5, true), .len 8 (.t 7)⟩,
 ⟨some (5, true), .bin 9 .leq (.t 8) (.c (.int .i64 200))⟩,
 un (.pick 10 (.t 5) (.t 9) (.c (.bool false))),
 un (.asg 2 (.t 10))])
 (.drop [3, 4, 5, 6, 7, 8, 9, 10] .ret)))
abbrev Apq : List RS := [.t 2]
theorem An8 : A2 Tryz.prog L8 11 Aok Apq = true := by kernel_rfl
def Aod : ACode :=
 (.seq (.reg [un (.box 1 (.t 0)),
 un (.asg 2 (.c (.nilsl 1)))])
 (.seq (.reg [un (.ld 3 2 true (.t 1)),
 un (.call 4 Ke [((.t 3), false), ((.c (.int .i64 5000)), false)]),
 un (.asg 2 (.t 4))])
 (.drop [3, 4] .ret)))
abbrev Ao3 : List RS := [.t 2]
theorem Ao9 : A2 Tryz.prog L7 5 Aod Ao3 = true := by kernel_rfl
def Qj : ACode :=
 (.seq (.reg [un (.ld 6 2 true (.t 3)),
 un (.call 7 K0 [((.t 6), false)]),
 un (.un 8 .not (.t 7)),
 un (.asg 9 (.t 8)),
 ⟨some (9, false), .mov 10 (.t 0)⟩,
 ⟨some (9, false), .call 11 Hp [((.t 10), true), ((.c (.int .i64 5)), false)]⟩,
 un (.pick 12 (.t 9) (.c (.bool true)) (.t 11))])
 (.drop [6, 7, 8, 9, 10, 11] (.cond (.t 12) (.seq (.reg [un (.mov 13 (.t 0)),
 un (.fadr 14 0 (.t 3)),
 un (.ld 15 1 false (.t 14)),
 un (.call 16 Hx [((.t 13), true), ((.t 15), false)]),
 un (.asg 4 (.t 16))])
 (.drop [13, 14, 15, 16] .ret))
 .skip)))
def Tm : ACode :=
 (.seq (.reg [un (.box 3 (.t 1)),
 un (.asg 4 (.c (.nilsl 1)))])
 (.seq (.cut Qj)
 (.drop [6, 7, 8, 9, 10, 11, 12, 13, 14, 15, 16] (.seq (.reg [un (.ld 17 2 true (.t 3)),
 un (.call 18 Ke [((.t 17), false), ((.c (.int .i64 200)), false)]),
 un (.asg 5 (.t 18))])
 (.drop [17, 18] (.seq (.reg [un (.mov 19 (.t 5)),
 un (.mov 20 (.t 0)),
 un (.mov 21 (.t 5)),
 un (.len 22 (.t 21)),
 un (.call 23 Aw [((.t 20), true), ((.t 22), false)]),
 un (.iad 24 1 (.t 19) (.t 23)),
 un (.ld 25 1 false (.t 24)),
 un (.call 26 J0 [((.t 25), false)]),
 un (.asg 4 (.t 26))])
 (.drop [19, 20, 21, 22, 23, 24, 25, 26] .ret)))))))
abbrev T9 : List RS := [.t 4]
theorem Uf : A2 Tryz.prog Hc 27 Tm T9 = true := by kernel_rfl
def Sk : ACode :=
 (.seq (.reg [un (.box 1 (.t 0)),
 un (.asg 2 (.c (.nilsl 1))),
 un (.asg 3 (.c (.bool false)))])
 (.seq (.seq (.reg [un (.ld 4 2 true (.t 1)),
 un (.call 5 L8 [((.t 4), false)]),
 un (.un 6 .not (.t 5))])
 (.drop [4, 5] (.cond (.t 6) (.seq (.reg [un (.bsl 7 1 []),
 un (.asg 2 (.t 7)),
 un (.asg 3 (.c (.bool false)))])
 (.drop [7] .ret))
 .skip)))
 (.drop [4, 5, 6, 7] (.seq (.dreg [(un (.ld 8 2 true (.t 1)), []),
 (un (.call 9 L7 [((.t 8), false)]), []),
 (un (.fadr 10 0 (.t 1)), [8, 9]),
 (un (.ld 11 1 false (.t 10)), [8, 9])]
 [un (.call 12 C8 [((.t 11), false)]),
 un (.call 13 Im [((.t 9), false), ((.t 12), false)]),
 un (.asg 2 (.t 13)),
 un (.asg 3 (.c (.bool true)))])
 (.drop [8, 9, 10, 11, 12, 13] .ret)))))
abbrev R6 : List RS := [.t 2, .t 3]
theorem R7 : A2 Tryz.prog Gp 14 Sk R6 = true := by kernel_rfl
def Q0 : ACode :=
 (.seq (.reg [un (.box 2 (.t 0)),
 un (.asg 4 (.c (.nilsl 1))),
 un (.asg 5 (.c (.bool false)))])
 (.seq (.seq (.reg [un (.ld 6 2 true (.t 2)),
 un (.call 7 L8 [((.t 6), false)]),
 un (.un 8 .not (.t 7)),
 un (.asg 9 (.t 8)),
 ⟨some (9, false), .ld 10 2 true (.t 2)⟩,
 ⟨some (9, false), .mov 11 (.t 1)⟩,
 ⟨some (9, false), .call 12 Zp [((.t 10), false), ((.t 11), false)]⟩,
 ⟨some (9, false), .un 13 .not (.t 12)⟩,
 un (.pick 14 (.t 9) (.c (.bool true)) (.t 13))])
 (.drop [6, 7, 8, 9, 10, 11, 12, 13] (.cond (.t 14) (.seq (.reg [un (.bsl 15 1 []),
 un (.asg 4 (.t 15)),
 un (.asg 5 (.c (.bool false)))])
 (.drop [15] .ret))
 .skip)))
 (.drop [6, 7, 8, 9, 10, 11, 12, 13, 14, 15] (.seq (.reg [un (.ld 16 2 true (.t 2)),
 un (.call 17 L7 [((.t 16), false)]),
 un (.mov 18 (.t 1)),
 un (.call 19 Im [((.t 17), false), ((.t 18), false)]),
 un (.asg 4 (.t 19)),
 un (.asg 5 (.c (.bool true)))])
 (.drop [16, 17, 18, 19] .ret)))))
abbrev Q6 : List RS := [.t 4, .t 5]
theorem Q7 : A2 Tryz.prog F4 20 Q0 Q6 = true := by kernel_rfl
def U4 : ACode :=
 (.seq (.reg [un (.alc 2 (.agg [.int .i64 0, .nilsl 2])),
 un (.asg 3 (.c (.nilsl 1)))])
 (.seq (.reg [un (.mov 6 (.t 0)),
 un (.bld 7 [.nilsl 1, .int .i64 0, .int .u64 0] [(0, 1, (.t 6))]),
 un (.box 8 (.t 7)),
 un (.asg 4 (.t 8))])
 (.drop [6, 7, 8] (.seq (.reg [un (.mov 9 (.t 4)),
 un (.call 10 Gx [((.t 9), true)]),
 un (.alc 5 (.agg [.int .i64 0, .nilsl 2])),
 un (.st 2 (.t 5) (.t 10))])
 (.drop [9, 10] (.seq (.frz [100005] (.dreg [(un (.ld 11 2 true (.t 5)), [4]),
 (un (.mov 12 (.t 4)), [11]),
 (un (.ld 13 2 true (.t 5)), [11, 12]),
 (un (.call 14 Hc [((.t 12), true), ((.t 13), false)]), [4, 11])]
 [un (.st 2 (.t 2) (.t 11)),
 un (.asg 3 (.t 14))]))
 (.drop [11, 12, 13, 14] .ret)))))))
abbrev Uv : List RS := [.c 2 2 true, .t 3]
theorem Vv : A2 Tryz.prog Ht 15 U4 Uv = true := by kernel_rfl
def Aak : ACode :=
 (.dreg [(un (.mov 22 (.t 6)), []),
 (un (.len 23 (.t 22)), []),
 (un (.bin 24 .eql (.t 23) (.c (.int .i64 1))), []),
 (un (.asg 25 (.t 24)), []),
 (⟨some (25, true), .mov 26 (.t 6)⟩, [24]),
 (⟨some (25, true), .iad 27 1 (.t 26) (.c (.int .i64 0))⟩, [24]),
 (⟨some (25, true), .ld 28 1 false (.t 27)⟩, [24]),
 (⟨some (25, true), .fadr 29 0 (.t 1)⟩, [26, 27, 28, 24]),
 (⟨some (25, true), .ld 30 1 false (.t 29)⟩, [26, 27, 28, 24]),
 (⟨some (25, true), .call 31 Ul [((.t 30), false)]⟩, [26, 27, 28, 24])]
 [⟨some (25, true), .call 32 F0 [((.t 28), false), ((.t 31), false)]⟩,
 un (.pick 33 (.t 25) (.t 32) (.c (.bool false)))])
def Pz : ACode :=
 (.seq (.seq (.reg [un (.mov 10 (.t 5)),
 un (.mov 11 (.t 4)),
 un (.len 12 (.t 11)),
 un (.bin 13 .lss (.t 10) (.t 12))])
 (.drop [10, 11, 12] (.cond (.t 13) .skip
 (.exit 0))))
 (.drop [10, 11, 12, 13] (.seq (.block 1 (.seq (.reg [un (.mov 16 (.t 4)),
 un (.mov 17 (.t 4)),
 un (.mov 18 (.t 5)),
 un (.iad 19 1 (.t 17) (.t 18)),
 un (.ld 20 1 false (.t 19)),
 un (.call 21 Im [((.t 16), false), ((.t 20), false)]),
 un (.asg 6 (.t 21))])
 (.drop [16, 17, 18, 19, 20, 21] (.seq (.cut Aak)
 (.drop [22, 23, 24, 25, 26, 27, 28, 29, 30, 31, 32] (.cond (.t 33) (.reg [un (.mov 34 (.t 3)),
 un (.mov 35 (.t 4)),
 un (.mov 36 (.t 5)),
 un (.iad 37 1 (.t 35) (.t 36)),
 un (.ld 38 1 false (.t 37)),
 un (.bsl 39 1 [(.t 38)]),
 un (.app 40 1 (.t 34) (.t 39)),
 un (.asg 3 (.t 40))])
 .skip))))))
 (.drop [16, 17, 18, 19, 20, 21, 6, 22, 23, 24, 25, 26, 27, 28, 29, 30, 31, 32, 33, 34, 35, 36, 37, 38, 39, 40] (.reg [un (.mov 14 (.t 5)),
 un (.bin 15 .add (.t 14) (.c (.int .i64 1))),
 un (.asg 5 (.t 15))])))))
def Aew : ACode :=
 (.seq (.reg [un (.box 1 (.t 0)),
 un (.asg 2 (.c (.nilsl 1)))])
 (.seq (.reg [un (.bsl 7 1 []),
 un (.asg 3 (.t 7))])
 (.drop [7] (.seq (.reg [un (.ld 8 2 true (.t 1)),
 un (.call 9 L7 [((.t 8), false)]),
 un (.asg 4 (.t 9))])
 (.drop [8, 9] (.seq (.seq (.reg [un (.asg 5 (.c (.int .i64 0)))])
 (.block 0 (.loop Pz)))
 (.drop [5, 10, 11, 12, 13, 16, 17, 18, 19, 20, 21, 6, 22, 23, 24, 25, 26, 27, 28, 29, 30, 31, 32, 33, 34, 35, 36, 37, 38, 39, 40, 14, 15] (.seq (.reg [un (.mov 41 (.t 3)),
 un (.asg 2 (.t 41))])
 (.drop [41] .ret)))))))))
abbrev Afh : List RS := [.t 2]
theorem Afu : A2 Tryz.prog M3 42 Aew Afh = true := by kernel_rfl
def M4 : ACode :=
 (.seq (.reg [un (.alc 2 (.agg [.int .i64 0, .nilsl 2])),
 un (.asg 3 (.c (.nilsl 1)))])
 (.seq (.reg [un (.mov 4 (.t 0)),
 un (.call 5 Ht [((.t 4), false)]),
 un (.ext 6 (.t 5) 0),
 un (.ext 7 (.t 5) 1),
 un (.st 2 (.t 2) (.t 6)),
 un (.asg 3 (.t 7))])
 (.drop [4, 5, 6, 7] .ret)))
abbrev Nm : List RS := [.c 2 2 true, .t 3]
theorem M7 : A2 Tryz.prog Eo 8 M4 Nm = true := by kernel_rfl
def Sd : ACode :=
 (.seq (.reg [un (.box 1 (.t 0)),
 un (.asg 2 (.c (.nilsl 1))),
 un (.asg 3 (.c (.bool false)))])
 (.seq (.seq (.reg [un (.ld 4 2 true (.t 1)),
 un (.call 5 L8 [((.t 4), false)]),
 un (.un 6 .not (.t 5))])
 (.drop [4, 5] (.cond (.t 6) (.seq (.reg [un (.bsl 7 1 []),
 un (.asg 2 (.t 7)),
 un (.asg 3 (.c (.bool false)))])
 (.drop [7] .ret))
 .skip)))
 (.drop [4, 5, 6, 7] (.seq (.reg [un (.ld 8 2 true (.t 1)),
 un (.call 9 M3 [((.t 8), false)]),
 un (.asg 2 (.t 9)),
 un (.asg 3 (.c (.bool true)))])
 (.drop [8, 9] .ret)))))
abbrev Sb : List RS := [.t 2, .t 3]
theorem R5 : A2 Tryz.prog Gq 10 Sd Sb = true := by kernel_rfl
def X6 : ACode :=
 (.seq (.reg [un (.ld 50 2 true (.t 3)),
 un (.mov 51 (.t 4)),
 un (.call 52 F4 [((.t 50), false), ((.t 51), false)]),
 un (.asg 49 (.t 52)),
 un (.ext 53 (.t 49) 0),
 un (.ext 54 (.t 49) 1),
 un (.asg 7 (.t 53)),
 un (.asg 8 (.t 54))])
 (.drop [50, 51, 52, 49, 53, 54] (.seq (.reg [un (.mov 55 (.t 6)),
 un (.mov 56 (.t 8)),
 un (.binb 57 .neq (.t 55) (.t 56)),
 un (.asg 58 (.t 57)),
 ⟨some (58, false), .mov 59 (.t 5)⟩,
 ⟨some (58, false), .mov 60 (.t 7)⟩,
 ⟨some (58, false), .call 61 Ip [((.t 59), false), ((.t 60), false)]⟩,
 ⟨some (58, false), .un 62 .not (.t 61)⟩,
 un (.pick 63 (.t 58) (.c (.bool true)) (.t 62))])
 (.drop [55, 56, 57, 58, 59, 60, 61, 62] (.cond (.t 63) (.seq (.reg [un (.asg 2 (.c (.bool false)))])
 .ret)
 .skip)))))
def O6 : ACode :=
 (.seq (.seq (.reg [un (.mov 65 (.t 10)),
 un (.mov 66 (.t 4)),
 un (.len 67 (.t 66)),
 un (.bin 68 .lss (.t 65) (.t 67))])
 (.drop [65, 66, 67] (.cond (.t 68) .skip
 (.exit 0))))
 (.drop [65, 66, 67, 68] (.seq (.block 1 (.reg [un (.mov 71 (.t 9)),
 un (.asg 72 (.t 71)),
 ⟨some (72, true), .mov 73 (.t 4)⟩,
 ⟨some (72, true), .mov 74 (.t 10)⟩,
 ⟨some (72, true), .iad 75 1 (.t 73) (.t 74)⟩,
 ⟨some (72, true), .ld 76 1 false (.t 75)⟩,
 ⟨some (72, true), .bin 77 .eql (.t 76) (.c (.int .i64 0))⟩,
 un (.pick 78 (.t 72) (.t 77) (.c (.bool false))),
 un (.asg 9 (.t 78))]))
 (.drop [71, 72, 73, 74, 75, 76, 77, 78] (.reg [un (.mov 69 (.t 10)),
 un (.bin 70 .add (.t 69) (.c (.int .i64 1))),
 un (.asg 10 (.t 70))])))))
def Ys : ACode :=
 (.seq (.reg [un (.ld 90 2 true (.t 3)),
 un (.call 91 Gp [((.t 90), false)]),
 un (.asg 89 (.t 91)),
 un (.ext 92 (.t 89) 0),
 un (.ext 93 (.t 89) 1),
 un (.asg 13 (.t 92)),
 un (.asg 14 (.t 93))])
 (.drop [90, 91, 89, 92, 93] (.seq (.reg [un (.mov 94 (.t 12)),
 un (.mov 95 (.t 14)),
 un (.binb 96 .neq (.t 94) (.t 95)),
 un (.asg 97 (.t 96)),
 ⟨some (97, false), .mov 98 (.t 12)⟩,
 ⟨some (97, false), .un 99 .not (.t 98)⟩,
 un (.pick 100 (.t 97) (.c (.bool true)) (.t 99)),
 un (.asg 101 (.t 100)),
 ⟨some (101, false), .mov 102 (.t 11)⟩,
 ⟨some (101, false), .mov 103 (.t 13)⟩,
 ⟨some (101, false), .call 104 Ip [((.t 102), false), ((.t 103), false)]⟩,
 ⟨some (101, false), .un 105 .not (.t 104)⟩,
 un (.pick 106 (.t 101) (.c (.bool true)) (.t 105))])
 (.drop [94, 95, 96, 97, 98, 99, 100, 101, 102, 103, 104, 105] (.cond (.t 106) (.seq (.reg [un (.asg 2 (.c (.bool false)))])
 .ret)
 .skip)))))
def On : ACode :=
 (.seq (.seq (.reg [un (.mov 110 (.t 16)),
 un (.fadr 111 0 (.t 3)),
 un (.ld 112 1 false (.t 111)),
 un (.bin 113 .lss (.t 110) (.t 112))])
 (.drop [110, 111, 112] (.cond (.t 113) .skip
 (.exit 2))))
 (.drop [110, 111, 112, 113] (.seq (.block 3 (.reg [un (.mov 116 (.t 15)),
 un (.mov 117 (.t 16)),
 un (.mov 118 (.t 16)),
 un (.iad 119 1 (.t 116) (.t 117)),
 un (.st 1 (.t 119) (.t 118))]))
 (.drop [116, 117, 118, 119] (.reg [un (.mov 114 (.t 16)),
 un (.bin 115 .add (.t 114) (.c (.int .i64 1))),
 un (.asg 16 (.t 115))])))))
def Zt : ACode :=
 (.seq (.reg [un (.mov 126 (.t 18)),
 un (.un 127 .not (.t 126)),
 un (.asg 128 (.t 127)),
 ⟨some (128, false), .mov 129 (.t 17)⟩,
 ⟨some (128, false), .mov 130 (.t 11)⟩,
 ⟨some (128, false), .call 131 Ip [((.t 129), false), ((.t 130), false)]⟩,
 ⟨some (128, false), .un 132 .not (.t 131)⟩,
 un (.pick 133 (.t 128) (.c (.bool true)) (.t 132))])
 (.drop [126, 127, 128, 129, 130, 131, 132] (.cond (.t 133) (.seq (.reg [un (.asg 2 (.c (.bool false)))])
 .ret)
 .skip)))
def X9 : ACode :=
 (.seq (.reg [un (.ld 140 2 true (.t 3)),
 un (.call 141 Gq [((.t 140), false)]),
 un (.asg 139 (.t 141)),
 un (.ext 142 (.t 139) 0),
 un (.ext 143 (.t 139) 1),
 un (.asg 21 (.t 142)),
 un (.asg 22 (.t 143))])
 (.drop [140, 141, 139, 142, 143] (.seq (.reg [un (.mov 144 (.t 20)),
 un (.mov 145 (.t 22)),
 un (.binb 146 .neq (.t 144) (.t 145)),
 un (.asg 147 (.t 146)),
 ⟨some (147, false), .mov 148 (.t 20)⟩,
 ⟨some (147, false), .un 149 .not (.t 148)⟩,
 un (.pick 150 (.t 147) (.c (.bool true)) (.t 149)),
 un (.asg 151 (.t 150)),
 ⟨some (151, false), .mov 152 (.t 19)⟩,
 ⟨some (151, false), .mov 153 (.t 21)⟩,
 ⟨some (151, false), .call 154 Ip [((.t 152), false), ((.t 153), false)]⟩,
 ⟨some (151, false), .un 155 .not (.t 154)⟩,
 un (.pick 156 (.t 151) (.c (.bool true)) (.t 155))])
 (.drop [144, 145, 146, 147, 148, 149, 150, 151, 152, 153, 154, 155] (.cond (.t 156) (.seq (.reg [un (.asg 2 (.c (.bool false)))])
 .ret)
 .skip)))))
def Yj : ACode :=
 (.seq (.reg [un (.mov 64 (.t 6))])
 (.cond (.t 64) (.seq (.reg [un (.asg 9 (.c (.bool true)))])
 (.seq (.seq (.reg [un (.asg 10 (.c (.int .i64 0)))])
 (.block 0 (.loop O6)))
 (.drop [10, 65, 66, 67, 68, 71, 72, 73, 74, 75, 76, 77, 78, 69, 70] (.seq (.seq (.reg [un (.mov 79 (.t 9)),
 un (.mov 80 (.t 5)),
 un (.len 81 (.t 80)),
 un (.bin 82 .eql (.t 81) (.c (.int .i64 0))),
 un (.binb 83 .neq (.t 79) (.t 82))])
 (.drop [79, 80, 81, 82] (.cond (.t 83) (.seq (.reg [un (.asg 2 (.c (.bool false)))])
 .ret)
 .skip)))
 (.drop [79, 80, 81, 82, 83] (.seq (.reg [un (.ld 85 2 true (.t 3)),
 un (.call 86 Gn [((.t 85), false)]),
 un (.asg 84 (.t 86)),
 un (.ext 87 (.t 84) 0),
 un (.ext 88 (.t 84) 1),
 un (.asg 11 (.t 87)),
 un (.asg 12 (.t 88))])
 (.drop [85, 86, 84, 87, 88] (.seq (.cut Ys)
 (.drop [90, 91, 89, 92, 93, 13, 14, 94, 95, 96, 97, 98, 99, 100, 101, 102, 103, 104, 105, 106] (.seq (.reg [un (.fadr 107 0 (.t 3)),
 un (.ld 108 1 false (.t 107)),
 un (.mk 109 1 (.int .i64 0) (.t 108)),
 un (.asg 15 (.t 109))])
 (.drop [107, 108, 109] (.seq (.seq (.reg [un (.asg 16 (.c (.int .i64 0)))])
 (.block 2 (.loop On)))
 (.drop [16, 110, 111, 112, 113, 116, 117, 118, 119, 114, 115] (.seq (.reg [un (.ld 121 2 true (.t 3)),
 un (.mov 122 (.t 15)),
 un (.call 123 D6 [((.t 121), false), ((.t 122), false)]),
 un (.asg 120 (.t 123)),
 un (.ext 124 (.t 120) 0),
 un (.ext 125 (.t 120) 1),
 un (.asg 17 (.t 124)),
 un (.asg 18 (.t 125))])
 (.drop [121, 122, 123, 120, 124, 125] (.seq (.cut Zt)
 (.drop [126, 127, 128, 129, 130, 131, 132, 133] (.seq (.reg [un (.ld 135 2 true (.t 3)),
 un (.call 136 Gm [((.t 135), false)]),
 un (.asg 134 (.t 136)),
 un (.ext 137 (.t 134) 0),
 un (.ext 138 (.t 134) 1),
 un (.asg 19 (.t 137)),
 un (.asg 20 (.t 138))])
 (.drop [135, 136, 134, 137, 138] (.seq (.cut X9)
 (.drop [140, 141, 139, 142, 143, 21, 22, 144, 145, 146, 147, 148, 149, 150, 151, 152, 153, 154, 155, 156] (.seq (.dreg [(un (.mov 157 (.t 19)), []),
 (un (.mov 158 (.t 4)), [157]),
 (un (.call 159 Ud [((.t 157), false), ((.t 158), false)]), []),
 (un (.bin 160 .geq (.t 159) (.c (.int .i64 0))), [163]),
 (un (.mov 161 (.t 5)), [157, 158, 159, 160]),
 (un (.len 162 (.t 161)), [157, 158, 159, 160]),
 (un (.bin 163 .eql (.t 162) (.c (.int .i64 1))), [157, 158, 159, 160]),
 (un (.asg 164 (.t 163)), [160]),
 (⟨some (164, true), .mov 165 (.t 5)⟩, [160, 163]),
 (⟨some (164, true), .iad 166 1 (.t 165) (.c (.int .i64 0))⟩, [160, 163]),
 (⟨some (164, true), .ld 167 1 false (.t 166)⟩, [160, 163]),
 (⟨some (164, true), .fadr 168 0 (.t 3)⟩, [160, 165, 166, 167, 163]),
 (⟨some (164, true), .ld 169 1 false (.t 168)⟩, [160, 165, 166, 167, 163]),
 (⟨some (164, true), .mk 170 1 (.int .i64 0) (.t 169)⟩, [160, 165, 166, 167, 163]),
 (⟨some (164, true), .call 171 H9 [((.t 167), false), ((.t 170), false)]⟩, [160, 163]),
 (un (.pick 172 (.t 164) (.t 171) (.c (.bool false))), [160, 163])]
 [un (.binb 173 .neq (.t 160) (.t 172))])
 (.drop [157, 158, 159, 160, 161, 162, 163, 164, 165, 166, 167, 168, 169, 170, 171, 172] (.cond (.t 173) (.seq (.reg [un (.asg 2 (.c (.bool false)))])
 .ret)
 .skip))))))))))))))))))))))))
 .skip))
def Zi : ACode :=
 (.seq (.reg [un (.ld 186 2 true (.t 23)),
 un (.mov 187 (.t 24)),
 un (.call 188 Hg [((.t 186), false), ((.t 187), false)]),
 un (.asg 185 (.t 188)),
 un (.ext 189 (.t 185) 0),
 un (.ext 190 (.t 185) 1),
 un (.asg 27 (.t 189)),
 un (.asg 28 (.t 190))])
 (.drop [186, 187, 188, 185, 189, 190] (.seq (.reg [un (.mov 191 (.t 26)),
 un (.mov 192 (.t 28)),
 un (.binb 193 .neq (.t 191) (.t 192)),
 un (.asg 194 (.t 193)),
 ⟨some (194, false), .mov 195 (.t 25)⟩,
 ⟨some (194, false), .mov 196 (.t 27)⟩,
 ⟨some (194, false), .call 197 H9 [((.t 195), false), ((.t 196), false)]⟩,
 ⟨some (194, false), .un 198 .not (.t 197)⟩,
 un (.pick 199 (.t 194) (.c (.bool true)) (.t 198))])
 (.drop [191, 192, 193, 194, 195, 196, 197, 198] (.cond (.t 199) (.seq (.reg [un (.asg 2 (.c (.bool false)))])
 .ret)
 .skip)))))
def Og : ACode :=
 (.seq (.seq (.reg [un (.mov 204 (.t 30)),
 un (.fadr 205 0 (.t 23)),
 un (.ld 206 1 false (.t 205)),
 un (.bin 207 .lss (.t 204) (.t 206))])
 (.drop [204, 205, 206] (.cond (.t 207) .skip
 (.exit 4))))
 (.drop [204, 205, 206, 207] (.seq (.block 5 (.reg [un (.mov 210 (.t 29)),
 un (.mov 211 (.t 30)),
 un (.mov 212 (.t 30)),
 un (.iad 213 1 (.t 210) (.t 211)),
 un (.st 1 (.t 213) (.t 212))]))
 (.drop [210, 211, 212, 213] (.reg [un (.mov 208 (.t 30)),
 un (.bin 209 .add (.t 208) (.c (.int .i64 1))),
 un (.asg 30 (.t 209))])))))
def N9 : ACode :=
 (.seq (.seq (.reg [un (.mov 214 (.t 31)),
 un (.mov 215 (.t 24)),
 un (.len 216 (.t 215)),
 un (.bin 217 .lss (.t 214) (.t 216))])
 (.drop [214, 215, 216] (.cond (.t 217) .skip
 (.exit 6))))
 (.drop [214, 215, 216, 217] (.seq (.block 7 (.seq (.dreg [(un (.ld 221 2 true (.t 23)), []),
 (un (.mov 222 (.t 24)), [221]),
 (un (.mov 223 (.t 31)), [221, 222]),
 (un (.iad 224 2 (.t 222) (.t 223)), [221]),
 (un (.aad 225 1 2 (.t 224) (.c (.int .i64 0))), [221]),
 (un (.ld 226 1 false (.t 225)), [221]),
 (un (.mov 227 (.t 24)), [221, 222, 223, 224, 225, 226]),
 (un (.mov 228 (.t 31)), [221, 222, 223, 224, 225, 226, 227]),
 (un (.iad 229 2 (.t 227) (.t 228)), [221, 222, 223, 224, 225, 226]),
 (un (.aad 230 1 2 (.t 229) (.c (.int .i64 1))), [221, 222, 223, 224, 225, 226]),
 (un (.ld 231 1 false (.t 230)), [221, 222, 223, 224, 225, 226]),
 (un (.call 232 H3 [((.t 221), false), ((.t 226), false), ((.t 231), false)]), []),
 (un (.asg 220 (.t 232)), []),
 (un (.ext 233 (.t 220) 0), [232]),
 (un (.ext 234 (.t 220) 1), [233, 232, 233])]
 [un (.asg 32 (.t 233)),
 un (.asg 33 (.t 234))])
 (.drop [221, 222, 223, 224, 225, 226, 227, 228, 229, 230, 231, 232, 220, 233, 234] (.seq (.reg [un (.fadr 236 0 (.t 23)),
 un (.ld 237 1 false (.t 236)),
 un (.mov 238 (.t 29)),
 un (.mov 239 (.t 32)),
 un (.call 240 Ir [((.t 237), false), ((.t 238), false), ((.t 239), false)]),
 un (.asg 235 (.t 240)),
 un (.ext 241 (.t 235) 0),
 un (.ext 242 (.t 235) 1),
 un (.asg 34 (.t 241)),
 un (.asg 35 (.t 242))])
 (.drop [236, 237, 238, 239, 240, 235, 241, 242] (.seq (.seq (.reg [un (.mov 243 (.t 33)),
 un (.un 244 .not (.t 243)),
 un (.asg 245 (.t 244)),
 ⟨some (245, false), .mov 246 (.t 35)⟩,
 ⟨some (245, false), .un 247 .not (.t 246)⟩,
 un (.pick 248 (.t 245) (.c (.bool true)) (.t 247))])
 (.drop [243, 244, 245, 246, 247] (.cond (.t 248) (.seq (.reg [un (.asg 2 (.c (.bool false)))])
 .ret)
 .skip)))
 (.drop [243, 244, 245, 246, 247, 248] (.reg [un (.mov 249 (.t 34)),
 un (.asg 29 (.t 249))]))))))))
 (.drop [221, 222, 223, 224, 225, 226, 227, 228, 229, 230, 231, 232, 220, 233, 234, 32, 33, 236, 237, 238, 239, 240, 235, 241, 242, 34, 35, 243, 244, 245, 246, 247, 248, 249] (.reg [un (.mov 218 (.t 31)),
 un (.bin 219 .add (.t 218) (.c (.int .i64 1))),
 un (.asg 31 (.t 219))])))))
def Add : ACode :=
 (.seq (.reg [un (.asg 2 (.c (.bool false)))])
 (.seq (.seq (.reg [un (.mov 36 (.t 0)),
 un (.call 37 Zv [((.t 36), false)])])
 (.drop [36] (.cond (.t 37) (.seq (.reg [un (.asg 2 (.c (.bool true)))])
 .ret)
 .skip)))
 (.drop [36, 37] (.seq (.reg [un (.mov 39 (.t 0)),
 un (.call 40 Eo [((.t 39), false)]),
 un (.asg 38 (.t 40)),
 un (.ext 41 (.t 38) 0),
 un (.ext 42 (.t 38) 1),
 un (.alc 3 (.agg [.int .i64 0, .nilsl 2])),
 un (.st 2 (.t 3) (.t 41)),
 un (.asg 4 (.t 42))])
 (.drop [39, 40, 38, 41, 42] (.seq (.reg [un (.ld 44 2 true (.t 3)),
 un (.mov 45 (.t 4)),
 un (.call 46 D6 [((.t 44), false), ((.t 45), false)]),
 un (.asg 43 (.t 46)),
 un (.ext 47 (.t 43) 0),
 un (.ext 48 (.t 43) 1),
 un (.asg 5 (.t 47)),
 un (.asg 6 (.t 48))])
 (.drop [44, 45, 46, 43, 47, 48] (.seq (.cut X6)
 (.drop [50, 51, 52, 49, 53, 54, 7, 8, 55, 56, 57, 58, 59, 60, 61, 62, 63] (.seq (.cut Yj)
 (.drop [64, 9, 10, 65, 66, 67, 68, 71, 72, 73, 74, 75, 76, 77, 78, 69, 70, 79, 80, 81, 82, 83, 85, 86, 84, 87, 88, 11, 12, 90, 91, 89, 92, 93, 13, 14, 94, 95, 96, 97, 98, 99, 100, 101, 102, 103, 104, 105, 106, 107, 108, 109, 15, 16, 110, 111, 112, 113, 116, 117, 118, 119, 114, 115, 121, 122, 123, 120, 124, 125, 17, 18, 126, 127, 128, 129, 130, 131, 132, 133, 135, 136, 134, 137, 138, 19, 20, 140, 141, 139, 142, 143, 21, 22, 144, 145, 146, 147, 148, 149, 150, 151, 152, 153, 154, 155, 156, 157, 158, 159, 160, 161, 162, 163, 164, 165, 166, 167, 168, 169, 170, 171, 172, 173] (.seq (.reg [un (.mov 175 (.t 0)),
 un (.call 176 Fk [((.t 175), false)]),
 un (.asg 174 (.t 176)),
 un (.ext 177 (.t 174) 0),
 un (.ext 178 (.t 174) 1),
 un (.alc 23 (.agg [.int .i64 0, .nilsl 2])),
 un (.st 2 (.t 23) (.t 177)),
 un (.asg 24 (.t 178))])
 (.drop [175, 176, 174, 177, 178] (.seq (.reg [un (.ld 180 2 true (.t 23)),
 un (.mov 181 (.t 24)),
 un (.call 182 G5 [((.t 180), false), ((.t 181), false)]),
 un (.asg 179 (.t 182)),
 un (.ext 183 (.t 179) 0),
 un (.ext 184 (.t 179) 1),
 un (.asg 25 (.t 183)),
 un (.asg 26 (.t 184))])
 (.drop [180, 181, 182, 179, 183, 184] (.seq (.cut Zi)
 (.drop [186, 187, 188, 185, 189, 190, 27, 28, 191, 192, 193, 194, 195, 196, 197, 198, 199] (.seq (.seq (.reg [un (.mov 200 (.t 26))])
 (.cond (.t 200) (.seq (.reg [un (.fadr 201 0 (.t 23)),
 un (.ld 202 1 false (.t 201)),
 un (.mk 203 1 (.int .i64 0) (.t 202)),
 un (.asg 29 (.t 203))])
 (.drop [201, 202, 203] (.seq (.seq (.reg [un (.asg 30 (.c (.int .i64 0)))])
 (.block 4 (.loop Og)))
 (.drop [30, 204, 205, 206, 207, 210, 211, 212, 213, 208, 209] (.seq (.seq (.reg [un (.asg 31 (.c (.int .i64 0)))])
 (.block 6 (.loop N9)))
 (.drop [31, 214, 215, 216, 217, 221, 222, 223, 224, 225, 226, 227, 228, 229, 230, 231, 232, 220, 233, 234, 32, 33, 236, 237, 238, 239, 240, 235, 241, 242, 34, 35, 243, 244, 245, 246, 247, 248, 249, 218, 219] (.seq (.reg [un (.mov 250 (.t 29)),
 un (.mov 251 (.t 25)),
 un (.call 252 H9 [((.t 250), false), ((.t 251), false)]),
 un (.un 253 .not (.t 252))])
 (.drop [250, 251, 252] (.cond (.t 253) (.seq (.reg [un (.asg 2 (.c (.bool false)))])
 .ret)
 .skip)))))))))
 .skip))
 (.drop [200, 201, 202, 203, 29, 30, 204, 205, 206, 207, 210, 211, 212, 213, 208, 209, 31, 214, 215, 216, 217, 221, 222, 223, 224, 225, 226, 227, 228, 229, 230, 231, 232, 220, 233, 234, 32, 33, 236, 237, 238, 239, 240, 235, 241, 242, 34, 35, 243, 244, 245, 246, 247, 248, 249, 218, 219, 250, 251, 252, 253] (.seq (.reg [un (.asg 2 (.c (.bool true)))])
 .ret))))))))))))))))))))
abbrev Ad8 : List RS := [.t 2]
theorem Ac1 : A2 Tryz.prog Tg 254 Add Ad8 = true := by kernel_rfl
end Go.Proofs.YthagmdhmgailfaaGreat.Ax
