/-
  The small code of the functions, written by program; that the program's code is this one, the kernel looks at.
-/
import Derived.Test.YtcpgnfohmeineaaAx3
import Derived.Test.YtcpgnfohmeineaaProg
import Derived.KernelRfl
import Derived.Test.YtcpgnfohmeineaaNum
namespace Go.Proofs.Ytcpgnfohmeineaa.Ax
open Go
set_option maxRecDepth 100000
def Om : ACode :=
 (.seq (.reg [un (.mov 32 (.t 4)),
 un (.bin 33 .eql (.t 32) (.c (.int .i64 4))),
 un (.asg 34 (.t 33)),
 ⟨some (34, true), .fadr 35 0 (.t 7)⟩,
 ⟨some (34, true), .ld 36 1 false (.t 35)⟩,
 ⟨some (34, true), .bin 37 .eql (.t 36) (.c (.int .i64 3))⟩,
 un (.pick 38 (.t 34) (.t 37) (.c (.bool false)))])
 (.drop [32, 33, 34, 35, 36, 37] (.cond (.t 38) (.reg [un (.fadr 39 0 (.t 7)),
 un (.st 1 (.t 39) (.c (.int .i64 2)))])
 .skip)))
def Hy : ACode :=
 (.seq (.seq (.reg [un (.mov 44 (.t 8)),
 un (.bin 45 .gtr (.t 44) (.c (.int .i64 0)))])
 (.drop [44] (.cond (.t 45) .skip
 (.exit 2))))
 (.drop [44, 45] (.seq (.block 3 (.dreg [(un (.fadr 48 1 (.t 7)), [132, 52]),
 (un (.ld 49 1 false (.t 48)), [132, 52]),
 (un (.mov 50 (.t 0)), [48, 49]),
 (un (.mov 51 (.t 4)), [48, 49, 50]),
 (un (.call 52 As [((.t 50), true), ((.t 51), false)]), [132, 48, 49]),
 (un (.bsl 53 1 [(.t 52)]), [48, 49])]
 [un (.app 54 1 (.t 49) (.t 53)),
 un (.fadr 55 1 (.t 7)),
 un (.st 1 (.t 55) (.t 54))]))
 (.drop [48, 49, 50, 51, 52, 53, 54, 55] (.reg [un (.mov 46 (.t 8)),
 un (.bin 47 .sub (.t 46) (.c (.int .i64 1))),
 un (.asg 8 (.t 47))])))))
def Hv : ACode :=
 (.seq (.seq (.reg [un (.mov 24 (.t 6)),
 un (.bin 25 .gtr (.t 24) (.c (.int .i64 0)))])
 (.drop [24] (.cond (.t 25) .skip
 (.exit 0))))
 (.drop [24, 25] (.seq (.block 1 (.seq (.reg [un (.mov 28 (.t 0)),
 un (.bsl 29 1 [(.c (.int .i64 0)), (.c (.int .i64 1)), (.c (.int .i64 2)), (.c (.int .i64 2)), (.c (.int .i64 3))]),
 un (.call 30 A2 [((.t 28), true), ((.t 29), false)]),
 un (.bld 31 [.int .i64 0, .nilsl 1] [(0, 1, (.t 30))]),
 un (.alc 7 (.agg [.int .i64 0, .nilsl 1])),
 un (.st 2 (.t 7) (.t 31))])
 (.drop [28, 29, 30, 31] (.seq (.cut Om)
 (.drop [32, 33, 34, 35, 36, 37, 38, 39] (.seq (.seq (.reg [un (.mov 40 (.t 4)),
 un (.fadr 41 0 (.t 7)),
 un (.ld 42 1 false (.t 41)),
 un (.call 43 Fc [((.t 40), false), ((.t 42), false)]),
 un (.asg 8 (.t 43))])
 (.drop [40, 41, 42, 43] (.block 2 (.loop Hy))))
 (.drop [40, 41, 42, 43, 8, 44, 45, 48, 49, 50, 51, 52, 53, 54, 55, 46, 47] (.reg [un (.fadr 56 1 (.t 5)),
 un (.ld 57 1 false (.t 56)),
 un (.ld 58 2 true (.t 7)),
 un (.bsl 59 2 [(.t 58)]),
 un (.app 60 2 (.t 57) (.t 59)),
 un (.fadr 61 1 (.t 5)),
 un (.st 1 (.t 61) (.t 60))]))))))))
 (.drop [28, 29, 30, 31, 7, 32, 33, 34, 35, 36, 37, 38, 39, 40, 41, 42, 43, 8, 44, 45, 48, 49, 50, 51, 52, 53, 54, 55, 46, 47, 56, 57, 58, 59, 60, 61] (.reg [un (.mov 26 (.t 6)),
 un (.bin 27 .sub (.t 26) (.c (.int .i64 1))),
 un (.asg 6 (.t 27))])))))
def H2 : ACode :=
 (.seq (.seq (.dreg [(un (.fadr 116 1 (.t 5)), [132]),
 (un (.ld 117 1 false (.t 116)), [132]),
 (un (.len 118 (.t 117)), [132]),
 (un (.mov 119 (.t 0)), [116, 117, 118]),
 (un (.call 120 As [((.t 119), true), ((.c (.int .i64 2)), false)]), [132, 116, 117, 118]),
 (un (.bin 121 .add (.c (.int .i64 4)) (.t 120)), [116, 117, 118])]
 [un (.bin 122 .lss (.t 118) (.t 121))])
 (.drop [116, 117, 118, 119, 120, 121] (.cond (.t 122) .skip
 (.exit 5))))
 (.drop [116, 117, 118, 119, 120, 121, 122] (.block 6 (.dregl [(0, .fadr 123 1 (.t 5)),
 (1, .ld 124 1 false (.t 123)),
 (2, .mov 125 (.t 4))]
 (.alt 3 (.mk 126 1 (.int .i64 0) (.t 125)) [0, 1, 2] [] (.alt 4 (.bld 127 [.int .i64 0, .nilsl 1] [(0, 1, (.c (.int .i64 1))), (1, 1, (.t 126))]) [0, 1] [] (.alt 5 (.bsl 128 2 [(.t 127)]) [0, 1] [] (.alt 6 (.app 129 2 (.t 124) (.t 128)) [0, 1] [124] (.alt 7 (.fadr 130 1 (.t 5)) [] [] (.alt 8 (.st 1 (.t 130) (.t 129)) [] [] .nil .nil) .nil) .nil) .nil) .nil) .nil)))))
def Rn : ACode :=
 (.seq (.reg [un (.alc 2 (.agg [.int .i64 0, .nilsl 2]))])
 (.seq (.seq (.reg [un (.mov 9 (.t 0)),
 un (.call 10 Gx [((.t 9), true), ((.c (.int .i64 4)), false)]),
 un (.un 11 .not (.t 10))])
 (.drop [9, 10] (.cond (.t 11) (.seq (.reg [un (.mov 12 (.t 0)),
 un (.call 13 As [((.t 12), true), ((.c (.int .i64 17)), false)]),
 un (.call 14 L4 [((.t 13), false)]),
 un (.alc 3 (.agg [.int .i64 0, .nilsl 2])),
 un (.st 2 (.t 3) (.t 14))])
 (.drop [12, 13, 14] (.seq (.reg [un (.ld 15 2 true (.t 3)),
 un (.st 2 (.t 2) (.t 15))])
 (.drop [15] .ret))))
 .skip)))
 (.drop [9, 10, 11, 12, 13, 14, 3, 15] (.seq (.reg [un (.mov 16 (.t 0)),
 un (.bsl 17 1 [(.c (.int .i64 2)), (.c (.int .i64 2)), (.c (.int .i64 3)), (.c (.int .i64 3)), (.c (.int .i64 4))]),
 un (.call 18 A2 [((.t 16), true), ((.t 17), false)]),
 un (.asg 4 (.t 18))])
 (.drop [16, 17, 18] (.seq (.reg [un (.mov 19 (.t 4)),
 un (.bld 20 [.int .i64 0, .nilsl 2] [(0, 1, (.t 19))]),
 un (.alc 5 (.agg [.int .i64 0, .nilsl 2])),
 un (.st 2 (.t 5) (.t 20))])
 (.drop [19, 20] (.seq (.seq (.reg [un (.mov 21 (.t 0)),
 un (.bsl 22 1 [(.c (.int .i64 1)), (.c (.int .i64 1)), (.c (.int .i64 2))]),
 un (.call 23 A2 [((.t 21), true), ((.t 22), false)]),
 un (.asg 6 (.t 23))])
 (.drop [21, 22, 23] (.block 0 (.loop Hv))))
 (.drop [21, 22, 23, 6, 24, 25, 28, 29, 30, 31, 7, 32, 33, 34, 35, 36, 37, 38, 39, 40, 41, 42, 43, 8, 44, 45, 48, 49, 50, 51, 52, 53, 54, 55, 46, 47, 56, 57, 58, 59, 60, 61, 26, 27] (.seq (.seq (.reg [un (.mov 62 (.t 0)),
 un (.call 63 As [((.t 62), true), ((.c (.int .i64 16)), false)])])
 (.drop [62] (.block 4 (.seq (.reg [un (.bin 65 .eql (.t 63) (.c (.int .i64 0))),
 un (.asg 64 (.t 65))])
 (.drop [65] (.cond (.t 64) (.reg [un (.mov 66 (.t 0)),
 un (.mov 67 (.t 4)),
 un (.bin 68 .add (.t 67) (.c (.int .i64 1))),
 un (.bsl 69 1 [(.c (.int .i64 0)), (.c (.int .i64 9)), (.t 68)]),
 un (.call 70 A2 [((.t 66), true), ((.t 69), false)]),
 un (.fadr 71 0 (.t 5)),
 un (.st 1 (.t 71) (.t 70))])
 (.seq (.reg [un (.bin 73 .eql (.t 63) (.c (.int .i64 1))),
 un (.asg 72 (.t 73))])
 (.drop [73] (.cond (.t 72) (.dregl [(0, .fadr 74 1 (.t 5)),
 (1, .ld 75 1 false (.t 74)),
 (2, .fadr 76 1 (.t 5)),
 (3, .ld 77 1 false (.t 76)),
 (4, .iad 78 2 (.t 77) (.c (.int .i64 0))),
 (5, .fadr 79 1 (.t 78)),
 (6, .ld 80 1 false (.t 79))]
 (.alt 7 (.bsl 81 1 [(.c (.int .i64 0))]) [0, 1, 2, 3, 4, 5, 6] [] (.alt 8 (.app 82 1 (.t 80) (.t 81)) [0, 1, 2, 3, 4, 5, 6] [80] (.alt 9 (.iad 83 2 (.t 75) (.c (.int .i64 0))) [0, 1] [] (.alt 10 (.fadr 84 1 (.t 83)) [] [] (.alt 11 (.st 1 (.t 84) (.t 82)) [] [] .nil .nil) .nil) .nil) .nil) .nil))
 (.seq (.reg [un (.bin 86 .eql (.t 63) (.c (.int .i64 2))),
 un (.asg 85 (.t 86))])
 (.drop [86] (.cond (.t 85) (.dregl [(0, .fadr 87 1 (.t 5)),
 (1, .ld 88 1 false (.t 87)),
 (2, .iad 89 2 (.t 88) (.c (.int .i64 0))),
 (3, .fadr 90 1 (.t 89)),
 (4, .ld 91 1 false (.t 90)),
 (5, .mov 92 (.t 0)),
 (6, .fadr 93 1 (.t 5)),
 (7, .ld 94 1 false (.t 93)),
 (8, .iad 95 2 (.t 94) (.c (.int .i64 0))),
 (9, .fadr 96 1 (.t 95)),
 (10, .ld 97 1 false (.t 96)),
 (13, .mov 100 (.t 0)),
 (14, .mov 101 (.t 4))]
 (.alt 11 (.len 98 (.t 97)) [0, 1, 2, 3, 4, 5, 6, 7, 8, 9, 10, 13, 14] [] (.alt 12 (.call 99 As [((.t 92), true), ((.t 98), false)]) [0, 1, 2, 3, 4, 5, 13, 14] [] (.alt 15 (.bsl 102 1 [(.c (.int .i64 (-1))), (.t 101)]) [0, 1, 2, 3, 4, 13, 14] [] (.alt 16 (.call 103 A2 [((.t 100), true), ((.t 102), false)]) [0, 1, 2, 3, 4, 13] [] (.alt 17 (.iad 104 1 (.t 91) (.t 99)) [0, 1, 2, 3, 4] [] (.alt 18 (.st 1 (.t 104) (.t 103)) [] [] .nil .nil) .nil) .nil) .nil) (.alt 15 (.bsl 102 1 [(.c (.int .i64 (-1))), (.t 101)]) [0, 1, 2, 3, 4, 5, 13, 14] [] (.alt 12 (.call 99 As [((.t 92), true), ((.t 98), false)]) [0, 1, 2, 3, 4, 5, 13] [] (.alt 16 (.call 103 A2 [((.t 100), true), ((.t 102), false)]) [0, 1, 2, 3, 4, 13] [] (.alt 17 (.iad 104 1 (.t 91) (.t 99)) [0, 1, 2, 3, 4] [] (.alt 18 (.st 1 (.t 104) (.t 103)) [] [] .nil .nil) .nil) .nil) .nil) .nil)) (.alt 15 (.bsl 102 1 [(.c (.int .i64 (-1))), (.t 101)]) [0, 1, 2, 3, 4, 5, 6, 7, 8, 9, 10, 13, 14] [] (.alt 11 (.len 98 (.t 97)) [0, 1, 2, 3, 4, 5, 6, 7, 8, 9, 10, 13] [] (.alt 12 (.call 99 As [((.t 92), true), ((.t 98), false)]) [0, 1, 2, 3, 4, 5, 13] [] (.alt 16 (.call 103 A2 [((.t 100), true), ((.t 102), false)]) [0, 1, 2, 3, 4, 13] [] (.alt 17 (.iad 104 1 (.t 91) (.t 99)) [0, 1, 2, 3, 4] [] (.alt 18 (.st 1 (.t 104) (.t 103)) [] [] .nil .nil) .nil) .nil) .nil) .nil) .nil)))
 (.seq (.reg [un (.bin 106 .eql (.t 63) (.c (.int .i64 3))),
 un (.asg 105 (.t 106))])
 (.drop [106] (.cond (.t 105) (.dregl [(0, .fadr 107 1 (.t 5)),
 (1, .ld 108 1 false (.t 107)),
 (2, .mov 109 (.t 0))]
 (.alt 3 (.bsl 110 1 [(.c (.int .i64 (-1))), (.c (.int .i64 4))]) [0, 1, 2] [] (.alt 4 (.call 111 A2 [((.t 109), true), ((.t 110), false)]) [0, 1, 2] [] (.alt 5 (.iad 112 2 (.t 108) (.c (.int .i64 0))) [0, 1] [] (.alt 6 (.fadr 113 0 (.t 112)) [] [] (.alt 7 (.st 1 (.t 113) (.t 111)) [] [] .nil .nil) .nil) .nil) .nil) .nil))
 (.seq (.reg [un (.bin 115 .eql (.t 63) (.c (.int .i64 4))),
 un (.asg 114 (.t 115))])
 (.drop [115] (.cond (.t 114) (.block 5 (.loop H2))
 .skip))))))))))))))))))
 (.drop [62, 63, 65, 64, 66, 67, 68, 69, 70, 71, 73, 72, 74, 75, 76, 77, 78, 79, 80, 81, 82, 83, 84, 86, 85, 87, 88, 89, 90, 91, 92, 93, 94, 95, 96, 97, 98, 99, 100, 101, 102, 103, 104, 106, 105, 107, 108, 109, 110, 111, 112, 113, 115, 114, 116, 117, 118, 119, 120, 121, 122, 123, 124, 125, 126, 127, 128, 129, 130] (.seq (.reg [un (.ld 131 2 true (.t 5)),
 un (.st 2 (.t 2) (.t 131))])
 (.drop [131] .ret)))))))))))))
abbrev Q0 : List RS := [.c 2 2 true]
theorem Rp : Ba Try.prog Gn 132 Rn Q0 = true := by kernel_rfl
def F6 : ACode :=
 (.seq (.seq (.reg [un (.mov 18 (.t 6)),
 un (.bin 19 .gtr (.t 18) (.c (.int .i64 0)))])
 (.drop [18] (.cond (.t 19) .skip
 (.exit 0))))
 (.drop [18, 19] (.seq (.block 1 (.dreg [(un (.fadr 22 1 (.t 5)), [68, 26]),
 (un (.ld 23 1 false (.t 22)), [68, 26]),
 (un (.mov 24 (.t 0)), [22, 23]),
 (un (.mov 25 (.t 1)), [22, 23, 24]),
 (un (.call 26 As [((.t 24), true), ((.t 25), false)]), [68, 22, 23]),
 (un (.bsl 27 1 [(.t 26)]), [22, 23])]
 [un (.app 28 1 (.t 23) (.t 27)),
 un (.fadr 29 1 (.t 5)),
 un (.st 1 (.t 29) (.t 28))]))
 (.drop [22, 23, 24, 25, 26, 27, 28, 29] (.reg [un (.mov 20 (.t 6)),
 un (.bin 21 .sub (.t 20) (.c (.int .i64 1))),
 un (.asg 6 (.t 21))])))))
def Pl : ACode :=
 (.seq (.reg [un (.alc 4 (.agg [.int .i64 0, .nilsl 1]))])
 (.seq (.reg [un (.mov 7 (.t 1)),
 un (.call 8 N7 [((.t 7), false), ((.c (.int .i64 1)), false)]),
 un (.call 9 Ml [((.t 8), false), ((.c (.int .i64 4)), false)]),
 un (.asg 1 (.t 9))])
 (.drop [7, 8, 9] (.seq (.reg [un (.mov 10 (.t 0)),
 un (.bsl 11 1 [(.c (.int .i64 1)), (.c (.int .i64 1)), (.c (.int .i64 2)), (.c (.int .i64 2)), (.c (.int .i64 2)), (.c (.int .i64 3)), (.c (.int .i64 0))]),
 un (.call 12 A2 [((.t 10), true), ((.t 11), false)]),
 un (.bld 13 [.int .i64 0, .nilsl 1] [(0, 1, (.t 12))]),
 un (.alc 5 (.agg [.int .i64 0, .nilsl 1])),
 un (.st 2 (.t 5) (.t 13))])
 (.drop [10, 11, 12, 13] (.seq (.seq (.reg [un (.mov 14 (.t 1)),
 un (.fadr 15 0 (.t 5)),
 un (.ld 16 1 false (.t 15)),
 un (.call 17 Fc [((.t 14), false), ((.t 16), false)]),
 un (.asg 6 (.t 17))])
 (.drop [14, 15, 16, 17] (.block 0 (.loop F6))))
 (.drop [14, 15, 16, 17, 6, 18, 19, 22, 23, 24, 25, 26, 27, 28, 29, 20, 21] (.seq (.seq (.reg [un (.mov 30 (.t 0)),
 un (.call 31 As [((.t 30), true), ((.c (.int .i64 12)), false)])])
 (.drop [30] (.block 2 (.seq (.reg [un (.bin 33 .eql (.t 31) (.c (.int .i64 0))),
 un (.asg 32 (.t 33))])
 (.drop [33] (.cond (.t 32) (.seq (.reg [un (.fadr 34 0 (.t 5)),
 un (.ld 35 1 false (.t 34)),
 un (.bin 36 .gtr (.t 35) (.c (.int .i64 0)))])
 (.drop [34, 35] (.cond (.t 36) (.dreg [(un (.mov 37 (.t 1)), [68]),
 (un (.fadr 38 0 (.t 5)), [68, 37]),
 (un (.ld 39 1 false (.t 38)), [68, 37]),
 (un (.mov 40 (.t 0)), [37, 38, 39]),
 (un (.fadr 41 0 (.t 5)), [37, 38, 39, 40]),
 (un (.ld 42 1 false (.t 41)), [37, 38, 39, 40]),
 (un (.call 43 As [((.t 40), true), ((.t 42), false)]), [68, 37, 38, 39])]
 [un (.call 44 Gt [((.t 37), false), ((.t 39), false), ((.t 43), false)]),
 un (.fadr 45 1 (.t 5)),
 un (.st 1 (.t 45) (.t 44))])
 .skip)))
 (.seq (.reg [un (.bin 47 .eql (.t 31) (.c (.int .i64 1))),
 un (.asg 46 (.t 47))])
 (.drop [47] (.cond (.t 46) (.dregl [(0, .fadr 48 1 (.t 5)),
 (1, .ld 49 1 false (.t 48)),
 (2, .mov 50 (.t 0)),
 (3, .fadr 51 1 (.t 5)),
 (4, .ld 52 1 false (.t 51)),
 (7, .mov 55 (.t 0)),
 (8, .mov 56 (.t 1))]
 (.alt 5 (.len 53 (.t 52)) [0, 1, 2, 3, 4, 7, 8] [] (.alt 6 (.call 54 As [((.t 50), true), ((.t 53), false)]) [0, 1, 2, 7, 8] [] (.alt 9 (.bsl 57 1 [(.c (.int .i64 (-1))), (.t 56), (.c (.int .i64 0))]) [0, 1, 7, 8] [] (.alt 10 (.call 58 A2 [((.t 55), true), ((.t 57), false)]) [0, 1, 7] [] (.alt 11 (.iad 59 1 (.t 49) (.t 54)) [0, 1] [] (.alt 12 (.st 1 (.t 59) (.t 58)) [] [] .nil .nil) .nil) .nil) .nil) (.alt 9 (.bsl 57 1 [(.c (.int .i64 (-1))), (.t 56), (.c (.int .i64 0))]) [0, 1, 2, 7, 8] [] (.alt 6 (.call 54 As [((.t 50), true), ((.t 53), false)]) [0, 1, 2, 7] [] (.alt 10 (.call 58 A2 [((.t 55), true), ((.t 57), false)]) [0, 1, 7] [] (.alt 11 (.iad 59 1 (.t 49) (.t 54)) [0, 1] [] (.alt 12 (.st 1 (.t 59) (.t 58)) [] [] .nil .nil) .nil) .nil) .nil) .nil)) (.alt 9 (.bsl 57 1 [(.c (.int .i64 (-1))), (.t 56), (.c (.int .i64 0))]) [0, 1, 2, 3, 4, 7, 8] [] (.alt 5 (.len 53 (.t 52)) [0, 1, 2, 3, 4, 7] [] (.alt 6 (.call 54 As [((.t 50), true), ((.t 53), false)]) [0, 1, 2, 7] [] (.alt 10 (.call 58 A2 [((.t 55), true), ((.t 57), false)]) [0, 1, 7] [] (.alt 11 (.iad 59 1 (.t 49) (.t 54)) [0, 1] [] (.alt 12 (.st 1 (.t 59) (.t 58)) [] [] .nil .nil) .nil) .nil) .nil) .nil) .nil)))
 (.seq (.reg [un (.bin 61 .eql (.t 31) (.c (.int .i64 2))),
 un (.asg 60 (.t 61))])
 (.drop [61] (.cond (.t 60) (.reg [un (.fadr 62 1 (.t 5)),
 un (.ld 63 1 false (.t 62)),
 un (.bsl 64 1 [(.c (.int .i64 0))]),
 un (.app 65 1 (.t 63) (.t 64)),
 un (.fadr 66 1 (.t 5)),
 un (.st 1 (.t 66) (.t 65))])
 .skip))))))))))))
 (.drop [30, 31, 33, 32, 34, 35, 36, 37, 38, 39, 40, 41, 42, 43, 44, 45, 47, 46, 48, 49, 50, 51, 52, 53, 54, 55, 56, 57, 58, 59, 61, 60, 62, 63, 64, 65, 66] (.seq (.reg [un (.ld 67 2 true (.t 5)),
 un (.st 2 (.t 4) (.t 67))])
 (.drop [67] .ret)))))))))))
abbrev Ov : List RS := [.c 4 2 true]
theorem Oy : Ba Try.prog Dl 68 Pl Ov = true := by kernel_rfl
def Afz : ACode :=
 (.seq (.reg [un (.box 2 (.t 0)),
 un (.box 3 (.t 1)),
 un (.asg 4 (.c (.bool false)))])
 (.seq (.reg [un (.ld 5 2 true (.t 2)),
 un (.call 6 He [((.t 5), false)]),
 un (.asg 7 (.t 6)),
 ⟨some (7, true), .ld 8 2 true (.t 3)⟩,
 ⟨some (7, true), .call 9 He [((.t 8), false)]⟩,
 un (.pick 10 (.t 7) (.t 9) (.c (.bool false))),
 un (.asg 11 (.t 10)),
 ⟨some (11, true), .ld 12 2 true (.t 2)⟩,
 ⟨some (11, true), .ld 13 2 true (.t 3)⟩,
 ⟨some (11, true), .call 14 N9 [((.t 12), false), ((.t 13), false)]⟩,
 un (.pick 15 (.t 11) (.t 14) (.c (.bool false))),
 un (.asg 4 (.t 15))])
 (.drop [5, 6, 7, 8, 9, 10, 11, 12, 13, 14, 15] .ret)))
abbrev Aer : List RS := [.t 4]
theorem Agf : Ba Try.prog Qh 16 Afz Aer = true := by kernel_rfl
def Ag9 : ACode :=
 (.seq (.reg [un (.box 3 (.t 0)),
 un (.box 4 (.t 1)),
 un (.asg 6 (.c (.bool false)))])
 (.seq (.seq (.reg [un (.ld 10 2 true (.t 3)),
 un (.ld 11 2 true (.t 4)),
 un (.mov 12 (.t 2)),
 un (.call 13 Qd [((.t 10), false), ((.t 11), false), ((.t 12), false)]),
 un (.un 14 .not (.t 13))])
 (.drop [10, 11, 12, 13] (.cond (.t 14) (.seq (.reg [un (.asg 6 (.c (.bool false)))])
 .ret)
 .skip)))
 (.drop [10, 11, 12, 13, 14] (.seq (.reg [un (.ld 16 2 true (.t 3)),
 un (.ld 17 2 true (.t 4)),
 un (.mov 18 (.t 2)),
 un (.call 19 L7 [((.t 16), false), ((.t 17), false), ((.t 18), false)]),
 un (.asg 15 (.t 19)),
 un (.ext 20 (.t 15) 0),
 un (.ext 21 (.t 15) 1),
 un (.ext 22 (.t 15) 2),
 un (.asg 7 (.t 20)),
 un (.asg 8 (.t 21)),
 un (.asg 9 (.t 22))])
 (.drop [16, 17, 18, 19, 15, 20, 21, 22, 7, 8] (.seq (.reg [un (.mov 23 (.t 9)),
 un (.un 24 .not (.t 23)),
 un (.asg 6 (.t 24))])
 (.drop [23, 24] .ret)))))))
abbrev Ahy : List RS := [.t 6]
theorem Aij : Ba Try.prog Re 25 Ag9 Ahy = true := by kernel_rfl
def Abo : ACode :=
 (.seq (.reg [un (.box 4 (.t 1)),
 un (.box 5 (.t 2)),
 un (.asg 6 (.c (.bool false)))])
 (.seq (.reg [un (.mov 7 (.t 0)),
 un (.ld 8 2 true (.t 5)),
 un (.call 9 Hs [((.t 7), false), ((.t 8), false)]),
 un (.asg 10 (.t 9)),
 ⟨some (10, true), .ld 11 2 true (.t 4)⟩,
 ⟨some (10, true), .mov 12 (.t 0)⟩,
 ⟨some (10, true), .call 13 F3 [((.t 11), false), ((.t 12), false)]⟩,
 un (.pick 14 (.t 10) (.t 13) (.c (.bool false))),
 un (.asg 15 (.t 14)),
 ⟨some (15, true), .fadr 16 1 (.t 5)⟩,
 ⟨some (15, true), .ld 17 1 false (.t 16)⟩,
 ⟨some (15, true), .len 18 (.t 17)⟩,
 ⟨some (15, true), .fadr 19 0 (.t 4)⟩,
 ⟨some (15, true), .ld 20 1 false (.t 19)⟩,
 ⟨some (15, true), .call 21 Gv [((.t 18), false), ((.t 20), false)]⟩,
 ⟨some (15, true), .bin 22 .leq (.t 21) (.c (.int .i64 70000))⟩,
 un (.pick 23 (.t 15) (.t 22) (.c (.bool false))),
 un (.asg 6 (.t 23))])
 (.drop [7, 8, 9, 10, 11, 12, 13, 14, 15, 16, 17, 18, 19, 20, 21, 22, 23] .ret)))
abbrev Zq : List RS := [.t 6]
theorem Abd : Ba Try.prog Mf 24 Abo Zq = true := by kernel_rfl
def Ym : ACode :=
 (.seq (.reg [un (.box 2 (.t 0)),
 un (.box 3 (.t 1)),
 un (.asg 4 (.c (.bool false))),
 un (.asg 5 (.c (.bool false)))])
 (.seq (.seq (.reg [un (.ld 6 2 true (.t 2)),
 un (.call 7 D3 [((.t 6), false)]),
 un (.un 8 .not (.t 7)),
 un (.asg 9 (.t 8)),
 ⟨some (9, false), .ld 10 2 true (.t 3)⟩,
 ⟨some (9, false), .call 11 D3 [((.t 10), false)]⟩,
 ⟨some (9, false), .un 12 .not (.t 11)⟩,
 un (.pick 13 (.t 9) (.c (.bool true)) (.t 12))])
 (.drop [6, 7, 8, 9, 10, 11, 12] (.cond (.t 13) (.seq (.reg [un (.asg 4 (.c (.bool false))),
 un (.asg 5 (.c (.bool false)))])
 .ret)
 .skip)))
 (.drop [6, 7, 8, 9, 10, 11, 12, 13] (.seq (.dreg [(un (.ld 14 2 true (.t 2)), []),
 (un (.call 15 J2 [((.t 14), false)]), []),
 (un (.ld 16 2 true (.t 3)), [14, 15])]
 [un (.call 17 J2 [((.t 16), false)]),
 un (.call 18 K5 [((.t 15), false), ((.t 17), false)]),
 un (.asg 4 (.t 18)),
 un (.asg 5 (.c (.bool true)))])
 (.drop [14, 15, 16, 17, 18] .ret)))))
abbrev Y4 : List RS := [.t 4, .t 5]
theorem Yw : Ba Try.prog Lc 19 Ym Y4 = true := by kernel_rfl
def Ot : ACode :=
 (.frz [6] (.reg [un (.ld 14 2 true (.t 6)),
 un (.call 15 He [((.t 14), false)]),
 un (.asg 16 (.t 15)),
 ⟨some (16, true), .fadr 17 0 (.t 6)⟩,
 ⟨some (16, true), .ld 18 1 false (.t 17)⟩,
 ⟨some (16, true), .bin 19 .leq (.t 18) (.c (.int .i64 4))⟩,
 un (.pick 20 (.t 16) (.t 19) (.c (.bool false))),
 un (.asg 21 (.t 20)),
 ⟨some (21, true), .fadr 22 1 (.t 6)⟩,
 ⟨some (21, true), .ld 23 1 false (.t 22)⟩,
 ⟨some (21, true), .len 24 (.t 23)⟩,
 ⟨some (21, true), .bin 25 .gtr (.t 24) (.c (.int .i64 0))⟩,
 un (.pick 26 (.t 21) (.t 25) (.c (.bool false))),
 un (.asg 27 (.t 26)),
 ⟨some (27, true), .mov 28 (.t 5)⟩,
 ⟨some (27, true), .call 29 Gx [((.t 28), true), ((.c (.int .i64 2)), false)]⟩,
 un (.pick 30 (.t 27) (.t 29) (.c (.bool false)))]))
def Pm : ACode :=
 (.seq (.cut Ot)
 (.drop [14, 15, 16, 17, 18, 19, 20, 21, 22, 23, 24, 25, 26, 27, 28, 29] (.cond (.t 30) (.seq (.dreg [(un (.fadr 31 1 (.t 6)), [5]),
 (un (.ld 32 1 false (.t 31)), [5]),
 (un (.mov 33 (.t 5)), [31, 32]),
 (un (.fadr 34 1 (.t 6)), [31, 32, 33]),
 (un (.ld 35 1 false (.t 34)), [31, 32, 33]),
 (un (.len 36 (.t 35)), [31, 32, 33]),
 (un (.call 37 As [((.t 33), true), ((.t 36), false)]), [5, 31, 32]),
 (un (.iad 38 2 (.t 32) (.t 37)), []),
 (un (.ld 39 2 true (.t 38)), []),
 (un (.alc 7 (.agg [.int .i64 0, .nilsl 1])), [5, 31, 32, 33, 34, 35, 36, 37, 38, 39])]
 [un (.st 2 (.t 7) (.t 39))])
 (.drop [31, 32, 33, 34, 35, 36, 37, 38, 39] (.seq (.dreg [(un (.fadr 40 0 (.t 6)), [5]),
 (un (.ld 41 1 false (.t 40)), [5]),
 (un (.ld 42 2 true (.t 7)), [40, 41]),
 (un (.call 43 J0 [((.t 42), false)]), [40, 41]),
 (un (.fadr 44 1 (.t 6)), [5, 40, 41, 42, 43]),
 (un (.ld 45 1 false (.t 44)), [5, 40, 41, 42, 43]),
 (un (.mov 46 (.t 5)), [40, 41, 42, 43, 44, 45]),
 (un (.fadr 47 1 (.t 6)), [40, 41, 42, 43, 44, 45, 46]),
 (un (.ld 48 1 false (.t 47)), [40, 41, 42, 43, 44, 45, 46]),
 (un (.len 49 (.t 48)), [40, 41, 42, 43, 44, 45, 46]),
 (un (.call 50 As [((.t 46), true), ((.t 49), false)]), [5, 40, 41, 44, 45]),
 (un (.iad 51 2 (.t 45) (.t 50)), [40, 41]),
 (un (.ld 52 2 true (.t 51)), [40, 41]),
 (un (.call 53 J0 [((.t 52), false)]), [40, 41])]
 [un (.asg 2 (.t 41)),
 un (.st 2 (.t 3) (.t 43)),
 un (.st 2 (.t 4) (.t 53))])
 (.drop [40, 41, 42, 43, 44, 45, 46, 47, 48, 49, 50, 51, 52, 53] .ret))))
 .skip)))
def Sc : ACode :=
 (.seq (.reg [un (.asg 2 (.c (.int .i64 0))),
 un (.alc 3 (.agg [.int .i64 0, .nilsl 1])),
 un (.alc 4 (.agg [.int .i64 0, .nilsl 1]))])
 (.seq (.reg [un (.mov 9 (.t 0)),
 un (.bld 10 [.nilsl 1, .int .i64 0, .int .u64 0] [(0, 1, (.t 9))]),
 un (.box 11 (.t 10)),
 un (.asg 5 (.t 11))])
 (.drop [9, 10, 11] (.seq (.reg [un (.mov 12 (.t 5)),
 un (.call 13 Gn [((.t 12), true)]),
 un (.alc 6 (.agg [.int .i64 0, .nilsl 2])),
 un (.st 2 (.t 6) (.t 13))])
 (.drop [12, 13] (.seq (.cut Pm)
 (.drop [14, 15, 16, 17, 18, 19, 20, 21, 22, 23, 24, 25, 26, 27, 28, 29, 30, 31, 32, 33, 34, 35, 36, 37, 38, 39, 7, 40, 41, 42, 43, 44, 45, 46, 47, 48, 49, 50, 51, 52, 53] (.seq (.reg [un (.mov 54 (.t 5)),
 un (.bsl 55 1 [(.c (.int .i64 1)), (.c (.int .i64 2)), (.c (.int .i64 2)), (.c (.int .i64 3)), (.c (.int .i64 4)), (.c (.int .i64 0)), (.c (.int .i64 5))]),
 un (.mov 56 (.t 5)),
 un (.call 57 As [((.t 56), true), ((.c (.int .i64 24)), false)]),
 un (.bin 58 .quo (.t 57) (.c (.int .i64 11))),
 un (.bin 59 .add (.c (.int .i64 5)) (.t 58)),
 un (.slc 60 1 (.t 55) none (some (.t 59))),
 un (.call 61 A2 [((.t 54), true), ((.t 60), false)]),
 un (.asg 8 (.t 61))])
 (.drop [54, 55, 56, 57, 58, 59, 60, 61] (.seq (.reg [un (.mov 62 (.t 8)),
 un (.mov 63 (.t 5)),
 un (.mov 64 (.t 8)),
 un (.call 65 Dl [((.t 63), true), ((.t 64), false)]),
 un (.mov 66 (.t 5)),
 un (.mov 67 (.t 8)),
 un (.call 68 Dl [((.t 66), true), ((.t 67), false)]),
 un (.asg 2 (.t 62)),
 un (.st 2 (.t 3) (.t 65)),
 un (.st 2 (.t 4) (.t 68))])
 (.drop [62, 63, 64, 65, 66, 67, 68] .ret)))))))))))
abbrev Rr : List RS := [.t 2, .c 3 2 true, .c 4 2 true]
theorem Q6 : Ba Try.prog Gl 69 Sc Rr = true := by kernel_rfl
def Afd : ACode :=
 (.seq (.reg [un (.box 3 (.t 0)),
 un (.box 4 (.t 1)),
 un (.asg 6 (.c (.bool false))),
 un (.asg 7 (.c (.bool false)))])
 (.seq (.seq (.reg [un (.ld 8 2 true (.t 3)),
 un (.ld 9 2 true (.t 4)),
 un (.call 10 Qh [((.t 8), false), ((.t 9), false)]),
 un (.un 11 .not (.t 10))])
 (.drop [8, 9, 10] (.cond (.t 11) (.seq (.reg [un (.asg 6 (.c (.bool false))),
 un (.asg 7 (.c (.bool false)))])
 .ret)
 .skip)))
 (.drop [8, 9, 10, 11] (.seq (.reg [un (.ld 12 2 true (.t 3)),
 un (.ld 13 2 true (.t 4)),
 un (.mov 14 (.t 2)),
 un (.call 15 Re [((.t 12), false), ((.t 13), false), ((.t 14), false)]),
 un (.asg 6 (.t 15)),
 un (.asg 7 (.c (.bool true)))])
 (.drop [12, 13, 14, 15] .ret)))))
abbrev Afs : List RS := [.t 6, .t 7]
theorem Afu : Ba Try.prog P8 16 Afd Afs = true := by kernel_rfl
def X6 : ACode :=
 (.seq (.reg [un (.box 4 (.t 1)),
 un (.box 5 (.t 2)),
 un (.asg 6 (.c (.bool false))),
 un (.asg 7 (.c (.bool false)))])
 (.seq (.seq (.reg [un (.mov 11 (.t 0)),
 un (.ld 12 2 true (.t 4)),
 un (.ld 13 2 true (.t 5)),
 un (.call 14 Mf [((.t 11), false), ((.t 12), false), ((.t 13), false)]),
 un (.un 15 .not (.t 14))])
 (.drop [11, 12, 13, 14] (.cond (.t 15) (.seq (.reg [un (.asg 6 (.c (.bool false))),
 un (.asg 7 (.c (.bool false)))])
 .ret)
 .skip)))
 (.drop [11, 12, 13, 14, 15] (.seq (.reg [un (.mov 17 (.t 0)),
 un (.ld 18 2 true (.t 4)),
 un (.ld 19 2 true (.t 5)),
 un (.call 20 I3 [((.t 17), false), ((.t 18), false), ((.t 19), false)]),
 un (.asg 16 (.t 20)),
 un (.ext 21 (.t 16) 0),
 un (.ext 22 (.t 16) 1),
 un (.ext 23 (.t 16) 2),
 un (.asg 8 (.t 21)),
 un (.asg 9 (.t 22)),
 un (.asg 10 (.t 23))])
 (.drop [17, 18, 19, 20, 16, 21, 22, 23, 8, 9] (.seq (.reg [un (.mov 24 (.t 10)),
 un (.un 25 .not (.t 24)),
 un (.asg 6 (.t 25)),
 un (.asg 7 (.c (.bool true)))])
 (.drop [24, 25] .ret)))))))
abbrev Yk : List RS := [.t 6, .t 7]
theorem Yh : Ba Try.prog K7 26 X6 Yk = true := by kernel_rfl
def Agh : ACode :=
 (.seq (.reg [un (.box 2 (.t 0)),
 un (.box 3 (.t 1)),
 un (.asg 4 (.c (.bool false)))])
 (.seq (.reg [un (.ld 8 2 true (.t 2)),
 un (.ld 9 2 true (.t 3)),
 un (.call 10 Lc [((.t 8), false), ((.t 9), false)]),
 un (.asg 7 (.t 10)),
 un (.ext 11 (.t 7) 0),
 un (.ext 12 (.t 7) 1),
 un (.asg 5 (.t 11)),
 un (.asg 6 (.t 12))])
 (.drop [8, 9, 10, 7, 11, 12] (.seq (.reg [un (.mov 13 (.t 6)),
 un (.asg 14 (.t 13)),
 ⟨some (14, true), .mov 15 (.t 5)⟩,
 un (.pick 16 (.t 14) (.t 15) (.c (.bool false))),
 un (.asg 4 (.t 16))])
 (.drop [13, 14, 15, 16] .ret)))))
abbrev Af0 : List RS := [.t 4]
theorem Aem : Ba Try.prog Ps 17 Agh Af0 = true := by kernel_rfl
def Y3 : ACode :=
 (.seq (.reg [un (.box 2 (.t 0)),
 un (.box 3 (.t 1)),
 un (.asg 4 (.c (.bool false)))])
 (.seq (.reg [un (.ld 5 2 true (.t 2)),
 un (.call 6 D3 [((.t 5), false)]),
 un (.asg 7 (.t 6)),
 ⟨some (7, true), .ld 8 2 true (.t 3)⟩,
 ⟨some (7, true), .call 9 D3 [((.t 8), false)]⟩,
 un (.pick 10 (.t 7) (.t 9) (.c (.bool false))),
 un (.asg 11 (.t 10)),
 ⟨some (11, true), .ld 12 2 true (.t 2)⟩,
 ⟨some (11, true), .ld 13 2 true (.t 3)⟩,
 ⟨some (11, true), .call 14 Ps [((.t 12), false), ((.t 13), false)]⟩,
 un (.pick 15 (.t 11) (.t 14) (.c (.bool false))),
 un (.asg 4 (.t 15))])
 (.drop [5, 6, 7, 8, 9, 10, 11, 12, 13, 14, 15] .ret)))
abbrev Y5 : List RS := [.t 4]
theorem Yp : Ba Try.prog K8 16 Y3 Y5 = true := by kernel_rfl
def Agu : ACode :=
 (.seq (.reg [un (.box 3 (.t 0)),
 un (.box 4 (.t 1)),
 un (.asg 6 (.c (.bool false))),
 un (.asg 7 (.c (.bool false)))])
 (.seq (.seq (.reg [un (.ld 8 2 true (.t 3)),
 un (.ld 9 2 true (.t 4)),
 un (.call 10 K8 [((.t 8), false), ((.t 9), false)]),
 un (.un 11 .not (.t 10))])
 (.drop [8, 9, 10] (.cond (.t 11) (.seq (.reg [un (.asg 6 (.c (.bool false))),
 un (.asg 7 (.c (.bool false)))])
 .ret)
 .skip)))
 (.drop [8, 9, 10, 11] (.seq (.reg [un (.ld 12 2 true (.t 3)),
 un (.ld 13 2 true (.t 4)),
 un (.mov 14 (.t 2)),
 un (.call 15 Qi [((.t 12), false), ((.t 13), false), ((.t 14), false)]),
 un (.asg 6 (.t 15)),
 un (.asg 7 (.c (.bool true)))])
 (.drop [12, 13, 14, 15] .ret)))))
abbrev Aen : List RS := [.t 6, .t 7]
theorem Aep : Ba Try.prog Pr 16 Agu Aen = true := by kernel_rfl
def Qv : ACode :=
 (.seq (.reg [un (.mov 39 (.t 3)),
 un (.ld 40 2 true (.t 4)),
 un (.ld 41 2 true (.t 5)),
 un (.call 42 I9 [((.t 39), false), ((.t 40), false), ((.t 41), false)]),
 un (.asg 38 (.t 42)),
 un (.ext 43 (.t 38) 0),
 un (.ext 44 (.t 38) 1),
 un (.asg 8 (.t 43)),
 un (.asg 9 (.t 44))])
 (.drop [39, 40, 41, 42, 38, 43, 44] (.seq (.reg [un (.mov 45 (.t 6)),
 un (.mov 46 (.t 8)),
 un (.binb 47 .neq (.t 45) (.t 46)),
 un (.asg 48 (.t 47)),
 ⟨some (48, false), .mov 49 (.t 7)⟩,
 ⟨some (48, false), .mov 50 (.t 9)⟩,
 ⟨some (48, false), .binb 51 .neq (.t 49) (.t 50)⟩,
 un (.pick 52 (.t 48) (.c (.bool true)) (.t 51))])
 (.drop [45, 46, 47, 48, 49, 50, 51] (.cond (.t 52) (.seq (.reg [un (.asg 2 (.c (.bool false)))])
 .ret)
 .skip)))))
def Qy : ACode :=
 (.seq (.reg [un (.mov 54 (.t 3)),
 un (.ld 55 2 true (.t 5)),
 un (.ld 56 2 true (.t 4)),
 un (.call 57 G2 [((.t 54), false), ((.t 55), false), ((.t 56), false)]),
 un (.asg 53 (.t 57)),
 un (.ext 58 (.t 53) 0),
 un (.ext 59 (.t 53) 1),
 un (.asg 10 (.t 58)),
 un (.asg 11 (.t 59))])
 (.drop [54, 55, 56, 57, 53, 58, 59] (.seq (.reg [un (.mov 60 (.t 11)),
 un (.mov 61 (.t 7)),
 un (.binb 62 .neq (.t 60) (.t 61)),
 un (.asg 63 (.t 62)),
 ⟨some (63, false), .mov 64 (.t 10)⟩,
 ⟨some (63, false), .mov 65 (.t 6)⟩,
 ⟨some (63, false), .binb 66 .neq (.t 64) (.t 65)⟩,
 un (.pick 67 (.t 63) (.c (.bool true)) (.t 66))])
 (.drop [60, 61, 62, 63, 64, 65, 66] (.cond (.t 67) (.seq (.reg [un (.asg 2 (.c (.bool false)))])
 .ret)
 .skip)))))
def Qu : ACode :=
 (.reg [un (.mov 68 (.t 7)),
 un (.asg 69 (.t 68)),
 ⟨some (69, true), .fadr 70 0 (.t 4)⟩,
 ⟨some (69, true), .ld 71 1 false (.t 70)⟩,
 ⟨some (69, true), .bin 72 .eql (.t 71) (.c (.int .i64 1))⟩,
 un (.pick 73 (.t 69) (.t 72) (.c (.bool false)))])
def Qz : ACode :=
 (.seq (.cut Qu)
 (.drop [68, 69, 70, 71, 72] (.cond (.t 73) (.seq (.reg [un (.mov 74 (.t 3)),
 un (.ld 75 2 true (.t 5)),
 un (.bsl 76 2 [(.t 75)]),
 un (.bld 77 [.int .i64 0, .nilsl 2] [(0, 1, (.t 74)), (1, 1, (.t 76))]),
 un (.alc 12 (.agg [.int .i64 0, .nilsl 2])),
 un (.st 2 (.t 12) (.t 77))])
 (.drop [74, 75, 76, 77] (.seq (.reg [un (.ld 79 2 true (.t 12)),
 un (.ld 80 2 true (.t 12)),
 un (.fadr 81 1 (.t 4)),
 un (.ld 82 1 false (.t 81)),
 un (.call 83 Pr [((.t 79), false), ((.t 80), false), ((.t 82), false)]),
 un (.asg 78 (.t 83)),
 un (.ext 84 (.t 78) 0),
 un (.ext 85 (.t 78) 1),
 un (.asg 13 (.t 84)),
 un (.asg 14 (.t 85))])
 (.drop [79, 80, 81, 82, 83, 78, 84, 85] (.seq (.reg [un (.ld 87 2 true (.t 12)),
 un (.ld 88 2 true (.t 12)),
 un (.fadr 89 1 (.t 4)),
 un (.ld 90 1 false (.t 89)),
 un (.call 91 P8 [((.t 87), false), ((.t 88), false), ((.t 90), false)]),
 un (.asg 86 (.t 91)),
 un (.ext 92 (.t 86) 0),
 un (.ext 93 (.t 86) 1),
 un (.asg 15 (.t 92)),
 un (.asg 16 (.t 93))])
 (.drop [87, 88, 89, 90, 91, 86, 92, 93] (.seq (.reg [un (.mov 94 (.t 13)),
 un (.mov 95 (.t 15)),
 un (.binb 96 .neq (.t 94) (.t 95)),
 un (.asg 97 (.t 96)),
 ⟨some (97, false), .mov 98 (.t 14)⟩,
 ⟨some (97, false), .mov 99 (.t 16)⟩,
 ⟨some (97, false), .binb 100 .neq (.t 98) (.t 99)⟩,
 un (.pick 101 (.t 97) (.c (.bool true)) (.t 100)),
 un (.asg 102 (.t 101)),
 ⟨some (102, false), .mov 103 (.t 14)⟩,
 ⟨some (102, false), .un 104 .not (.t 103)⟩,
 un (.pick 105 (.t 102) (.c (.bool true)) (.t 104)),
 un (.asg 106 (.t 105)),
 ⟨some (106, false), .mov 107 (.t 13)⟩,
 ⟨some (106, false), .mov 108 (.t 6)⟩,
 ⟨some (106, false), .binb 109 .neq (.t 107) (.t 108)⟩,
 un (.pick 110 (.t 106) (.c (.bool true)) (.t 109))])
 (.drop [94, 95, 96, 97, 98, 99, 100, 101, 102, 103, 104, 105, 106, 107, 108, 109] (.cond (.t 110) (.seq (.reg [un (.asg 2 (.c (.bool false)))])
 .ret)
 .skip)))))))))
 .skip)))
def Qw : ACode :=
 (.reg [un (.mov 111 (.t 7)),
 un (.asg 112 (.t 111)),
 ⟨some (112, true), .fadr 113 0 (.t 4)⟩,
 ⟨some (112, true), .ld 114 1 false (.t 113)⟩,
 ⟨some (112, true), .bin 115 .geq (.t 114) (.c (.int .i64 1))⟩,
 un (.pick 116 (.t 112) (.t 115) (.c (.bool false))),
 un (.asg 117 (.t 116)),
 ⟨some (117, true), .mov 118 (.t 3)⟩,
 ⟨some (117, true), .bin 119 .leq (.t 118) (.c (.int .i64 3))⟩,
 un (.pick 120 (.t 117) (.t 119) (.c (.bool false)))])
def Qx : ACode :=
 (.seq (.reg [un (.mov 128 (.t 3)),
 un (.ld 129 2 true (.t 5)),
 un (.call 130 Mj [((.t 128), false), ((.t 129), false)]),
 un (.asg 127 (.t 130)),
 un (.ext 131 (.t 127) 0),
 un (.ext 132 (.t 127) 1),
 un (.alc 19 (.agg [.int .i64 0, .nilsl 1])),
 un (.st 2 (.t 19) (.t 131)),
 un (.asg 20 (.t 132))])
 (.drop [128, 129, 130, 127, 131, 132] (.seq (.reg [un (.mov 133 (.t 18)),
 un (.mov 134 (.t 20)),
 un (.binb 135 .neq (.t 133) (.t 134)),
 un (.asg 136 (.t 135)),
 ⟨some (136, false), .mov 137 (.t 18)⟩,
 ⟨some (136, false), .asg 138 (.t 137)⟩,
 ⟨some (138, true), .fadr 139 0 (.t 17)⟩,
 ⟨some (138, true), .ld 140 1 false (.t 139)⟩,
 ⟨some (138, true), .fadr 141 0 (.t 19)⟩,
 ⟨some (138, true), .ld 142 1 false (.t 141)⟩,
 ⟨some (138, true), .bin 143 .neq (.t 140) (.t 142)⟩,
 ⟨some (138, true), .asg 144 (.t 143)⟩,
 ⟨some (144, false), .fadr 145 1 (.t 17)⟩,
 ⟨some (144, false), .ld 146 1 false (.t 145)⟩,
 ⟨some (144, false), .fadr 147 1 (.t 19)⟩,
 ⟨some (144, false), .ld 148 1 false (.t 147)⟩,
 ⟨some (144, false), .call 149 Of [((.t 146), false), ((.t 148), false)]⟩,
 ⟨some (144, false), .un 150 .not (.t 149)⟩,
 ⟨some (138, true), .pick 151 (.t 144) (.c (.bool true)) (.t 150)⟩,
 ⟨some (136, false), .pick 152 (.t 138) (.t 151) (.c (.bool false))⟩,
 un (.pick 153 (.t 136) (.c (.bool true)) (.t 152))])
 (.drop [133, 134, 135, 136, 137, 138, 139, 140, 141, 142, 143, 144, 145, 146, 147, 148, 149, 150, 151, 152] (.cond (.t 153) (.seq (.reg [un (.asg 2 (.c (.bool false)))])
 .ret)
 .skip)))))
def T4 : ACode :=
 (.seq (.reg [un (.asg 2 (.c (.bool false)))])
 (.seq (.seq (.reg [un (.mov 23 (.t 0)),
 un (.call 24 Se [((.t 23), false)])])
 (.drop [23] (.cond (.t 24) (.seq (.reg [un (.asg 2 (.c (.bool true)))])
 .ret)
 .skip)))
 (.drop [23, 24] (.seq (.reg [un (.mov 26 (.t 0)),
 un (.call 27 Gl [((.t 26), false)]),
 un (.asg 25 (.t 27)),
 un (.ext 28 (.t 25) 0),
 un (.ext 29 (.t 25) 1),
 un (.ext 30 (.t 25) 2),
 un (.alc 4 (.agg [.int .i64 0, .nilsl 1])),
 un (.alc 5 (.agg [.int .i64 0, .nilsl 1])),
 un (.asg 3 (.t 28)),
 un (.st 2 (.t 4) (.t 29)),
 un (.st 2 (.t 5) (.t 30))])
 (.drop [26, 27, 25, 28, 29, 30] (.seq (.reg [un (.mov 32 (.t 3)),
 un (.ld 33 2 true (.t 4)),
 un (.ld 34 2 true (.t 5)),
 un (.call 35 G2 [((.t 32), false), ((.t 33), false), ((.t 34), false)]),
 un (.asg 31 (.t 35)),
 un (.ext 36 (.t 31) 0),
 un (.ext 37 (.t 31) 1),
 un (.asg 6 (.t 36)),
 un (.asg 7 (.t 37))])
 (.drop [32, 33, 34, 35, 31, 36, 37] (.seq (.cut Qv)
 (.drop [39, 40, 41, 42, 38, 43, 44, 8, 9, 45, 46, 47, 48, 49, 50, 51, 52] (.seq (.cut Qy)
 (.drop [54, 55, 56, 57, 53, 58, 59, 10, 11, 60, 61, 62, 63, 64, 65, 66, 67] (.seq (.cut Qz)
 (.drop [68, 69, 70, 71, 72, 73, 74, 75, 76, 77, 12, 79, 80, 81, 82, 83, 78, 84, 85, 13, 14, 87, 88, 89, 90, 91, 86, 92, 93, 15, 16, 94, 95, 96, 97, 98, 99, 100, 101, 102, 103, 104, 105, 106, 107, 108, 109, 110] (.seq (.seq (.cut Qw)
 (.drop [111, 112, 113, 114, 115, 116, 117, 118, 119] (.cond (.t 120) (.seq (.reg [un (.mov 122 (.t 3)),
 un (.ld 123 2 true (.t 5)),
 un (.call 124 M0 [((.t 122), false), ((.t 123), false)]),
 un (.asg 121 (.t 124)),
 un (.ext 125 (.t 121) 0),
 un (.ext 126 (.t 121) 1),
 un (.alc 17 (.agg [.int .i64 0, .nilsl 1])),
 un (.st 2 (.t 17) (.t 125)),
 un (.asg 18 (.t 126))])
 (.drop [122, 123, 124, 121, 125, 126] (.seq (.cut Qx)
 (.drop [128, 129, 130, 127, 131, 132, 19, 20, 133, 134, 135, 136, 137, 138, 139, 140, 141, 142, 143, 144, 145, 146, 147, 148, 149, 150, 151, 152, 153] (.seq (.reg [un (.mov 154 (.t 18))])
 (.cond (.t 154) (.seq (.reg [un (.mov 156 (.t 3)),
 un (.ld 157 2 true (.t 4)),
 un (.ld 158 2 true (.t 17)),
 un (.call 159 K7 [((.t 156), false), ((.t 157), false), ((.t 158), false)]),
 un (.asg 155 (.t 159)),
 un (.ext 160 (.t 155) 0),
 un (.ext 161 (.t 155) 1),
 un (.asg 21 (.t 160)),
 un (.asg 22 (.t 161))])
 (.drop [156, 157, 158, 159, 155, 160, 161] (.seq (.reg [un (.mov 162 (.t 22)),
 un (.asg 163 (.t 162)),
 ⟨some (163, true), .mov 164 (.t 21)⟩,
 ⟨some (163, true), .mov 165 (.t 6)⟩,
 ⟨some (163, true), .binb 166 .neq (.t 164) (.t 165)⟩,
 un (.pick 167 (.t 163) (.t 166) (.c (.bool false)))])
 (.drop [162, 163, 164, 165, 166] (.cond (.t 167) (.seq (.reg [un (.asg 2 (.c (.bool false)))])
 .ret)
 .skip)))))
 .skip))))))
 .skip)))
 (.drop [111, 112, 113, 114, 115, 116, 117, 118, 119, 120, 122, 123, 124, 121, 125, 126, 17, 18, 128, 129, 130, 127, 131, 132, 19, 20, 133, 134, 135, 136, 137, 138, 139, 140, 141, 142, 143, 144, 145, 146, 147, 148, 149, 150, 151, 152, 153, 154, 156, 157, 158, 159, 155, 160, 161, 21, 22, 162, 163, 164, 165, 166, 167] (.seq (.reg [un (.asg 2 (.c (.bool true)))])
 .ret))))))))))))))))
abbrev Tt : List RS := [.t 2]
theorem Ub : Ba Try.prog Mo 168 T4 Tt = true := by kernel_rfl
end Go.Proofs.Ytcpgnfohmeineaa.Ax
