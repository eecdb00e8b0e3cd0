/-
  The small code of the functions, written by program; that the program's code is this one, the kernel looks at.
-/
import Derived.Test.YtoaojijoefljaaaAx3
import Derived.Test.YtoaojijoefljaaaProg
import Derived.KernelRfl
import Derived.Test.YtoaojijoefljaaaNum
namespace Go.Proofs.Ytoaojijoefljaaa.Ax
open Go
set_option maxRecDepth 100000
def Q1 : ACode :=
 (.seq (.reg [un (.mov 32 (.t 4)),
 un (.bin 33 .eql (.t 32) (.c (.int .i64 4))),
 un (.asg 34 (.t 33)),
 ⟨some (34, true), .fadr 35 0 (.t 7)⟩,
 ⟨some (34, true), .ld 36 1 false (.t 35)⟩,
 ⟨some (34, true), .bin 37 .eql (.t 36) (.c (.int .i64 3))⟩,
 un (.pick 38 (.t 34) (.t 37) (.c (.bool false)))])
 (.drop [32, 33, 34, 35, 36, 37] (.cond (.t 38) (.reg [un (.fadr 39 0 (.t 7)),
 un (.st 1 (.t 39) (.c (.int .i64 2)))])
 .skip)))
def Jq : ACode :=
 (.seq (.seq (.reg [un (.mov 44 (.t 8)),
 un (.bin 45 .gtr (.t 44) (.c (.int .i64 0)))])
 (.drop [44] (.cond (.t 45) .skip
 (.exit 2))))
 (.drop [44, 45] (.seq (.block 3 (.dreg [(un (.fadr 48 1 (.t 7)), [132, 52]),
 (un (.ld 49 1 false (.t 48)), [132, 52]),
 (un (.mov 50 (.t 0)), [48, 49]),
 (un (.mov 51 (.t 4)), [48, 49, 50]),
 (un (.call 52 Ay [((.t 50), true), ((.t 51), false)]), [132, 48, 49]),
 (un (.bsl 53 1 [(.t 52)]), [48, 49])]
 [un (.app 54 1 (.t 49) (.t 53)),
 un (.fadr 55 1 (.t 7)),
 un (.st 1 (.t 55) (.t 54))]))
 (.drop [48, 49, 50, 51, 52, 53, 54, 55] (.reg [un (.mov 46 (.t 8)),
 un (.bin 47 .sub (.t 46) (.c (.int .i64 1))),
 un (.asg 8 (.t 47))])))))
def J6 : ACode :=
 (.seq (.seq (.reg [un (.mov 24 (.t 6)),
 un (.bin 25 .gtr (.t 24) (.c (.int .i64 0)))])
 (.drop [24] (.cond (.t 25) .skip
 (.exit 0))))
 (.drop [24, 25] (.seq (.block 1 (.seq (.reg [un (.mov 28 (.t 0)),
 un (.bsl 29 1 [(.c (.int .i64 0)), (.c (.int .i64 1)), (.c (.int .i64 2)), (.c (.int .i64 2)), (.c (.int .i64 3))]),
 un (.call 30 A9 [((.t 28), true), ((.t 29), false)]),
 un (.bld 31 [.int .i64 0, .nilsl 1] [(0, 1, (.t 30))]),
 un (.alc 7 (.agg [.int .i64 0, .nilsl 1])),
 un (.st 2 (.t 7) (.t 31))])
 (.drop [28, 29, 30, 31] (.seq (.cut Q1)
 (.drop [32, 33, 34, 35, 36, 37, 38, 39] (.seq (.seq (.reg [un (.mov 40 (.t 4)),
 un (.fadr 41 0 (.t 7)),
 un (.ld 42 1 false (.t 41)),
 un (.call 43 Fr [((.t 40), false), ((.t 42), false)]),
 un (.asg 8 (.t 43))])
 (.drop [40, 41, 42, 43] (.block 2 (.loop Jq))))
 (.drop [40, 41, 42, 43, 8, 44, 45, 48, 49, 50, 51, 52, 53, 54, 55, 46, 47] (.reg [un (.fadr 56 1 (.t 5)),
 un (.ld 57 1 false (.t 56)),
 un (.ld 58 2 true (.t 7)),
 un (.bsl 59 2 [(.t 58)]),
 un (.app 60 2 (.t 57) (.t 59)),
 un (.fadr 61 1 (.t 5)),
 un (.st 1 (.t 61) (.t 60))]))))))))
 (.drop [28, 29, 30, 31, 7, 32, 33, 34, 35, 36, 37, 38, 39, 40, 41, 42, 43, 8, 44, 45, 48, 49, 50, 51, 52, 53, 54, 55, 46, 47, 56, 57, 58, 59, 60, 61] (.reg [un (.mov 26 (.t 6)),
 un (.bin 27 .sub (.t 26) (.c (.int .i64 1))),
 un (.asg 6 (.t 27))])))))
def Jr : ACode :=
 (.seq (.seq (.dreg [(un (.fadr 116 1 (.t 5)), [132]),
 (un (.ld 117 1 false (.t 116)), [132]),
 (un (.len 118 (.t 117)), [132]),
 (un (.mov 119 (.t 0)), [116, 117, 118]),
 (un (.call 120 Ay [((.t 119), true), ((.c (.int .i64 2)), false)]), [132, 116, 117, 118]),
 (un (.bin 121 .add (.c (.int .i64 4)) (.t 120)), [116, 117, 118])]
 [un (.bin 122 .lss (.t 118) (.t 121))])
 (.drop [116, 117, 118, 119, 120, 121] (.cond (.t 122) .skip
 (.exit 5))))
 (.drop [116, 117, 118, 119, 120, 121, 122] (.block 6 (.dregl [(0, .fadr 123 1 (.t 5)),
 (1, .ld 124 1 false (.t 123)),
 (2, .mov 125 (.t 4))]
 (.alt 3 (.mk 126 1 (.int .i64 0) (.t 125)) [0, 1, 2] [] (.alt 4 (.bld 127 [.int .i64 0, .nilsl 1] [(0, 1, (.c (.int .i64 1))), (1, 1, (.t 126))]) [0, 1] [] (.alt 5 (.bsl 128 2 [(.t 127)]) [0, 1] [] (.alt 6 (.app 129 2 (.t 124) (.t 128)) [0, 1] [124] (.alt 7 (.fadr 130 1 (.t 5)) [] [] (.alt 8 (.st 1 (.t 130) (.t 129)) [] [] .nil .nil) .nil) .nil) .nil) .nil) .nil)))))
def U0 : ACode :=
 (.seq (.reg [un (.alc 2 (.agg [.int .i64 0, .nilsl 2]))])
 (.seq (.seq (.reg [un (.mov 9 (.t 0)),
 un (.call 10 Ih [((.t 9), true), ((.c (.int .i64 4)), false)]),
 un (.un 11 .not (.t 10))])
 (.drop [9, 10] (.cond (.t 11) (.seq (.reg [un (.mov 12 (.t 0)),
 un (.call 13 Ay [((.t 12), true), ((.c (.int .i64 17)), false)]),
 un (.call 14 Nx [((.t 13), false)]),
 un (.alc 3 (.agg [.int .i64 0, .nilsl 2])),
 un (.st 2 (.t 3) (.t 14))])
 (.drop [12, 13, 14] (.seq (.reg [un (.ld 15 2 true (.t 3)),
 un (.st 2 (.t 2) (.t 15))])
 (.drop [15] .ret))))
 .skip)))
 (.drop [9, 10, 11, 12, 13, 14, 3, 15] (.seq (.reg [un (.mov 16 (.t 0)),
 un (.bsl 17 1 [(.c (.int .i64 2)), (.c (.int .i64 2)), (.c (.int .i64 3)), (.c (.int .i64 3)), (.c (.int .i64 4))]),
 un (.call 18 A9 [((.t 16), true), ((.t 17), false)]),
 un (.asg 4 (.t 18))])
 (.drop [16, 17, 18] (.seq (.reg [un (.mov 19 (.t 4)),
 un (.bld 20 [.int .i64 0, .nilsl 2] [(0, 1, (.t 19))]),
 un (.alc 5 (.agg [.int .i64 0, .nilsl 2])),
 un (.st 2 (.t 5) (.t 20))])
 (.drop [19, 20] (.seq (.seq (.reg [un (.mov 21 (.t 0)),
 un (.bsl 22 1 [(.c (.int .i64 1)), (.c (.int .i64 1)), (.c (.int .i64 2))]),
 un (.call 23 A9 [((.t 21), true), ((.t 22), false)]),
 un (.asg 6 (.t 23))])
 (.drop [21, 22, 23] (.block 0 (.loop J6))))
 (.drop [21, 22, 23, 6, 24, 25, 28, 29, 30, 31, 7, 32, 33, 34, 35, 36, 37, 38, 39, 40, 41, 42, 43, 8, 44, 45, 48, 49, 50, 51, 52, 53, 54, 55, 46, 47, 56, 57, 58, 59, 60, 61, 26, 27] (.seq (.seq (.reg [un (.mov 62 (.t 0)),
 un (.call 63 Ay [((.t 62), true), ((.c (.int .i64 16)), false)])])
 (.drop [62] (.block 4 (.seq (.reg [un (.bin 65 .eql (.t 63) (.c (.int .i64 0))),
 un (.asg 64 (.t 65))])
 (.drop [65] (.cond (.t 64) (.reg [un (.mov 66 (.t 0)),
 un (.mov 67 (.t 4)),
 un (.bin 68 .add (.t 67) (.c (.int .i64 1))),
 un (.bsl 69 1 [(.c (.int .i64 0)), (.c (.int .i64 9)), (.t 68)]),
 un (.call 70 A9 [((.t 66), true), ((.t 69), false)]),
 un (.fadr 71 0 (.t 5)),
 un (.st 1 (.t 71) (.t 70))])
 (.seq (.reg [un (.bin 73 .eql (.t 63) (.c (.int .i64 1))),
 un (.asg 72 (.t 73))])
 (.drop [73] (.cond (.t 72) (.dregl [(0, .fadr 74 1 (.t 5)),
 (1, .ld 75 1 false (.t 74)),
 (2, .fadr 76 1 (.t 5)),
 (3, .ld 77 1 false (.t 76)),
 (4, .iad 78 2 (.t 77) (.c (.int .i64 0))),
 (5, .fadr 79 1 (.t 78)),
 (6, .ld 80 1 false (.t 79))]
 (.alt 7 (.bsl 81 1 [(.c (.int .i64 0))]) [0, 1, 2, 3, 4, 5, 6] [] (.alt 8 (.app 82 1 (.t 80) (.t 81)) [0, 1, 2, 3, 4, 5, 6] [80] (.alt 9 (.iad 83 2 (.t 75) (.c (.int .i64 0))) [0, 1] [] (.alt 10 (.fadr 84 1 (.t 83)) [] [] (.alt 11 (.st 1 (.t 84) (.t 82)) [] [] .nil .nil) .nil) .nil) .nil) .nil))
 (.seq (.reg [un (.bin 86 .eql (.t 63) (.c (.int .i64 2))),
 un (.asg 85 (.t 86))])
 (.drop [86] (.cond (.t 85) (.dregl [(0, .fadr 87 1 (.t 5)),
 (1, .ld 88 1 false (.t 87)),
 (2, .iad 89 2 (.t 88) (.c (.int .i64 0))),
 (3, .fadr 90 1 (.t 89)),
 (4, .ld 91 1 false (.t 90)),
 (5, .mov 92 (.t 0)),
 (6, .fadr 93 1 (.t 5)),
 (7, .ld 94 1 false (.t 93)),
 (8, .iad 95 2 (.t 94) (.c (.int .i64 0))),
 (9, .fadr 96 1 (.t 95)),
 (10, .ld 97 1 false (.t 96)),
 (13, .mov 100 (.t 0)),
 (14, .mov 101 (.t 4))]
 (.alt 11 (.len 98 (.t 97)) [0, 1, 2, 3, 4, 5, 6, 7, 8, 9, 10, 13, 14] [] (.alt 12 (.call 99 Ay [((.t 92), true), ((.t 98), false)]) [0, 1, 2, 3, 4, 5, 13, 14] [] (.alt 15 (.bsl 102 1 [(.c (.int .i64 (-1))), (.t 101)]) [0, 1, 2, 3, 4, 13, 14] [] (.alt 16 (.call 103 A9 [((.t 100), true), ((.t 102), false)]) [0, 1, 2, 3, 4, 13] [] (.alt 17 (.iad 104 1 (.t 91) (.t 99)) [0, 1, 2, 3, 4] [] (.alt 18 (.st 1 (.t 104) (.t 103)) [] [] .nil .nil) .nil) .nil) .nil) (.alt 15 (.bsl 102 1 [(.c (.int .i64 (-1))), (.t 101)]) [0, 1, 2, 3, 4, 5, 13, 14] [] (.alt 12 (.call 99 Ay [((.t 92), true), ((.t 98), false)]) [0, 1, 2, 3, 4, 5, 13] [] (.alt 16 (.call 103 A9 [((.t 100), true), ((.t 102), false)]) [0, 1, 2, 3, 4, 13] [] (.alt 17 (.iad 104 1 (.t 91) (.t 99)) [0, 1, 2, 3, 4] [] (.alt 18 (.st 1 (.t 104) (.t 103)) [] [] .nil .nil) .nil) .nil) .nil) .nil)) (.alt 15 (.bsl 102 1 [(.c (.int .i64 (-1))), (.t 101)]) [0, 1, 2, 3, 4, 5, 6, 7, 8, 9, 10, 13, 14] [] (.alt 11 (.len 98 (.t 97)) [0, 1, 2, 3, 4, 5, 6, 7, 8, 9, 10, 13] [] (.alt 12 (.call 99 Ay [((.t 92), true), ((.t 98), false)]) [0, 1, 2, 3, 4, 5, 13] [] (.alt 16 (.call 103 A9 [((.t 100), true), ((.t 102), false)]) [0, 1, 2, 3, 4, 13] [] (.alt 17 (.iad 104 1 (.t 91) (.t 99)) [0, 1, 2, 3, 4] [] (.alt 18 (.st 1 (.t 104) (.t 103)) [] [] .nil .nil) .nil) .nil) .nil) .nil) .nil)))
 (.seq (.reg [un (.bin 106 .eql (.t 63) (.c (.int .i64 3))),
 un (.asg 105 (.t 106))])
 (.drop [106] (.cond (.t 105) (.dregl [(0, .fadr 107 1 (.t 5)),
 (1, .ld 108 1 false (.t 107)),
 (2, .mov 109 (.t 0))]
 (.alt 3 (.bsl 110 1 [(.c (.int .i64 (-1))), (.c (.int .i64 4))]) [0, 1, 2] [] (.alt 4 (.call 111 A9 [((.t 109), true), ((.t 110), false)]) [0, 1, 2] [] (.alt 5 (.iad 112 2 (.t 108) (.c (.int .i64 0))) [0, 1] [] (.alt 6 (.fadr 113 0 (.t 112)) [] [] (.alt 7 (.st 1 (.t 113) (.t 111)) [] [] .nil .nil) .nil) .nil) .nil) .nil))
 (.seq (.reg [un (.bin 115 .eql (.t 63) (.c (.int .i64 4))),
 un (.asg 114 (.t 115))])
 (.drop [115] (.cond (.t 114) (.block 5 (.loop Jr))
 .skip))))))))))))))))))
 (.drop [62, 63, 65, 64, 66, 67, 68, 69, 70, 71, 73, 72, 74, 75, 76, 77, 78, 79, 80, 81, 82, 83, 84, 86, 85, 87, 88, 89, 90, 91, 92, 93, 94, 95, 96, 97, 98, 99, 100, 101, 102, 103, 104, 106, 105, 107, 108, 109, 110, 111, 112, 113, 115, 114, 116, 117, 118, 119, 120, 121, 122, 123, 124, 125, 126, 127, 128, 129, 130] (.seq (.reg [un (.ld 131 2 true (.t 5)),
 un (.st 2 (.t 2) (.t 131))])
 (.drop [131] .ret)))))))))))))
abbrev Tt : List RS := [.c 2 2 true]
theorem Un : Bi Try.prog H7 132 U0 Tt = true := by kernel_rfl
def Rh : ACode :=
 (.seq (.reg [un (.ld 6 2 true (.t 2)),
 un (.call 7 E8 [((.t 6), false)]),
 un (.un 8 .not (.t 7)),
 un (.asg 9 (.t 8)),
 ⟨some (9, false), .fadr 10 0 (.t 2)⟩,
 ⟨some (9, false), .ld 11 1 false (.t 10)⟩,
 ⟨some (9, false), .mov 12 (.t 1)⟩,
 ⟨some (9, false), .call 13 Dn [((.t 11), false), ((.t 12), false)]⟩,
 ⟨some (9, false), .un 14 .not (.t 13)⟩,
 un (.pick 15 (.t 9) (.c (.bool true)) (.t 14))])
 (.drop [6, 7, 8, 9, 10, 11, 12, 13, 14] (.cond (.t 15) (.seq (.reg [un (.asg 4 (.c (.nilp))),
 un (.asg 5 (.c (.bool false)))])
 .ret)
 .skip)))
def U6 : ACode :=
 (.seq (.reg [un (.box 2 (.t 0)),
 un (.asg 4 (.c (.nilp))),
 un (.asg 5 (.c (.bool false)))])
 (.seq (.cut Rh)
 (.drop [6, 7, 8, 9, 10, 11, 12, 13, 14, 15] (.seq (.reg [un (.fadr 16 0 (.t 2)),
 un (.ld 17 1 false (.t 16)),
 un (.fadr 18 1 (.t 2)),
 un (.ld 19 1 false (.t 18)),
 un (.mov 20 (.t 1)),
 un (.call 21 Oj [((.t 17), false), ((.t 19), false), ((.t 20), false)]),
 un (.ext 22 (.t 21) 0),
 un (.ext 23 (.t 21) 1),
 un (.asg 4 (.t 22)),
 un (.asg 5 (.t 23))])
 (.drop [16, 17, 18, 19, 20, 21, 22, 23] .ret)))))
abbrev Tr : List RS := [.t 4, .t 5]
theorem Tw : Bi Try.prog Db 24 U6 Tr = true := by kernel_rfl
def Ah9 : ACode :=
 (.seq (.reg [un (.box 2 (.t 0)),
 un (.box 3 (.t 1)),
 un (.asg 4 (.c (.bool false)))])
 (.seq (.reg [un (.ld 5 2 true (.t 2)),
 un (.call 6 I7 [((.t 5), false)]),
 un (.asg 7 (.t 6)),
 ⟨some (7, true), .fadr 8 0 (.t 2)⟩,
 ⟨some (7, true), .ld 9 1 false (.t 8)⟩,
 ⟨some (7, true), .fadr 10 0 (.t 3)⟩,
 ⟨some (7, true), .ld 11 1 false (.t 10)⟩,
 ⟨some (7, true), .call 12 F7 [((.t 9), false), ((.t 11), false)]⟩,
 un (.pick 13 (.t 7) (.t 12) (.c (.bool false))),
 un (.asg 14 (.t 13)),
 ⟨some (14, true), .fadr 15 0 (.t 2)⟩,
 ⟨some (14, true), .ld 16 1 false (.t 15)⟩,
 ⟨some (14, true), .ld 17 2 true (.t 3)⟩,
 ⟨some (14, true), .call 18 O6 [((.t 16), false), ((.t 17), false)]⟩,
 un (.pick 19 (.t 14) (.t 18) (.c (.bool false))),
 un (.asg 4 (.t 19))])
 (.drop [5, 6, 7, 8, 9, 10, 11, 12, 13, 14, 15, 16, 17, 18, 19] .ret)))
abbrev Ah4 : List RS := [.t 4]
theorem Ahh : Bi Try.prog Nc 20 Ah9 Ah4 = true := by kernel_rfl
def Hw : ACode :=
 (.seq (.seq (.reg [un (.mov 18 (.t 6)),
 un (.bin 19 .gtr (.t 18) (.c (.int .i64 0)))])
 (.drop [18] (.cond (.t 19) .skip
 (.exit 0))))
 (.drop [18, 19] (.seq (.block 1 (.dreg [(un (.fadr 22 1 (.t 5)), [68, 26]),
 (un (.ld 23 1 false (.t 22)), [68, 26]),
 (un (.mov 24 (.t 0)), [22, 23]),
 (un (.mov 25 (.t 1)), [22, 23, 24]),
 (un (.call 26 Ay [((.t 24), true), ((.t 25), false)]), [68, 22, 23]),
 (un (.bsl 27 1 [(.t 26)]), [22, 23])]
 [un (.app 28 1 (.t 23) (.t 27)),
 un (.fadr 29 1 (.t 5)),
 un (.st 1 (.t 29) (.t 28))]))
 (.drop [22, 23, 24, 25, 26, 27, 28, 29] (.reg [un (.mov 20 (.t 6)),
 un (.bin 21 .sub (.t 20) (.c (.int .i64 1))),
 un (.asg 6 (.t 21))])))))
def Ru : ACode :=
 (.seq (.reg [un (.alc 4 (.agg [.int .i64 0, .nilsl 1]))])
 (.seq (.reg [un (.mov 7 (.t 1)),
 un (.call 8 Qj [((.t 7), false), ((.c (.int .i64 1)), false)]),
 un (.call 9 N7 [((.t 8), false), ((.c (.int .i64 4)), false)]),
 un (.asg 1 (.t 9))])
 (.drop [7, 8, 9] (.seq (.reg [un (.mov 10 (.t 0)),
 un (.bsl 11 1 [(.c (.int .i64 1)), (.c (.int .i64 1)), (.c (.int .i64 2)), (.c (.int .i64 2)), (.c (.int .i64 2)), (.c (.int .i64 3)), (.c (.int .i64 0))]),
 un (.call 12 A9 [((.t 10), true), ((.t 11), false)]),
 un (.bld 13 [.int .i64 0, .nilsl 1] [(0, 1, (.t 12))]),
 un (.alc 5 (.agg [.int .i64 0, .nilsl 1])),
 un (.st 2 (.t 5) (.t 13))])
 (.drop [10, 11, 12, 13] (.seq (.seq (.reg [un (.mov 14 (.t 1)),
 un (.fadr 15 0 (.t 5)),
 un (.ld 16 1 false (.t 15)),
 un (.call 17 Fr [((.t 14), false), ((.t 16), false)]),
 un (.asg 6 (.t 17))])
 (.drop [14, 15, 16, 17] (.block 0 (.loop Hw))))
 (.drop [14, 15, 16, 17, 6, 18, 19, 22, 23, 24, 25, 26, 27, 28, 29, 20, 21] (.seq (.seq (.reg [un (.mov 30 (.t 0)),
 un (.call 31 Ay [((.t 30), true), ((.c (.int .i64 12)), false)])])
 (.drop [30] (.block 2 (.seq (.reg [un (.bin 33 .eql (.t 31) (.c (.int .i64 0))),
 un (.asg 32 (.t 33))])
 (.drop [33] (.cond (.t 32) (.seq (.reg [un (.fadr 34 0 (.t 5)),
 un (.ld 35 1 false (.t 34)),
 un (.bin 36 .gtr (.t 35) (.c (.int .i64 0)))])
 (.drop [34, 35] (.cond (.t 36) (.dreg [(un (.mov 37 (.t 1)), [68]),
 (un (.fadr 38 0 (.t 5)), [68, 37]),
 (un (.ld 39 1 false (.t 38)), [68, 37]),
 (un (.mov 40 (.t 0)), [37, 38, 39]),
 (un (.fadr 41 0 (.t 5)), [37, 38, 39, 40]),
 (un (.ld 42 1 false (.t 41)), [37, 38, 39, 40]),
 (un (.call 43 Ay [((.t 40), true), ((.t 42), false)]), [68, 37, 38, 39])]
 [un (.call 44 Fn [((.t 37), false), ((.t 39), false), ((.t 43), false)]),
 un (.fadr 45 1 (.t 5)),
 un (.st 1 (.t 45) (.t 44))])
 .skip)))
 (.seq (.reg [un (.bin 47 .eql (.t 31) (.c (.int .i64 1))),
 un (.asg 46 (.t 47))])
 (.drop [47] (.cond (.t 46) (.dregl [(0, .fadr 48 1 (.t 5)),
 (1, .ld 49 1 false (.t 48)),
 (2, .mov 50 (.t 0)),
 (3, .fadr 51 1 (.t 5)),
 (4, .ld 52 1 false (.t 51)),
 (7, .mov 55 (.t 0)),
 (8, .mov 56 (.t 1))]
 (.alt 5 (.len 53 (.t 52)) [0, 1, 2, 3, 4, 7, 8] [] (.alt 6 (.call 54 Ay [((.t 50), true), ((.t 53), false)]) [0, 1, 2, 7, 8] [] (.alt 9 (.bsl 57 1 [(.c (.int .i64 (-1))), (.t 56), (.c (.int .i64 0))]) [0, 1, 7, 8] [] (.alt 10 (.call 58 A9 [((.t 55), true), ((.t 57), false)]) [0, 1, 7] [] (.alt 11 (.iad 59 1 (.t 49) (.t 54)) [0, 1] [] (.alt 12 (.st 1 (.t 59) (.t 58)) [] [] .nil .nil) .nil) .nil) .nil) (.alt 9 (.bsl 57 1 [(.c (.int .i64 (-1))), (.t 56), (.c (.int .i64 0))]) [0, 1, 2, 7, 8] [] (.alt 6 (.call 54 Ay [((.t 50), true), ((.t 53), false)]) [0, 1, 2, 7] [] (.alt 10 (.call 58 A9 [((.t 55), true), ((.t 57), false)]) [0, 1, 7] [] (.alt 11 (.iad 59 1 (.t 49) (.t 54)) [0, 1] [] (.alt 12 (.st 1 (.t 59) (.t 58)) [] [] .nil .nil) .nil) .nil) .nil) .nil)) (.alt 9 (.bsl 57 1 [(.c (.int .i64 (-1))), (.t 56), (.c (.int .i64 0))]) [0, 1, 2, 3, 4, 7, 8] [] (.alt 5 (.len 53 (.t 52)) [0, 1, 2, 3, 4, 7] [] (.alt 6 (.call 54 Ay [((.t 50), true), ((.t 53), false)]) [0, 1, 2, 7] [] (.alt 10 (.call 58 A9 [((.t 55), true), ((.t 57), false)]) [0, 1, 7] [] (.alt 11 (.iad 59 1 (.t 49) (.t 54)) [0, 1] [] (.alt 12 (.st 1 (.t 59) (.t 58)) [] [] .nil .nil) .nil) .nil) .nil) .nil) .nil)))
 (.seq (.reg [un (.bin 61 .eql (.t 31) (.c (.int .i64 2))),
 un (.asg 60 (.t 61))])
 (.drop [61] (.cond (.t 60) (.reg [un (.fadr 62 1 (.t 5)),
 un (.ld 63 1 false (.t 62)),
 un (.bsl 64 1 [(.c (.int .i64 0))]),
 un (.app 65 1 (.t 63) (.t 64)),
 un (.fadr 66 1 (.t 5)),
 un (.st 1 (.t 66) (.t 65))])
 .skip))))))))))))
 (.drop [30, 31, 33, 32, 34, 35, 36, 37, 38, 39, 40, 41, 42, 43, 44, 45, 47, 46, 48, 49, 50, 51, 52, 53, 54, 55, 56, 57, 58, 59, 61, 60, 62, 63, 64, 65, 66] (.seq (.reg [un (.ld 67 2 true (.t 5)),
 un (.st 2 (.t 4) (.t 67))])
 (.drop [67] .ret)))))))))))
abbrev Q8 : List RS := [.c 4 2 true]
theorem Rl : Bi Try.prog Gl 68 Ru Q8 = true := by kernel_rfl
def T6 : ACode :=
 (.seq (.reg [un (.asg 2 (.c (.int .i64 0)))])
 (.seq (.reg [un (.mov 3 (.t 0)),
 un (.bsl 4 1 [(.c (.int .i64 1)), (.c (.int .i64 1)), (.c (.int .i64 2)), (.c (.int .i64 2)), (.c (.int .i64 2)), (.c (.int .i64 3)), (.c (.int .i64 0)), (.c (.int .i64 4))]),
 un (.mov 5 (.t 0)),
 un (.call 6 Ay [((.t 5), true), ((.c (.int .i64 24)), false)]),
 un (.bin 7 .quo (.t 6) (.c (.int .i64 11))),
 un (.bin 8 .add (.c (.int .i64 6)) (.t 7)),
 un (.slc 9 1 (.t 4) none (some (.t 8))),
 un (.call 10 A9 [((.t 3), true), ((.t 9), false)]),
 un (.asg 2 (.t 10))])
 (.drop [3, 4, 5, 6, 7, 8, 9, 10] .ret)))
abbrev Uy : List RS := [.t 2]
theorem T4 : Bi Try.prog Hs 11 T6 Uy = true := by kernel_rfl
def W1 : ACode :=
 (.seq (.reg [un (.mov 19 (.t 15)),
 un (.mov 20 (.t 4)),
 un (.fadr 21 0 (.t 9)),
 un (.ld 22 1 false (.t 21)),
 un (.call 23 Fr [((.t 20), false), ((.t 22), false)]),
 un (.bin 24 .lss (.t 19) (.t 23)),
 un (.asg 25 (.t 24)),
 ⟨some (25, true), .fadr 26 2 (.t 8)⟩,
 ⟨some (25, true), .ld 27 1 false (.t 26)⟩,
 ⟨some (25, true), .un 28 .not (.t 27)⟩,
 un (.pick 29 (.t 25) (.t 28) (.c (.bool false)))])
 (.drop [19, 20, 21, 22, 23, 24, 25, 26, 27, 28] (.cond (.t 29) .skip
 (.exit 0))))
def Oe : ACode :=
 (.seq (.seq (.reg [un (.mov 45 (.t 18)),
 un (.mov 46 (.t 16)),
 un (.len 47 (.t 46)),
 un (.bin 48 .lss (.t 45) (.t 47))])
 (.drop [45, 46, 47] (.cond (.t 48) .skip
 (.exit 2))))
 (.drop [45, 46, 47, 48] (.seq (.block 3 (.dreg [(un (.mov 51 (.t 17)), [59]),
 (un (.fadr 52 0 (.t 8)), [51]),
 (un (.ld 53 1 false (.t 52)), [51]),
 (un (.mov 54 (.t 16)), [51, 52, 53]),
 (un (.mov 55 (.t 18)), [51, 52, 53, 54]),
 (un (.iad 56 1 (.t 54) (.t 55)), [51, 52, 53]),
 (un (.ld 57 1 false (.t 56)), [51, 52, 53]),
 (un (.iad 58 1 (.t 53) (.t 57)), [51]),
 (un (.ld 59 1 false (.t 58)), [51]),
 (un (.bsl 60 1 [(.t 59)]), [51])]
 [un (.app 61 1 (.t 51) (.t 60)),
 un (.asg 17 (.t 61))]))
 (.drop [51, 52, 53, 54, 55, 56, 57, 58, 59, 60, 61] (.reg [un (.mov 49 (.t 18)),
 un (.bin 50 .add (.t 49) (.c (.int .i64 1))),
 un (.asg 18 (.t 50))])))))
def Oh : ACode :=
 (.seq (.cut W1)
 (.drop [19, 20, 21, 22, 23, 24, 25, 26, 27, 28, 29] (.seq (.block 1 (.seq (.seq (.reg [un (.mov 32 (.t 4)),
 un (.fadr 33 0 (.t 9)),
 un (.ld 34 1 false (.t 33)),
 un (.mov 35 (.t 15)),
 un (.mov 36 (.t 5)),
 un (.call 37 Mq [((.t 32), false), ((.t 34), false), ((.t 35), false), ((.t 36), false)]),
 un (.un 38 .not (.t 37))])
 (.drop [32, 33, 34, 35, 36, 37] (.cond (.t 38) (.exit 1)
 .skip)))
 (.drop [32, 33, 34, 35, 36, 37, 38] (.seq (.reg [un (.mov 39 (.t 4)),
 un (.fadr 40 0 (.t 9)),
 un (.ld 41 1 false (.t 40)),
 un (.mov 42 (.t 15)),
 un (.call 43 Lz [((.t 39), false), ((.t 41), false), ((.t 42), false)]),
 un (.asg 16 (.t 43))])
 (.drop [39, 40, 41, 42, 43] (.seq (.reg [un (.bsl 44 1 []),
 un (.asg 17 (.t 44))])
 (.drop [44] (.seq (.seq (.reg [un (.asg 18 (.c (.int .i64 0)))])
 (.block 2 (.loop Oe)))
 (.drop [18, 45, 46, 47, 48, 51, 52, 53, 54, 55, 56, 57, 58, 59, 60, 61, 49, 50] (.frz [16] (.dreg [(un (.ld 62 3 true (.t 8)), []),
 (un (.mov 63 (.t 0)), [62]),
 (un (.ld 64 2 true (.t 9)), [62, 63]),
 (un (.mov 65 (.t 17)), [62, 63, 64]),
 (un (.mov 66 (.t 6)), [62, 63, 64, 65]),
 (un (.call 67 Kv [((.t 63), false), ((.t 64), false), ((.t 65), false), ((.t 66), false)]), [62]),
 (un (.mov 68 (.t 3)), [62, 63, 64, 65, 66, 67]),
 (un (.mov 69 (.t 16)), [62, 63, 64, 65, 66, 67, 68]),
 (un (.bld 70 [.int .i64 0, .nilsl 1] [(0, 1, (.t 68)), (1, 1, (.t 69))]), [62, 63, 64, 65, 66, 67])]
 [un (.call 71 L0 [((.t 62), true), ((.t 67), false), ((.t 70), false)]),
 un (.st 3 (.t 8) (.t 71))])))))))))))
 (.drop [32, 33, 34, 35, 36, 37, 38, 39, 40, 41, 42, 43, 16, 44, 17, 18, 45, 46, 47, 48, 51, 52, 53, 54, 55, 56, 57, 58, 59, 60, 61, 49, 50, 62, 63, 64, 65, 66, 67, 68, 69, 70, 71] (.reg [un (.mov 30 (.t 15)),
 un (.bin 31 .add (.t 30) (.c (.int .i64 1))),
 un (.asg 15 (.t 31))])))))
def Ab9 : ACode :=
 (.seq (.reg [un (.box 8 (.t 1)),
 un (.box 9 (.t 2)),
 un (.alc 14 (.agg [.nilsl 1, .nilsl 2, .bool false]))])
 (.seq (.seq (.reg [un (.asg 15 (.c (.int .i64 0)))])
 (.block 0 (.loop Oh)))
 (.drop [15, 19, 20, 21, 22, 23, 24, 25, 26, 27, 28, 29, 32, 33, 34, 35, 36, 37, 38, 39, 40, 41, 42, 43, 16, 44, 17, 18, 45, 46, 47, 48, 51, 52, 53, 54, 55, 56, 57, 58, 59, 60, 61, 49, 50, 62, 63, 64, 65, 66, 67, 68, 69, 70, 71, 30, 31] (.seq (.reg [un (.ld 72 3 true (.t 8)),
 un (.st 3 (.t 14) (.t 72))])
 (.drop [72] .ret)))))
abbrev Acp : List RS := [.c 14 3 true]
theorem Ace : Bi Try.prog My 73 Ab9 Acp = true := by kernel_rfl
def Qd : ACode :=
 (.seq (.reg [un (.mov 15 (.t 7)),
 un (.un 16 .not (.t 15)),
 un (.asg 17 (.t 16)),
 ⟨some (17, false), .ld 18 2 true (.t 3)⟩,
 ⟨some (17, false), .fadr 19 0 (.t 2)⟩,
 ⟨some (17, false), .ld 20 1 false (.t 19)⟩,
 ⟨some (17, false), .call 21 J7 [((.t 18), false), ((.t 20), false)]⟩,
 ⟨some (17, false), .un 22 .not (.t 21)⟩,
 un (.pick 23 (.t 17) (.c (.bool true)) (.t 22))])
 (.drop [15, 16, 17, 18, 19, 20, 21, 22] (.cond (.t 23) (.seq (.reg [un (.asg 4 (.c (.bool false))),
 un (.asg 5 (.c (.bool false)))])
 .ret)
 .skip)))
def Te : ACode :=
 (.seq (.reg [un (.box 2 (.t 0)),
 un (.box 3 (.t 1)),
 un (.asg 4 (.c (.bool false))),
 un (.asg 5 (.c (.bool false)))])
 (.seq (.reg [un (.ld 9 2 true (.t 2)),
 un (.fadr 10 0 (.t 3)),
 un (.ld 11 1 false (.t 10)),
 un (.call 12 Db [((.t 9), false), ((.t 11), false)]),
 un (.asg 8 (.t 12)),
 un (.ext 13 (.t 8) 0),
 un (.ext 14 (.t 8) 1),
 un (.asg 6 (.t 13)),
 un (.asg 7 (.t 14))])
 (.drop [9, 10, 11, 12, 8, 13, 14] (.seq (.cut Qd)
 (.drop [15, 16, 17, 18, 19, 20, 21, 22, 23] (.seq (.dreg [(un (.mov 24 (.t 6)), []),
 (un (.nck 25 (.t 24)), []),
 (un (.fadr 26 2 (.t 25)), []),
 (un (.ld 27 1 false (.t 26)), []),
 (un (.fadr 28 1 (.t 3)), [24, 25, 26, 27]),
 (un (.ld 29 1 false (.t 28)), [24, 25, 26, 27]),
 (un (.call 30 Gp [((.t 29), false)]), [24, 25, 26, 27])]
 [un (.mlk 31 (.t 27) (.t 30) (.bool false) false),
 un (.asg 4 (.t 31)),
 un (.asg 5 (.c (.bool true)))])
 (.drop [24, 25, 26, 27, 28, 29, 30, 31] .ret)))))))
abbrev Tj : List RS := [.t 4, .t 5]
theorem To : Bi Try.prog Hc 32 Te Tj = true := by kernel_rfl
def Si : ACode :=
 (.seq (.reg [un (.mov 17 (.t 7)),
 un (.un 18 .not (.t 17)),
 un (.asg 19 (.t 18)),
 ⟨some (19, false), .ld 20 2 true (.t 3)⟩,
 ⟨some (19, false), .fadr 21 0 (.t 2)⟩,
 ⟨some (19, false), .ld 22 1 false (.t 21)⟩,
 ⟨some (19, false), .call 23 J7 [((.t 20), false), ((.t 22), false)]⟩,
 ⟨some (19, false), .un 24 .not (.t 23)⟩,
 un (.pick 25 (.t 19) (.c (.bool true)) (.t 24))])
 (.drop [17, 18, 19, 20, 21, 22, 23, 24] (.cond (.t 25) (.seq (.reg [un (.bsl 26 2 []),
 un (.asg 4 (.t 26)),
 un (.asg 5 (.c (.bool false)))])
 (.drop [26] .ret))
 .skip)))
def Ki : ACode :=
 (.seq (.reg [un (.bin 33 .lss (.t 32) (.t 31))])
 (.seq (.cond (.t 33) .skip
 (.exit 0))
 (.seq (.block 1 (.seq (.reg [un (.mov 34 (.t 32)),
 un (.iad 35 1 (.t 30) (.t 32)),
 un (.ld 36 1 false (.t 35)),
 un (.asg 8 (.t 34)),
 un (.asg 9 (.t 36))])
 (.drop [34, 35, 36] (.seq (.reg [un (.mov 37 (.t 9)),
 un (.fadr 38 1 (.t 3)),
 un (.ld 39 1 false (.t 38)),
 un (.call 40 Mn [((.t 37), false), ((.t 39), false)])])
 (.drop [37, 38, 39] (.cond (.t 40) (.seq (.reg [un (.mov 41 (.t 6)),
 un (.nck 42 (.t 41)),
 un (.fadr 43 1 (.t 42)),
 un (.ld 44 1 false (.t 43)),
 un (.mov 45 (.t 8)),
 un (.bin 46 .add (.t 45) (.c (.int .i64 1))),
 un (.slc 47 2 (.t 44) none (some (.t 46))),
 un (.asg 4 (.t 47)),
 un (.asg 5 (.c (.bool true)))])
 (.drop [41, 42, 43, 44, 45, 46, 47] .ret))
 .skip))))))
 (.drop [34, 35, 36, 8, 9, 37, 38, 39, 40, 41, 42, 43, 44, 45, 46, 47] (.reg [un (.bin 48 .add (.t 32) (.c (.int .i64 1))),
 un (.asg 32 (.t 48))])))))
def Wf : ACode :=
 (.seq (.reg [un (.box 2 (.t 0)),
 un (.box 3 (.t 1)),
 un (.asg 4 (.c (.nilsl 2))),
 un (.asg 5 (.c (.bool false)))])
 (.seq (.reg [un (.ld 11 2 true (.t 2)),
 un (.fadr 12 0 (.t 3)),
 un (.ld 13 1 false (.t 12)),
 un (.call 14 Db [((.t 11), false), ((.t 13), false)]),
 un (.asg 10 (.t 14)),
 un (.ext 15 (.t 10) 0),
 un (.ext 16 (.t 10) 1),
 un (.asg 6 (.t 15)),
 un (.asg 7 (.t 16))])
 (.drop [11, 12, 13, 14, 10, 15, 16] (.seq (.cut Si)
 (.drop [17, 18, 19, 20, 21, 22, 23, 24, 25, 26] (.seq (.seq (.reg [un (.mov 27 (.t 6)),
 un (.nck 28 (.t 27)),
 un (.fadr 29 0 (.t 28)),
 un (.ld 30 1 false (.t 29)),
 un (.len 31 (.t 30)),
 un (.mov 32 (.c (.int .i64 0)))])
 (.drop [27, 28, 29] (.block 0 (.loop Ki))))
 (.drop [27, 28, 29, 30, 31, 32, 33, 34, 35, 36, 8, 9, 37, 38, 39, 40, 41, 42, 43, 44, 45, 46, 47, 48] (.seq (.reg [un (.bsl 49 2 []),
 un (.asg 4 (.t 49)),
 un (.asg 5 (.c (.bool false)))])
 (.drop [49] .ret)))))))))
abbrev Wn : List RS := [.t 4, .t 5]
theorem We : Bi Try.prog Iu 50 Wf Wn = true := by kernel_rfl
def Vc : ACode :=
 (.seq (.reg [un (.box 2 (.t 0)),
 un (.asg 4 (.c (.nilsl 2))),
 un (.asg 5 (.c (.bool false)))])
 (.seq (.reg [un (.ld 9 2 true (.t 2)),
 un (.mov 10 (.t 1)),
 un (.call 11 Db [((.t 9), false), ((.t 10), false)]),
 un (.asg 8 (.t 11)),
 un (.ext 12 (.t 8) 0),
 un (.ext 13 (.t 8) 1),
 un (.asg 6 (.t 12)),
 un (.asg 7 (.t 13))])
 (.drop [9, 10, 11, 8, 12, 13] (.seq (.seq (.reg [un (.mov 14 (.t 7)),
 un (.un 15 .not (.t 14))])
 (.drop [14] (.cond (.t 15) (.seq (.reg [un (.bsl 16 2 []),
 un (.asg 4 (.t 16)),
 un (.asg 5 (.c (.bool false)))])
 (.drop [16] .ret))
 .skip)))
 (.drop [14, 15, 16] (.seq (.reg [un (.mov 17 (.t 1)),
 un (.mov 18 (.t 6)),
 un (.nck 19 (.t 18)),
 un (.fadr 20 0 (.t 19)),
 un (.ld 21 1 false (.t 20)),
 un (.call 22 Nd [((.t 17), false), ((.t 21), false)]),
 un (.asg 4 (.t 22)),
 un (.asg 5 (.c (.bool true)))])
 (.drop [17, 18, 19, 20, 21, 22] .ret)))))))
abbrev T5 : List RS := [.t 4, .t 5]
theorem U9 : Bi Try.prog H5 23 Vc T5 = true := by kernel_rfl
def Aa9 : ACode :=
 (.seq (.reg [un (.box 2 (.t 0)),
 un (.asg 4 (.c (.int .i64 0))),
 un (.asg 5 (.c (.bool false)))])
 (.seq (.reg [un (.ld 9 2 true (.t 2)),
 un (.mov 10 (.t 1)),
 un (.call 11 Db [((.t 9), false), ((.t 10), false)]),
 un (.asg 8 (.t 11)),
 un (.ext 12 (.t 8) 0),
 un (.ext 13 (.t 8) 1),
 un (.asg 6 (.t 12)),
 un (.asg 7 (.t 13))])
 (.drop [9, 10, 11, 8, 12, 13] (.seq (.seq (.reg [un (.mov 14 (.t 7)),
 un (.un 15 .not (.t 14))])
 (.drop [14] (.cond (.t 15) (.seq (.reg [un (.asg 4 (.c (.int .i64 0))),
 un (.asg 5 (.c (.bool false)))])
 .ret)
 .skip)))
 (.drop [14, 15] (.seq (.reg [un (.mov 16 (.t 6)),
 un (.nck 17 (.t 16)),
 un (.fadr 18 0 (.t 17)),
 un (.ld 19 1 false (.t 18)),
 un (.len 20 (.t 19)),
 un (.asg 4 (.t 20)),
 un (.asg 5 (.c (.bool true)))])
 (.drop [16, 17, 18, 19, 20] .ret)))))))
abbrev Aah : List RS := [.t 4, .t 5]
theorem Aad : Bi Try.prog Ln 21 Aa9 Aah = true := by kernel_rfl
def M4 : ACode :=
 (.seq (.seq (.reg [un (.mov 13 (.t 8)),
 un (.mov 14 (.t 2)),
 un (.len 15 (.t 14)),
 un (.bin 16 .lss (.t 13) (.t 15))])
 (.drop [13, 14, 15] (.cond (.t 16) .skip
 (.exit 0))))
 (.drop [13, 14, 15, 16] (.seq (.block 1 (.dreg [(un (.ld 19 3 true (.t 7)), [24]),
 (un (.mov 20 (.t 2)), [19, 24]),
 (un (.mov 21 (.t 8)), [19, 20, 24]),
 (un (.iad 22 1 (.t 20) (.t 21)), [19, 24]),
 (un (.ld 23 1 false (.t 22)), [19, 24]),
 (un (.mov 24 (.t 8)), [19, 20, 21, 22, 23]),
 (un (.bslr 25 1 [(.t 24)]), [19, 20, 21, 22, 23]),
 (un (.bld 26 [.int .i64 0, .nilsl 1] [(0, 1, (.c (.int .i64 (-1)))), (1, 1, (.t 25))]), [19, 20, 21, 22, 23, 24])]
 [un (.call 27 L0 [((.t 19), true), ((.t 23), false), ((.t 26), false)]),
 un (.st 3 (.t 7) (.t 27))]))
 (.drop [19, 20, 21, 22, 23, 24, 25, 26, 27] (.reg [un (.mov 17 (.t 8)),
 un (.bin 18 .add (.t 17) (.c (.int .i64 1))),
 un (.asg 8 (.t 18))])))))
def Wa : ACode :=
 (.seq (.reg [un (.mov 28 (.t 9)),
 un (.fadr 29 0 (.t 7)),
 un (.ld 30 1 false (.t 29)),
 un (.len 31 (.t 30)),
 un (.bin 32 .lss (.t 28) (.t 31)),
 un (.asg 33 (.t 32)),
 ⟨some (33, true), .fadr 34 2 (.t 7)⟩,
 ⟨some (33, true), .ld 35 1 false (.t 34)⟩,
 ⟨some (33, true), .un 36 .not (.t 35)⟩,
 un (.pick 37 (.t 33) (.t 36) (.c (.bool false)))])
 (.drop [28, 29, 30, 31, 32, 33, 34, 35, 36] (.cond (.t 37) .skip
 (.exit 2))))
def Vx : ACode :=
 (.seq (.reg [un (.mov 41 (.t 11)),
 un (.mov 42 (.t 1)),
 un (.len 43 (.t 42)),
 un (.bin 44 .lss (.t 41) (.t 43)),
 un (.asg 45 (.t 44)),
 ⟨some (45, true), .fadr 46 2 (.t 7)⟩,
 ⟨some (45, true), .ld 47 1 false (.t 46)⟩,
 ⟨some (45, true), .un 48 .not (.t 47)⟩,
 un (.pick 49 (.t 45) (.t 48) (.c (.bool false)))])
 (.drop [41, 42, 43, 44, 45, 46, 47, 48] (.cond (.t 49) .skip
 (.exit 4))))
def M2 : ACode :=
 (.seq (.cut Vx)
 (.drop [41, 42, 43, 44, 45, 46, 47, 48, 49] (.seq (.block 5 (.dreg [(un (.mov 52 (.t 0)), []),
 (un (.ld 53 3 true (.t 7)), [52]),
 (un (.mov 54 (.t 1)), [52, 53]),
 (un (.mov 55 (.t 11)), [52, 53, 54]),
 (un (.iad 56 2 (.t 54) (.t 55)), [52, 53]),
 (un (.ld 57 2 true (.t 56)), [52, 53]),
 (un (.mov 58 (.t 11)), [52, 53, 54, 55, 56, 57]),
 (un (.mov 59 (.t 10)), [52, 53, 54, 55, 56, 57, 58]),
 (un (.mov 60 (.t 9)), [52, 53, 54, 55, 56, 57, 58, 59]),
 (un (.mov 61 (.t 2)), [52, 53, 54, 55, 56, 57, 58, 59, 60]),
 (un (.iad 62 1 (.t 61) (.c (.int .i64 0))), [52, 53, 54, 55, 56, 57, 58, 59, 60]),
 (un (.ld 63 1 false (.t 62)), [52, 53, 54, 55, 56, 57, 58, 59, 60]),
 (un (.len 64 (.t 63)), [52, 53, 54, 55, 56, 57, 58, 59, 60])]
 [un (.call 65 My [((.t 52), false), ((.t 53), true), ((.t 57), false), ((.t 58), false), ((.t 59), false), ((.t 60), false), ((.t 64), false)]),
 un (.st 3 (.t 7) (.t 65))]))
 (.drop [52, 53, 54, 55, 56, 57, 58, 59, 60, 61, 62, 63, 64, 65] (.reg [un (.mov 50 (.t 11)),
 un (.bin 51 .add (.t 50) (.c (.int .i64 1))),
 un (.asg 11 (.t 51))])))))
def M5 : ACode :=
 (.seq (.cut Wa)
 (.drop [28, 29, 30, 31, 32, 33, 34, 35, 36, 37] (.block 3 (.seq (.reg [un (.fadr 38 0 (.t 7)),
 un (.ld 39 1 false (.t 38)),
 un (.len 40 (.t 39)),
 un (.asg 10 (.t 40))])
 (.drop [38, 39, 40] (.seq (.seq (.reg [un (.asg 11 (.c (.int .i64 0)))])
 (.block 4 (.loop M2)))
 (.drop [11, 41, 42, 43, 44, 45, 46, 47, 48, 49, 52, 53, 54, 55, 56, 57, 58, 59, 60, 61, 62, 63, 64, 65, 50, 51] (.reg [un (.mov 66 (.t 10)),
 un (.asg 9 (.t 66))]))))))))
def Z5 : ACode :=
 (.seq (.reg [un (.alc 6 (.agg [.nilsl 1, .nilsl 2, .bool false]))])
 (.seq (.reg [un (.bld 12 [.nilsl 1, .nilsl 2, .bool false] []),
 un (.alc 7 (.agg [.nilsl 1, .nilsl 2, .bool false])),
 un (.st 3 (.t 7) (.t 12))])
 (.drop [12] (.seq (.seq (.reg [un (.asg 8 (.c (.int .i64 0)))])
 (.block 0 (.loop M4)))
 (.drop [8, 13, 14, 15, 16, 19, 20, 21, 22, 23, 24, 25, 26, 27, 17, 18] (.seq (.reg [un (.asg 9 (.c (.int .i64 0)))])
 (.seq (.block 2 (.loop M5))
 (.drop [28, 29, 30, 31, 32, 33, 34, 35, 36, 37, 38, 39, 40, 10, 11, 41, 42, 43, 44, 45, 46, 47, 48, 49, 52, 53, 54, 55, 56, 57, 58, 59, 60, 61, 62, 63, 64, 65, 50, 51, 66] (.seq (.reg [un (.ld 67 3 true (.t 7)),
 un (.st 3 (.t 6) (.t 67))])
 (.drop [67] .ret))))))))))
abbrev Zw : List RS := [.c 6 3 true]
theorem Aa4 : Bi Try.prog Lp 68 Z5 Zw = true := by kernel_rfl
def Nq : ACode :=
 (.seq (.seq (.reg [un (.mov 8 (.t 6)),
 un (.mov 9 (.t 1)),
 un (.bin 10 .lss (.t 8) (.t 9))])
 (.drop [8, 9] (.cond (.t 10) .skip
 (.exit 0))))
 (.drop [8, 9, 10] (.seq (.block 1 (.reg [un (.mov 13 (.t 5)),
 un (.fadr 14 0 (.t 2)),
 un (.ld 15 1 false (.t 14)),
 un (.mov 16 (.t 1)),
 un (.mov 17 (.t 6)),
 un (.call 18 Fn [((.t 15), false), ((.t 16), false), ((.t 17), false)]),
 un (.bsl 19 1 [(.t 18)]),
 un (.app 20 1 (.t 13) (.t 19)),
 un (.asg 5 (.t 20))]))
 (.drop [13, 14, 15, 16, 17, 18, 19, 20] (.reg [un (.mov 11 (.t 6)),
 un (.bin 12 .add (.t 11) (.c (.int .i64 1))),
 un (.asg 6 (.t 12))])))))
def Acd : ACode :=
 (.seq (.reg [un (.box 2 (.t 0)),
 un (.alc 4 (.agg [.nilsl 1, .nilsl 2, .bool false]))])
 (.seq (.reg [un (.bsl 7 1 []),
 un (.asg 5 (.t 7))])
 (.drop [7] (.seq (.seq (.reg [un (.asg 6 (.c (.int .i64 0)))])
 (.block 0 (.loop Nq)))
 (.drop [6, 8, 9, 10, 13, 14, 15, 16, 17, 18, 19, 20, 11, 12] (.seq (.frz [5] (.reg [un (.fadr 21 0 (.t 2)),
 un (.ld 22 1 false (.t 21)),
 un (.fadr 23 1 (.t 2)),
 un (.ld 24 1 false (.t 23)),
 un (.mov 25 (.t 5)),
 un (.call 26 Lp [((.t 22), false), ((.t 24), false), ((.t 25), false)]),
 un (.st 3 (.t 4) (.t 26))]))
 (.drop [21, 22, 23, 24, 25, 26] .ret)))))))
abbrev Aco : List RS := [.c 4 3 true]
theorem Acl : Bi Try.prog Fl 27 Acd Aco = true := by kernel_rfl
def Tn : ACode :=
 (.seq (.reg [un (.box 2 (.t 0)),
 un (.box 3 (.t 1)),
 un (.asg 4 (.c (.bool false))),
 un (.asg 5 (.c (.bool false)))])
 (.seq (.seq (.reg [un (.ld 7 2 true (.t 2)),
 un (.ld 8 2 true (.t 3)),
 un (.call 9 Nc [((.t 7), false), ((.t 8), false)]),
 un (.un 10 .not (.t 9))])
 (.drop [7, 8, 9] (.cond (.t 10) (.seq (.reg [un (.asg 4 (.c (.bool false))),
 un (.asg 5 (.c (.bool false)))])
 .ret)
 .skip)))
 (.drop [7, 8, 9, 10] (.seq (.reg [un (.ld 11 2 true (.t 2)),
 un (.fadr 12 0 (.t 3)),
 un (.ld 13 1 false (.t 12)),
 un (.call 14 Fl [((.t 11), false), ((.t 13), false)]),
 un (.alc 6 (.agg [.nilsl 1, .nilsl 2, .bool false])),
 un (.st 3 (.t 6) (.t 14))])
 (.drop [11, 12, 13, 14] (.seq (.seq (.reg [un (.fadr 15 2 (.t 6)),
 un (.ld 16 1 false (.t 15))])
 (.drop [15] (.cond (.t 16) (.seq (.reg [un (.asg 4 (.c (.bool false))),
 un (.asg 5 (.c (.bool false)))])
 .ret)
 .skip)))
 (.drop [15, 16] (.seq (.reg [un (.fadr 17 0 (.t 6)),
 un (.ld 18 1 false (.t 17)),
 un (.fadr 19 1 (.t 3)),
 un (.ld 20 1 false (.t 19)),
 un (.call 21 G6 [((.t 18), false), ((.t 20), false)]),
 un (.bin 22 .geq (.t 21) (.c (.int .i64 0))),
 un (.asg 4 (.t 22)),
 un (.asg 5 (.c (.bool true)))])
 (.drop [17, 18, 19, 20, 21, 22] .ret)))))))))
abbrev Td : List RS := [.t 4, .t 5]
theorem Tl : Bi Try.prog Hf 23 Tn Td = true := by kernel_rfl
def R4 : ACode :=
 (.seq (.reg [un (.fadr 22 2 (.t 6)),
 un (.ld 23 1 false (.t 22)),
 un (.asg 24 (.t 23)),
 ⟨some (24, false), .mov 25 (.t 7)⟩,
 ⟨some (24, false), .bin 26 .lss (.t 25) (.c (.int .i64 0))⟩,
 un (.pick 27 (.t 24) (.c (.bool true)) (.t 26))])
 (.drop [22, 23, 24, 25, 26] (.cond (.t 27) (.seq (.reg [un (.bsl 28 2 []),
 un (.asg 4 (.t 28)),
 un (.asg 5 (.c (.bool false)))])
 (.drop [28] .ret))
 .skip)))
def Wc : ACode :=
 (.seq (.reg [un (.box 2 (.t 0)),
 un (.box 3 (.t 1)),
 un (.asg 4 (.c (.nilsl 2))),
 un (.asg 5 (.c (.bool false)))])
 (.seq (.seq (.reg [un (.ld 8 2 true (.t 2)),
 un (.ld 9 2 true (.t 3)),
 un (.call 10 Nc [((.t 8), false), ((.t 9), false)]),
 un (.un 11 .not (.t 10))])
 (.drop [8, 9, 10] (.cond (.t 11) (.seq (.reg [un (.bsl 12 2 []),
 un (.asg 4 (.t 12)),
 un (.asg 5 (.c (.bool false)))])
 (.drop [12] .ret))
 .skip)))
 (.drop [8, 9, 10, 11, 12] (.seq (.reg [un (.ld 13 2 true (.t 2)),
 un (.fadr 14 0 (.t 3)),
 un (.ld 15 1 false (.t 14)),
 un (.call 16 Fl [((.t 13), false), ((.t 15), false)]),
 un (.alc 6 (.agg [.nilsl 1, .nilsl 2, .bool false])),
 un (.st 3 (.t 6) (.t 16))])
 (.drop [13, 14, 15, 16] (.seq (.reg [un (.fadr 17 0 (.t 6)),
 un (.ld 18 1 false (.t 17)),
 un (.fadr 19 1 (.t 3)),
 un (.ld 20 1 false (.t 19)),
 un (.call 21 G6 [((.t 18), false), ((.t 20), false)]),
 un (.asg 7 (.t 21))])
 (.drop [17, 18, 19, 20, 21] (.seq (.cut R4)
 (.drop [22, 23, 24, 25, 26, 27, 28] (.seq (.frz [6] (.reg [un (.fadr 29 1 (.t 6)),
 un (.ld 30 1 false (.t 29)),
 un (.mov 31 (.t 7)),
 un (.bin 32 .add (.t 31) (.c (.int .i64 1))),
 un (.slc 33 2 (.t 30) none (some (.t 32))),
 un (.call 34 Oa [((.t 33), false)]),
 un (.asg 4 (.t 34)),
 un (.asg 5 (.c (.bool true)))]))
 (.drop [29, 30, 31, 32, 33, 34] .ret)))))))))))
abbrev Vt : List RS := [.t 4, .t 5]
theorem Vu : Bi Try.prog Is 35 Wc Vt = true := by kernel_rfl
def Q9 : ACode :=
 (.seq (.reg [un (.ld 7 2 true (.t 2)),
 un (.call 8 I7 [((.t 7), false)]),
 un (.un 9 .not (.t 8)),
 un (.asg 10 (.t 9)),
 ⟨some (10, false), .fadr 11 0 (.t 2)⟩,
 ⟨some (10, false), .ld 12 1 false (.t 11)⟩,
 ⟨some (10, false), .mov 13 (.t 1)⟩,
 ⟨some (10, false), .call 14 F7 [((.t 12), false), ((.t 13), false)]⟩,
 ⟨some (10, false), .un 15 .not (.t 14)⟩,
 un (.pick 16 (.t 10) (.c (.bool true)) (.t 15))])
 (.drop [7, 8, 9, 10, 11, 12, 13, 14, 15] (.cond (.t 16) (.seq (.reg [un (.bsl 17 2 []),
 un (.asg 4 (.t 17)),
 un (.asg 5 (.c (.bool false)))])
 (.drop [17] .ret))
 .skip)))
def Uw : ACode :=
 (.seq (.reg [un (.box 2 (.t 0)),
 un (.asg 4 (.c (.nilsl 2))),
 un (.asg 5 (.c (.bool false)))])
 (.seq (.cut Q9)
 (.drop [7, 8, 9, 10, 11, 12, 13, 14, 15, 16, 17] (.seq (.reg [un (.ld 18 2 true (.t 2)),
 un (.mov 19 (.t 1)),
 un (.call 20 Fl [((.t 18), false), ((.t 19), false)]),
 un (.alc 6 (.agg [.nilsl 1, .nilsl 2, .bool false])),
 un (.st 3 (.t 6) (.t 20))])
 (.drop [18, 19, 20] (.seq (.seq (.reg [un (.fadr 21 2 (.t 6)),
 un (.ld 22 1 false (.t 21))])
 (.drop [21] (.cond (.t 22) (.seq (.reg [un (.bsl 23 2 []),
 un (.asg 4 (.t 23)),
 un (.asg 5 (.c (.bool false)))])
 (.drop [23] .ret))
 .skip)))
 (.drop [21, 22, 23] (.seq (.reg [un (.mov 24 (.t 1)),
 un (.fadr 25 0 (.t 6)),
 un (.ld 26 1 false (.t 25)),
 un (.call 27 Qg [((.t 24), false), ((.t 26), false)]),
 un (.asg 4 (.t 27)),
 un (.asg 5 (.c (.bool true)))])
 (.drop [24, 25, 26, 27] .ret)))))))))
abbrev Ty : List RS := [.t 4, .t 5]
theorem Uh : Bi Try.prog Hm 28 Uw Ty = true := by kernel_rfl
def P9 : ACode :=
 (.reg [un (.ld 9 2 true (.t 3)),
 un (.call 10 I7 [((.t 9), false)]),
 un (.asg 11 (.t 10)),
 ⟨some (11, true), .fadr 12 0 (.t 3)⟩,
 ⟨some (11, true), .ld 13 1 false (.t 12)⟩,
 ⟨some (11, true), .mov 14 (.t 5)⟩,
 ⟨some (11, true), .call 15 F7 [((.t 13), false), ((.t 14), false)]⟩,
 un (.pick 16 (.t 11) (.t 15) (.c (.bool false))),
 un (.asg 17 (.t 16)),
 ⟨some (17, true), .fadr 18 0 (.t 3)⟩,
 ⟨some (17, true), .ld 19 1 false (.t 18)⟩,
 ⟨some (17, true), .bin 20 .leq (.t 19) (.c (.int .i64 3))⟩,
 un (.pick 21 (.t 17) (.t 20) (.c (.bool false))),
 un (.asg 22 (.t 21)),
 ⟨some (22, true), .mov 23 (.t 0)⟩,
 ⟨some (22, true), .call 24 Ih [((.t 23), true), ((.c (.int .i64 3)), false)]⟩,
 ⟨some (22, true), .un 25 .not (.t 24)⟩,
 un (.pick 26 (.t 22) (.t 25) (.c (.bool false)))])
def Tp : ACode :=
 (.seq (.reg [un (.box 3 (.t 1)),
 un (.alc 4 (.agg [.int .i64 0, .nilsl 1]))])
 (.seq (.reg [un (.mov 7 (.t 0)),
 un (.call 8 Hs [((.t 7), true)]),
 un (.asg 5 (.t 8))])
 (.drop [7, 8] (.seq (.seq (.cut P9)
 (.drop [9, 10, 11, 12, 13, 14, 15, 16, 17, 18, 19, 20, 21, 22, 23, 24, 25] (.cond (.t 26) (.seq (.reg [un (.ld 27 2 true (.t 3)),
 un (.mov 28 (.t 5)),
 un (.call 29 Fl [((.t 27), false), ((.t 28), false)]),
 un (.alc 6 (.agg [.nilsl 1, .nilsl 2, .bool false])),
 un (.st 3 (.t 6) (.t 29))])
 (.drop [27, 28, 29] (.seq (.dreg [(un (.mov 30 (.t 5)), [46]),
 (un (.fadr 31 0 (.t 6)), [46, 30]),
 (un (.ld 32 1 false (.t 31)), [46, 30]),
 (un (.mov 33 (.t 0)), [30, 31, 32]),
 (un (.fadr 34 0 (.t 6)), [30, 31, 32, 33]),
 (un (.ld 35 1 false (.t 34)), [30, 31, 32, 33]),
 (un (.len 36 (.t 35)), [30, 31, 32, 33]),
 (un (.call 37 Ay [((.t 33), true), ((.t 36), false)]), [46, 30, 31, 32]),
 (un (.iad 38 1 (.t 32) (.t 37)), [30]),
 (un (.ld 39 1 false (.t 38)), [30]),
 (un (.call 40 K2 [((.t 39), false)]), [30])]
 [un (.bld 41 [.int .i64 0, .nilsl 1] [(0, 1, (.t 30)), (1, 1, (.t 40))]),
 un (.st 2 (.t 4) (.t 41))])
 (.drop [30, 31, 32, 33, 34, 35, 36, 37, 38, 39, 40, 41] .ret))))
 .skip)))
 (.drop [9, 10, 11, 12, 13, 14, 15, 16, 17, 18, 19, 20, 21, 22, 23, 24, 25, 26, 27, 28, 29, 6, 30, 31, 32, 33, 34, 35, 36, 37, 38, 39, 40, 41] (.seq (.reg [un (.mov 42 (.t 0)),
 un (.fadr 43 0 (.t 3)),
 un (.ld 44 1 false (.t 43)),
 un (.call 45 Gl [((.t 42), true), ((.t 44), false)]),
 un (.st 2 (.t 4) (.t 45))])
 (.drop [42, 43, 44, 45] .ret)))))))
abbrev Ti : List RS := [.c 4 2 true]
theorem Th : Bi Try.prog Hb 46 Tp Ti = true := by kernel_rfl
def Ow : ACode :=
 (.seq (.reg [un (.alc 2 (.agg [.int .i64 0, .nilsl 2])),
 un (.alc 3 (.agg [.int .i64 0, .nilsl 1]))])
 (.seq (.reg [un (.mov 6 (.t 0)),
 un (.bld 7 [.nilsl 1, .int .i64 0, .int .u64 0] [(0, 1, (.t 6))]),
 un (.box 8 (.t 7)),
 un (.asg 4 (.t 8))])
 (.drop [6, 7, 8] (.seq (.reg [un (.mov 9 (.t 4)),
 un (.call 10 H7 [((.t 9), true)]),
 un (.alc 5 (.agg [.int .i64 0, .nilsl 2])),
 un (.st 2 (.t 5) (.t 10))])
 (.drop [9, 10] (.seq (.frz [100005] (.dreg [(un (.ld 11 2 true (.t 5)), [4]),
 (un (.mov 12 (.t 4)), [11]),
 (un (.ld 13 2 true (.t 5)), [11, 12]),
 (un (.call 14 Hb [((.t 12), true), ((.t 13), false)]), [4, 11])]
 [un (.st 2 (.t 2) (.t 11)),
 un (.st 2 (.t 3) (.t 14))]))
 (.drop [11, 12, 13, 14] .ret)))))))
abbrev Ou : List RS := [.c 2 2 true, .c 3 2 true]
theorem Ov : Bi Try.prog Fj 15 Ow Ou = true := by kernel_rfl
def O3 : ACode :=
 (.seq (.reg [un (.ld 41 2 true (.t 3)),
 un (.ld 42 2 true (.t 4)),
 un (.call 43 Hf [((.t 41), false), ((.t 42), false)]),
 un (.asg 40 (.t 43)),
 un (.ext 44 (.t 40) 0),
 un (.ext 45 (.t 40) 1),
 un (.asg 7 (.t 44)),
 un (.asg 8 (.t 45))])
 (.drop [41, 42, 43, 40, 44, 45] (.seq (.reg [un (.mov 46 (.t 5)),
 un (.mov 47 (.t 7)),
 un (.binb 48 .neq (.t 46) (.t 47)),
 un (.asg 49 (.t 48)),
 ⟨some (49, false), .mov 50 (.t 6)⟩,
 ⟨some (49, false), .mov 51 (.t 8)⟩,
 ⟨some (49, false), .binb 52 .neq (.t 50) (.t 51)⟩,
 un (.pick 53 (.t 49) (.c (.bool true)) (.t 52))])
 (.drop [46, 47, 48, 49, 50, 51, 52] (.cond (.t 53) (.seq (.reg [un (.asg 2 (.c (.bool false)))])
 .ret)
 .skip)))))
def Oq : ACode :=
 (.seq (.reg [un (.ld 61 2 true (.t 3)),
 un (.ld 62 2 true (.t 4)),
 un (.call 63 Is [((.t 61), false), ((.t 62), false)]),
 un (.asg 60 (.t 63)),
 un (.ext 64 (.t 60) 0),
 un (.ext 65 (.t 60) 1),
 un (.asg 11 (.t 64)),
 un (.asg 12 (.t 65))])
 (.drop [61, 62, 63, 60, 64, 65] (.seq (.reg [un (.mov 66 (.t 10)),
 un (.mov 67 (.t 12)),
 un (.binb 68 .neq (.t 66) (.t 67)),
 un (.asg 69 (.t 68)),
 ⟨some (69, false), .mov 70 (.t 10)⟩,
 ⟨some (69, false), .mov 71 (.t 6)⟩,
 ⟨some (69, false), .asg 72 (.t 71)⟩,
 ⟨some (72, true), .mov 73 (.t 5)⟩,
 ⟨some (69, false), .pick 74 (.t 72) (.t 73) (.c (.bool false))⟩,
 ⟨some (69, false), .binb 75 .neq (.t 70) (.t 74)⟩,
 un (.pick 76 (.t 69) (.c (.bool true)) (.t 75)),
 un (.asg 77 (.t 76)),
 ⟨some (77, false), .mov 78 (.t 9)⟩,
 ⟨some (77, false), .mov 79 (.t 11)⟩,
 ⟨some (77, false), .call 80 P5 [((.t 78), false), ((.t 79), false)]⟩,
 ⟨some (77, false), .un 81 .not (.t 80)⟩,
 un (.pick 82 (.t 77) (.c (.bool true)) (.t 81))])
 (.drop [66, 67, 68, 69, 70, 71, 72, 73, 74, 75, 76, 77, 78, 79, 80, 81] (.cond (.t 82) (.seq (.reg [un (.asg 2 (.c (.bool false)))])
 .ret)
 .skip)))))
def Oz : ACode :=
 (.seq (.reg [un (.mov 83 (.t 10))])
 (.cond (.t 83) (.seq (.reg [un (.ld 85 2 true (.t 3)),
 un (.fadr 86 0 (.t 4)),
 un (.ld 87 1 false (.t 86)),
 un (.mov 88 (.t 9)),
 un (.call 89 Iy [((.t 85), false), ((.t 87), false), ((.t 88), false)]),
 un (.asg 84 (.t 89)),
 un (.ext 90 (.t 84) 0),
 un (.ext 91 (.t 84) 1),
 un (.asg 13 (.t 90)),
 un (.asg 14 (.t 91))])
 (.drop [85, 86, 87, 88, 89, 84, 90, 91] (.seq (.reg [un (.ld 93 2 true (.t 3)),
 un (.fadr 94 0 (.t 4)),
 un (.ld 95 1 false (.t 94)),
 un (.mov 96 (.t 9)),
 un (.call 97 F9 [((.t 93), false), ((.t 95), false), ((.t 96), false)]),
 un (.asg 92 (.t 97)),
 un (.ext 98 (.t 92) 0),
 un (.ext 99 (.t 92) 1),
 un (.asg 15 (.t 98)),
 un (.asg 16 (.t 99))])
 (.drop [93, 94, 95, 96, 97, 92, 98, 99] (.seq (.dreg [(un (.mov 100 (.t 14)), []),
 (un (.un 101 .not (.t 100)), []),
 (un (.asg 102 (.t 101)), []),
 (⟨some (102, false), .mov 103 (.t 16)⟩, [101]),
 (⟨some (102, false), .un 104 .not (.t 103)⟩, [101]),
 (un (.pick 105 (.t 102) (.c (.bool true)) (.t 104)), [101]),
 (un (.asg 106 (.t 105)), [101]),
 (⟨some (106, false), .mov 107 (.t 13)⟩, [101, 105]),
 (⟨some (106, false), .un 108 .not (.t 107)⟩, [101, 105]),
 (un (.pick 109 (.t 106) (.c (.bool true)) (.t 108)), [101, 105]),
 (un (.asg 110 (.t 109)), [101, 105]),
 (⟨some (110, false), .mov 111 (.t 15)⟩, [101, 105, 109]),
 (⟨some (110, false), .len 112 (.t 111)⟩, [101, 105, 109]),
 (⟨some (110, false), .bin 113 .eql (.t 112) (.c (.int .i64 0))⟩, [101, 105, 109]),
 (un (.pick 114 (.t 110) (.c (.bool true)) (.t 113)), [101, 105, 109]),
 (un (.asg 115 (.t 114)), [101, 105, 109]),
 (⟨some (115, false), .mov 116 (.t 15)⟩, [101, 105, 109, 114]),
 (⟨some (115, false), .mov 117 (.t 15)⟩, [116, 101, 105, 109, 114]),
 (⟨some (115, false), .len 118 (.t 117)⟩, [116, 101, 105, 109, 114]),
 (⟨some (115, false), .bin 119 .sub (.t 118) (.c (.int .i64 1))⟩, [116, 101, 105, 109, 114]),
 (⟨some (115, false), .iad 120 2 (.t 116) (.t 119)⟩, [101, 105, 109, 114]),
 (⟨some (115, false), .ld 121 2 true (.t 120)⟩, [101, 105, 109, 114]),
 (⟨some (115, false), .ld 122 2 true (.t 4)⟩, [116, 117, 118, 119, 120, 121, 101, 105, 109, 114])]
 [⟨some (115, false), .call 123 N9 [((.t 121), false), ((.t 122), false)]⟩,
 ⟨some (115, false), .un 124 .not (.t 123)⟩,
 un (.pick 125 (.t 115) (.c (.bool true)) (.t 124))])
 (.drop [100, 101, 102, 103, 104, 105, 106, 107, 108, 109, 110, 111, 112, 113, 114, 115, 116, 117, 118, 119, 120, 121, 122, 123, 124] (.cond (.t 125) (.seq (.reg [un (.asg 2 (.c (.bool false)))])
 .ret)
 .skip)))))))
 .skip))
def Ox : ACode :=
 (.seq (.reg [un (.ld 136 2 true (.t 3)),
 un (.fadr 137 0 (.t 4)),
 un (.ld 138 1 false (.t 137)),
 un (.call 139 Hm [((.t 136), false), ((.t 138), false)]),
 un (.asg 135 (.t 139)),
 un (.ext 140 (.t 135) 0),
 un (.ext 141 (.t 135) 1),
 un (.asg 19 (.t 140)),
 un (.asg 20 (.t 141))])
 (.drop [136, 137, 138, 139, 135, 140, 141] (.seq (.reg [un (.mov 142 (.t 18)),
 un (.mov 143 (.t 20)),
 un (.binb 144 .neq (.t 142) (.t 143)),
 un (.asg 145 (.t 144)),
 ⟨some (145, false), .mov 146 (.t 18)⟩,
 ⟨some (145, false), .un 147 .not (.t 146)⟩,
 un (.pick 148 (.t 145) (.c (.bool true)) (.t 147)),
 un (.asg 149 (.t 148)),
 ⟨some (149, false), .mov 150 (.t 17)⟩,
 ⟨some (149, false), .mov 151 (.t 19)⟩,
 ⟨some (149, false), .call 152 Tq [((.t 150), false), ((.t 151), false)]⟩,
 ⟨some (149, false), .un 153 .not (.t 152)⟩,
 un (.pick 154 (.t 149) (.c (.bool true)) (.t 153))])
 (.drop [142, 143, 144, 145, 146, 147, 148, 149, 150, 151, 152, 153] (.cond (.t 154) (.seq (.reg [un (.asg 2 (.c (.bool false)))])
 .ret)
 .skip)))))
def Ot : ACode :=
 (.seq (.reg [un (.mov 170 (.t 22)),
 un (.un 171 .not (.t 170)),
 un (.asg 172 (.t 171)),
 ⟨some (172, false), .mov 173 (.t 24)⟩,
 ⟨some (172, false), .un 174 .not (.t 173)⟩,
 un (.pick 175 (.t 172) (.c (.bool true)) (.t 174)),
 un (.asg 176 (.t 175)),
 ⟨some (176, false), .mov 177 (.t 21)⟩,
 ⟨some (176, false), .un 178 .not (.t 177)⟩,
 un (.pick 179 (.t 176) (.c (.bool true)) (.t 178)),
 un (.asg 180 (.t 179)),
 ⟨some (180, false), .mov 181 (.t 23)⟩,
 ⟨some (180, false), .mov 182 (.t 17)⟩,
 ⟨some (180, false), .len 183 (.t 182)⟩,
 ⟨some (180, false), .bin 184 .neq (.t 181) (.t 183)⟩,
 un (.pick 185 (.t 180) (.c (.bool true)) (.t 184))])
 (.drop [170, 171, 172, 173, 174, 175, 176, 177, 178, 179, 180, 181, 182, 183, 184] (.cond (.t 185) (.seq (.reg [un (.asg 2 (.c (.bool false)))])
 .ret)
 .skip)))
def In : ACode :=
 (.seq (.seq (.reg [un (.mov 186 (.t 26)),
 un (.mov 187 (.t 17)),
 un (.len 188 (.t 187)),
 un (.bin 189 .lss (.t 186) (.t 188))])
 (.drop [186, 187, 188] (.cond (.t 189) .skip
 (.exit 0))))
 (.drop [186, 187, 188, 189] (.seq (.block 1 (.dreg [(un (.mov 192 (.t 25)), []),
 (un (.asg 193 (.t 192)), []),
 (⟨some (193, false), .mov 194 (.t 17)⟩, [192]),
 (⟨some (193, false), .mov 195 (.t 26)⟩, [194, 192]),
 (⟨some (193, false), .iad 196 2 (.t 194) (.t 195)⟩, [192]),
 (⟨some (193, false), .ld 197 2 true (.t 196)⟩, [192]),
 (⟨some (193, false), .ld 198 2 true (.t 4)⟩, [194, 195, 196, 197, 192])]
 [⟨some (193, false), .call 199 N9 [((.t 197), false), ((.t 198), false)]⟩,
 un (.pick 200 (.t 193) (.c (.bool true)) (.t 199)),
 un (.asg 25 (.t 200))]))
 (.drop [192, 193, 194, 195, 196, 197, 198, 199, 200] (.reg [un (.mov 190 (.t 26)),
 un (.bin 191 .add (.t 190) (.c (.int .i64 1))),
 un (.asg 26 (.t 191))])))))
def R0 : ACode :=
 (.seq (.reg [un (.asg 2 (.c (.bool false)))])
 (.seq (.seq (.reg [un (.mov 27 (.t 0)),
 un (.call 28 Up [((.t 27), false)])])
 (.drop [27] (.cond (.t 28) (.seq (.reg [un (.asg 2 (.c (.bool true)))])
 .ret)
 .skip)))
 (.drop [27, 28] (.seq (.reg [un (.mov 30 (.t 0)),
 un (.call 31 Fj [((.t 30), false)]),
 un (.asg 29 (.t 31)),
 un (.ext 32 (.t 29) 0),
 un (.ext 33 (.t 29) 1),
 un (.alc 3 (.agg [.int .i64 0, .nilsl 2])),
 un (.alc 4 (.agg [.int .i64 0, .nilsl 1])),
 un (.st 2 (.t 3) (.t 32)),
 un (.st 2 (.t 4) (.t 33))])
 (.drop [30, 31, 29, 32, 33] (.seq (.reg [un (.ld 35 2 true (.t 3)),
 un (.ld 36 2 true (.t 4)),
 un (.call 37 Hc [((.t 35), false), ((.t 36), false)]),
 un (.asg 34 (.t 37)),
 un (.ext 38 (.t 34) 0),
 un (.ext 39 (.t 34) 1),
 un (.asg 5 (.t 38)),
 un (.asg 6 (.t 39))])
 (.drop [35, 36, 37, 34, 38, 39] (.seq (.cut O3)
 (.drop [41, 42, 43, 40, 44, 45, 7, 8, 46, 47, 48, 49, 50, 51, 52, 53] (.seq (.reg [un (.ld 55 2 true (.t 3)),
 un (.ld 56 2 true (.t 4)),
 un (.call 57 Iu [((.t 55), false), ((.t 56), false)]),
 un (.asg 54 (.t 57)),
 un (.ext 58 (.t 54) 0),
 un (.ext 59 (.t 54) 1),
 un (.asg 9 (.t 58)),
 un (.asg 10 (.t 59))])
 (.drop [55, 56, 57, 54, 58, 59] (.seq (.cut Oq)
 (.drop [61, 62, 63, 60, 64, 65, 11, 12, 66, 67, 68, 69, 70, 71, 72, 73, 74, 75, 76, 77, 78, 79, 80, 81, 82] (.seq (.cut Oz)
 (.drop [83, 85, 86, 87, 88, 89, 84, 90, 91, 13, 14, 93, 94, 95, 96, 97, 92, 98, 99, 15, 16, 100, 101, 102, 103, 104, 105, 106, 107, 108, 109, 110, 111, 112, 113, 114, 115, 116, 117, 118, 119, 120, 121, 122, 123, 124, 125] (.seq (.seq (.reg [un (.mov 126 (.t 6)),
 un (.un 127 .not (.t 126))])
 (.drop [126] (.cond (.t 127) (.seq (.reg [un (.asg 2 (.c (.bool true)))])
 .ret)
 .skip)))
 (.drop [126, 127] (.seq (.reg [un (.ld 129 2 true (.t 3)),
 un (.fadr 130 0 (.t 4)),
 un (.ld 131 1 false (.t 130)),
 un (.call 132 H5 [((.t 129), false), ((.t 131), false)]),
 un (.asg 128 (.t 132)),
 un (.ext 133 (.t 128) 0),
 un (.ext 134 (.t 128) 1),
 un (.asg 17 (.t 133)),
 un (.asg 18 (.t 134))])
 (.drop [129, 130, 131, 132, 128, 133, 134] (.seq (.cut Ox)
 (.drop [136, 137, 138, 139, 135, 140, 141, 19, 20, 142, 143, 144, 145, 146, 147, 148, 149, 150, 151, 152, 153, 154] (.seq (.reg [un (.ld 156 2 true (.t 3)),
 un (.fadr 157 0 (.t 4)),
 un (.ld 158 1 false (.t 157)),
 un (.mov 159 (.t 17)),
 un (.call 160 Iz [((.t 156), false), ((.t 158), false), ((.t 159), false)]),
 un (.asg 155 (.t 160)),
 un (.ext 161 (.t 155) 0),
 un (.ext 162 (.t 155) 1),
 un (.asg 21 (.t 161)),
 un (.asg 22 (.t 162))])
 (.drop [156, 157, 158, 159, 160, 155, 161, 162] (.seq (.reg [un (.ld 164 2 true (.t 3)),
 un (.fadr 165 0 (.t 4)),
 un (.ld 166 1 false (.t 165)),
 un (.call 167 Ln [((.t 164), false), ((.t 166), false)]),
 un (.asg 163 (.t 167)),
 un (.ext 168 (.t 163) 0),
 un (.ext 169 (.t 163) 1),
 un (.asg 23 (.t 168)),
 un (.asg 24 (.t 169))])
 (.drop [164, 165, 166, 167, 163, 168, 169] (.seq (.cut Ot)
 (.drop [170, 171, 172, 173, 174, 175, 176, 177, 178, 179, 180, 181, 182, 183, 184, 185] (.seq (.reg [un (.asg 25 (.c (.bool false)))])
 (.seq (.seq (.reg [un (.asg 26 (.c (.int .i64 0)))])
 (.block 0 (.loop In)))
 (.drop [26, 186, 187, 188, 189, 192, 193, 194, 195, 196, 197, 198, 199, 200, 190, 191] (.seq (.reg [un (.mov 201 (.t 25)),
 un (.mov 202 (.t 5)),
 un (.binb 203 .eql (.t 201) (.t 202)),
 un (.asg 2 (.t 203))])
 (.drop [201, 202, 203] .ret))))))))))))))))))))))))))))))))
abbrev Sb : List RS := [.t 2]
theorem Sl : Bi Try.prog Kh 204 R0 Sb = true := by kernel_rfl
end Go.Proofs.Ytoaojijoefljaaa.Ax
