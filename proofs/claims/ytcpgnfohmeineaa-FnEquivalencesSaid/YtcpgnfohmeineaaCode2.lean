/-
  The small code of the functions, written by program; that the program's code is this one, the kernel looks at.
-/
import Derived.Test.YtcpgnfohmeineaaAx3
import Derived.Test.YtcpgnfohmeineaaProg
import Derived.KernelRfl
import Derived.Test.YtcpgnfohmeineaaNum
namespace Go.Proofs.Ytcpgnfohmeineaa.Ax
open Go
set_option maxRecDepth 100000
def Va : ACode :=
 (.seq (.seq (.reg [un (.mov 41 (.t 9)),
 un (.mov 42 (.t 8)),
 un (.len 43 (.t 42)),
 un (.bin 44 .lss (.t 41) (.t 43))])
 (.drop [41, 42, 43] (.cond (.t 44) .skip
 (.exit 4))))
 (.drop [41, 42, 43, 44] (.seq (.block 5 (.seq (.reg [un (.mov 47 (.t 8)),
 un (.call 48 J0 [((.t 47), false)]),
 un (.asg 10 (.t 48))])
 (.drop [47, 48] (.seq (.reg [un (.mov 49 (.t 10)),
 un (.mov 50 (.t 9)),
 un (.mov 51 (.t 1)),
 un (.mov 52 (.t 8)),
 un (.mov 53 (.t 9)),
 un (.iad 54 1 (.t 52) (.t 53)),
 un (.ld 55 1 false (.t 54)),
 un (.iad 56 1 (.t 51) (.t 55)),
 un (.ld 57 1 false (.t 56)),
 un (.iad 58 1 (.t 49) (.t 50)),
 un (.st 1 (.t 58) (.t 57))])
 (.drop [49, 50, 51, 52, 53, 54, 55, 56, 57, 58] (.dreg [(un (.mov 59 (.t 5)), []),
 (un (.fadr 60 1 (.t 2)), [59]),
 (un (.ld 61 1 false (.t 60)), [59]),
 (un (.mov 62 (.t 6)), [59, 60, 61]),
 (un (.iad 63 2 (.t 61) (.t 62)), [59]),
 (un (.fadr 64 1 (.t 63)), [59]),
 (un (.ld 65 1 false (.t 64)), [59]),
 (un (.mov 66 (.t 7)), [59, 60, 61, 62, 63, 64, 65]),
 (un (.iad 67 1 (.t 65) (.t 66)), [59]),
 (un (.ld 68 1 false (.t 67)), [59]),
 (un (.ld 69 2 true (.t 2)), [59, 60, 61, 62, 63, 64, 65, 66, 67, 68]),
 (un (.mov 70 (.t 6)), [59, 60, 61, 62, 63, 64, 65, 66, 67, 68, 69]),
 (un (.mov 71 (.t 10)), [59, 60, 61, 62, 63, 64, 65, 66, 67, 68, 69, 70]),
 (un (.call 72 Rb [((.t 69), false), ((.t 70), false), ((.t 71), false)]), [59, 60, 61, 62, 63, 64, 65, 66, 67, 68])]
 [un (.call 73 Ho [((.t 59), false), ((.t 68), false), ((.t 72), false)]),
 un (.asg 5 (.t 73))]))))))
 (.drop [47, 48, 10, 49, 50, 51, 52, 53, 54, 55, 56, 57, 58, 59, 60, 61, 62, 63, 64, 65, 66, 67, 68, 69, 70, 71, 72, 73] (.reg [un (.mov 45 (.t 9)),
 un (.bin 46 .add (.t 45) (.c (.int .i64 1))),
 un (.asg 9 (.t 46))])))))
def U9 : ACode :=
 (.seq (.seq (.reg [un (.mov 20 (.t 7)),
 un (.fadr 21 1 (.t 2)),
 un (.ld 22 1 false (.t 21)),
 un (.mov 23 (.t 6)),
 un (.iad 24 2 (.t 22) (.t 23)),
 un (.fadr 25 1 (.t 24)),
 un (.ld 26 1 false (.t 25)),
 un (.len 27 (.t 26)),
 un (.bin 28 .lss (.t 20) (.t 27))])
 (.drop [20, 21, 22, 23, 24, 25, 26, 27] (.cond (.t 28) .skip
 (.exit 2))))
 (.drop [20, 21, 22, 23, 24, 25, 26, 27, 28] (.seq (.block 3 (.seq (.dreg [(un (.fadr 31 0 (.t 2)), []),
 (un (.ld 32 1 false (.t 31)), []),
 (un (.fadr 33 1 (.t 2)), [31, 32]),
 (un (.ld 34 1 false (.t 33)), [31, 32]),
 (un (.mov 35 (.t 6)), [31, 32, 33, 34]),
 (un (.iad 36 2 (.t 34) (.t 35)), [31, 32]),
 (un (.fadr 37 0 (.t 36)), [31, 32]),
 (un (.ld 38 1 false (.t 37)), [31, 32]),
 (un (.mov 39 (.t 7)), [31, 32, 33, 34, 35, 36, 37, 38])]
 [un (.call 40 Oy [((.t 32), false), ((.t 38), false), ((.t 39), false)]),
 un (.asg 8 (.t 40))])
 (.drop [31, 32, 33, 34, 35, 36, 37, 38, 39, 40] (.seq (.reg [un (.asg 9 (.c (.int .i64 0)))])
 (.block 4 (.loop Va))))))
 (.drop [31, 32, 33, 34, 35, 36, 37, 38, 39, 40, 8, 9, 41, 42, 43, 44, 47, 48, 10, 49, 50, 51, 52, 53, 54, 55, 56, 57, 58, 59, 60, 61, 62, 63, 64, 65, 66, 67, 68, 69, 70, 71, 72, 73, 45, 46] (.reg [un (.mov 29 (.t 7)),
 un (.bin 30 .add (.t 29) (.c (.int .i64 1))),
 un (.asg 7 (.t 30))])))))
def Vg : ACode :=
 (.seq (.seq (.reg [un (.mov 13 (.t 6)),
 un (.fadr 14 1 (.t 2)),
 un (.ld 15 1 false (.t 14)),
 un (.len 16 (.t 15)),
 un (.bin 17 .lss (.t 13) (.t 16))])
 (.drop [13, 14, 15, 16] (.cond (.t 17) .skip
 (.exit 0))))
 (.drop [13, 14, 15, 16, 17] (.seq (.block 1 (.seq (.reg [un (.asg 7 (.c (.int .i64 0)))])
 (.block 2 (.loop U9))))
 (.drop [7, 20, 21, 22, 23, 24, 25, 26, 27, 28, 31, 32, 33, 34, 35, 36, 37, 38, 39, 40, 8, 9, 41, 42, 43, 44, 47, 48, 10, 49, 50, 51, 52, 53, 54, 55, 56, 57, 58, 59, 60, 61, 62, 63, 64, 65, 66, 67, 68, 69, 70, 71, 72, 73, 45, 46, 29, 30] (.reg [un (.mov 18 (.t 6)),
 un (.bin 19 .add (.t 18) (.c (.int .i64 1))),
 un (.asg 6 (.t 19))])))))
def Akq : ACode :=
 (.seq (.reg [un (.box 2 (.t 0)),
 un (.asg 4 (.c (.nilsl 1)))])
 (.seq (.reg [un (.mov 11 (.t 1)),
 un (.call 12 J0 [((.t 11), false)]),
 un (.asg 5 (.t 12))])
 (.drop [11, 12] (.seq (.seq (.reg [un (.asg 6 (.c (.int .i64 0)))])
 (.block 0 (.loop Vg)))
 (.drop [6, 13, 14, 15, 16, 17, 7, 20, 21, 22, 23, 24, 25, 26, 27, 28, 31, 32, 33, 34, 35, 36, 37, 38, 39, 40, 8, 9, 41, 42, 43, 44, 47, 48, 10, 49, 50, 51, 52, 53, 54, 55, 56, 57, 58, 59, 60, 61, 62, 63, 64, 65, 66, 67, 68, 69, 70, 71, 72, 73, 45, 46, 29, 30, 18, 19] (.seq (.reg [un (.mov 74 (.t 5)),
 un (.asg 4 (.t 74))])
 (.drop [74] .ret)))))))
abbrev Aju : List RS := [.t 4]
theorem Alf : A5 Try.prog Tw 75 Akq Aju = true := by kernel_rfl
def V7 : ACode :=
 (.seq (.reg [un (.mov 10 (.t 0)),
 un (.ld 11 2 true (.t 3)),
 un (.call 12 Ie [((.t 10), false), ((.t 11), false)]),
 un (.un 13 .not (.t 12)),
 un (.asg 14 (.t 13)),
 ⟨some (14, false), .fadr 15 0 (.t 3)⟩,
 ⟨some (14, false), .ld 16 1 false (.t 15)⟩,
 ⟨some (14, false), .bin 17 .neq (.t 16) (.c (.int .i64 2))⟩,
 un (.pick 18 (.t 14) (.c (.bool true)) (.t 17))])
 (.drop [10, 11, 12, 13, 14, 15, 16, 17] (.cond (.t 18) (.seq (.reg [un (.asg 4 (.c (.bool false))),
 un (.asg 5 (.c (.bool false)))])
 .ret)
 .skip)))
def L7 : ACode :=
 (.seq (.seq (.reg [un (.mov 55 (.t 9)),
 un (.mov 56 (.t 0)),
 un (.bin 57 .lss (.t 55) (.t 56))])
 (.drop [55, 56] (.cond (.t 57) .skip
 (.exit 4))))
 (.drop [55, 56, 57] (.seq (.block 5 (.seq (.reg [un (.mov 60 (.t 6)),
 un (.mov 61 (.t 7)),
 un (.iad 62 1 (.t 60) (.t 61)),
 un (.ld 63 1 false (.t 62)),
 un (.mov 64 (.t 8)),
 un (.iad 65 1 (.t 63) (.t 64)),
 un (.ld 66 1 false (.t 65)),
 un (.asg 67 (.t 66)),
 ⟨some (67, true), .mov 68 (.t 6)⟩,
 ⟨some (67, true), .mov 69 (.t 8)⟩,
 ⟨some (67, true), .iad 70 1 (.t 68) (.t 69)⟩,
 ⟨some (67, true), .ld 71 1 false (.t 70)⟩,
 ⟨some (67, true), .mov 72 (.t 9)⟩,
 ⟨some (67, true), .iad 73 1 (.t 71) (.t 72)⟩,
 ⟨some (67, true), .ld 74 1 false (.t 73)⟩,
 un (.pick 75 (.t 67) (.t 74) (.c (.bool false))),
 un (.asg 76 (.t 75)),
 ⟨some (76, true), .mov 77 (.t 6)⟩,
 ⟨some (76, true), .mov 78 (.t 7)⟩,
 ⟨some (76, true), .iad 79 1 (.t 77) (.t 78)⟩,
 ⟨some (76, true), .ld 80 1 false (.t 79)⟩,
 ⟨some (76, true), .mov 81 (.t 9)⟩,
 ⟨some (76, true), .iad 82 1 (.t 80) (.t 81)⟩,
 ⟨some (76, true), .ld 83 1 false (.t 82)⟩,
 ⟨some (76, true), .un 84 .not (.t 83)⟩,
 un (.pick 85 (.t 76) (.t 84) (.c (.bool false)))])
 (.drop [60, 61, 62, 63, 64, 65, 66, 67, 68, 69, 70, 71, 72, 73, 74, 75, 76, 77, 78, 79, 80, 81, 82, 83, 84] (.cond (.t 85) (.seq (.reg [un (.asg 4 (.c (.bool false))),
 un (.asg 5 (.c (.bool true)))])
 .ret)
 .skip))))
 (.drop [60, 61, 62, 63, 64, 65, 66, 67, 68, 69, 70, 71, 72, 73, 74, 75, 76, 77, 78, 79, 80, 81, 82, 83, 84, 85] (.reg [un (.mov 58 (.t 9)),
 un (.bin 59 .add (.t 58) (.c (.int .i64 1))),
 un (.asg 9 (.t 59))])))))
def L6 : ACode :=
 (.seq (.seq (.reg [un (.mov 35 (.t 8)),
 un (.mov 36 (.t 0)),
 un (.bin 37 .lss (.t 35) (.t 36))])
 (.drop [35, 36] (.cond (.t 37) .skip
 (.exit 2))))
 (.drop [35, 36, 37] (.seq (.block 3 (.seq (.seq (.dreg [(un (.mov 40 (.t 6)), []),
 (un (.mov 41 (.t 7)), [40]),
 (un (.iad 42 1 (.t 40) (.t 41)), []),
 (un (.ld 43 1 false (.t 42)), []),
 (un (.mov 44 (.t 8)), [40, 41, 42, 43]),
 (un (.iad 45 1 (.t 43) (.t 44)), []),
 (un (.ld 46 1 false (.t 45)), []),
 (un (.mov 47 (.t 6)), [40, 41, 42, 43, 44, 45, 46]),
 (un (.mov 48 (.t 8)), [40, 41, 42, 43, 44, 45, 46, 47]),
 (un (.iad 49 1 (.t 47) (.t 48)), [40, 41, 42, 43, 44, 45, 46]),
 (un (.ld 50 1 false (.t 49)), [40, 41, 42, 43, 44, 45, 46]),
 (un (.mov 51 (.t 7)), [40, 41, 42, 43, 44, 45, 46, 47, 48, 49, 50]),
 (un (.iad 52 1 (.t 50) (.t 51)), [40, 41, 42, 43, 44, 45, 46]),
 (un (.ld 53 1 false (.t 52)), [40, 41, 42, 43, 44, 45, 46])]
 [un (.binb 54 .neq (.t 46) (.t 53))])
 (.drop [40, 41, 42, 43, 44, 45, 46, 47, 48, 49, 50, 51, 52, 53] (.cond (.t 54) (.seq (.reg [un (.asg 4 (.c (.bool false))),
 un (.asg 5 (.c (.bool true)))])
 .ret)
 .skip)))
 (.drop [40, 41, 42, 43, 44, 45, 46, 47, 48, 49, 50, 51, 52, 53, 54] (.seq (.reg [un (.asg 9 (.c (.int .i64 0)))])
 (.block 4 (.loop L7))))))
 (.drop [40, 41, 42, 43, 44, 45, 46, 47, 48, 49, 50, 51, 52, 53, 54, 9, 55, 56, 57, 60, 61, 62, 63, 64, 65, 66, 67, 68, 69, 70, 71, 72, 73, 74, 75, 76, 77, 78, 79, 80, 81, 82, 83, 84, 85, 58, 59] (.reg [un (.mov 38 (.t 8)),
 un (.bin 39 .add (.t 38) (.c (.int .i64 1))),
 un (.asg 8 (.t 39))])))))
def L0 : ACode :=
 (.seq (.seq (.reg [un (.mov 22 (.t 7)),
 un (.mov 23 (.t 0)),
 un (.bin 24 .lss (.t 22) (.t 23))])
 (.drop [22, 23] (.cond (.t 24) .skip
 (.exit 0))))
 (.drop [22, 23, 24] (.seq (.block 1 (.seq (.seq (.reg [un (.mov 27 (.t 6)),
 un (.mov 28 (.t 7)),
 un (.iad 29 1 (.t 27) (.t 28)),
 un (.ld 30 1 false (.t 29)),
 un (.mov 31 (.t 7)),
 un (.iad 32 1 (.t 30) (.t 31)),
 un (.ld 33 1 false (.t 32)),
 un (.un 34 .not (.t 33))])
 (.drop [27, 28, 29, 30, 31, 32, 33] (.cond (.t 34) (.seq (.reg [un (.asg 4 (.c (.bool false))),
 un (.asg 5 (.c (.bool true)))])
 .ret)
 .skip)))
 (.drop [27, 28, 29, 30, 31, 32, 33, 34] (.seq (.reg [un (.asg 8 (.c (.int .i64 0)))])
 (.block 2 (.loop L6))))))
 (.drop [27, 28, 29, 30, 31, 32, 33, 34, 8, 35, 36, 37, 40, 41, 42, 43, 44, 45, 46, 47, 48, 49, 50, 51, 52, 53, 54, 9, 55, 56, 57, 60, 61, 62, 63, 64, 65, 66, 67, 68, 69, 70, 71, 72, 73, 74, 75, 76, 77, 78, 79, 80, 81, 82, 83, 84, 85, 58, 59, 38, 39] (.reg [un (.mov 25 (.t 7)),
 un (.bin 26 .add (.t 25) (.c (.int .i64 1))),
 un (.asg 7 (.t 26))])))))
def Ys : ACode :=
 (.seq (.reg [un (.box 3 (.t 1)),
 un (.asg 4 (.c (.bool false))),
 un (.asg 5 (.c (.bool false)))])
 (.seq (.cut V7)
 (.drop [10, 11, 12, 13, 14, 15, 16, 17, 18] (.seq (.reg [un (.mov 19 (.t 0)),
 un (.ld 20 2 true (.t 3)),
 un (.call 21 Jq [((.t 19), false), ((.t 20), false)]),
 un (.asg 6 (.t 21))])
 (.drop [19, 20, 21] (.seq (.seq (.reg [un (.asg 7 (.c (.int .i64 0)))])
 (.block 0 (.loop L0)))
 (.drop [7, 22, 23, 24, 27, 28, 29, 30, 31, 32, 33, 34, 8, 35, 36, 37, 40, 41, 42, 43, 44, 45, 46, 47, 48, 49, 50, 51, 52, 53, 54, 9, 55, 56, 57, 60, 61, 62, 63, 64, 65, 66, 67, 68, 69, 70, 71, 72, 73, 74, 75, 76, 77, 78, 79, 80, 81, 82, 83, 84, 85, 58, 59, 38, 39, 25, 26] (.seq (.reg [un (.asg 4 (.c (.bool true))),
 un (.asg 5 (.c (.bool true)))])
 .ret))))))))
abbrev Zh : List RS := [.t 4, .t 5]
theorem Yg : A5 Try.prog Gv 86 Ys Zh = true := by kernel_rfl
def Zw : ACode :=
 (.seq (.reg [un (.box 2 (.t 0)),
 un (.asg 4 (.c (.bool false))),
 un (.asg 5 (.c (.bool false)))])
 (.seq (.seq (.reg [un (.ld 6 2 true (.t 2)),
 un (.call 7 J8 [((.t 6), false)]),
 un (.un 8 .not (.t 7))])
 (.drop [6, 7] (.cond (.t 8) (.seq (.reg [un (.asg 4 (.c (.bool false))),
 un (.asg 5 (.c (.bool false)))])
 .ret)
 .skip)))
 (.drop [6, 7, 8] (.seq (.reg [un (.ld 9 2 true (.t 2)),
 un (.mov 10 (.t 1)),
 un (.call 11 Kh [((.t 9), false), ((.t 10), false)]),
 un (.asg 4 (.t 11)),
 un (.asg 5 (.c (.bool true)))])
 (.drop [9, 10, 11] .ret)))))
abbrev Zv : List RS := [.t 4, .t 5]
theorem Zq : A5 Try.prog Kf 12 Zw Zv = true := by kernel_rfl
def Vi : ACode :=
 (.seq (.reg [un (.mov 32 (.t 4)),
 un (.bin 33 .eql (.t 32) (.c (.int .i64 4))),
 un (.asg 34 (.t 33)),
 ⟨some (34, true), .fadr 35 0 (.t 7)⟩,
 ⟨some (34, true), .ld 36 1 false (.t 35)⟩,
 ⟨some (34, true), .bin 37 .eql (.t 36) (.c (.int .i64 3))⟩,
 un (.pick 38 (.t 34) (.t 37) (.c (.bool false)))])
 (.drop [32, 33, 34, 35, 36, 37] (.cond (.t 38) (.reg [un (.fadr 39 0 (.t 7)),
 un (.st 1 (.t 39) (.c (.int .i64 2)))])
 .skip)))
def Lx : ACode :=
 (.seq (.seq (.reg [un (.mov 44 (.t 8)),
 un (.bin 45 .gtr (.t 44) (.c (.int .i64 0)))])
 (.drop [44] (.cond (.t 45) .skip
 (.exit 2))))
 (.drop [44, 45] (.seq (.block 3 (.dreg [(un (.fadr 48 1 (.t 7)), [132, 52]),
 (un (.ld 49 1 false (.t 48)), [132, 52]),
 (un (.mov 50 (.t 0)), [48, 49]),
 (un (.mov 51 (.t 4)), [48, 49, 50]),
 (un (.call 52 Aq [((.t 50), true), ((.t 51), false)]), [132, 48, 49]),
 (un (.bsl 53 1 [(.t 52)]), [48, 49])]
 [un (.app 54 1 (.t 49) (.t 53)),
 un (.fadr 55 1 (.t 7)),
 un (.st 1 (.t 55) (.t 54))]))
 (.drop [48, 49, 50, 51, 52, 53, 54, 55] (.reg [un (.mov 46 (.t 8)),
 un (.bin 47 .sub (.t 46) (.c (.int .i64 1))),
 un (.asg 8 (.t 47))])))))
def Lz : ACode :=
 (.seq (.seq (.reg [un (.mov 24 (.t 6)),
 un (.bin 25 .gtr (.t 24) (.c (.int .i64 0)))])
 (.drop [24] (.cond (.t 25) .skip
 (.exit 0))))
 (.drop [24, 25] (.seq (.block 1 (.seq (.reg [un (.mov 28 (.t 0)),
 un (.bsl 29 1 [(.c (.int .i64 0)), (.c (.int .i64 1)), (.c (.int .i64 2)), (.c (.int .i64 2)), (.c (.int .i64 3))]),
 un (.call 30 A2 [((.t 28), true), ((.t 29), false)]),
 un (.bld 31 [.int .i64 0, .nilsl 1] [(0, 1, (.t 30))]),
 un (.alc 7 (.agg [.int .i64 0, .nilsl 1])),
 un (.st 2 (.t 7) (.t 31))])
 (.drop [28, 29, 30, 31] (.seq (.cut Vi)
 (.drop [32, 33, 34, 35, 36, 37, 38, 39] (.seq (.seq (.reg [un (.mov 40 (.t 4)),
 un (.fadr 41 0 (.t 7)),
 un (.ld 42 1 false (.t 41)),
 un (.call 43 J3 [((.t 40), false), ((.t 42), false)]),
 un (.asg 8 (.t 43))])
 (.drop [40, 41, 42, 43] (.block 2 (.loop Lx))))
 (.drop [40, 41, 42, 43, 8, 44, 45, 48, 49, 50, 51, 52, 53, 54, 55, 46, 47] (.reg [un (.fadr 56 1 (.t 5)),
 un (.ld 57 1 false (.t 56)),
 un (.ld 58 2 true (.t 7)),
 un (.bsl 59 2 [(.t 58)]),
 un (.app 60 2 (.t 57) (.t 59)),
 un (.fadr 61 1 (.t 5)),
 un (.st 1 (.t 61) (.t 60))]))))))))
 (.drop [28, 29, 30, 31, 7, 32, 33, 34, 35, 36, 37, 38, 39, 40, 41, 42, 43, 8, 44, 45, 48, 49, 50, 51, 52, 53, 54, 55, 46, 47, 56, 57, 58, 59, 60, 61] (.reg [un (.mov 26 (.t 6)),
 un (.bin 27 .sub (.t 26) (.c (.int .i64 1))),
 un (.asg 6 (.t 27))])))))
def Lw : ACode :=
 (.seq (.seq (.dreg [(un (.fadr 116 1 (.t 5)), [132]),
 (un (.ld 117 1 false (.t 116)), [132]),
 (un (.len 118 (.t 117)), [132]),
 (un (.mov 119 (.t 0)), [116, 117, 118]),
 (un (.call 120 Aq [((.t 119), true), ((.c (.int .i64 2)), false)]), [132, 116, 117, 118]),
 (un (.bin 121 .add (.c (.int .i64 4)) (.t 120)), [116, 117, 118])]
 [un (.bin 122 .lss (.t 118) (.t 121))])
 (.drop [116, 117, 118, 119, 120, 121] (.cond (.t 122) .skip
 (.exit 5))))
 (.drop [116, 117, 118, 119, 120, 121, 122] (.block 6 (.dregl [(0, .fadr 123 1 (.t 5)),
 (1, .ld 124 1 false (.t 123)),
 (2, .mov 125 (.t 4))]
 (.alt 3 (.mk 126 1 (.int .i64 0) (.t 125)) [0, 1, 2] [] (.alt 4 (.bld 127 [.int .i64 0, .nilsl 1] [(0, 1, (.c (.int .i64 1))), (1, 1, (.t 126))]) [0, 1] [] (.alt 5 (.bsl 128 2 [(.t 127)]) [0, 1] [] (.alt 6 (.app 129 2 (.t 124) (.t 128)) [0, 1] [124] (.alt 7 (.fadr 130 1 (.t 5)) [] [] (.alt 8 (.st 1 (.t 130) (.t 129)) [] [] .nil .nil) .nil) .nil) .nil) .nil) .nil)))))
def Y4 : ACode :=
 (.seq (.reg [un (.alc 2 (.agg [.int .i64 0, .nilsl 2]))])
 (.seq (.seq (.reg [un (.mov 9 (.t 0)),
 un (.call 10 C6 [((.t 9), true), ((.c (.int .i64 4)), false)]),
 un (.un 11 .not (.t 10))])
 (.drop [9, 10] (.cond (.t 11) (.seq (.reg [un (.mov 12 (.t 0)),
 un (.call 13 Aq [((.t 12), true), ((.c (.int .i64 17)), false)]),
 un (.call 14 R6 [((.t 13), false)]),
 un (.alc 3 (.agg [.int .i64 0, .nilsl 2])),
 un (.st 2 (.t 3) (.t 14))])
 (.drop [12, 13, 14] (.seq (.reg [un (.ld 15 2 true (.t 3)),
 un (.st 2 (.t 2) (.t 15))])
 (.drop [15] .ret))))
 .skip)))
 (.drop [9, 10, 11, 12, 13, 14, 3, 15] (.seq (.reg [un (.mov 16 (.t 0)),
 un (.bsl 17 1 [(.c (.int .i64 2)), (.c (.int .i64 2)), (.c (.int .i64 3)), (.c (.int .i64 3)), (.c (.int .i64 4))]),
 un (.call 18 A2 [((.t 16), true), ((.t 17), false)]),
 un (.asg 4 (.t 18))])
 (.drop [16, 17, 18] (.seq (.reg [un (.mov 19 (.t 4)),
 un (.bld 20 [.int .i64 0, .nilsl 2] [(0, 1, (.t 19))]),
 un (.alc 5 (.agg [.int .i64 0, .nilsl 2])),
 un (.st 2 (.t 5) (.t 20))])
 (.drop [19, 20] (.seq (.seq (.reg [un (.mov 21 (.t 0)),
 un (.bsl 22 1 [(.c (.int .i64 1)), (.c (.int .i64 1)), (.c (.int .i64 2))]),
 un (.call 23 A2 [((.t 21), true), ((.t 22), false)]),
 un (.asg 6 (.t 23))])
 (.drop [21, 22, 23] (.block 0 (.loop Lz))))
 (.drop [21, 22, 23, 6, 24, 25, 28, 29, 30, 31, 7, 32, 33, 34, 35, 36, 37, 38, 39, 40, 41, 42, 43, 8, 44, 45, 48, 49, 50, 51, 52, 53, 54, 55, 46, 47, 56, 57, 58, 59, 60, 61, 26, 27] (.seq (.seq (.reg [un (.mov 62 (.t 0)),
 un (.call 63 Aq [((.t 62), true), ((.c (.int .i64 16)), false)])])
 (.drop [62] (.block 4 (.seq (.reg [un (.bin 65 .eql (.t 63) (.c (.int .i64 0))),
 un (.asg 64 (.t 65))])
 (.drop [65] (.cond (.t 64) (.reg [un (.mov 66 (.t 0)),
 un (.mov 67 (.t 4)),
 un (.bin 68 .add (.t 67) (.c (.int .i64 1))),
 un (.bsl 69 1 [(.c (.int .i64 0)), (.c (.int .i64 9)), (.t 68)]),
 un (.call 70 A2 [((.t 66), true), ((.t 69), false)]),
 un (.fadr 71 0 (.t 5)),
 un (.st 1 (.t 71) (.t 70))])
 (.seq (.reg [un (.bin 73 .eql (.t 63) (.c (.int .i64 1))),
 un (.asg 72 (.t 73))])
 (.drop [73] (.cond (.t 72) (.dregl [(0, .fadr 74 1 (.t 5)),
 (1, .ld 75 1 false (.t 74)),
 (2, .fadr 76 1 (.t 5)),
 (3, .ld 77 1 false (.t 76)),
 (4, .iad 78 2 (.t 77) (.c (.int .i64 0))),
 (5, .fadr 79 1 (.t 78)),
 (6, .ld 80 1 false (.t 79))]
 (.alt 7 (.bsl 81 1 [(.c (.int .i64 0))]) [0, 1, 2, 3, 4, 5, 6] [] (.alt 8 (.app 82 1 (.t 80) (.t 81)) [0, 1, 2, 3, 4, 5, 6] [80] (.alt 9 (.iad 83 2 (.t 75) (.c (.int .i64 0))) [0, 1] [] (.alt 10 (.fadr 84 1 (.t 83)) [] [] (.alt 11 (.st 1 (.t 84) (.t 82)) [] [] .nil .nil) .nil) .nil) .nil) .nil))
 (.seq (.reg [un (.bin 86 .eql (.t 63) (.c (.int .i64 2))),
 un (.asg 85 (.t 86))])
 (.drop [86] (.cond (.t 85) (.dregl [(0, .fadr 87 1 (.t 5)),
 (1, .ld 88 1 false (.t 87)),
 (2, .iad 89 2 (.t 88) (.c (.int .i64 0))),
 (3, .fadr 90 1 (.t 89)),
 (4, .ld 91 1 false (.t 90)),
 (5, .mov 92 (.t 0)),
 (6, .fadr 93 1 (.t 5)),
 (7, .ld 94 1 false (.t 93)),
 (8, .iad 95 2 (.t 94) (.c (.int .i64 0))),
 (9, .fadr 96 1 (.t 95)),
 (10, .ld 97 1 false (.t 96)),
 (13, .mov 100 (.t 0)),
 (14, .mov 101 (.t 4))]
 (.alt 11 (.len 98 (.t 97)) [0, 1, 2, 3, 4, 5, 6, 7, 8, 9, 10, 13, 14] [] (.alt 12 (.call 99 Aq [((.t 92), true), ((.t 98), false)]) [0, 1, 2, 3, 4, 5, 13, 14] [] (.alt 15 (.bsl 102 1 [(.c (.int .i64 (-1))), (.t 101)]) [0, 1, 2, 3, 4, 13, 14] [] (.alt 16 (.call 103 A2 [((.t 100), true), ((.t 102), false)]) [0, 1, 2, 3, 4, 13] [] (.alt 17 (.iad 104 1 (.t 91) (.t 99)) [0, 1, 2, 3, 4] [] (.alt 18 (.st 1 (.t 104) (.t 103)) [] [] .nil .nil) .nil) .nil) .nil) (.alt 15 (.bsl 102 1 [(.c (.int .i64 (-1))), (.t 101)]) [0, 1, 2, 3, 4, 5, 13, 14] [] (.alt 12 (.call 99 Aq [((.t 92), true), ((.t 98), false)]) [0, 1, 2, 3, 4, 5, 13] [] (.alt 16 (.call 103 A2 [((.t 100), true), ((.t 102), false)]) [0, 1, 2, 3, 4, 13] [] (.alt 17 (.iad 104 1 (.t 91) (.t 99)) [0, 1, 2, 3, 4] [] (.alt 18 (.st 1 (.t 104) (.t 103)) [] [] .nil .nil) .nil) .nil) .nil) .nil)) (.alt 15 (.bsl 102 1 [(.c (.int .i64 (-1))), (.t 101)]) [0, 1, 2, 3, 4, 5, 6, 7, 8, 9, 10, 13, 14] [] (.alt 11 (.len 98 (.t 97)) [0, 1, 2, 3, 4, 5, 6, 7, 8, 9, 10, 13] [] (.alt 12 (.call 99 Aq [((.t 92), true), ((.t 98), false)]) [0, 1, 2, 3, 4, 5, 13] [] (.alt 16 (.call 103 A2 [((.t 100), true), ((.t 102), false)]) [0, 1, 2, 3, 4, 13] [] (.alt 17 (.iad 104 1 (.t 91) (.t 99)) [0, 1, 2, 3, 4] [] (.alt 18 (.st 1 (.t 104) (.t 103)) [] [] .nil .nil) .nil) .nil) .nil) .nil) .nil)))
 (.seq (.reg [un (.bin 106 .eql (.t 63) (.c (.int .i64 3))),
 un (.asg 105 (.t 106))])
 (.drop [106] (.cond (.t 105) (.dregl [(0, .fadr 107 1 (.t 5)),
 (1, .ld 108 1 false (.t 107)),
 (2, .mov 109 (.t 0))]
 (.alt 3 (.bsl 110 1 [(.c (.int .i64 (-1))), (.c (.int .i64 4))]) [0, 1, 2] [] (.alt 4 (.call 111 A2 [((.t 109), true), ((.t 110), false)]) [0, 1, 2] [] (.alt 5 (.iad 112 2 (.t 108) (.c (.int .i64 0))) [0, 1] [] (.alt 6 (.fadr 113 0 (.t 112)) [] [] (.alt 7 (.st 1 (.t 113) (.t 111)) [] [] .nil .nil) .nil) .nil) .nil) .nil))
 (.seq (.reg [un (.bin 115 .eql (.t 63) (.c (.int .i64 4))),
 un (.asg 114 (.t 115))])
 (.drop [115] (.cond (.t 114) (.block 5 (.loop Lw))
 .skip))))))))))))))))))
 (.drop [62, 63, 65, 64, 66, 67, 68, 69, 70, 71, 73, 72, 74, 75, 76, 77, 78, 79, 80, 81, 82, 83, 84, 86, 85, 87, 88, 89, 90, 91, 92, 93, 94, 95, 96, 97, 98, 99, 100, 101, 102, 103, 104, 106, 105, 107, 108, 109, 110, 111, 112, 113, 115, 114, 116, 117, 118, 119, 120, 121, 122, 123, 124, 125, 126, 127, 128, 129, 130] (.seq (.reg [un (.ld 131 2 true (.t 5)),
 un (.st 2 (.t 2) (.t 131))])
 (.drop [131] .ret)))))))))))))
abbrev Ym : List RS := [.c 2 2 true]
theorem X4 : A5 Try.prog Jh 132 Y4 Ym = true := by kernel_rfl
def Ahm : ACode :=
 (.seq (.reg [un (.box 4 (.t 1)),
 un (.box 5 (.t 2)),
 un (.asg 6 (.c (.bool false)))])
 (.seq (.reg [un (.mov 7 (.t 0)),
 un (.ld 8 2 true (.t 5)),
 un (.call 9 Ie [((.t 7), false), ((.t 8), false)]),
 un (.asg 10 (.t 9)),
 ⟨some (10, true), .ld 11 2 true (.t 4)⟩,
 ⟨some (10, true), .mov 12 (.t 0)⟩,
 ⟨some (10, true), .call 13 Se [((.t 11), false), ((.t 12), false)]⟩,
 un (.pick 14 (.t 10) (.t 13) (.c (.bool false))),
 un (.asg 15 (.t 14)),
 ⟨some (15, true), .fadr 16 1 (.t 5)⟩,
 ⟨some (15, true), .ld 17 1 false (.t 16)⟩,
 ⟨some (15, true), .len 18 (.t 17)⟩,
 ⟨some (15, true), .fadr 19 0 (.t 4)⟩,
 ⟨some (15, true), .ld 20 1 false (.t 19)⟩,
 ⟨some (15, true), .call 21 Mi [((.t 18), false), ((.t 20), false)]⟩,
 ⟨some (15, true), .bin 22 .leq (.t 21) (.c (.int .i64 70000))⟩,
 un (.pick 23 (.t 15) (.t 22) (.c (.bool false))),
 un (.asg 6 (.t 23))])
 (.drop [7, 8, 9, 10, 11, 12, 13, 14, 15, 16, 17, 18, 19, 20, 21, 22, 23] .ret)))
abbrev Ah0 : List RS := [.t 6]
theorem Aiq : A5 Try.prog R3 24 Ahm Ah0 = true := by kernel_rfl
def Zr : ACode :=
 (.seq (.reg [un (.asg 2 (.c (.int .i64 0)))])
 (.seq (.reg [un (.mov 3 (.t 0)),
 un (.bsl 4 1 [(.c (.int .i64 2)), (.c (.int .i64 3)), (.c (.int .i64 3)), (.c (.int .i64 4)), (.c (.int .i64 2)), (.c (.int .i64 1)), (.c (.int .i64 5)), (.c (.int .i64 8)), (.c (.int .i64 0)), (.c (.int .i64 9))]),
 un (.mov 5 (.t 0)),
 un (.call 6 Aq [((.t 5), true), ((.c (.int .i64 24)), false)]),
 un (.bin 7 .quo (.t 6) (.c (.int .i64 11))),
 un (.bin 8 .add (.c (.int .i64 8)) (.t 7)),
 un (.slc 9 1 (.t 4) none (some (.t 8))),
 un (.call 10 A2 [((.t 3), true), ((.t 9), false)]),
 un (.asg 2 (.t 10))])
 (.drop [3, 4, 5, 6, 7, 8, 9, 10] .ret)))
abbrev Zs : List RS := [.t 2]
theorem Z6 : A5 Try.prog Hi 11 Zr Zs = true := by kernel_rfl
def Ty : ACode :=
 (.seq (.reg [un (.mov 14 (.t 1)),
 un (.call 15 It [((.t 14), false)]),
 un (.un 16 .not (.t 15)),
 un (.asg 17 (.t 16)),
 ⟨some (17, false), .mov 18 (.t 2)⟩,
 ⟨some (17, false), .call 19 Fw [((.t 18), false), ((.c (.int .i64 1)), false), ((.c (.int .i64 3)), false)]⟩,
 ⟨some (17, false), .un 20 .not (.t 19)⟩,
 un (.pick 21 (.t 17) (.c (.bool true)) (.t 20))])
 (.drop [14, 15, 16, 17, 18, 19, 20] (.cond (.t 21) (.seq (.reg [un (.ld 22 2 true (.t 7)),
 un (.st 2 (.t 6) (.t 22))])
 (.drop [22] .ret))
 .skip)))
def K5 : ACode :=
 (.seq (.seq (.reg [un (.mov 31 (.t 10)),
 un (.mov 32 (.t 2)),
 un (.bin 33 .lss (.t 31) (.t 32))])
 (.drop [31, 32] (.cond (.t 33) .skip
 (.exit 2))))
 (.drop [31, 32, 33] (.seq (.block 3 (.reg [un (.mov 36 (.t 9)),
 un (.mov 37 (.t 0)),
 un (.mov 38 (.t 1)),
 un (.call 39 Aq [((.t 37), true), ((.t 38), false)]),
 un (.bsl 40 1 [(.t 39)]),
 un (.app 41 1 (.t 36) (.t 40)),
 un (.asg 9 (.t 41))]))
 (.drop [36, 37, 38, 39, 40, 41] (.reg [un (.mov 34 (.t 10)),
 un (.bin 35 .add (.t 34) (.c (.int .i64 1))),
 un (.asg 10 (.t 35))])))))
def Kj : ACode :=
 (.seq (.seq (.reg [un (.mov 26 (.t 8)),
 un (.bin 27 .gtr (.t 26) (.c (.int .i64 0)))])
 (.drop [26] (.cond (.t 27) .skip
 (.exit 0))))
 (.drop [26, 27] (.seq (.block 1 (.seq (.reg [un (.bsl 30 1 []),
 un (.asg 9 (.t 30))])
 (.drop [30] (.seq (.seq (.reg [un (.asg 10 (.c (.int .i64 0)))])
 (.block 2 (.loop K5)))
 (.drop [10, 31, 32, 33, 36, 37, 38, 39, 40, 41, 34, 35] (.frz [9] (.reg [un (.fadr 42 1 (.t 7)),
 un (.ld 43 1 false (.t 42)),
 un (.mov 44 (.t 9)),
 un (.call 45 Wv [((.t 43), true), ((.t 44), false)]),
 un (.fadr 46 1 (.t 7)),
 un (.st 1 (.t 46) (.t 45))])))))))
 (.drop [30, 9, 10, 31, 32, 33, 36, 37, 38, 39, 40, 41, 34, 35, 42, 43, 44, 45, 46] (.reg [un (.mov 28 (.t 8)),
 un (.bin 29 .sub (.t 28) (.c (.int .i64 1))),
 un (.asg 8 (.t 29))])))))
def Ti : ACode :=
 (.seq (.reg [un (.mov 47 (.t 2)),
 un (.bin 48 .eql (.t 47) (.c (.int .i64 2))),
 un (.asg 49 (.t 48)),
 ⟨some (49, true), .mov 50 (.t 0)⟩,
 ⟨some (49, true), .call 51 C6 [((.t 50), true), ((.c (.int .i64 3)), false)]⟩,
 un (.pick 52 (.t 49) (.t 51) (.c (.bool false)))])
 (.drop [47, 48, 49, 50, 51] (.cond (.t 52) (.reg [un (.mov 53 (.t 0)),
 un (.mov 54 (.t 1)),
 un (.call 55 Df [((.t 53), true), ((.t 54), false)]),
 un (.call 56 Ec [((.t 55), false)]),
 un (.st 2 (.t 7) (.t 56))])
 .skip)))
def Tq : ACode :=
 (.seq (.reg [un (.mov 57 (.t 0)),
 un (.call 58 C6 [((.t 57), true), ((.c (.int .i64 12)), false)])])
 (.drop [57] (.cond (.t 58) (.reg [un (.mov 59 (.t 1)),
 un (.mov 60 (.t 2)),
 un (.call 61 Rn [((.t 59), false), ((.t 60), false)]),
 un (.st 2 (.t 7) (.t 61))])
 .skip)))
def Xs : ACode :=
 (.seq (.reg [un (.alc 6 (.agg [.int .i64 0, .nilsl 1]))])
 (.seq (.reg [un (.mov 11 (.t 2)),
 un (.bsl 12 1 []),
 un (.bld 13 [.int .i64 0, .nilsl 1] [(0, 1, (.t 11)), (1, 1, (.t 12))]),
 un (.alc 7 (.agg [.int .i64 0, .nilsl 1])),
 un (.st 2 (.t 7) (.t 13))])
 (.drop [11, 12, 13] (.seq (.cut Ty)
 (.drop [14, 15, 16, 17, 18, 19, 20, 21, 22] (.seq (.seq (.reg [un (.mov 23 (.t 0)),
 un (.bsl 24 1 [(.c (.int .i64 0)), (.c (.int .i64 1)), (.c (.int .i64 2)), (.c (.int .i64 3)), (.c (.int .i64 4)), (.c (.int .i64 6)), (.c (.int .i64 9))]),
 un (.call 25 A2 [((.t 23), true), ((.t 24), false)]),
 un (.asg 8 (.t 25))])
 (.drop [23, 24, 25] (.block 0 (.loop Kj))))
 (.drop [23, 24, 25, 8, 26, 27, 30, 9, 10, 31, 32, 33, 36, 37, 38, 39, 40, 41, 34, 35, 42, 43, 44, 45, 46, 28, 29] (.seq (.cut Ti)
 (.drop [47, 48, 49, 50, 51, 52, 53, 54, 55, 56] (.seq (.cut Tq)
 (.drop [57, 58, 59, 60, 61] (.seq (.seq (.reg [un (.mov 62 (.t 0)),
 un (.call 63 Aq [((.t 62), true), ((.c (.int .i64 40)), false)])])
 (.drop [62] (.block 4 (.seq (.reg [un (.bin 65 .eql (.t 63) (.c (.int .i64 0))),
 un (.asg 64 (.t 65))])
 (.drop [65] (.cond (.t 64) (.reg [un (.mov 66 (.t 0)),
 un (.bsl 67 1 [(.c (.int .i64 0)), (.c (.int .i64 4)), (.c (.int .i64 (-1)))]),
 un (.call 68 A2 [((.t 66), true), ((.t 67), false)]),
 un (.fadr 69 0 (.t 7)),
 un (.st 1 (.t 69) (.t 68))])
 (.seq (.reg [un (.bin 71 .eql (.t 63) (.c (.int .i64 1))),
 un (.asg 70 (.t 71))])
 (.drop [71] (.cond (.t 70) (.dreg [(un (.fadr 72 1 (.t 7)), [75]),
 (un (.ld 73 1 false (.t 72)), [75]),
 (un (.mov 74 (.t 2)), [72, 73]),
 (un (.mkr 75 1 (.int .i64 0) (.t 74)), [72, 73]),
 (un (.bsl 76 1 [(.t 75)]), [72, 73])]
 [un (.app 77 1 (.t 73) (.t 76)),
 un (.fadr 78 1 (.t 7)),
 un (.st 1 (.t 78) (.t 77))])
 (.seq (.reg [un (.bin 80 .eql (.t 63) (.c (.int .i64 2))),
 un (.asg 79 (.t 80))])
 (.drop [80] (.cond (.t 79) (.seq (.reg [un (.fadr 81 1 (.t 7)),
 un (.ld 82 1 false (.t 81)),
 un (.len 83 (.t 82)),
 un (.bin 84 .gtr (.t 83) (.c (.int .i64 0)))])
 (.drop [81, 82, 83] (.cond (.t 84) (.dreg [(un (.fadr 85 1 (.t 7)), [94, 88, 90]),
 (un (.ld 86 1 false (.t 85)), [94, 88, 90]),
 (un (.mov 87 (.t 0)), [85, 86, 88]),
 (un (.mov 88 (.t 1)), [85, 86, 87]),
 (un (.bslr 89 1 [(.c (.int .i64 (-1))), (.t 88), (.c (.int .i64 0))]), [85, 86, 87]),
 (un (.call 90 A2 [((.t 87), true), ((.t 89), false)]), [94, 85, 86, 88]),
 (un (.bslr 91 1 [(.t 90)]), [85, 86, 88])]
 [un (.iad 92 1 (.t 86) (.c (.int .i64 0))),
 un (.st 1 (.t 92) (.t 91))])
 .skip)))
 .skip))))))))))))
 (.drop [62, 63, 65, 64, 66, 67, 68, 69, 71, 70, 72, 73, 74, 75, 76, 77, 78, 80, 79, 81, 82, 83, 84, 85, 86, 87, 88, 89, 90, 91, 92] (.seq (.reg [un (.ld 93 2 true (.t 7)),
 un (.st 2 (.t 6) (.t 93))])
 (.drop [93] .ret)))))))))))))))
abbrev Xq : List RS := [.c 6 2 true]
theorem Xr : A5 Try.prog I1 94 Xs Xq = true := by kernel_rfl
def Kn : ACode :=
 (.seq (.seq (.reg [un (.mov 10 (.t 5)),
 un (.mov 11 (.t 0)),
 un (.bin 12 .lss (.t 10) (.t 11))])
 (.drop [10, 11] (.cond (.t 12) .skip
 (.exit 0))))
 (.drop [10, 11, 12] (.seq (.block 1 (.seq (.reg [un (.ld 15 2 true (.t 3)),
 un (.mov 16 (.t 5)),
 un (.mov 17 (.t 5)),
 un (.bsl 18 1 [(.t 16), (.t 17)]),
 un (.call 19 Hb [((.t 15), false), ((.t 18), false)]),
 un (.un 20 .not (.t 19))])
 (.drop [15, 16, 17, 18, 19] (.cond (.t 20) (.seq (.reg [un (.asg 4 (.c (.bool false)))])
 .ret)
 .skip))))
 (.drop [15, 16, 17, 18, 19, 20] (.reg [un (.mov 13 (.t 5)),
 un (.bin 14 .add (.t 13) (.c (.int .i64 1))),
 un (.asg 5 (.t 14))])))))
def Ku : ACode :=
 (.seq (.seq (.reg [un (.mov 48 (.t 9)),
 un (.mov 49 (.t 0)),
 un (.bin 50 .lss (.t 48) (.t 49))])
 (.drop [48, 49] (.cond (.t 50) .skip
 (.exit 4))))
 (.drop [48, 49, 50] (.seq (.block 5 (.seq (.reg [un (.ld 53 2 true (.t 3)),
 un (.mov 54 (.t 8)),
 un (.mov 55 (.t 9)),
 un (.bsl 56 1 [(.t 54), (.t 55)]),
 un (.call 57 Hb [((.t 53), false), ((.t 56), false)]),
 un (.asg 58 (.t 57)),
 ⟨some (58, true), .ld 59 2 true (.t 3)⟩,
 ⟨some (58, true), .mov 60 (.t 7)⟩,
 ⟨some (58, true), .mov 61 (.t 9)⟩,
 ⟨some (58, true), .bsl 62 1 [(.t 60), (.t 61)]⟩,
 ⟨some (58, true), .call 63 Hb [((.t 59), false), ((.t 62), false)]⟩,
 ⟨some (58, true), .un 64 .not (.t 63)⟩,
 un (.pick 65 (.t 58) (.t 64) (.c (.bool false)))])
 (.drop [53, 54, 55, 56, 57, 58, 59, 60, 61, 62, 63, 64] (.cond (.t 65) (.seq (.reg [un (.asg 4 (.c (.bool false)))])
 .ret)
 .skip))))
 (.drop [53, 54, 55, 56, 57, 58, 59, 60, 61, 62, 63, 64, 65] (.reg [un (.mov 51 (.t 9)),
 un (.bin 52 .add (.t 51) (.c (.int .i64 1))),
 un (.asg 9 (.t 52))])))))
def Ky : ACode :=
 (.seq (.seq (.reg [un (.mov 21 (.t 6)),
 un (.fadr 22 1 (.t 3)),
 un (.ld 23 1 false (.t 22)),
 un (.len 24 (.t 23)),
 un (.bin 25 .lss (.t 21) (.t 24))])
 (.drop [21, 22, 23, 24] (.cond (.t 25) .skip
 (.exit 2))))
 (.drop [21, 22, 23, 24, 25] (.seq (.block 3 (.seq (.dregp 0 [7] [(un (.fadr 28 1 (.t 3)), []),
 (un (.ld 29 1 false (.t 28)), []),
 (un (.mov 30 (.t 6)), [28, 29]),
 (un (.iad 31 1 (.t 29) (.t 30)), []),
 (un (.ld 32 1 false (.t 31)), []),
 (un (.iad 33 1 (.t 32) (.c (.int .i64 0))), []),
 (un (.ld 34 1 false (.t 33)), []),
 (un (.fadr 35 1 (.t 3)), [28, 29, 30, 31, 32, 33, 34, 34]),
 (un (.ld 36 1 false (.t 35)), [28, 29, 30, 31, 32, 33, 34, 34]),
 (un (.mov 37 (.t 6)), [28, 29, 30, 31, 32, 33, 34, 35, 36, 34]),
 (un (.iad 38 1 (.t 36) (.t 37)), [28, 29, 30, 31, 32, 33, 34, 34]),
 (un (.ld 39 1 false (.t 38)), [28, 29, 30, 31, 32, 33, 34, 34]),
 (un (.iad 40 1 (.t 39) (.c (.int .i64 1))), [28, 29, 30, 31, 32, 33, 34, 34]),
 (un (.ld 41 1 false (.t 40)), [28, 29, 30, 31, 32, 33, 34, 34]),
 (un (.asg 7 (.t 34)), [35, 36, 37, 38, 39, 40, 41])]
 [un (.asg 8 (.t 41))])
 (.drop [28, 29, 30, 31, 32, 33, 34, 35, 36, 37, 38, 39, 40, 41] (.seq (.seq (.reg [un (.ld 42 2 true (.t 3)),
 un (.mov 43 (.t 8)),
 un (.mov 44 (.t 7)),
 un (.bsl 45 1 [(.t 43), (.t 44)]),
 un (.call 46 Hb [((.t 42), false), ((.t 45), false)]),
 un (.un 47 .not (.t 46))])
 (.drop [42, 43, 44, 45, 46] (.cond (.t 47) (.seq (.reg [un (.asg 4 (.c (.bool false)))])
 .ret)
 .skip)))
 (.drop [42, 43, 44, 45, 46, 47] (.seq (.reg [un (.asg 9 (.c (.int .i64 0)))])
 (.block 4 (.loop Ku))))))))
 (.drop [28, 29, 30, 31, 32, 33, 34, 35, 36, 37, 38, 39, 40, 41, 7, 8, 42, 43, 44, 45, 46, 47, 9, 48, 49, 50, 53, 54, 55, 56, 57, 58, 59, 60, 61, 62, 63, 64, 65, 51, 52] (.reg [un (.mov 26 (.t 6)),
 un (.bin 27 .add (.t 26) (.c (.int .i64 1))),
 un (.asg 6 (.t 27))])))))
def Xp : ACode :=
 (.seq (.reg [un (.box 3 (.t 1)),
 un (.asg 4 (.c (.bool false)))])
 (.seq (.seq (.reg [un (.asg 5 (.c (.int .i64 0)))])
 (.block 0 (.loop Kn)))
 (.drop [5, 10, 11, 12, 15, 16, 17, 18, 19, 20, 13, 14] (.seq (.seq (.reg [un (.asg 6 (.c (.int .i64 0)))])
 (.block 2 (.loop Ky)))
 (.drop [6, 21, 22, 23, 24, 25, 28, 29, 30, 31, 32, 33, 34, 35, 36, 37, 38, 39, 40, 41, 7, 8, 42, 43, 44, 45, 46, 47, 9, 48, 49, 50, 53, 54, 55, 56, 57, 58, 59, 60, 61, 62, 63, 64, 65, 51, 52, 26, 27] (.seq (.reg [un (.asg 4 (.c (.bool true)))])
 .ret))))))
abbrev Xw : List RS := [.t 4]
theorem Xm : A5 Try.prog Gj 66 Xp Xw = true := by kernel_rfl
def Acq : ACode :=
 (.seq (.dreg [(un (.fadr 6 0 (.t 3)), []),
 (un (.ld 7 1 false (.t 6)), []),
 (un (.call 8 Fw [((.t 7), false), ((.c (.int .i64 1)), false), ((.c (.int .i64 3)), false)]), []),
 (un (.un 9 .not (.t 8)), []),
 (un (.asg 10 (.t 9)), []),
 (⟨some (10, false), .fadr 11 1 (.t 3)⟩, [9]),
 (⟨some (10, false), .ld 12 1 false (.t 11)⟩, [9]),
 (⟨some (10, false), .len 13 (.t 12)⟩, [9]),
 (⟨some (10, false), .mov 14 (.t 0)⟩, [11, 12, 13, 9]),
 (⟨some (10, false), .fadr 15 0 (.t 3)⟩, [11, 12, 13, 14, 9]),
 (⟨some (10, false), .ld 16 1 false (.t 15)⟩, [11, 12, 13, 14, 9]),
 (⟨some (10, false), .call 17 J3 [((.t 14), false), ((.t 16), false)]⟩, [11, 12, 13, 9])]
 [⟨some (10, false), .bin 18 .gtr (.t 13) (.t 17)⟩,
 un (.pick 19 (.t 10) (.c (.bool true)) (.t 18))])
 (.drop [6, 7, 8, 9, 10, 11, 12, 13, 14, 15, 16, 17, 18] (.cond (.t 19) (.seq (.reg [un (.asg 4 (.c (.bool false)))])
 .ret)
 .skip)))
def S3 : ACode :=
 (.seq (.seq (.reg [un (.mov 20 (.t 5)),
 un (.fadr 21 1 (.t 3)),
 un (.ld 22 1 false (.t 21)),
 un (.len 23 (.t 22)),
 un (.bin 24 .lss (.t 20) (.t 23))])
 (.drop [20, 21, 22, 23] (.cond (.t 24) .skip
 (.exit 0))))
 (.drop [20, 21, 22, 23, 24] (.seq (.block 1 (.seq (.dreg [(un (.mov 27 (.t 0)), []),
 (un (.fadr 28 0 (.t 3)), [27]),
 (un (.ld 29 1 false (.t 28)), [27]),
 (un (.fadr 30 1 (.t 3)), [27, 28, 29]),
 (un (.ld 31 1 false (.t 30)), [27, 28, 29]),
 (un (.mov 32 (.t 5)), [27, 28, 29, 30, 31]),
 (un (.iad 33 1 (.t 31) (.t 32)), [27, 28, 29]),
 (un (.ld 34 1 false (.t 33)), [27, 28, 29]),
 (un (.call 35 R7 [((.t 27), false), ((.t 29), false), ((.t 34), false)]), []),
 (un (.un 36 .not (.t 35)), []),
 (un (.asg 37 (.t 36)), []),
 (⟨some (37, false), .mov 38 (.t 5)⟩, [36]),
 (⟨some (37, false), .bin 39 .gtr (.t 38) (.c (.int .i64 0))⟩, [36]),
 (⟨some (37, false), .asg 40 (.t 39)⟩, [36]),
 (⟨some (40, true), .fadr 41 1 (.t 3)⟩, [36, 39]),
 (⟨some (40, true), .ld 42 1 false (.t 41)⟩, [36, 39]),
 (⟨some (40, true), .mov 43 (.t 5)⟩, [41, 42, 36, 39]),
 (⟨some (40, true), .bin 44 .sub (.t 43) (.c (.int .i64 1))⟩, [41, 42, 36, 39]),
 (⟨some (40, true), .iad 45 1 (.t 42) (.t 44)⟩, [36, 39]),
 (⟨some (40, true), .ld 46 1 false (.t 45)⟩, [36, 39]),
 (⟨some (40, true), .fadr 47 1 (.t 3)⟩, [41, 42, 43, 44, 45, 46, 36, 39]),
 (⟨some (40, true), .ld 48 1 false (.t 47)⟩, [41, 42, 43, 44, 45, 46, 36, 39]),
 (⟨some (40, true), .mov 49 (.t 5)⟩, [41, 42, 43, 44, 45, 46, 47, 48, 36, 39]),
 (⟨some (40, true), .iad 50 1 (.t 48) (.t 49)⟩, [41, 42, 43, 44, 45, 46, 36, 39]),
 (⟨some (40, true), .ld 51 1 false (.t 50)⟩, [41, 42, 43, 44, 45, 46, 36, 39])]
 [⟨some (40, true), .call 52 Ot [((.t 46), false), ((.t 51), false)]⟩,
 ⟨some (40, true), .un 53 .not (.t 52)⟩,
 ⟨some (37, false), .pick 54 (.t 40) (.t 53) (.c (.bool false))⟩,
 un (.pick 55 (.t 37) (.c (.bool true)) (.t 54))])
 (.drop [27, 28, 29, 30, 31, 32, 33, 34, 35, 36, 37, 38, 39, 40, 41, 42, 43, 44, 45, 46, 47, 48, 49, 50, 51, 52, 53, 54] (.cond (.t 55) (.seq (.reg [un (.asg 4 (.c (.bool false)))])
 .ret)
 .skip))))
 (.drop [27, 28, 29, 30, 31, 32, 33, 34, 35, 36, 37, 38, 39, 40, 41, 42, 43, 44, 45, 46, 47, 48, 49, 50, 51, 52, 53, 54, 55] (.reg [un (.mov 25 (.t 5)),
 un (.bin 26 .add (.t 25) (.c (.int .i64 1))),
 un (.asg 5 (.t 26))])))))
def Ah7 : ACode :=
 (.seq (.reg [un (.box 3 (.t 1)),
 un (.asg 4 (.c (.bool false)))])
 (.seq (.cut Acq)
 (.drop [6, 7, 8, 9, 10, 11, 12, 13, 14, 15, 16, 17, 18, 19] (.seq (.seq (.reg [un (.asg 5 (.c (.int .i64 0)))])
 (.block 0 (.loop S3)))
 (.drop [5, 20, 21, 22, 23, 24, 27, 28, 29, 30, 31, 32, 33, 34, 35, 36, 37, 38, 39, 40, 41, 42, 43, 44, 45, 46, 47, 48, 49, 50, 51, 52, 53, 54, 55, 25, 26] (.seq (.reg [un (.asg 4 (.c (.bool true)))])
 .ret))))))
abbrev Ahd : List RS := [.t 4]
theorem Ag5 : A5 Try.prog Ro 56 Ah7 Ahd = true := by kernel_rfl
def Q2 : ACode :=
 (.seq (.reg [un (.mov 13 (.t 6)),
 un (.bin 14 .gtr (.t 13) (.c (.int .i64 0))),
 un (.asg 15 (.t 14)),
 ⟨some (15, true), .mov 16 (.t 5)⟩,
 ⟨some (15, true), .len 17 (.t 16)⟩,
 ⟨some (15, true), .bin 18 .gtr (.t 17) (.c (.int .i64 1))⟩,
 un (.pick 19 (.t 15) (.t 18) (.c (.bool false)))])
 (.drop [13, 14, 15, 16, 17, 18] (.cond (.t 19) .skip
 (.exit 0))))
def Jx : ACode :=
 (.seq (.cut Q2)
 (.drop [13, 14, 15, 16, 17, 18, 19] (.seq (.block 1 (.reg [un (.mov 22 (.t 5)),
 un (.mov 23 (.t 0)),
 un (.mov 24 (.t 5)),
 un (.len 25 (.t 24)),
 un (.call 26 Aq [((.t 23), true), ((.t 25), false)]),
 un (.mov 27 (.t 0)),
 un (.mov 28 (.t 5)),
 un (.len 29 (.t 28)),
 un (.call 30 Aq [((.t 27), true), ((.t 29), false)]),
 un (.call 31 Ho [((.t 22), false), ((.t 26), false), ((.t 30), false)]),
 un (.asg 5 (.t 31))]))
 (.drop [22, 23, 24, 25, 26, 27, 28, 29, 30, 31] (.reg [un (.mov 20 (.t 6)),
 un (.bin 21 .sub (.t 20) (.c (.int .i64 1))),
 un (.asg 6 (.t 21))])))))
def Vn : ACode :=
 (.seq (.reg [un (.asg 4 (.c (.nilsl 1)))])
 (.seq (.reg [un (.mov 7 (.t 1)),
 un (.call 8 Ox [((.t 7), false), ((.c (.int .i64 0)), false)]),
 un (.call 9 Ju [((.t 8), false), ((.c (.int .i64 9)), false)]),
 un (.call 10 Fd [((.t 9), false)]),
 un (.asg 5 (.t 10))])
 (.drop [7, 8, 9, 10] (.seq (.seq (.reg [un (.mov 11 (.t 0)),
 un (.call 12 Aq [((.t 11), true), ((.c (.int .i64 4)), false)]),
 un (.asg 6 (.t 12))])
 (.drop [11, 12] (.block 0 (.loop Jx))))
 (.drop [11, 12, 6, 13, 14, 15, 16, 17, 18, 19, 22, 23, 24, 25, 26, 27, 28, 29, 30, 31, 20, 21] (.seq (.seq (.reg [un (.mov 32 (.t 0)),
 un (.call 33 Aq [((.t 32), true), ((.c (.int .i64 24)), false)])])
 (.drop [32] (.block 2 (.seq (.reg [un (.bin 35 .eql (.t 33) (.c (.int .i64 0))),
 un (.asg 34 (.t 35))])
 (.drop [35] (.cond (.t 34) (.reg [un (.mov 36 (.t 5)),
 un (.bsl 37 1 [(.c (.int .i64 0))]),
 un (.app 38 1 (.t 36) (.t 37)),
 un (.asg 5 (.t 38))])
 (.seq (.reg [un (.bin 40 .eql (.t 33) (.c (.int .i64 1))),
 un (.asg 39 (.t 40))])
 (.drop [40] (.cond (.t 39) (.seq (.reg [un (.mov 41 (.t 5)),
 un (.len 42 (.t 41)),
 un (.bin 43 .gtr (.t 42) (.c (.int .i64 0)))])
 (.drop [41, 42] (.cond (.t 43) (.reg [un (.mov 44 (.t 5)),
 un (.mov 45 (.t 0)),
 un (.mov 46 (.t 5)),
 un (.len 47 (.t 46)),
 un (.call 48 Aq [((.t 45), true), ((.t 47), false)]),
 un (.mov 49 (.t 0)),
 un (.mov 50 (.t 5)),
 un (.len 51 (.t 50)),
 un (.mov 52 (.t 5)),
 un (.len 53 (.t 52)),
 un (.bin 54 .sub (.t 53) (.c (.int .i64 1))),
 un (.bsl 55 1 [(.c (.int .i64 (-1))), (.t 51), (.t 54), (.c (.int .i64 0))]),
 un (.call 56 A2 [((.t 49), true), ((.t 55), false)]),
 un (.iad 57 1 (.t 44) (.t 48)),
 un (.st 1 (.t 57) (.t 56))])
 .skip)))
 .skip)))))))))
 (.drop [32, 33, 35, 34, 36, 37, 38, 40, 39, 41, 42, 43, 44, 45, 46, 47, 48, 49, 50, 51, 52, 53, 54, 55, 56, 57] (.seq (.reg [un (.mov 58 (.t 5)),
 un (.asg 4 (.t 58))])
 (.drop [58] .ret)))))))))
abbrev V4 : List RS := [.t 4]
theorem Vl : A5 Try.prog Hq 59 Vn V4 = true := by kernel_rfl
def S5 : ACode :=
 (.seq (.seq (.reg [un (.mov 6 (.t 5)),
 un (.fadr 7 0 (.t 2)),
 un (.ld 8 1 false (.t 7)),
 un (.bin 9 .lss (.t 6) (.t 8))])
 (.drop [6, 7, 8] (.cond (.t 9) .skip
 (.exit 0))))
 (.drop [6, 7, 8, 9] (.seq (.block 1 (.reg [un (.ld 12 2 true (.t 2)),
 un (.mov 13 (.t 1)),
 un (.call 14 Tw [((.t 12), false), ((.t 13), false)]),
 un (.asg 1 (.t 14))]))
 (.drop [12, 13, 14] (.frz [1] (.reg [un (.mov 10 (.t 5)),
 un (.bin 11 .add (.t 10) (.c (.int .i64 1))),
 un (.asg 5 (.t 11))]))))))
def Ai1 : ACode :=
 (.seq (.reg [un (.box 2 (.t 0)),
 un (.asg 4 (.c (.nilsl 1)))])
 (.seq (.seq (.reg [un (.asg 5 (.c (.int .i64 0)))])
 (.block 0 (.loop S5)))
 (.drop [5, 6, 7, 8, 9, 12, 13, 14, 10, 11] (.seq (.reg [un (.mov 15 (.t 1)),
 un (.asg 4 (.t 15))])
 (.drop [15] .ret)))))
abbrev Ah5 : List RS := [.t 4]
theorem Ah2 : A5 Try.prog Rh 16 Ai1 Ah5 = true := by kernel_rfl
def Agj : ACode :=
 (.seq (.reg [un (.box 4 (.t 1)),
 un (.box 5 (.t 2)),
 un (.asg 6 (.c (.bool false))),
 un (.asg 7 (.c (.bool false)))])
 (.seq (.seq (.reg [un (.mov 11 (.t 0)),
 un (.ld 12 2 true (.t 4)),
 un (.ld 13 2 true (.t 5)),
 un (.call 14 R3 [((.t 11), false), ((.t 12), false), ((.t 13), false)]),
 un (.un 15 .not (.t 14))])
 (.drop [11, 12, 13, 14] (.cond (.t 15) (.seq (.reg [un (.asg 6 (.c (.bool false))),
 un (.asg 7 (.c (.bool false)))])
 .ret)
 .skip)))
 (.drop [11, 12, 13, 14, 15] (.seq (.reg [un (.mov 17 (.t 0)),
 un (.ld 18 2 true (.t 4)),
 un (.ld 19 2 true (.t 5)),
 un (.call 20 M4 [((.t 17), false), ((.t 18), false), ((.t 19), false)]),
 un (.asg 16 (.t 20)),
 un (.ext 21 (.t 16) 0),
 un (.ext 22 (.t 16) 1),
 un (.ext 23 (.t 16) 2),
 un (.asg 8 (.t 21)),
 un (.asg 9 (.t 22)),
 un (.asg 10 (.t 23))])
 (.drop [17, 18, 19, 20, 16, 21, 22, 23, 8, 9] (.seq (.reg [un (.mov 24 (.t 10)),
 un (.un 25 .not (.t 24)),
 un (.asg 6 (.t 25)),
 un (.asg 7 (.c (.bool true)))])
 (.drop [24, 25] .ret)))))))
abbrev Agl : List RS := [.t 6, .t 7]
theorem Afw : A5 Try.prog Pz 26 Agj Agl = true := by kernel_rfl
def Mb : ACode :=
 (.reg [un (.mov 16 (.t 6)),
 un (.len 17 (.t 16)),
 un (.bin 18 .gtr (.t 17) (.c (.int .i64 0))),
 un (.asg 19 (.t 18)),
 ⟨some (19, true), .mov 20 (.t 4)⟩,
 ⟨some (19, true), .call 21 C6 [((.t 20), true), ((.c (.int .i64 8)), false)]⟩,
 un (.pick 22 (.t 19) (.t 21) (.c (.bool false)))])
def N1 : ACode :=
 (.seq (.reg [un (.asg 2 (.c (.int .i64 0))),
 un (.asg 3 (.c (.nilsl 1)))])
 (.seq (.reg [un (.mov 7 (.t 0)),
 un (.bld 8 [.nilsl 1, .int .i64 0, .int .u64 0] [(0, 1, (.t 7))]),
 un (.box 9 (.t 8)),
 un (.asg 4 (.t 9))])
 (.drop [7, 8, 9] (.seq (.reg [un (.mov 10 (.t 4)),
 un (.call 11 Hi [((.t 10), true)]),
 un (.asg 5 (.t 11))])
 (.drop [10, 11] (.seq (.reg [un (.mov 12 (.t 4)),
 un (.mov 13 (.t 5)),
 un (.call 14 Ju [((.t 13), false), ((.c (.int .i64 9)), false)]),
 un (.call 15 Df [((.t 12), true), ((.t 14), false)]),
 un (.asg 6 (.t 15))])
 (.drop [12, 13, 14, 15] (.seq (.seq (.cut Mb)
 (.drop [16, 17, 18, 19, 20, 21] (.cond (.t 22) (.reg [un (.mov 23 (.t 6)),
 un (.mov 24 (.t 4)),
 un (.mov 25 (.t 6)),
 un (.len 26 (.t 25)),
 un (.call 27 Aq [((.t 24), true), ((.t 26), false)]),
 un (.mov 28 (.t 4)),
 un (.mov 29 (.t 5)),
 un (.bsl 30 1 [(.c (.int .i64 (-1))), (.t 29), (.c (.int .i64 0)), (.c (.int .i64 1))]),
 un (.call 31 A2 [((.t 28), true), ((.t 30), false)]),
 un (.iad 32 1 (.t 23) (.t 27)),
 un (.st 1 (.t 32) (.t 31))])
 .skip)))
 (.drop [16, 17, 18, 19, 20, 21, 22, 23, 24, 25, 26, 27, 28, 29, 30, 31, 32] (.seq (.reg [un (.mov 33 (.t 5)),
 un (.mov 34 (.t 6)),
 un (.asg 2 (.t 33)),
 un (.asg 3 (.t 34))])
 (.drop [33, 34] .ret)))))))))))
abbrev Nr : List RS := [.t 2, .t 3]
theorem Oj : A5 Try.prog Ek 35 N1 Nr = true := by kernel_rfl
def Pm : ACode :=
 (.seq (.reg [un (.mov 11 (.t 0)),
 un (.ld 12 2 true (.t 3)),
 un (.call 13 Gv [((.t 11), false), ((.t 12), false)]),
 un (.asg 10 (.t 13)),
 un (.ext 14 (.t 10) 0),
 un (.ext 15 (.t 10) 1),
 un (.asg 6 (.t 14)),
 un (.asg 7 (.t 15))])
 (.drop [11, 12, 13, 10, 14, 15] (.seq (.reg [un (.mov 16 (.t 7)),
 un (.un 17 .not (.t 16)),
 un (.asg 18 (.t 17)),
 ⟨some (18, false), .mov 19 (.t 6)⟩,
 ⟨some (18, false), .un 20 .not (.t 19)⟩,
 un (.pick 21 (.t 18) (.c (.bool true)) (.t 20))])
 (.drop [16, 17, 18, 19, 20] (.cond (.t 21) (.seq (.reg [un (.bsl 22 1 []),
 un (.asg 4 (.t 22)),
 un (.asg 5 (.c (.bool false)))])
 (.drop [22] .ret))
 .skip)))))
def H7 : ACode :=
 (.seq (.seq (.reg [un (.mov 29 (.t 9)),
 un (.bin 30 .geq (.t 29) (.c (.int .i64 0)))])
 (.drop [29] (.cond (.t 30) .skip
 (.exit 0))))
 (.drop [29, 30] (.seq (.block 1 (.dreg [(un (.mov 33 (.t 8)), []),
 (un (.fadr 34 1 (.t 3)), [33]),
 (un (.ld 35 1 false (.t 34)), [33]),
 (un (.mov 36 (.t 9)), [33, 34, 35]),
 (un (.iad 37 1 (.t 35) (.t 36)), [33]),
 (un (.ld 38 1 false (.t 37)), [33]),
 (un (.iad 39 1 (.t 38) (.c (.int .i64 0))), [33]),
 (un (.ld 40 1 false (.t 39)), [33]),
 (un (.fadr 41 1 (.t 3)), [33, 34, 35, 36, 37, 38, 39, 40]),
 (un (.ld 42 1 false (.t 41)), [33, 34, 35, 36, 37, 38, 39, 40]),
 (un (.mov 43 (.t 9)), [33, 34, 35, 36, 37, 38, 39, 40, 41, 42]),
 (un (.iad 44 1 (.t 42) (.t 43)), [33, 34, 35, 36, 37, 38, 39, 40]),
 (un (.ld 45 1 false (.t 44)), [33, 34, 35, 36, 37, 38, 39, 40]),
 (un (.iad 46 1 (.t 45) (.c (.int .i64 1))), [33, 34, 35, 36, 37, 38, 39, 40]),
 (un (.ld 47 1 false (.t 46)), [33, 34, 35, 36, 37, 38, 39, 40])]
 [un (.iad 48 1 (.t 33) (.t 40)),
 un (.st 1 (.t 48) (.t 47))]))
 (.drop [33, 34, 35, 36, 37, 38, 39, 40, 41, 42, 43, 44, 45, 46, 47, 48] (.reg [un (.mov 31 (.t 9)),
 un (.bin 32 .sub (.t 31) (.c (.int .i64 1))),
 un (.asg 9 (.t 32))])))))
def Rq : ACode :=
 (.seq (.reg [un (.box 3 (.t 1)),
 un (.asg 4 (.c (.nilsl 1))),
 un (.asg 5 (.c (.bool false)))])
 (.seq (.cut Pm)
 (.drop [11, 12, 13, 10, 14, 15, 6, 7, 16, 17, 18, 19, 20, 21, 22] (.seq (.reg [un (.mov 23 (.t 0)),
 un (.mk 24 1 (.int .i64 0) (.t 23)),
 un (.asg 8 (.t 24))])
 (.drop [23, 24] (.seq (.seq (.reg [un (.fadr 25 1 (.t 3)),
 un (.ld 26 1 false (.t 25)),
 un (.len 27 (.t 26)),
 un (.bin 28 .sub (.t 27) (.c (.int .i64 1))),
 un (.asg 9 (.t 28))])
 (.drop [25, 26, 27, 28] (.block 0 (.loop H7))))
 (.drop [25, 26, 27, 28, 9, 29, 30, 33, 34, 35, 36, 37, 38, 39, 40, 41, 42, 43, 44, 45, 46, 47, 48, 31, 32] (.seq (.reg [un (.mov 49 (.t 8)),
 un (.asg 4 (.t 49)),
 un (.asg 5 (.c (.bool true)))])
 (.drop [49] .ret)))))))))
abbrev R0 : List RS := [.t 4, .t 5]
theorem R1 : A5 Try.prog D1 50 Rq R0 = true := by kernel_rfl
def Qh : ACode :=
 (.reg [un (.mov 19 (.t 5)),
 un (.call 20 It [((.t 19), false)]),
 un (.asg 21 (.t 20)),
 ⟨some (21, true), .mov 22 (.t 4)⟩,
 ⟨some (21, true), .call 23 C6 [((.t 22), true), ((.c (.int .i64 2)), false)]⟩,
 un (.pick 24 (.t 21) (.t 23) (.c (.bool false)))])
def Ql : ACode :=
 (.reg [un (.mov 29 (.t 4)),
 un (.call 30 C6 [((.t 29), true), ((.c (.int .i64 3)), false)]),
 un (.asg 31 (.t 30)),
 ⟨some (31, true), .fadr 32 1 (.t 6)⟩,
 ⟨some (31, true), .ld 33 1 false (.t 32)⟩,
 ⟨some (31, true), .len 34 (.t 33)⟩,
 ⟨some (31, true), .bin 35 .gtr (.t 34) (.c (.int .i64 1))⟩,
 un (.pick 36 (.t 31) (.t 35) (.c (.bool false)))])
def Tf : ACode :=
 (.seq (.reg [un (.asg 2 (.c (.int .i64 0))),
 un (.alc 3 (.agg [.int .i64 0, .nilsl 1]))])
 (.seq (.reg [un (.mov 8 (.t 0)),
 un (.bld 9 [.nilsl 1, .int .i64 0, .int .u64 0] [(0, 1, (.t 8))]),
 un (.box 10 (.t 9)),
 un (.asg 4 (.t 10))])
 (.drop [8, 9, 10] (.seq (.reg [un (.mov 11 (.t 4)),
 un (.call 12 Hi [((.t 11), true)]),
 un (.asg 5 (.t 12))])
 (.drop [11, 12] (.seq (.reg [un (.mov 13 (.t 4)),
 un (.mov 14 (.t 5)),
 un (.mov 15 (.t 4)),
 un (.bsl 16 1 [(.c (.int .i64 2)), (.c (.int .i64 2)), (.c (.int .i64 2)), (.c (.int .i64 2)), (.c (.int .i64 2)), (.c (.int .i64 2)), (.c (.int .i64 3))]),
 un (.call 17 A2 [((.t 15), true), ((.t 16), false)]),
 un (.call 18 I1 [((.t 13), true), ((.t 14), false), ((.t 17), false)]),
 un (.alc 6 (.agg [.int .i64 0, .nilsl 1])),
 un (.st 2 (.t 6) (.t 18))])
 (.drop [13, 14, 15, 16, 17, 18] (.seq (.seq (.cut Qh)
 (.drop [19, 20, 21, 22, 23] (.cond (.t 24) (.seq (.reg [un (.mov 25 (.t 4)),
 un (.mov 26 (.t 5)),
 un (.call 27 Df [((.t 25), true), ((.t 26), false)]),
 un (.call 28 Ec [((.t 27), false)]),
 un (.st 2 (.t 6) (.t 28))])
 (.drop [25, 26, 27, 28] (.seq (.cut Ql)
 (.drop [29, 30, 31, 32, 33, 34, 35] (.cond (.t 36) (.seq (.reg [un (.mov 37 (.t 4)),
 un (.fadr 38 1 (.t 6)),
 un (.ld 39 1 false (.t 38)),
 un (.len 40 (.t 39)),
 un (.call 41 Aq [((.t 37), true), ((.t 40), false)]),
 un (.asg 7 (.t 41))])
 (.drop [37, 38, 39, 40, 41] (.frz [100006] (.dreg [(un (.bsl 42 1 []), []),
 (un (.fadr 43 1 (.t 6)), [42]),
 (un (.ld 44 1 false (.t 43)), [42]),
 (un (.mov 45 (.t 7)), [42, 43, 44]),
 (un (.slc 46 1 (.t 44) none (some (.t 45))), [42]),
 (un (.app 47 1 (.t 42) (.t 46)), []),
 (un (.fadr 48 1 (.t 6)), [42, 43, 44, 45, 46, 47, 42]),
 (un (.ld 49 1 false (.t 48)), [42, 43, 44, 45, 46, 47, 42]),
 (un (.mov 50 (.t 7)), [42, 43, 44, 45, 46, 47, 48, 49, 42]),
 (un (.bin 51 .add (.t 50) (.c (.int .i64 1))), [42, 43, 44, 45, 46, 47, 48, 49, 42]),
 (un (.slc 52 1 (.t 49) (some (.t 51)) none), [42, 43, 44, 45, 46, 47, 42])]
 [un (.app 53 1 (.t 47) (.t 52)),
 un (.fadr 54 1 (.t 6)),
 un (.st 1 (.t 54) (.t 53))]))))
 .skip)))))
 .skip)))
 (.drop [19, 20, 21, 22, 23, 24, 25, 26, 27, 28, 29, 30, 31, 32, 33, 34, 35, 36, 37, 38, 39, 40, 41, 7, 42, 43, 44, 45, 46, 47, 48, 49, 50, 51, 52, 53, 54] (.seq (.dreg [(un (.mov 55 (.t 5)), []),
 (un (.ld 56 2 true (.t 6)), [55, 55]),
 (un (.asg 2 (.t 55)), [56])]
 [un (.st 2 (.t 3) (.t 56))])
 (.drop [55, 56] .ret)))))))))))
abbrev Td : List RS := [.t 2, .c 3 2 true]
theorem T7 : A5 Try.prog Hf 57 Tf Td = true := by kernel_rfl
def Aga : ACode :=
 (.seq (.reg [un (.box 3 (.t 1)),
 un (.asg 4 (.c (.bool false)))])
 (.seq (.reg [un (.mov 5 (.t 0)),
 un (.call 6 It [((.t 5), false)]),
 un (.asg 7 (.t 6)),
 ⟨some (7, true), .mov 8 (.t 0)⟩,
 ⟨some (7, true), .ld 9 2 true (.t 3)⟩,
 ⟨some (7, true), .call 10 Ro [((.t 8), false), ((.t 9), false)]⟩,
 un (.pick 11 (.t 7) (.t 10) (.c (.bool false))),
 un (.asg 4 (.t 11))])
 (.drop [5, 6, 7, 8, 9, 10, 11] .ret)))
abbrev Af8 : List RS := [.t 4]
theorem Af4 : A5 Try.prog Ld 12 Aga Af8 = true := by kernel_rfl
def Aa8 : ACode :=
 (.seq (.reg [un (.box 3 (.t 0)),
 un (.asg 6 (.c (.nilsl 1)))])
 (.seq (.dreg [(un (.ld 7 2 true (.t 3)), []),
 (un (.fadr 8 0 (.t 3)), [7]),
 (un (.ld 9 1 false (.t 8)), [7]),
 (un (.call 10 Fd [((.t 9), false)]), [7]),
 (un (.mov 11 (.t 1)), [7, 8, 9, 10]),
 (un (.mov 12 (.t 2)), [7, 8, 9, 10, 11]),
 (un (.call 13 Ho [((.t 10), false), ((.t 11), false), ((.t 12), false)]), [7])]
 [un (.call 14 Rh [((.t 7), false), ((.t 13), false)]),
 un (.asg 6 (.t 14))])
 (.drop [7, 8, 9, 10, 11, 12, 13, 14] .ret)))
abbrev Abq : List RS := [.t 6]
theorem Abf : A5 Try.prog Ln 15 Aa8 Abq = true := by kernel_rfl
def X6 : ACode :=
 (.seq (.reg [un (.box 3 (.t 1)),
 un (.asg 4 (.c (.bool false))),
 un (.asg 5 (.c (.bool false)))])
 (.seq (.seq (.reg [un (.mov 6 (.t 0)),
 un (.ld 7 2 true (.t 3)),
 un (.call 8 Ld [((.t 6), false), ((.t 7), false)]),
 un (.un 9 .not (.t 8)),
 un (.asg 10 (.t 9)),
 ⟨some (10, false), .fadr 11 0 (.t 3)⟩,
 ⟨some (10, false), .ld 12 1 false (.t 11)⟩,
 ⟨some (10, false), .bin 13 .neq (.t 12) (.c (.int .i64 2))⟩,
 un (.pick 14 (.t 10) (.c (.bool true)) (.t 13))])
 (.drop [6, 7, 8, 9, 10, 11, 12, 13] (.cond (.t 14) (.seq (.reg [un (.asg 4 (.c (.bool false))),
 un (.asg 5 (.c (.bool false)))])
 .ret)
 .skip)))
 (.drop [6, 7, 8, 9, 10, 11, 12, 13, 14] (.seq (.reg [un (.mov 15 (.t 0)),
 un (.ld 16 2 true (.t 3)),
 un (.call 17 Gj [((.t 15), false), ((.t 16), false)]),
 un (.asg 4 (.t 17)),
 un (.asg 5 (.c (.bool true)))])
 (.drop [15, 16, 17] .ret)))))
abbrev Yl : List RS := [.t 4, .t 5]
theorem Yj : A5 Try.prog Jr 18 X6 Yl = true := by kernel_rfl
def Ps : ACode :=
 (.seq (.reg [un (.mov 10 (.t 0)),
 un (.ld 11 2 true (.t 3)),
 un (.call 12 Ld [((.t 10), false), ((.t 11), false)]),
 un (.un 13 .not (.t 12)),
 un (.asg 14 (.t 13)),
 ⟨some (14, false), .fadr 15 0 (.t 3)⟩,
 ⟨some (14, false), .ld 16 1 false (.t 15)⟩,
 ⟨some (14, false), .bin 17 .neq (.t 16) (.c (.int .i64 2))⟩,
 un (.pick 18 (.t 14) (.c (.bool true)) (.t 17)),
 un (.asg 19 (.t 18)),
 ⟨some (19, false), .mov 20 (.t 0)⟩,
 ⟨some (19, false), .ld 21 2 true (.t 3)⟩,
 ⟨some (19, false), .call 22 Gj [((.t 20), false), ((.t 21), false)]⟩,
 ⟨some (19, false), .un 23 .not (.t 22)⟩,
 un (.pick 24 (.t 19) (.c (.bool true)) (.t 23))])
 (.drop [10, 11, 12, 13, 14, 15, 16, 17, 18, 19, 20, 21, 22, 23] (.cond (.t 24) (.seq (.reg [un (.mov 25 (.t 6)),
 un (.asg 4 (.t 25)),
 un (.asg 5 (.c (.bool false)))])
 (.drop [25] .ret))
 .skip)))
def H9 : ACode :=
 (.seq (.seq (.reg [un (.ld 31 2 true (.t 3)),
 un (.mov 32 (.t 7)),
 un (.mov 33 (.t 8)),
 un (.bsl 34 1 [(.t 32), (.t 33)]),
 un (.call 35 Hb [((.t 31), false), ((.t 34), false)]),
 un (.un 36 .not (.t 35))])
 (.drop [31, 32, 33, 34, 35] (.cond (.t 36) .skip
 (.exit 2))))
 (.drop [31, 32, 33, 34, 35, 36] (.block 3 (.reg [un (.mov 37 (.t 8)),
 un (.bin 38 .add (.t 37) (.c (.int .i64 1))),
 un (.asg 8 (.t 38))]))))
def Ib : ACode :=
 (.seq (.seq (.reg [un (.mov 26 (.t 7)),
 un (.mov 27 (.t 0)),
 un (.bin 28 .lss (.t 26) (.t 27))])
 (.drop [26, 27] (.cond (.t 28) .skip
 (.exit 0))))
 (.drop [26, 27, 28] (.seq (.block 1 (.seq (.reg [un (.asg 8 (.c (.int .i64 0)))])
 (.seq (.block 2 (.loop H9))
 (.drop [31, 32, 33, 34, 35, 36, 37, 38] (.reg [un (.mov 39 (.t 6)),
 un (.mov 40 (.t 8)),
 un (.bsl 41 1 [(.t 40)]),
 un (.app 42 1 (.t 39) (.t 41)),
 un (.asg 6 (.t 42))])))))
 (.drop [8, 31, 32, 33, 34, 35, 36, 37, 38, 39, 40, 41, 42] (.reg [un (.mov 29 (.t 7)),
 un (.bin 30 .add (.t 29) (.c (.int .i64 1))),
 un (.asg 7 (.t 30))])))))
def R4 : ACode :=
 (.seq (.reg [un (.box 3 (.t 1)),
 un (.asg 4 (.c (.nilsl 1))),
 un (.asg 5 (.c (.bool false)))])
 (.seq (.reg [un (.bsl 9 1 []),
 un (.asg 6 (.t 9))])
 (.drop [9] (.seq (.cut Ps)
 (.drop [10, 11, 12, 13, 14, 15, 16, 17, 18, 19, 20, 21, 22, 23, 24, 25] (.seq (.seq (.reg [un (.asg 7 (.c (.int .i64 0)))])
 (.block 0 (.loop Ib)))
 (.drop [7, 26, 27, 28, 8, 31, 32, 33, 34, 35, 36, 37, 38, 39, 40, 41, 42, 29, 30] (.seq (.reg [un (.mov 43 (.t 6)),
 un (.asg 4 (.t 43)),
 un (.asg 5 (.c (.bool true)))])
 (.drop [43] .ret)))))))))
abbrev Rk : List RS := [.t 4, .t 5]
theorem Rp : A5 Try.prog Gc 44 R4 Rk = true := by kernel_rfl
def Xl : ACode :=
 (.seq (.reg [un (.ld 11 2 true (.t 2)),
 un (.call 12 J8 [((.t 11), false)]),
 un (.un 13 .not (.t 12)),
 un (.asg 14 (.t 13)),
 ⟨some (14, false), .fadr 15 0 (.t 2)⟩,
 ⟨some (14, false), .ld 16 1 false (.t 15)⟩,
 ⟨some (14, false), .ld 17 2 true (.t 3)⟩,
 ⟨some (14, false), .call 18 I4 [((.t 16), false), ((.t 17), false)]⟩,
 ⟨some (14, false), .un 19 .not (.t 18)⟩,
 un (.pick 20 (.t 14) (.c (.bool true)) (.t 19))])
 (.drop [11, 12, 13, 14, 15, 16, 17, 18, 19] (.cond (.t 20) (.seq (.reg [un (.asg 4 (.c (.bool false))),
 un (.asg 5 (.c (.bool false)))])
 .ret)
 .skip)))
def M9 : ACode :=
 (.seq (.reg [un (.bin 25 .lss (.t 24) (.t 23))])
 (.seq (.cond (.t 25) .skip
 (.exit 0))
 (.seq (.block 1 (.seq (.reg [un (.iad 26 2 (.t 22) (.t 24)),
 un (.ld 27 2 true (.t 26)),
 un (.alc 8 (.agg [.int .i64 0, .nilsl 1])),
 un (.st 2 (.t 8) (.t 27))])
 (.drop [26, 27] (.seq (.reg [un (.fadr 29 0 (.t 2)),
 un (.ld 30 1 false (.t 29)),
 un (.ld 31 2 true (.t 8)),
 un (.ld 32 2 true (.t 3)),
 un (.call 33 Pz [((.t 30), false), ((.t 31), false), ((.t 32), false)]),
 un (.asg 28 (.t 33)),
 un (.ext 34 (.t 28) 0),
 un (.ext 35 (.t 28) 1),
 un (.asg 9 (.t 34)),
 un (.asg 10 (.t 35))])
 (.drop [29, 30, 31, 32, 33, 28, 34, 35] (.seq (.seq (.reg [un (.mov 36 (.t 10)),
 un (.un 37 .not (.t 36))])
 (.drop [36] (.cond (.t 37) (.seq (.reg [un (.asg 4 (.c (.bool false))),
 un (.asg 5 (.c (.bool false)))])
 .ret)
 .skip)))
 (.drop [36, 37] (.reg [un (.mov 38 (.t 6)),
 un (.asg 39 (.t 38)),
 ⟨some (39, true), .mov 40 (.t 9)⟩,
 un (.pick 41 (.t 39) (.t 40) (.c (.bool false))),
 un (.asg 6 (.t 41))]))))))))
 (.drop [26, 27, 8, 29, 30, 31, 32, 33, 28, 34, 35, 9, 10, 36, 37, 38, 39, 40, 41] (.reg [un (.bin 42 .add (.t 24) (.c (.int .i64 1))),
 un (.asg 24 (.t 42))])))))
def Aa1 : ACode :=
 (.seq (.reg [un (.box 2 (.t 0)),
 un (.box 3 (.t 1)),
 un (.asg 4 (.c (.bool false))),
 un (.asg 5 (.c (.bool false)))])
 (.seq (.cut Xl)
 (.drop [11, 12, 13, 14, 15, 16, 17, 18, 19, 20] (.seq (.reg [un (.asg 6 (.c (.bool true)))])
 (.seq (.seq (.reg [un (.fadr 21 1 (.t 2)),
 un (.ld 22 1 false (.t 21)),
 un (.len 23 (.t 22)),
 un (.mov 24 (.c (.int .i64 0)))])
 (.drop [21] (.block 0 (.loop M9))))
 (.drop [21, 22, 23, 24, 25, 26, 27, 8, 29, 30, 31, 32, 33, 28, 34, 35, 9, 10, 36, 37, 38, 39, 40, 41, 42] (.seq (.reg [un (.mov 43 (.t 6)),
 un (.asg 4 (.t 43)),
 un (.asg 5 (.c (.bool true)))])
 (.drop [43] .ret))))))))
abbrev Aao : List RS := [.t 4, .t 5]
theorem Abe : A5 Try.prog Lq 44 Aa1 Aao = true := by kernel_rfl
def Vb : ACode :=
 (.seq (.seq (.reg [un (.mov 21 (.t 7)),
 un (.mov 22 (.t 6)),
 un (.bin 23 .lss (.t 21) (.t 22))])
 (.drop [21, 22] (.cond (.t 23) .skip
 (.exit 2))))
 (.drop [21, 22, 23] (.seq (.block 3 (.reg [un (.mov 26 (.t 5)),
 un (.ld 27 2 true (.t 2)),
 un (.mov 28 (.t 6)),
 un (.mov 29 (.t 7)),
 un (.call 30 Ln [((.t 27), false), ((.t 28), false), ((.t 29), false)]),
 un (.call 31 Qq [((.t 26), false), ((.t 30), false)]),
 un (.asg 5 (.t 31))]))
 (.drop [26, 27, 28, 29, 30, 31] (.reg [un (.mov 24 (.t 7)),
 un (.bin 25 .add (.t 24) (.c (.int .i64 1))),
 un (.asg 7 (.t 25))])))))
def V3 : ACode :=
 (.seq (.seq (.reg [un (.mov 15 (.t 6)),
 un (.fadr 16 0 (.t 2)),
 un (.ld 17 1 false (.t 16)),
 un (.bin 18 .lss (.t 15) (.t 17))])
 (.drop [15, 16, 17] (.cond (.t 18) .skip
 (.exit 0))))
 (.drop [15, 16, 17, 18] (.seq (.block 1 (.seq (.reg [un (.asg 7 (.c (.int .i64 0)))])
 (.block 2 (.loop Vb))))
 (.drop [7, 21, 22, 23, 26, 27, 28, 29, 30, 31, 24, 25] (.reg [un (.mov 19 (.t 6)),
 un (.bin 20 .add (.t 19) (.c (.int .i64 1))),
 un (.asg 6 (.t 20))])))))
def Ae9 : ACode :=
 (.seq (.reg [un (.mov 40 (.t 10)),
 un (.mov 41 (.t 9)),
 un (.len 42 (.t 41)),
 un (.bin 43 .lss (.t 40) (.t 42)),
 un (.asg 44 (.t 43)),
 ⟨some (44, true), .mov 45 (.t 8)⟩,
 ⟨some (44, true), .len 46 (.t 45)⟩,
 ⟨some (44, true), .mov 47 (.t 1)⟩,
 ⟨some (44, true), .bin 48 .leq (.t 46) (.t 47)⟩,
 un (.pick 49 (.t 44) (.t 48) (.c (.bool false)))])
 (.drop [40, 41, 42, 43, 44, 45, 46, 47, 48] (.cond (.t 49) .skip
 (.exit 4))))
def Ael : ACode :=
 (.seq (.reg [un (.mov 52 (.t 11)),
 un (.mov 53 (.t 5)),
 un (.len 54 (.t 53)),
 un (.bin 55 .lss (.t 52) (.t 54)),
 un (.asg 56 (.t 55)),
 ⟨some (56, true), .mov 57 (.t 8)⟩,
 ⟨some (56, true), .len 58 (.t 57)⟩,
 ⟨some (56, true), .mov 59 (.t 1)⟩,
 ⟨some (56, true), .bin 60 .leq (.t 58) (.t 59)⟩,
 un (.pick 61 (.t 56) (.t 60) (.c (.bool false)))])
 (.drop [52, 53, 54, 55, 56, 57, 58, 59, 60] (.cond (.t 61) .skip
 (.exit 6))))
def Uw : ACode :=
 (.seq (.cut Ael)
 (.drop [52, 53, 54, 55, 56, 57, 58, 59, 60, 61] (.seq (.block 7 (.seq (.dreg [(un (.mov 64 (.t 9)), []),
 (un (.mov 65 (.t 10)), [64]),
 (un (.iad 66 1 (.t 64) (.t 65)), []),
 (un (.ld 67 1 false (.t 66)), []),
 (un (.mov 68 (.t 5)), [64, 65, 66, 67]),
 (un (.mov 69 (.t 11)), [64, 65, 66, 67, 68]),
 (un (.iad 70 1 (.t 68) (.t 69)), [64, 65, 66, 67]),
 (un (.ld 71 1 false (.t 70)), [64, 65, 66, 67])]
 [un (.call 72 T6 [((.t 67), false), ((.t 71), false)]),
 un (.asg 12 (.t 72))])
 (.drop [64, 65, 66, 67, 68, 69, 70, 71, 72] (.seq (.frz [12] (.reg [un (.mov 73 (.t 8)),
 un (.mov 74 (.t 12)),
 un (.call 75 Qq [((.t 73), false), ((.t 74), false)]),
 un (.asg 13 (.t 75))]))
 (.drop [73, 74, 75] (.seq (.reg [un (.mov 76 (.t 13)),
 un (.len 77 (.t 76)),
 un (.mov 78 (.t 8)),
 un (.len 79 (.t 78)),
 un (.bin 80 .gtr (.t 77) (.t 79))])
 (.drop [76, 77, 78, 79] (.cond (.t 80) (.seq (.reg [un (.mov 81 (.t 13)),
 un (.asg 8 (.t 81))])
 (.drop [81] (.reg [un (.mov 82 (.t 9)),
 un (.mov 83 (.t 12)),
 un (.bsl 84 1 [(.t 83)]),
 un (.app 85 1 (.t 82) (.t 84)),
 un (.asg 9 (.t 85))])))
 .skip))))))))
 (.drop [64, 65, 66, 67, 68, 69, 70, 71, 72, 12, 73, 74, 75, 13, 76, 77, 78, 79, 80, 81, 82, 83, 84, 85] (.reg [un (.mov 62 (.t 11)),
 un (.bin 63 .add (.t 62) (.c (.int .i64 1))),
 un (.asg 11 (.t 63))])))))
def V2 : ACode :=
 (.seq (.cut Ae9)
 (.drop [40, 41, 42, 43, 44, 45, 46, 47, 48, 49] (.seq (.block 5 (.seq (.reg [un (.asg 11 (.c (.int .i64 0)))])
 (.block 6 (.loop Uw))))
 (.drop [11, 52, 53, 54, 55, 56, 57, 58, 59, 60, 61, 64, 65, 66, 67, 68, 69, 70, 71, 72, 12, 73, 74, 75, 13, 76, 77, 78, 79, 80, 81, 82, 83, 84, 85, 62, 63] (.reg [un (.mov 50 (.t 10)),
 un (.bin 51 .add (.t 50) (.c (.int .i64 1))),
 un (.asg 10 (.t 51))])))))
def Akt : ACode :=
 (.seq (.reg [un (.box 2 (.t 0)),
 un (.asg 4 (.c (.nilsl 1)))])
 (.seq (.reg [un (.bsl 14 1 []),
 un (.asg 5 (.t 14))])
 (.drop [14] (.seq (.seq (.reg [un (.asg 6 (.c (.int .i64 0)))])
 (.frz [5] (.block 0 (.loop V3))))
 (.drop [6, 15, 16, 17, 18, 7, 21, 22, 23, 26, 27, 28, 29, 30, 31, 24, 25, 19, 20] (.seq (.reg [un (.fadr 32 0 (.t 2)),
 un (.ld 33 1 false (.t 32)),
 un (.call 34 Fd [((.t 33), false)]),
 un (.bsl 35 1 [(.t 34)]),
 un (.asg 8 (.t 35))])
 (.drop [32, 33, 34, 35] (.seq (.reg [un (.fadr 36 0 (.t 2)),
 un (.ld 37 1 false (.t 36)),
 un (.call 38 Fd [((.t 37), false)]),
 un (.bsl 39 1 [(.t 38)]),
 un (.asg 9 (.t 39))])
 (.drop [36, 37, 38, 39] (.seq (.seq (.reg [un (.asg 10 (.c (.int .i64 0)))])
 (.frz [8, 100009] (.block 4 (.loop V2))))
 (.drop [10, 40, 41, 42, 43, 44, 45, 46, 47, 48, 49, 11, 52, 53, 54, 55, 56, 57, 58, 59, 60, 61, 64, 65, 66, 67, 68, 69, 70, 71, 72, 12, 73, 74, 75, 13, 76, 77, 78, 79, 80, 81, 82, 83, 84, 85, 62, 63, 50, 51] (.seq (.reg [un (.mov 86 (.t 8)),
 un (.asg 4 (.t 86))])
 (.drop [86] .ret)))))))))))))
abbrev Akf : List RS := [.t 4]
theorem Ajz : A5 Try.prog Tu 87 Akt Akf = true := by kernel_rfl
def Qk : ACode :=
 (.seq (.reg [un (.ld 6 2 true (.t 3)),
 un (.call 7 Ud [((.t 6), false)]),
 un (.un 8 .not (.t 7)),
 un (.asg 9 (.t 8)),
 ⟨some (9, false), .mov 10 (.t 0)⟩,
 ⟨some (9, false), .call 11 C6 [((.t 10), true), ((.c (.int .i64 5)), false)]⟩,
 un (.pick 12 (.t 9) (.c (.bool true)) (.t 11))])
 (.drop [6, 7, 8, 9, 10, 11] (.cond (.t 12) (.seq (.reg [un (.mov 13 (.t 0)),
 un (.fadr 14 0 (.t 3)),
 un (.ld 15 1 false (.t 14)),
 un (.call 16 Hq [((.t 13), true), ((.t 15), false)]),
 un (.asg 4 (.t 16))])
 (.drop [13, 14, 15, 16] .ret))
 .skip)))
def Tv : ACode :=
 (.seq (.reg [un (.box 3 (.t 1)),
 un (.asg 4 (.c (.nilsl 1)))])
 (.seq (.cut Qk)
 (.drop [6, 7, 8, 9, 10, 11, 12, 13, 14, 15, 16] (.seq (.reg [un (.ld 17 2 true (.t 3)),
 un (.call 18 Tu [((.t 17), false), ((.c (.int .i64 200)), false)]),
 un (.asg 5 (.t 18))])
 (.drop [17, 18] (.seq (.reg [un (.mov 19 (.t 5)),
 un (.mov 20 (.t 0)),
 un (.mov 21 (.t 5)),
 un (.len 22 (.t 21)),
 un (.call 23 Aq [((.t 20), true), ((.t 22), false)]),
 un (.iad 24 1 (.t 19) (.t 23)),
 un (.ld 25 1 false (.t 24)),
 un (.call 26 J0 [((.t 25), false)]),
 un (.asg 4 (.t 26))])
 (.drop [19, 20, 21, 22, 23, 24, 25, 26] .ret)))))))
abbrev Tc : List RS := [.t 4]
theorem Uj : A5 Try.prog G4 27 Tv Tc = true := by kernel_rfl
def Wa : ACode :=
 (.seq (.reg [un (.alc 2 (.agg [.int .i64 0, .nilsl 2])),
 un (.asg 3 (.c (.nilsl 1)))])
 (.seq (.reg [un (.mov 6 (.t 0)),
 un (.bld 7 [.nilsl 1, .int .i64 0, .int .u64 0] [(0, 1, (.t 6))]),
 un (.box 8 (.t 7)),
 un (.asg 4 (.t 8))])
 (.drop [6, 7, 8] (.seq (.reg [un (.mov 9 (.t 4)),
 un (.call 10 Jh [((.t 9), true)]),
 un (.alc 5 (.agg [.int .i64 0, .nilsl 2])),
 un (.st 2 (.t 5) (.t 10))])
 (.drop [9, 10] (.seq (.frz [100005] (.dreg [(un (.ld 11 2 true (.t 5)), [4]),
 (un (.mov 12 (.t 4)), [11]),
 (un (.ld 13 2 true (.t 5)), [11, 12]),
 (un (.call 14 G4 [((.t 12), true), ((.t 13), false)]), [4, 11])]
 [un (.st 2 (.t 2) (.t 11)),
 un (.asg 3 (.t 14))]))
 (.drop [11, 12, 13, 14] .ret)))))))
abbrev Uy : List RS := [.c 2 2 true, .t 3]
theorem V9 : A5 Try.prog Hx 15 Wa Uy = true := by kernel_rfl
def Ts : ACode :=
 (.seq (.reg [un (.mov 45 (.t 3)),
 un (.mov 46 (.t 4)),
 un (.call 47 Gh [((.t 45), false), ((.t 46), false)]),
 un (.asg 44 (.t 47)),
 un (.ext 48 (.t 44) 0),
 un (.ext 49 (.t 44) 1),
 un (.alc 7 (.agg [.int .i64 0, .nilsl 1])),
 un (.st 2 (.t 7) (.t 48)),
 un (.asg 8 (.t 49))])
 (.drop [45, 46, 47, 44, 48, 49] (.seq (.reg [un (.mov 50 (.t 6)),
 un (.mov 51 (.t 8)),
 un (.binb 52 .neq (.t 50) (.t 51)),
 un (.asg 53 (.t 52)),
 ⟨some (53, false), .ld 54 2 true (.t 5)⟩,
 ⟨some (53, false), .ld 55 2 true (.t 7)⟩,
 ⟨some (53, false), .call 56 J9 [((.t 54), false), ((.t 55), false)]⟩,
 ⟨some (53, false), .un 57 .not (.t 56)⟩,
 un (.pick 58 (.t 53) (.c (.bool true)) (.t 57))])
 (.drop [50, 51, 52, 53, 54, 55, 56, 57] (.cond (.t 58) (.seq (.reg [un (.asg 2 (.c (.bool false)))])
 .ret)
 .skip)))))
def Tj : ACode :=
 (.seq (.reg [un (.mov 59 (.t 6))])
 (.cond (.t 59) (.seq (.reg [un (.mov 61 (.t 3)),
 un (.ld 62 2 true (.t 5)),
 un (.call 63 D1 [((.t 61), false), ((.t 62), false)]),
 un (.asg 60 (.t 63)),
 un (.ext 64 (.t 60) 0),
 un (.ext 65 (.t 60) 1),
 un (.asg 9 (.t 64)),
 un (.asg 10 (.t 65))])
 (.drop [61, 62, 63, 60, 64, 65] (.seq (.reg [un (.mov 66 (.t 10)),
 un (.un 67 .not (.t 66)),
 un (.asg 68 (.t 67)),
 ⟨some (68, false), .mov 69 (.t 9)⟩,
 ⟨some (68, false), .mov 70 (.t 4)⟩,
 ⟨some (68, false), .call 71 Mn [((.t 69), false), ((.t 70), false)]⟩,
 ⟨some (68, false), .un 72 .not (.t 71)⟩,
 un (.pick 73 (.t 68) (.c (.bool true)) (.t 72))])
 (.drop [66, 67, 68, 69, 70, 71, 72] (.cond (.t 73) (.seq (.reg [un (.asg 2 (.c (.bool false)))])
 .ret)
 .skip)))))
 .skip))
def T9 : ACode :=
 (.seq (.reg [un (.mov 86 (.t 11)),
 un (.ld 87 2 true (.t 12)),
 un (.call 88 Jr [((.t 86), false), ((.t 87), false)]),
 un (.asg 85 (.t 88)),
 un (.ext 89 (.t 85) 0),
 un (.ext 90 (.t 85) 1),
 un (.asg 15 (.t 89)),
 un (.asg 16 (.t 90))])
 (.drop [86, 87, 88, 85, 89, 90] (.seq (.reg [un (.mov 91 (.t 13)),
 un (.mov 92 (.t 15)),
 un (.binb 93 .neq (.t 91) (.t 92)),
 un (.asg 94 (.t 93)),
 ⟨some (94, false), .mov 95 (.t 14)⟩,
 ⟨some (94, false), .mov 96 (.t 16)⟩,
 ⟨some (94, false), .binb 97 .neq (.t 95) (.t 96)⟩,
 un (.pick 98 (.t 94) (.c (.bool true)) (.t 97))])
 (.drop [91, 92, 93, 94, 95, 96, 97] (.cond (.t 98) (.seq (.reg [un (.asg 2 (.c (.bool false)))])
 .ret)
 .skip)))))
def T0 : ACode :=
 (.seq (.reg [un (.mov 106 (.t 11)),
 un (.ld 107 2 true (.t 12)),
 un (.call 108 Gc [((.t 106), false), ((.t 107), false)]),
 un (.asg 105 (.t 108)),
 un (.ext 109 (.t 105) 0),
 un (.ext 110 (.t 105) 1),
 un (.asg 19 (.t 109)),
 un (.asg 20 (.t 110))])
 (.drop [106, 107, 108, 105, 109, 110] (.seq (.reg [un (.mov 111 (.t 18)),
 un (.mov 112 (.t 20)),
 un (.binb 113 .neq (.t 111) (.t 112)),
 un (.asg 114 (.t 113)),
 ⟨some (114, false), .mov 115 (.t 18)⟩,
 ⟨some (114, false), .mov 116 (.t 14)⟩,
 ⟨some (114, false), .asg 117 (.t 116)⟩,
 ⟨some (117, true), .mov 118 (.t 13)⟩,
 ⟨some (114, false), .pick 119 (.t 117) (.t 118) (.c (.bool false))⟩,
 ⟨some (114, false), .binb 120 .neq (.t 115) (.t 119)⟩,
 un (.pick 121 (.t 114) (.c (.bool true)) (.t 120)),
 un (.asg 122 (.t 121)),
 ⟨some (122, false), .mov 123 (.t 17)⟩,
 ⟨some (122, false), .mov 124 (.t 19)⟩,
 ⟨some (122, false), .call 125 Mn [((.t 123), false), ((.t 124), false)]⟩,
 ⟨some (122, false), .un 126 .not (.t 125)⟩,
 un (.pick 127 (.t 122) (.c (.bool true)) (.t 126))])
 (.drop [111, 112, 113, 114, 115, 116, 117, 118, 119, 120, 121, 122, 123, 124, 125, 126] (.cond (.t 127) (.seq (.reg [un (.asg 2 (.c (.bool false)))])
 .ret)
 .skip)))))
def Tt : ACode :=
 (.seq (.reg [un (.mov 128 (.t 18))])
 (.cond (.t 128) (.seq (.reg [un (.mov 130 (.t 11)),
 un (.mov 131 (.t 17)),
 un (.call 132 Cy [((.t 130), false), ((.t 131), false)]),
 un (.asg 129 (.t 132)),
 un (.ext 133 (.t 129) 0),
 un (.ext 134 (.t 129) 1),
 un (.alc 21 (.agg [.int .i64 0, .nilsl 1])),
 un (.st 2 (.t 21) (.t 133)),
 un (.asg 22 (.t 134))])
 (.drop [130, 131, 132, 129, 133, 134] (.seq (.reg [un (.mov 135 (.t 22)),
 un (.un 136 .not (.t 135)),
 un (.asg 137 (.t 136)),
 ⟨some (137, false), .ld 138 2 true (.t 21)⟩,
 ⟨some (137, false), .ld 139 2 true (.t 12)⟩,
 ⟨some (137, false), .call 140 J9 [((.t 138), false), ((.t 139), false)]⟩,
 ⟨some (137, false), .un 141 .not (.t 140)⟩,
 un (.pick 142 (.t 137) (.c (.bool true)) (.t 141))])
 (.drop [135, 136, 137, 138, 139, 140, 141] (.cond (.t 142) (.seq (.reg [un (.asg 2 (.c (.bool false)))])
 .ret)
 .skip)))))
 .skip))
def T4 : ACode :=
 (.reg [un (.mov 161 (.t 26)),
 un (.asg 162 (.t 161)),
 ⟨some (162, true), .mov 163 (.t 28)⟩,
 un (.pick 164 (.t 162) (.t 163) (.c (.bool false)))])
def X0 : ACode :=
 (.seq (.reg [un (.asg 2 (.c (.bool false)))])
 (.seq (.seq (.reg [un (.mov 31 (.t 0)),
 un (.call 32 Yd [((.t 31), false)])])
 (.drop [31] (.cond (.t 32) (.seq (.reg [un (.asg 2 (.c (.bool true)))])
 .ret)
 .skip)))
 (.drop [31, 32] (.seq (.reg [un (.mov 34 (.t 0)),
 un (.call 35 Ek [((.t 34), false)]),
 un (.asg 33 (.t 35)),
 un (.ext 36 (.t 33) 0),
 un (.ext 37 (.t 33) 1),
 un (.asg 3 (.t 36)),
 un (.asg 4 (.t 37))])
 (.drop [34, 35, 33, 36, 37] (.seq (.reg [un (.mov 39 (.t 3)),
 un (.mov 40 (.t 4)),
 un (.call 41 Cy [((.t 39), false), ((.t 40), false)]),
 un (.asg 38 (.t 41)),
 un (.ext 42 (.t 38) 0),
 un (.ext 43 (.t 38) 1),
 un (.alc 5 (.agg [.int .i64 0, .nilsl 1])),
 un (.st 2 (.t 5) (.t 42)),
 un (.asg 6 (.t 43))])
 (.drop [39, 40, 41, 38, 42, 43] (.seq (.cut Ts)
 (.drop [45, 46, 47, 44, 48, 49, 7, 8, 50, 51, 52, 53, 54, 55, 56, 57, 58] (.seq (.cut Tj)
 (.drop [59, 61, 62, 63, 60, 64, 65, 9, 10, 66, 67, 68, 69, 70, 71, 72, 73] (.seq (.reg [un (.mov 75 (.t 0)),
 un (.call 76 Hf [((.t 75), false)]),
 un (.asg 74 (.t 76)),
 un (.ext 77 (.t 74) 0),
 un (.ext 78 (.t 74) 1),
 un (.alc 12 (.agg [.int .i64 0, .nilsl 1])),
 un (.asg 11 (.t 77)),
 un (.st 2 (.t 12) (.t 78))])
 (.drop [75, 76, 74, 77, 78] (.seq (.reg [un (.mov 80 (.t 11)),
 un (.ld 81 2 true (.t 12)),
 un (.call 82 Gv [((.t 80), false), ((.t 81), false)]),
 un (.asg 79 (.t 82)),
 un (.ext 83 (.t 79) 0),
 un (.ext 84 (.t 79) 1),
 un (.asg 13 (.t 83)),
 un (.asg 14 (.t 84))])
 (.drop [80, 81, 82, 79, 83, 84] (.seq (.cut T9)
 (.drop [86, 87, 88, 85, 89, 90, 15, 16, 91, 92, 93, 94, 95, 96, 97, 98] (.seq (.reg [un (.mov 100 (.t 11)),
 un (.ld 101 2 true (.t 12)),
 un (.call 102 D1 [((.t 100), false), ((.t 101), false)]),
 un (.asg 99 (.t 102)),
 un (.ext 103 (.t 99) 0),
 un (.ext 104 (.t 99) 1),
 un (.asg 17 (.t 103)),
 un (.asg 18 (.t 104))])
 (.drop [100, 101, 102, 99, 103, 104] (.seq (.cut T0)
 (.drop [106, 107, 108, 105, 109, 110, 19, 20, 111, 112, 113, 114, 115, 116, 117, 118, 119, 120, 121, 122, 123, 124, 125, 126, 127] (.seq (.cut Tt)
 (.drop [128, 130, 131, 132, 129, 133, 134, 21, 22, 135, 136, 137, 138, 139, 140, 141, 142] (.seq (.reg [un (.mov 144 (.t 0)),
 un (.call 145 Hx [((.t 144), false)]),
 un (.asg 143 (.t 145)),
 un (.ext 146 (.t 143) 0),
 un (.ext 147 (.t 143) 1),
 un (.alc 23 (.agg [.int .i64 0, .nilsl 2])),
 un (.st 2 (.t 23) (.t 146)),
 un (.asg 24 (.t 147))])
 (.drop [144, 145, 143, 146, 147] (.seq (.reg [un (.ld 149 2 true (.t 23)),
 un (.mov 150 (.t 24)),
 un (.call 151 Kf [((.t 149), false), ((.t 150), false)]),
 un (.asg 148 (.t 151)),
 un (.ext 152 (.t 148) 0),
 un (.ext 153 (.t 148) 1),
 un (.asg 25 (.t 152)),
 un (.asg 26 (.t 153))])
 (.drop [149, 150, 151, 148, 152, 153] (.seq (.seq (.reg [un (.fadr 155 0 (.t 23)),
 un (.ld 156 1 false (.t 155)),
 un (.mov 157 (.t 24)),
 un (.call 158 Cy [((.t 156), false), ((.t 157), false)]),
 un (.asg 154 (.t 158)),
 un (.ext 159 (.t 154) 0),
 un (.ext 160 (.t 154) 1),
 un (.alc 27 (.agg [.int .i64 0, .nilsl 1])),
 un (.st 2 (.t 27) (.t 159)),
 un (.asg 28 (.t 160))])
 (.drop [155, 156, 157, 158, 154, 159, 160] (.seq (.cut T4)
 (.drop [161, 162, 163] (.cond (.t 164) (.seq (.reg [un (.ld 166 2 true (.t 23)),
 un (.ld 167 2 true (.t 27)),
 un (.call 168 Lq [((.t 166), false), ((.t 167), false)]),
 un (.asg 165 (.t 168)),
 un (.ext 169 (.t 165) 0),
 un (.ext 170 (.t 165) 1),
 un (.asg 29 (.t 169)),
 un (.asg 30 (.t 170))])
 (.drop [166, 167, 168, 165, 169, 170] (.seq (.reg [un (.mov 171 (.t 30)),
 un (.asg 172 (.t 171)),
 ⟨some (172, true), .mov 173 (.t 29)⟩,
 ⟨some (172, true), .mov 174 (.t 25)⟩,
 ⟨some (172, true), .binb 175 .neq (.t 173) (.t 174)⟩,
 un (.pick 176 (.t 172) (.t 175) (.c (.bool false)))])
 (.drop [171, 172, 173, 174, 175] (.cond (.t 176) (.seq (.reg [un (.asg 2 (.c (.bool false)))])
 .ret)
 .skip)))))
 .skip)))))
 (.drop [155, 156, 157, 158, 154, 159, 160, 27, 28, 161, 162, 163, 164, 166, 167, 168, 165, 169, 170, 29, 30, 171, 172, 173, 174, 175, 176] (.seq (.reg [un (.asg 2 (.c (.bool true)))])
 .ret))))))))))))))))))))))))))))))
abbrev X3 : List RS := [.t 2]
theorem Xn : A5 Try.prog Na 177 X0 X3 = true := by kernel_rfl
end Go.Proofs.Ytcpgnfohmeineaa.Ax
