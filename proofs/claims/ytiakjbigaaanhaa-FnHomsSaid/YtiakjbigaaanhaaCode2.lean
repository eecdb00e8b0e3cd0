/-
  The small code of the functions, written by program; that the program's code is this one, the kernel looks at.
-/
import Derived.Test.YtiakjbigaaanhaaAx3
import Derived.Test.YtiakjbigaaanhaaProg
import Derived.KernelRfl
import Derived.Test.YtiakjbigaaanhaaNum
namespace Go.Proofs.Ytiakjbigaaanhaa.Ax
open Go
set_option maxRecDepth 100000
def Jm : ACode :=
 (.seq (.seq (.reg [un (.mov 9 (.t 4)),
 un (.mov 10 (.t 1)),
 un (.len 11 (.t 10)),
 un (.bin 12 .lss (.t 9) (.t 11)),
 un (.asg 13 (.t 12)),
 ⟨some (13, true), .mov 14 (.t 1)⟩,
 ⟨some (13, true), .mov 15 (.t 4)⟩,
 ⟨some (13, true), .iad 16 1 (.t 14) (.t 15)⟩,
 ⟨some (13, true), .ld 17 1 false (.t 16)⟩,
 ⟨some (13, true), .bin 18 .geq (.t 17) (.c (.int .i64 0))⟩,
 un (.pick 19 (.t 13) (.t 18) (.c (.bool false)))])
 (.drop [9, 10, 11, 12, 13, 14, 15, 16, 17, 18] (.cond (.t 19) .skip
 (.exit 0))))
 (.drop [9, 10, 11, 12, 13, 14, 15, 16, 17, 18, 19] (.block 1 (.reg [un (.mov 20 (.t 4)),
 un (.bin 21 .add (.t 20) (.c (.int .i64 1))),
 un (.asg 4 (.t 21))]))))
def R7 : ACode :=
 (.reg [un (.mov 26 (.t 0)),
 un (.nck 27 (.t 26)),
 un (.fadr 28 5 (.t 27)),
 un (.ld 29 1 false (.t 28)),
 un (.un 30 .not (.t 29)),
 un (.asg 31 (.t 30)),
 ⟨some (31, false), .mov 32 (.t 0)⟩,
 ⟨some (31, false), .nck 33 (.t 32)⟩,
 ⟨some (31, false), .fadr 34 2 (.t 33)⟩,
 ⟨some (31, false), .fadr 35 0 (.t 34)⟩,
 ⟨some (31, false), .ld 36 1 false (.t 35)⟩,
 ⟨some (31, false), .mov 37 (.t 1)⟩,
 ⟨some (31, false), .call 38 Qu [((.t 36), false), ((.t 37), false)]⟩,
 un (.pick 39 (.t 31) (.c (.bool true)) (.t 38))])
def Sa : ACode :=
 (.seq (.dreg [(un (.mov 50 (.t 5)), []),
 (un (.mov 51 (.t 0)), [50]),
 (un (.nck 52 (.t 51)), [50]),
 (un (.fadr 53 2 (.t 52)), [50]),
 (un (.fadr 54 0 (.t 53)), [50]),
 (un (.ld 55 1 false (.t 54)), [50]),
 (un (.bin 56 .lss (.t 50) (.t 55)), []),
 (un (.asg 57 (.t 56)), []),
 (⟨some (57, true), .mov 58 (.t 0)⟩, [56]),
 (⟨some (57, true), .nck 59 (.t 58)⟩, [56]),
 (⟨some (57, true), .fadr 60 8 (.t 59)⟩, [56]),
 (⟨some (57, true), .ld 61 1 false (.t 60)⟩, [56]),
 (⟨some (57, true), .len 62 (.t 61)⟩, [56]),
 (⟨some (57, true), .mov 63 (.t 0)⟩, [58, 59, 60, 61, 62, 56]),
 (⟨some (57, true), .nck 64 (.t 63)⟩, [58, 59, 60, 61, 62, 56]),
 (⟨some (57, true), .fadr 65 6 (.t 64)⟩, [58, 59, 60, 61, 62, 56]),
 (⟨some (57, true), .ld 66 1 false (.t 65)⟩, [58, 59, 60, 61, 62, 56])]
 [⟨some (57, true), .bin 67 .lss (.t 62) (.t 66)⟩,
 un (.pick 68 (.t 57) (.t 67) (.c (.bool false))),
 un (.asg 69 (.t 68)),
 ⟨some (69, true), .mov 70 (.t 0)⟩,
 ⟨some (69, true), .nck 71 (.t 70)⟩,
 ⟨some (69, true), .fadr 72 7 (.t 71)⟩,
 ⟨some (69, true), .ld 73 1 false (.t 72)⟩,
 ⟨some (69, true), .bin 74 .leq (.t 73) (.c (.int .i64 5000))⟩,
 un (.pick 75 (.t 69) (.t 74) (.c (.bool false)))])
 (.drop [50, 51, 52, 53, 54, 55, 56, 57, 58, 59, 60, 61, 62, 63, 64, 65, 66, 67, 68, 69, 70, 71, 72, 73, 74] (.cond (.t 75) .skip
 (.exit 2))))
def Jh : ACode :=
 (.seq (.cut Sa)
 (.drop [50, 51, 52, 53, 54, 55, 56, 57, 58, 59, 60, 61, 62, 63, 64, 65, 66, 67, 68, 69, 70, 71, 72, 73, 74, 75] (.seq (.block 3 (.seq (.reg [un (.mov 78 (.t 0)),
 un (.nck 79 (.t 78)),
 un (.fadr 80 7 (.t 79)),
 un (.ld 81 1 false (.t 80)),
 un (.bin 82 .add (.t 81) (.c (.int .i64 1))),
 un (.nck 83 (.t 78)),
 un (.fadr 84 7 (.t 83)),
 un (.st 1 (.t 84) (.t 82))])
 (.drop [78, 79, 80, 81, 82, 83, 84] (.seq (.seq (.reg [un (.mov 85 (.t 0)),
 un (.nck 86 (.t 85)),
 un (.fadr 87 7 (.t 86)),
 un (.ld 88 1 false (.t 87)),
 un (.bin 89 .gtr (.t 88) (.c (.int .i64 5000)))])
 (.drop [85, 86, 87, 88] (.cond (.t 89) .ret
 .skip)))
 (.drop [85, 86, 87, 88, 89] (.seq (.reg [un (.mov 90 (.t 1)),
 un (.call 91 Hz [((.t 90), false)]),
 un (.asg 6 (.t 91))])
 (.drop [90, 91] (.seq (.reg [un (.mov 92 (.t 6)),
 un (.mov 93 (.t 4)),
 un (.mov 94 (.t 5)),
 un (.iad 95 1 (.t 92) (.t 93)),
 un (.st 1 (.t 95) (.t 94))])
 (.drop [92, 93, 94, 95] (.seq (.dreg [(un (.mov 97 (.t 0)), []),
 (un (.nck 98 (.t 97)), []),
 (un (.fadr 99 0 (.t 98)), []),
 (un (.ld 100 2 true (.t 99)), []),
 (un (.mov 101 (.t 0)), [97, 98, 99, 100]),
 (un (.nck 102 (.t 101)), [97, 98, 99, 100]),
 (un (.fadr 103 2 (.t 102)), [97, 98, 99, 100]),
 (un (.ld 104 2 true (.t 103)), [97, 98, 99, 100]),
 (un (.mov 105 (.t 6)), [97, 98, 99, 100, 101, 102, 103, 104]),
 (un (.call 106 Kf [((.t 100), false), ((.t 104), false), ((.t 105), false)]), []),
 (un (.asg 96 (.t 106)), []),
 (un (.ext 107 (.t 96) 0), [106]),
 (un (.ext 108 (.t 96) 1), [107, 106, 107])]
 [un (.asg 7 (.t 107)),
 un (.asg 8 (.t 108))])
 (.drop [97, 98, 99, 100, 101, 102, 103, 104, 105, 106, 96, 107, 108] (.seq (.frz [7] (.reg [un (.mov 109 (.t 8)),
 un (.asg 110 (.t 109)),
 ⟨some (110, true), .mov 111 (.t 0)⟩,
 ⟨some (110, true), .nck 112 (.t 111)⟩,
 ⟨some (110, true), .fadr 113 4 (.t 112)⟩,
 ⟨some (110, true), .ld 114 1 false (.t 113)⟩,
 ⟨some (110, true), .un 115 .not (.t 114)⟩,
 ⟨some (110, true), .asg 116 (.t 115)⟩,
 ⟨some (116, false), .mov 117 (.t 7)⟩,
 ⟨some (116, false), .call 118 Iu [((.t 117), false)]⟩,
 ⟨some (110, true), .pick 119 (.t 116) (.c (.bool true)) (.t 118)⟩,
 un (.pick 120 (.t 110) (.t 119) (.c (.bool false)))]))
 (.drop [109, 110, 111, 112, 113, 114, 115, 116, 117, 118, 119] (.cond (.t 120) (.reg [un (.mov 121 (.t 0)),
 un (.mov 122 (.t 7)),
 un (.call 123 Bv [((.t 121), true), ((.t 122), false)])])
 .skip))))))))))))))
 (.drop [78, 79, 80, 81, 82, 83, 84, 85, 86, 87, 88, 89, 90, 91, 6, 92, 93, 94, 95, 97, 98, 99, 100, 101, 102, 103, 104, 105, 106, 96, 107, 108, 7, 8, 109, 110, 111, 112, 113, 114, 115, 116, 117, 118, 119, 120, 121, 122, 123] (.reg [un (.mov 76 (.t 5)),
 un (.bin 77 .add (.t 76) (.c (.int .i64 1))),
 un (.asg 5 (.t 77))])))))
def Uu : ACode :=
 (.seq (.reg [un (.asg 4 (.c (.int .i64 0)))])
 (.seq (.block 0 (.loop Jm))
 (.drop [9, 10, 11, 12, 13, 14, 15, 16, 17, 18, 19, 20, 21] (.seq (.seq (.reg [un (.mov 22 (.t 4)),
 un (.mov 23 (.t 1)),
 un (.len 24 (.t 23)),
 un (.bin 25 .eql (.t 22) (.t 24))])
 (.drop [22, 23, 24] (.cond (.t 25) (.seq (.seq (.cut R7)
 (.drop [26, 27, 28, 29, 30, 31, 32, 33, 34, 35, 36, 37, 38] (.cond (.t 39) (.reg [un (.mov 40 (.t 0)),
 un (.mov 41 (.t 0)),
 un (.nck 42 (.t 41)),
 un (.fadr 43 8 (.t 42)),
 un (.ld 44 1 false (.t 43)),
 un (.mov 45 (.t 1)),
 un (.bsl 46 1 [(.t 45)]),
 un (.app 47 1 (.t 44) (.t 46)),
 un (.nck 48 (.t 40)),
 un (.fadr 49 8 (.t 48)),
 un (.st 1 (.t 49) (.t 47))])
 .skip)))
 (.drop [26, 27, 28, 29, 30, 31, 32, 33, 34, 35, 36, 37, 38, 39, 40, 41, 42, 43, 44, 45, 46, 47, 48, 49] .ret))
 .skip)))
 (.drop [22, 23, 24, 25, 26, 27, 28, 29, 30, 31, 32, 33, 34, 35, 36, 37, 38, 39, 40, 41, 42, 43, 44, 45, 46, 47, 48, 49] (.seq (.reg [un (.asg 5 (.c (.int .i64 0)))])
 (.block 2 (.loop Jh))))))))
abbrev V2 : List RS := []
theorem Ur : Az Try.prog Bv 124 Uu V2 = true := by kernel_rfl
def P2 : ACode :=
 (.seq (.seq (.reg [un (.mov 11 (.t 6)),
 un (.fadr 12 0 (.t 2)),
 un (.ld 13 1 false (.t 12)),
 un (.bin 14 .leq (.t 11) (.t 13))])
 (.drop [11, 12, 13] (.cond (.t 14) .skip
 (.exit 0))))
 (.drop [11, 12, 13, 14] (.seq (.block 1 (.reg [un (.ld 17 2 true (.t 2)),
 un (.mov 18 (.t 5)),
 un (.call 19 Qz [((.t 17), false), ((.t 18), false)]),
 un (.asg 5 (.t 19))]))
 (.drop [17, 18, 19] (.reg [un (.mov 15 (.t 6)),
 un (.bin 16 .add (.t 15) (.c (.int .i64 1))),
 un (.asg 6 (.t 16))])))))
def Afj : ACode :=
 (.seq (.reg [un (.box 2 (.t 0)),
 un (.asg 4 (.c (.nilsl 1)))])
 (.seq (.reg [un (.fadr 7 0 (.t 2)),
 un (.ld 8 1 false (.t 7)),
 un (.mov 9 (.t 1)),
 un (.call 10 U5 [((.t 8), false), ((.t 9), false)]),
 un (.asg 5 (.t 10))])
 (.drop [7, 8, 9, 10] (.seq (.seq (.reg [un (.asg 6 (.c (.int .i64 0)))])
 (.block 0 (.loop P2)))
 (.drop [6, 11, 12, 13, 14, 17, 18, 19, 15, 16] (.seq (.reg [un (.mov 20 (.t 5)),
 un (.call 21 Qw [((.t 20), false)]),
 un (.asg 4 (.t 21))])
 (.drop [20, 21] .ret)))))))
abbrev Agm : List RS := [.t 4]
theorem Agl : Az Try.prog Oi 22 Afj Agm = true := by kernel_rfl
def R3 : ACode :=
 (.seq (.reg [un (.mov 32 (.t 4)),
 un (.bin 33 .eql (.t 32) (.c (.int .i64 4))),
 un (.asg 34 (.t 33)),
 ⟨some (34, true), .fadr 35 0 (.t 7)⟩,
 ⟨some (34, true), .ld 36 1 false (.t 35)⟩,
 ⟨some (34, true), .bin 37 .eql (.t 36) (.c (.int .i64 3))⟩,
 un (.pick 38 (.t 34) (.t 37) (.c (.bool false)))])
 (.drop [32, 33, 34, 35, 36, 37] (.cond (.t 38) (.reg [un (.fadr 39 0 (.t 7)),
 un (.st 1 (.t 39) (.c (.int .i64 2)))])
 .skip)))
def Jc : ACode :=
 (.seq (.seq (.reg [un (.mov 44 (.t 8)),
 un (.bin 45 .gtr (.t 44) (.c (.int .i64 0)))])
 (.drop [44] (.cond (.t 45) .skip
 (.exit 2))))
 (.drop [44, 45] (.seq (.block 3 (.dreg [(un (.fadr 48 1 (.t 7)), [132, 52]),
 (un (.ld 49 1 false (.t 48)), [132, 52]),
 (un (.mov 50 (.t 0)), [48, 49]),
 (un (.mov 51 (.t 4)), [48, 49, 50]),
 (un (.call 52 Ao [((.t 50), true), ((.t 51), false)]), [132, 48, 49]),
 (un (.bsl 53 1 [(.t 52)]), [48, 49])]
 [un (.app 54 1 (.t 49) (.t 53)),
 un (.fadr 55 1 (.t 7)),
 un (.st 1 (.t 55) (.t 54))]))
 (.drop [48, 49, 50, 51, 52, 53, 54, 55] (.reg [un (.mov 46 (.t 8)),
 un (.bin 47 .sub (.t 46) (.c (.int .i64 1))),
 un (.asg 8 (.t 47))])))))
def Jf : ACode :=
 (.seq (.seq (.reg [un (.mov 24 (.t 6)),
 un (.bin 25 .gtr (.t 24) (.c (.int .i64 0)))])
 (.drop [24] (.cond (.t 25) .skip
 (.exit 0))))
 (.drop [24, 25] (.seq (.block 1 (.seq (.reg [un (.mov 28 (.t 0)),
 un (.bsl 29 1 [(.c (.int .i64 0)), (.c (.int .i64 1)), (.c (.int .i64 2)), (.c (.int .i64 2)), (.c (.int .i64 3))]),
 un (.call 30 Ba [((.t 28), true), ((.t 29), false)]),
 un (.bld 31 [.int .i64 0, .nilsl 1] [(0, 1, (.t 30))]),
 un (.alc 7 (.agg [.int .i64 0, .nilsl 1])),
 un (.st 2 (.t 7) (.t 31))])
 (.drop [28, 29, 30, 31] (.seq (.cut R3)
 (.drop [32, 33, 34, 35, 36, 37, 38, 39] (.seq (.seq (.reg [un (.mov 40 (.t 4)),
 un (.fadr 41 0 (.t 7)),
 un (.ld 42 1 false (.t 41)),
 un (.call 43 Jq [((.t 40), false), ((.t 42), false)]),
 un (.asg 8 (.t 43))])
 (.drop [40, 41, 42, 43] (.block 2 (.loop Jc))))
 (.drop [40, 41, 42, 43, 8, 44, 45, 48, 49, 50, 51, 52, 53, 54, 55, 46, 47] (.reg [un (.fadr 56 1 (.t 5)),
 un (.ld 57 1 false (.t 56)),
 un (.ld 58 2 true (.t 7)),
 un (.bsl 59 2 [(.t 58)]),
 un (.app 60 2 (.t 57) (.t 59)),
 un (.fadr 61 1 (.t 5)),
 un (.st 1 (.t 61) (.t 60))]))))))))
 (.drop [28, 29, 30, 31, 7, 32, 33, 34, 35, 36, 37, 38, 39, 40, 41, 42, 43, 8, 44, 45, 48, 49, 50, 51, 52, 53, 54, 55, 46, 47, 56, 57, 58, 59, 60, 61] (.reg [un (.mov 26 (.t 6)),
 un (.bin 27 .sub (.t 26) (.c (.int .i64 1))),
 un (.asg 6 (.t 27))])))))
def Jk : ACode :=
 (.seq (.seq (.dreg [(un (.fadr 116 1 (.t 5)), [132]),
 (un (.ld 117 1 false (.t 116)), [132]),
 (un (.len 118 (.t 117)), [132]),
 (un (.mov 119 (.t 0)), [116, 117, 118]),
 (un (.call 120 Ao [((.t 119), true), ((.c (.int .i64 2)), false)]), [132, 116, 117, 118]),
 (un (.bin 121 .add (.c (.int .i64 4)) (.t 120)), [116, 117, 118])]
 [un (.bin 122 .lss (.t 118) (.t 121))])
 (.drop [116, 117, 118, 119, 120, 121] (.cond (.t 122) .skip
 (.exit 5))))
 (.drop [116, 117, 118, 119, 120, 121, 122] (.block 6 (.dregl [(0, .fadr 123 1 (.t 5)),
 (1, .ld 124 1 false (.t 123)),
 (2, .mov 125 (.t 4))]
 (.alt 3 (.mk 126 1 (.int .i64 0) (.t 125)) [0, 1, 2] [] (.alt 4 (.bld 127 [.int .i64 0, .nilsl 1] [(0, 1, (.c (.int .i64 1))), (1, 1, (.t 126))]) [0, 1] [] (.alt 5 (.bsl 128 2 [(.t 127)]) [0, 1] [] (.alt 6 (.app 129 2 (.t 124) (.t 128)) [0, 1] [124] (.alt 7 (.fadr 130 1 (.t 5)) [] [] (.alt 8 (.st 1 (.t 130) (.t 129)) [] [] .nil .nil) .nil) .nil) .nil) .nil) .nil)))))
def Vx : ACode :=
 (.seq (.reg [un (.alc 2 (.agg [.int .i64 0, .nilsl 2]))])
 (.seq (.seq (.reg [un (.mov 9 (.t 0)),
 un (.call 10 De [((.t 9), true), ((.c (.int .i64 4)), false)]),
 un (.un 11 .not (.t 10))])
 (.drop [9, 10] (.cond (.t 11) (.seq (.reg [un (.mov 12 (.t 0)),
 un (.call 13 Ao [((.t 12), true), ((.c (.int .i64 17)), false)]),
 un (.call 14 Oa [((.t 13), false)]),
 un (.alc 3 (.agg [.int .i64 0, .nilsl 2])),
 un (.st 2 (.t 3) (.t 14))])
 (.drop [12, 13, 14] (.seq (.reg [un (.ld 15 2 true (.t 3)),
 un (.st 2 (.t 2) (.t 15))])
 (.drop [15] .ret))))
 .skip)))
 (.drop [9, 10, 11, 12, 13, 14, 3, 15] (.seq (.reg [un (.mov 16 (.t 0)),
 un (.bsl 17 1 [(.c (.int .i64 2)), (.c (.int .i64 2)), (.c (.int .i64 3)), (.c (.int .i64 3)), (.c (.int .i64 4))]),
 un (.call 18 Ba [((.t 16), true), ((.t 17), false)]),
 un (.asg 4 (.t 18))])
 (.drop [16, 17, 18] (.seq (.reg [un (.mov 19 (.t 4)),
 un (.bld 20 [.int .i64 0, .nilsl 2] [(0, 1, (.t 19))]),
 un (.alc 5 (.agg [.int .i64 0, .nilsl 2])),
 un (.st 2 (.t 5) (.t 20))])
 (.drop [19, 20] (.seq (.seq (.reg [un (.mov 21 (.t 0)),
 un (.bsl 22 1 [(.c (.int .i64 1)), (.c (.int .i64 1)), (.c (.int .i64 2))]),
 un (.call 23 Ba [((.t 21), true), ((.t 22), false)]),
 un (.asg 6 (.t 23))])
 (.drop [21, 22, 23] (.block 0 (.loop Jf))))
 (.drop [21, 22, 23, 6, 24, 25, 28, 29, 30, 31, 7, 32, 33, 34, 35, 36, 37, 38, 39, 40, 41, 42, 43, 8, 44, 45, 48, 49, 50, 51, 52, 53, 54, 55, 46, 47, 56, 57, 58, 59, 60, 61, 26, 27] (.seq (.seq (.reg [un (.mov 62 (.t 0)),
 un (.call 63 Ao [((.t 62), true), ((.c (.int .i64 16)), false)])])
 (.drop [62] (.block 4 (.seq (.reg [un (.bin 65 .eql (.t 63) (.c (.int .i64 0))),
 un (.asg 64 (.t 65))])
 (.drop [65] (.cond (.t 64) (.reg [un (.mov 66 (.t 0)),
 un (.mov 67 (.t 4)),
 un (.bin 68 .add (.t 67) (.c (.int .i64 1))),
 un (.bsl 69 1 [(.c (.int .i64 0)), (.c (.int .i64 9)), (.t 68)]),
 un (.call 70 Ba [((.t 66), true), ((.t 69), false)]),
 un (.fadr 71 0 (.t 5)),
 un (.st 1 (.t 71) (.t 70))])
 (.seq (.reg [un (.bin 73 .eql (.t 63) (.c (.int .i64 1))),
 un (.asg 72 (.t 73))])
 (.drop [73] (.cond (.t 72) (.dregl [(0, .fadr 74 1 (.t 5)),
 (1, .ld 75 1 false (.t 74)),
 (2, .fadr 76 1 (.t 5)),
 (3, .ld 77 1 false (.t 76)),
 (4, .iad 78 2 (.t 77) (.c (.int .i64 0))),
 (5, .fadr 79 1 (.t 78)),
 (6, .ld 80 1 false (.t 79))]
 (.alt 7 (.bsl 81 1 [(.c (.int .i64 0))]) [0, 1, 2, 3, 4, 5, 6] [] (.alt 8 (.app 82 1 (.t 80) (.t 81)) [0, 1, 2, 3, 4, 5, 6] [80] (.alt 9 (.iad 83 2 (.t 75) (.c (.int .i64 0))) [0, 1] [] (.alt 10 (.fadr 84 1 (.t 83)) [] [] (.alt 11 (.st 1 (.t 84) (.t 82)) [] [] .nil .nil) .nil) .nil) .nil) .nil))
 (.seq (.reg [un (.bin 86 .eql (.t 63) (.c (.int .i64 2))),
 un (.asg 85 (.t 86))])
 (.drop [86] (.cond (.t 85) (.dregl [(0, .fadr 87 1 (.t 5)),
 (1, .ld 88 1 false (.t 87)),
 (2, .iad 89 2 (.t 88) (.c (.int .i64 0))),
 (3, .fadr 90 1 (.t 89)),
 (4, .ld 91 1 false (.t 90)),
 (5, .mov 92 (.t 0)),
 (6, .fadr 93 1 (.t 5)),
 (7, .ld 94 1 false (.t 93)),
 (8, .iad 95 2 (.t 94) (.c (.int .i64 0))),
 (9, .fadr 96 1 (.t 95)),
 (10, .ld 97 1 false (.t 96)),
 (13, .mov 100 (.t 0)),
 (14, .mov 101 (.t 4))]
 (.alt 11 (.len 98 (.t 97)) [0, 1, 2, 3, 4, 5, 6, 7, 8, 9, 10, 13, 14] [] (.alt 12 (.call 99 Ao [((.t 92), true), ((.t 98), false)]) [0, 1, 2, 3, 4, 5, 13, 14] [] (.alt 15 (.bsl 102 1 [(.c (.int .i64 (-1))), (.t 101)]) [0, 1, 2, 3, 4, 13, 14] [] (.alt 16 (.call 103 Ba [((.t 100), true), ((.t 102), false)]) [0, 1, 2, 3, 4, 13] [] (.alt 17 (.iad 104 1 (.t 91) (.t 99)) [0, 1, 2, 3, 4] [] (.alt 18 (.st 1 (.t 104) (.t 103)) [] [] .nil .nil) .nil) .nil) .nil) (.alt 15 (.bsl 102 1 [(.c (.int .i64 (-1))), (.t 101)]) [0, 1, 2, 3, 4, 5, 13, 14] [] (.alt 12 (.call 99 Ao [((.t 92), true), ((.t 98), false)]) [0, 1, 2, 3, 4, 5, 13] [] (.alt 16 (.call 103 Ba [((.t 100), true), ((.t 102), false)]) [0, 1, 2, 3, 4, 13] [] (.alt 17 (.iad 104 1 (.t 91) (.t 99)) [0, 1, 2, 3, 4] [] (.alt 18 (.st 1 (.t 104) (.t 103)) [] [] .nil .nil) .nil) .nil) .nil) .nil)) (.alt 15 (.bsl 102 1 [(.c (.int .i64 (-1))), (.t 101)]) [0, 1, 2, 3, 4, 5, 6, 7, 8, 9, 10, 13, 14] [] (.alt 11 (.len 98 (.t 97)) [0, 1, 2, 3, 4, 5, 6, 7, 8, 9, 10, 13] [] (.alt 12 (.call 99 Ao [((.t 92), true), ((.t 98), false)]) [0, 1, 2, 3, 4, 5, 13] [] (.alt 16 (.call 103 Ba [((.t 100), true), ((.t 102), false)]) [0, 1, 2, 3, 4, 13] [] (.alt 17 (.iad 104 1 (.t 91) (.t 99)) [0, 1, 2, 3, 4] [] (.alt 18 (.st 1 (.t 104) (.t 103)) [] [] .nil .nil) .nil) .nil) .nil) .nil) .nil)))
 (.seq (.reg [un (.bin 106 .eql (.t 63) (.c (.int .i64 3))),
 un (.asg 105 (.t 106))])
 (.drop [106] (.cond (.t 105) (.dregl [(0, .fadr 107 1 (.t 5)),
 (1, .ld 108 1 false (.t 107)),
 (2, .mov 109 (.t 0))]
 (.alt 3 (.bsl 110 1 [(.c (.int .i64 (-1))), (.c (.int .i64 4))]) [0, 1, 2] [] (.alt 4 (.call 111 Ba [((.t 109), true), ((.t 110), false)]) [0, 1, 2] [] (.alt 5 (.iad 112 2 (.t 108) (.c (.int .i64 0))) [0, 1] [] (.alt 6 (.fadr 113 0 (.t 112)) [] [] (.alt 7 (.st 1 (.t 113) (.t 111)) [] [] .nil .nil) .nil) .nil) .nil) .nil))
 (.seq (.reg [un (.bin 115 .eql (.t 63) (.c (.int .i64 4))),
 un (.asg 114 (.t 115))])
 (.drop [115] (.cond (.t 114) (.block 5 (.loop Jk))
 .skip))))))))))))))))))
 (.drop [62, 63, 65, 64, 66, 67, 68, 69, 70, 71, 73, 72, 74, 75, 76, 77, 78, 79, 80, 81, 82, 83, 84, 86, 85, 87, 88, 89, 90, 91, 92, 93, 94, 95, 96, 97, 98, 99, 100, 101, 102, 103, 104, 106, 105, 107, 108, 109, 110, 111, 112, 113, 115, 114, 116, 117, 118, 119, 120, 121, 122, 123, 124, 125, 126, 127, 128, 129, 130] (.seq (.reg [un (.ld 131 2 true (.t 5)),
 un (.st 2 (.t 2) (.t 131))])
 (.drop [131] .ret)))))))))))))
abbrev Vu : List RS := [.c 2 2 true]
theorem Vb : Az Try.prog Ds 132 Vx Vu = true := by kernel_rfl
def Alm : ACode :=
 (.seq (.reg [un (.box 2 (.t 0)),
 un (.box 3 (.t 1)),
 un (.asg 4 (.c (.bool false)))])
 (.seq (.reg [un (.ld 5 2 true (.t 2)),
 un (.call 6 Em [((.t 5), false)]),
 un (.asg 7 (.t 6)),
 ⟨some (7, true), .ld 8 2 true (.t 3)⟩,
 ⟨some (7, true), .call 9 Em [((.t 8), false)]⟩,
 un (.pick 10 (.t 7) (.t 9) (.c (.bool false))),
 un (.asg 11 (.t 10)),
 ⟨some (11, true), .ld 12 2 true (.t 2)⟩,
 ⟨some (11, true), .ld 13 2 true (.t 3)⟩,
 ⟨some (11, true), .call 14 Is [((.t 12), false), ((.t 13), false)]⟩,
 un (.pick 15 (.t 11) (.t 14) (.c (.bool false))),
 un (.asg 4 (.t 15))])
 (.drop [5, 6, 7, 8, 9, 10, 11, 12, 13, 14, 15] .ret)))
abbrev Alj : List RS := [.t 4]
theorem Ak0 : Az Try.prog Fh 16 Alm Alj = true := by kernel_rfl
def Aoh : ACode :=
 (.seq (.reg [un (.box 3 (.t 0)),
 un (.box 4 (.t 1)),
 un (.asg 6 (.c (.bool false)))])
 (.seq (.seq (.reg [un (.ld 10 2 true (.t 3)),
 un (.ld 11 2 true (.t 4)),
 un (.mov 12 (.t 2)),
 un (.call 13 Ny [((.t 10), false), ((.t 11), false), ((.t 12), false)]),
 un (.un 14 .not (.t 13))])
 (.drop [10, 11, 12, 13] (.cond (.t 14) (.seq (.reg [un (.asg 6 (.c (.bool false)))])
 .ret)
 .skip)))
 (.drop [10, 11, 12, 13, 14] (.seq (.reg [un (.ld 16 2 true (.t 3)),
 un (.ld 17 2 true (.t 4)),
 un (.mov 18 (.t 2)),
 un (.call 19 Jp [((.t 16), false), ((.t 17), false), ((.t 18), false)]),
 un (.asg 15 (.t 19)),
 un (.ext 20 (.t 15) 0),
 un (.ext 21 (.t 15) 1),
 un (.ext 22 (.t 15) 2),
 un (.asg 7 (.t 20)),
 un (.asg 8 (.t 21)),
 un (.asg 9 (.t 22))])
 (.drop [16, 17, 18, 19, 15, 20, 21, 22, 7, 8] (.seq (.reg [un (.mov 23 (.t 9)),
 un (.un 24 .not (.t 23)),
 un (.asg 6 (.t 24))])
 (.drop [23, 24] .ret)))))))
abbrev Ao4 : List RS := [.t 6]
theorem Aov : Az Try.prog Ji 25 Aoh Ao4 = true := by kernel_rfl
def Alh : ACode :=
 (.seq (.reg [un (.box 2 (.t 0)),
 un (.asg 4 (.c (.bool false)))])
 (.seq (.reg [un (.ld 5 2 true (.t 2)),
 un (.call 6 Dc [((.t 5), false)]),
 un (.asg 7 (.t 6)),
 ⟨some (7, true), .mov 8 (.t 1)⟩,
 ⟨some (7, true), .bin 9 .geq (.t 8) (.c (.int .i64 0))⟩,
 un (.pick 10 (.t 7) (.t 9) (.c (.bool false))),
 un (.asg 11 (.t 10)),
 ⟨some (11, true), .mov 12 (.t 1)⟩,
 ⟨some (11, true), .fadr 13 1 (.t 2)⟩,
 ⟨some (11, true), .ld 14 1 false (.t 13)⟩,
 ⟨some (11, true), .len 15 (.t 14)⟩,
 ⟨some (11, true), .bin 16 .lss (.t 12) (.t 15)⟩,
 un (.pick 17 (.t 11) (.t 16) (.c (.bool false))),
 un (.asg 4 (.t 17))])
 (.drop [5, 6, 7, 8, 9, 10, 11, 12, 13, 14, 15, 16, 17] .ret)))
abbrev Akg : List RS := [.t 4]
theorem Akj : Az Try.prog S8 18 Alh Akg = true := by kernel_rfl
def J3 : ACode :=
 (.seq (.seq (.reg [un (.mov 9 (.t 6)),
 un (.mov 10 (.t 1)),
 un (.bin 11 .lss (.t 9) (.t 10))])
 (.drop [9, 10] (.cond (.t 11) .skip
 (.exit 0))))
 (.drop [9, 10, 11] (.seq (.block 1 (.seq (.reg [un (.mov 14 (.t 0)),
 un (.mov 15 (.t 5)),
 un (.len 16 (.t 15)),
 un (.bin 17 .add (.t 16) (.c (.int .i64 1))),
 un (.call 18 Ao [((.t 14), true), ((.t 17), false)]),
 un (.asg 7 (.t 18))])
 (.drop [14, 15, 16, 17, 18] (.frz [5] (.dreg [(un (.bsl 19 1 []), [24]),
 (un (.mov 20 (.t 5)), [19, 24]),
 (un (.mov 21 (.t 7)), [19, 20, 24]),
 (un (.slc 22 1 (.t 20) none (some (.t 21))), [19, 24]),
 (un (.app 23 1 (.t 19) (.t 22)), [24]),
 (un (.mov 24 (.t 6)), [19, 20, 21, 22, 23, 19]),
 (un (.bsl 25 1 [(.t 24)]), [19, 20, 21, 22, 23, 19]),
 (un (.app 26 1 (.t 23) (.t 25)), [19, 24]),
 (un (.mov 27 (.t 5)), [19, 20, 21, 22, 23, 24, 25, 26, 19, 24, 23]),
 (un (.mov 28 (.t 7)), [19, 20, 21, 22, 23, 24, 25, 26, 27, 19, 24, 23]),
 (un (.slc 29 1 (.t 27) (some (.t 28)) none), [19, 20, 21, 22, 23, 24, 25, 26, 19, 24, 23])]
 [un (.app 30 1 (.t 26) (.t 29)),
 un (.asg 5 (.t 30))])))))
 (.drop [14, 15, 16, 17, 18, 7, 19, 20, 21, 22, 23, 24, 25, 26, 27, 28, 29, 30] (.reg [un (.mov 12 (.t 6)),
 un (.bin 13 .add (.t 12) (.c (.int .i64 1))),
 un (.asg 6 (.t 13))])))))
def Wu : ACode :=
 (.seq (.reg [un (.asg 4 (.c (.nilsl 1)))])
 (.seq (.reg [un (.bsl 8 1 []),
 un (.asg 5 (.t 8))])
 (.drop [8] (.seq (.seq (.reg [un (.asg 6 (.c (.int .i64 0)))])
 (.block 0 (.loop J3)))
 (.drop [6, 9, 10, 11, 14, 15, 16, 17, 18, 7, 19, 20, 21, 22, 23, 24, 25, 26, 27, 28, 29, 30, 12, 13] (.seq (.seq (.reg [un (.mov 31 (.t 0)),
 un (.call 32 Ao [((.t 31), true), ((.c (.int .i64 24)), false)])])
 (.drop [31] (.block 2 (.seq (.reg [un (.bin 34 .eql (.t 32) (.c (.int .i64 0))),
 un (.asg 33 (.t 34))])
 (.drop [34] (.cond (.t 33) (.reg [un (.mov 35 (.t 5)),
 un (.mov 36 (.t 1)),
 un (.bsl 37 1 [(.t 36)]),
 un (.app 38 1 (.t 35) (.t 37)),
 un (.asg 5 (.t 38))])
 (.seq (.reg [un (.bin 40 .eql (.t 32) (.c (.int .i64 1))),
 un (.asg 39 (.t 40))])
 (.drop [40] (.cond (.t 39) (.seq (.reg [un (.mov 41 (.t 1)),
 un (.bin 42 .gtr (.t 41) (.c (.int .i64 0)))])
 (.drop [41] (.cond (.t 42) (.reg [un (.mov 43 (.t 5)),
 un (.mov 44 (.t 0)),
 un (.mov 45 (.t 1)),
 un (.call 46 Ao [((.t 44), true), ((.t 45), false)]),
 un (.mov 47 (.t 0)),
 un (.mov 48 (.t 1)),
 un (.bsl 49 1 [(.c (.int .i64 0)), (.c (.int .i64 (-1))), (.t 48)]),
 un (.call 50 Ba [((.t 47), true), ((.t 49), false)]),
 un (.iad 51 1 (.t 43) (.t 46)),
 un (.st 1 (.t 51) (.t 50))])
 .skip)))
 .skip)))))))))
 (.drop [31, 32, 34, 33, 35, 36, 37, 38, 40, 39, 41, 42, 43, 44, 45, 46, 47, 48, 49, 50, 51] (.seq (.reg [un (.mov 52 (.t 5)),
 un (.asg 4 (.t 52))])
 (.drop [52] .ret)))))))))
abbrev Wq : List RS := [.t 4]
theorem Ws : Az Try.prog Ij 53 Wu Wq = true := by kernel_rfl
def Sb : ACode :=
 (.seq (.seq (.reg [un (.mov 26 (.t 14)),
 un (.fadr 27 0 (.t 5)),
 un (.ld 28 1 false (.t 27)),
 un (.bin 29 .lss (.t 26) (.t 28))])
 (.drop [26, 27, 28] (.cond (.t 29) .skip
 (.exit 0))))
 (.drop [26, 27, 28, 29] (.seq (.block 1 (.reg [un (.mov 32 (.t 13)),
 un (.bsl 33 1 [(.c (.int .i64 (-1)))]),
 un (.app 34 1 (.t 32) (.t 33)),
 un (.asg 13 (.t 34))]))
 (.drop [32, 33, 34] (.reg [un (.mov 30 (.t 14)),
 un (.bin 31 .add (.t 30) (.c (.int .i64 1))),
 un (.asg 14 (.t 31))])))))
def Abv : ACode :=
 (.seq (.frz [15] (.reg [un (.mov 42 (.t 16)),
 un (.asg 43 (.t 42)),
 ⟨some (43, true), .mov 44 (.t 2)⟩,
 ⟨some (43, true), .un 45 .not (.t 44)⟩,
 ⟨some (43, true), .asg 46 (.t 45)⟩,
 ⟨some (46, false), .mov 47 (.t 15)⟩,
 ⟨some (46, false), .call 48 Iu [((.t 47), false)]⟩,
 ⟨some (43, true), .pick 49 (.t 46) (.c (.bool true)) (.t 48)⟩,
 un (.pick 50 (.t 43) (.t 49) (.c (.bool false)))]))
 (.drop [42, 43, 44, 45, 46, 47, 48, 49] (.cond (.t 50) (.reg [un (.mov 51 (.t 12)),
 un (.mov 52 (.t 15)),
 un (.call 53 Bv [((.t 51), true), ((.t 52), false)])])
 .skip)))
def Ahs : ACode :=
 (.seq (.reg [un (.box 5 (.t 0)),
 un (.box 6 (.t 1)),
 un (.asg 10 (.c (.nilsl 1))),
 un (.asg 11 (.c (.bool false)))])
 (.seq (.reg [un (.ld 17 2 true (.t 5)),
 un (.ld 18 2 true (.t 6)),
 un (.mov 19 (.t 2)),
 un (.mov 20 (.t 3)),
 un (.mov 21 (.t 4)),
 un (.bsl 22 1 []),
 un (.bld 23 [.int .i64 0, .nilsl 2, .int .i64 0, .nilsl 2, .bool false, .bool false, .int .i64 0, .int .i64 0, .nilsl 1] [(0, 2, (.t 17)), (2, 2, (.t 18)), (4, 1, (.t 19)), (5, 1, (.t 20)), (6, 1, (.t 21)), (8, 1, (.t 22))]),
 un (.box 24 (.t 23)),
 un (.asg 12 (.t 24))])
 (.drop [17, 18, 19, 20, 21, 22, 23, 24] (.seq (.reg [un (.bsl 25 1 []),
 un (.asg 13 (.t 25))])
 (.drop [25] (.seq (.seq (.reg [un (.asg 14 (.c (.int .i64 0)))])
 (.block 0 (.loop Sb)))
 (.drop [14, 26, 27, 28, 29, 32, 33, 34, 30, 31] (.seq (.reg [un (.ld 36 2 true (.t 5)),
 un (.ld 37 2 true (.t 6)),
 un (.mov 38 (.t 13)),
 un (.call 39 Kf [((.t 36), false), ((.t 37), false), ((.t 38), false)]),
 un (.asg 35 (.t 39)),
 un (.ext 40 (.t 35) 0),
 un (.ext 41 (.t 35) 1),
 un (.asg 15 (.t 40)),
 un (.asg 16 (.t 41))])
 (.drop [36, 37, 38, 39, 35, 40, 41] (.seq (.cut Abv)
 (.drop [42, 43, 44, 45, 46, 47, 48, 49, 50, 51, 52, 53] (.seq (.frz [12] (.dreg [(un (.mov 54 (.t 12)), []),
 (un (.nck 55 (.t 54)), []),
 (un (.fadr 56 8 (.t 55)), []),
 (un (.ld 57 1 false (.t 56)), []),
 (un (.mov 58 (.t 12)), [54, 55, 56, 57, 57]),
 (un (.nck 59 (.t 58)), [54, 55, 56, 57, 57]),
 (un (.fadr 60 7 (.t 59)), [54, 55, 56, 57, 57]),
 (un (.ld 61 1 false (.t 60)), [54, 55, 56, 57, 57]),
 (un (.bin 62 .leq (.t 61) (.c (.int .i64 5000))), [54, 55, 56, 57, 57]),
 (un (.asg 10 (.t 57)), [58, 59, 60, 61, 62])]
 [un (.asg 11 (.t 62))]))
 (.drop [54, 55, 56, 57, 58, 59, 60, 61, 62] .ret)))))))))))))
abbrev Ajg : List RS := [.t 10, .t 11]
theorem Ait : Az Try.prog Lz 63 Ahs Ajg = true := by kernel_rfl
def Adt : ACode :=
 (.seq (.reg [un (.box 2 (.t 0)),
 un (.box 3 (.t 1)),
 un (.asg 4 (.c (.bool false))),
 un (.asg 5 (.c (.bool false)))])
 (.seq (.seq (.reg [un (.ld 6 2 true (.t 2)),
 un (.call 7 Dc [((.t 6), false)]),
 un (.un 8 .not (.t 7)),
 un (.asg 9 (.t 8)),
 ⟨some (9, false), .ld 10 2 true (.t 3)⟩,
 ⟨some (9, false), .call 11 Dc [((.t 10), false)]⟩,
 ⟨some (9, false), .un 12 .not (.t 11)⟩,
 un (.pick 13 (.t 9) (.c (.bool true)) (.t 12))])
 (.drop [6, 7, 8, 9, 10, 11, 12] (.cond (.t 13) (.seq (.reg [un (.asg 4 (.c (.bool false))),
 un (.asg 5 (.c (.bool false)))])
 .ret)
 .skip)))
 (.drop [6, 7, 8, 9, 10, 11, 12, 13] (.seq (.dreg [(un (.ld 14 2 true (.t 2)), []),
 (un (.call 15 L0 [((.t 14), false)]), []),
 (un (.ld 16 2 true (.t 3)), [14, 15])]
 [un (.call 17 L0 [((.t 16), false)]),
 un (.call 18 M5 [((.t 15), false), ((.t 17), false)]),
 un (.asg 4 (.t 18)),
 un (.asg 5 (.c (.bool true)))])
 (.drop [14, 15, 16, 17, 18] .ret)))))
abbrev Ado : List RS := [.t 4, .t 5]
theorem Adr : Az Try.prog Nf 19 Adt Ado = true := by kernel_rfl
def Ao3 : ACode :=
 (.seq (.reg [un (.box 2 (.t 0)),
 un (.asg 4 (.c (.bool false)))])
 (.seq (.reg [un (.mov 5 (.t 1)),
 un (.fadr 6 0 (.t 2)),
 un (.ld 7 1 false (.t 6)),
 un (.bin 8 .sub (.t 7) (.c (.int .i64 1))),
 un (.call 9 M6 [((.t 5), false), ((.c (.int .i64 0)), false), ((.t 8), false)]),
 un (.asg 10 (.t 9)),
 ⟨some (10, true), .ld 11 2 true (.t 2)⟩,
 ⟨some (10, true), .mov 12 (.t 1)⟩,
 ⟨some (10, true), .call 13 Oi [((.t 11), false), ((.t 12), false)]⟩,
 ⟨some (10, true), .mov 14 (.t 1)⟩,
 ⟨some (10, true), .call 15 Ly [((.t 13), false), ((.t 14), false)]⟩,
 un (.pick 16 (.t 10) (.t 15) (.c (.bool false))),
 un (.asg 4 (.t 16))])
 (.drop [5, 6, 7, 8, 9, 10, 11, 12, 13, 14, 15, 16] .ret)))
abbrev Aor : List RS := [.t 4]
theorem An6 : Az Try.prog Ve 17 Ao3 Aor = true := by kernel_rfl
def Xu : ACode :=
 (.seq (.reg [un (.ld 9 2 true (.t 3)),
 un (.ld 10 2 true (.t 4)),
 un (.call 11 Fh [((.t 9), false), ((.t 10), false)]),
 un (.un 12 .not (.t 11)),
 un (.asg 13 (.t 12)),
 ⟨some (13, false), .ld 14 2 true (.t 3)⟩,
 ⟨some (13, false), .ld 15 2 true (.t 4)⟩,
 ⟨some (13, false), .mov 16 (.t 2)⟩,
 ⟨some (13, false), .call 17 Ny [((.t 14), false), ((.t 15), false), ((.t 16), false)]⟩,
 ⟨some (13, false), .un 18 .not (.t 17)⟩,
 un (.pick 19 (.t 13) (.c (.bool true)) (.t 18))])
 (.drop [9, 10, 11, 12, 13, 14, 15, 16, 17, 18] (.cond (.t 19) (.seq (.reg [un (.bsl 20 1 []),
 un (.asg 6 (.c (.int .i64 0))),
 un (.asg 7 (.t 20)),
 un (.asg 8 (.c (.bool false)))])
 (.drop [20] .ret))
 .skip)))
def Ada : ACode :=
 (.seq (.reg [un (.box 3 (.t 0)),
 un (.box 4 (.t 1)),
 un (.asg 6 (.c (.int .i64 0))),
 un (.asg 7 (.c (.nilsl 1))),
 un (.asg 8 (.c (.bool false)))])
 (.seq (.cut Xu)
 (.drop [9, 10, 11, 12, 13, 14, 15, 16, 17, 18, 19, 20] (.seq (.reg [un (.ld 21 2 true (.t 3)),
 un (.ld 22 2 true (.t 4)),
 un (.mov 23 (.t 2)),
 un (.call 24 Jp [((.t 21), false), ((.t 22), false), ((.t 23), false)]),
 un (.ext 25 (.t 24) 0),
 un (.ext 26 (.t 24) 1),
 un (.ext 27 (.t 24) 2),
 un (.asg 6 (.t 25)),
 un (.asg 7 (.t 26)),
 un (.asg 8 (.t 27))])
 (.drop [21, 22, 23, 24, 25, 26, 27] .ret)))))
abbrev Ad4 : List RS := [.t 6, .t 7, .t 8]
theorem Ads : Az Try.prog M7 28 Ada Ad4 = true := by kernel_rfl
def Akz : ACode :=
 (.seq (.reg [un (.box 3 (.t 0)),
 un (.box 4 (.t 1)),
 un (.asg 6 (.c (.bool false))),
 un (.asg 7 (.c (.bool false)))])
 (.seq (.seq (.reg [un (.ld 8 2 true (.t 3)),
 un (.ld 9 2 true (.t 4)),
 un (.call 10 Fh [((.t 8), false), ((.t 9), false)]),
 un (.un 11 .not (.t 10))])
 (.drop [8, 9, 10] (.cond (.t 11) (.seq (.reg [un (.asg 6 (.c (.bool false))),
 un (.asg 7 (.c (.bool false)))])
 .ret)
 .skip)))
 (.drop [8, 9, 10, 11] (.seq (.reg [un (.ld 12 2 true (.t 3)),
 un (.ld 13 2 true (.t 4)),
 un (.mov 14 (.t 2)),
 un (.call 15 Ji [((.t 12), false), ((.t 13), false), ((.t 14), false)]),
 un (.asg 6 (.t 15)),
 un (.asg 7 (.c (.bool true)))])
 (.drop [12, 13, 14, 15] .ret)))))
abbrev Aly : List RS := [.t 6, .t 7]
theorem Akq : Az Try.prog S4 16 Akz Aly = true := by kernel_rfl
def Yt : ACode :=
 (.seq (.reg [un (.ld 8 2 true (.t 3)),
 un (.mov 9 (.t 1)),
 un (.call 10 S8 [((.t 8), false), ((.t 9), false)]),
 un (.un 11 .not (.t 10)),
 un (.asg 12 (.t 11)),
 ⟨some (12, false), .mov 13 (.t 2)⟩,
 ⟨some (12, false), .len 14 (.t 13)⟩,
 ⟨some (12, false), .fadr 15 1 (.t 3)⟩,
 ⟨some (12, false), .ld 16 1 false (.t 15)⟩,
 ⟨some (12, false), .mov 17 (.t 1)⟩,
 ⟨some (12, false), .iad 18 2 (.t 16) (.t 17)⟩,
 ⟨some (12, false), .fadr 19 0 (.t 18)⟩,
 ⟨some (12, false), .ld 20 1 false (.t 19)⟩,
 ⟨some (12, false), .bin 21 .neq (.t 14) (.t 20)⟩,
 un (.pick 22 (.t 12) (.c (.bool true)) (.t 21)),
 un (.asg 23 (.t 22)),
 ⟨some (23, false), .mov 24 (.t 2)⟩,
 ⟨some (23, false), .fadr 25 0 (.t 3)⟩,
 ⟨some (23, false), .ld 26 1 false (.t 25)⟩,
 ⟨some (23, false), .call 27 G3 [((.t 24), false), ((.t 26), false)]⟩,
 ⟨some (23, false), .un 28 .not (.t 27)⟩,
 un (.pick 29 (.t 23) (.c (.bool true)) (.t 28))])
 (.drop [8, 9, 10, 11, 12, 13, 14, 15, 16, 17, 18, 19, 20, 21, 22, 23, 24, 25, 26, 27, 28] (.cond (.t 29) (.seq (.reg [un (.asg 6 (.c (.int .i64 0))),
 un (.asg 7 (.c (.bool false)))])
 .ret)
 .skip)))
def Ahe : ACode :=
 (.seq (.reg [un (.box 3 (.t 0)),
 un (.asg 6 (.c (.int .i64 0))),
 un (.asg 7 (.c (.bool false)))])
 (.seq (.cut Yt)
 (.drop [8, 9, 10, 11, 12, 13, 14, 15, 16, 17, 18, 19, 20, 21, 22, 23, 24, 25, 26, 27, 28, 29] (.seq (.dreg [(un (.fadr 30 1 (.t 3)), []),
 (un (.ld 31 1 false (.t 30)), []),
 (un (.mov 32 (.t 1)), [30, 31]),
 (un (.iad 33 2 (.t 31) (.t 32)), []),
 (un (.fadr 34 1 (.t 33)), []),
 (un (.ld 35 1 false (.t 34)), []),
 (un (.mov 36 (.t 2)), [30, 31, 32, 33, 34, 35]),
 (un (.fadr 37 0 (.t 3)), [30, 31, 32, 33, 34, 35, 36]),
 (un (.ld 38 1 false (.t 37)), [30, 31, 32, 33, 34, 35, 36]),
 (un (.call 39 Oz [((.t 36), false), ((.t 38), false)]), [30, 31, 32, 33, 34, 35])]
 [un (.iad 40 1 (.t 35) (.t 39)),
 un (.ld 41 1 false (.t 40)),
 un (.asg 6 (.t 41)),
 un (.asg 7 (.c (.bool true)))])
 (.drop [30, 31, 32, 33, 34, 35, 36, 37, 38, 39, 40, 41] .ret)))))
abbrev Ago : List RS := [.t 6, .t 7]
theorem Afg : Az Try.prog Jt 42 Ahe Ago = true := by kernel_rfl
def X8 : ACode :=
 (.seq (.reg [un (.box 5 (.t 0)),
 un (.box 6 (.t 1)),
 un (.box 7 (.t 2)),
 un (.asg 10 (.c (.nilsl 1))),
 un (.asg 11 (.c (.bool false)))])
 (.seq (.seq (.reg [un (.ld 12 2 true (.t 5)),
 un (.ld 13 2 true (.t 6)),
 un (.call 14 Fh [((.t 12), false), ((.t 13), false)]),
 un (.un 15 .not (.t 14)),
 un (.asg 16 (.t 15)),
 ⟨some (16, false), .ld 17 2 true (.t 6)⟩,
 ⟨some (16, false), .ld 18 2 true (.t 7)⟩,
 ⟨some (16, false), .call 19 Fh [((.t 17), false), ((.t 18), false)]⟩,
 ⟨some (16, false), .un 20 .not (.t 19)⟩,
 un (.pick 21 (.t 16) (.c (.bool true)) (.t 20)),
 un (.asg 22 (.t 21)),
 ⟨some (22, false), .ld 23 2 true (.t 5)⟩,
 ⟨some (22, false), .ld 24 2 true (.t 6)⟩,
 ⟨some (22, false), .mov 25 (.t 3)⟩,
 ⟨some (22, false), .call 26 Ji [((.t 23), false), ((.t 24), false), ((.t 25), false)]⟩,
 ⟨some (22, false), .un 27 .not (.t 26)⟩,
 un (.pick 28 (.t 22) (.c (.bool true)) (.t 27)),
 un (.asg 29 (.t 28)),
 ⟨some (29, false), .ld 30 2 true (.t 6)⟩,
 ⟨some (29, false), .ld 31 2 true (.t 7)⟩,
 ⟨some (29, false), .mov 32 (.t 4)⟩,
 ⟨some (29, false), .call 33 Ji [((.t 30), false), ((.t 31), false), ((.t 32), false)]⟩,
 ⟨some (29, false), .un 34 .not (.t 33)⟩,
 un (.pick 35 (.t 29) (.c (.bool true)) (.t 34))])
 (.drop [12, 13, 14, 15, 16, 17, 18, 19, 20, 21, 22, 23, 24, 25, 26, 27, 28, 29, 30, 31, 32, 33, 34] (.cond (.t 35) (.seq (.reg [un (.bsl 36 1 []),
 un (.asg 10 (.t 36)),
 un (.asg 11 (.c (.bool false)))])
 (.drop [36] .ret))
 .skip)))
 (.drop [12, 13, 14, 15, 16, 17, 18, 19, 20, 21, 22, 23, 24, 25, 26, 27, 28, 29, 30, 31, 32, 33, 34, 35, 36] (.seq (.reg [un (.mov 37 (.t 4)),
 un (.mov 38 (.t 3)),
 un (.call 39 G0 [((.t 37), false), ((.t 38), false)]),
 un (.asg 10 (.t 39)),
 un (.asg 11 (.c (.bool true)))])
 (.drop [37, 38, 39] .ret)))))
abbrev X1 : List RS := [.t 10, .t 11]
theorem Xj : Az Try.prog Ja 40 X8 X1 = true := by kernel_rfl
def Vz : ACode :=
 (.seq (.reg [un (.ld 10 2 true (.t 3)),
 un (.ld 11 2 true (.t 4)),
 un (.call 12 Fh [((.t 10), false), ((.t 11), false)]),
 un (.un 13 .not (.t 12)),
 un (.asg 14 (.t 13)),
 ⟨some (14, false), .fadr 15 0 (.t 3)⟩,
 ⟨some (14, false), .ld 16 1 false (.t 15)⟩,
 ⟨some (14, false), .fadr 17 0 (.t 4)⟩,
 ⟨some (14, false), .ld 18 1 false (.t 17)⟩,
 ⟨some (14, false), .bin 19 .neq (.t 16) (.t 18)⟩,
 un (.pick 20 (.t 14) (.c (.bool true)) (.t 19)),
 un (.asg 21 (.t 20)),
 ⟨some (21, false), .ld 22 2 true (.t 3)⟩,
 ⟨some (21, false), .ld 23 2 true (.t 4)⟩,
 ⟨some (21, false), .mov 24 (.t 2)⟩,
 ⟨some (21, false), .call 25 Ji [((.t 22), false), ((.t 23), false), ((.t 24), false)]⟩,
 ⟨some (21, false), .un 26 .not (.t 25)⟩,
 un (.pick 27 (.t 21) (.c (.bool true)) (.t 26)),
 un (.asg 28 (.t 27)),
 ⟨some (28, false), .mov 29 (.t 2)⟩,
 ⟨some (28, false), .call 30 Iu [((.t 29), false)]⟩,
 ⟨some (28, false), .un 31 .not (.t 30)⟩,
 un (.pick 32 (.t 28) (.c (.bool true)) (.t 31))])
 (.drop [10, 11, 12, 13, 14, 15, 16, 17, 18, 19, 20, 21, 22, 23, 24, 25, 26, 27, 28, 29, 30, 31] (.cond (.t 32) (.seq (.reg [un (.bsl 33 1 []),
 un (.asg 6 (.t 33)),
 un (.asg 7 (.c (.bool false)))])
 (.drop [33] .ret))
 .skip)))
def Ms : ACode :=
 (.seq (.seq (.reg [un (.mov 37 (.t 9)),
 un (.mov 38 (.t 2)),
 un (.len 39 (.t 38)),
 un (.bin 40 .lss (.t 37) (.t 39))])
 (.drop [37, 38, 39] (.cond (.t 40) .skip
 (.exit 0))))
 (.drop [37, 38, 39, 40] (.seq (.block 1 (.reg [un (.mov 43 (.t 8)),
 un (.mov 44 (.t 2)),
 un (.mov 45 (.t 9)),
 un (.iad 46 1 (.t 44) (.t 45)),
 un (.ld 47 1 false (.t 46)),
 un (.mov 48 (.t 9)),
 un (.iad 49 1 (.t 43) (.t 47)),
 un (.st 1 (.t 49) (.t 48))]))
 (.drop [43, 44, 45, 46, 47, 48, 49] (.reg [un (.mov 41 (.t 9)),
 un (.bin 42 .add (.t 41) (.c (.int .i64 1))),
 un (.asg 9 (.t 42))])))))
def Z2 : ACode :=
 (.seq (.reg [un (.box 3 (.t 0)),
 un (.box 4 (.t 1)),
 un (.asg 6 (.c (.nilsl 1))),
 un (.asg 7 (.c (.bool false)))])
 (.seq (.cut Vz)
 (.drop [10, 11, 12, 13, 14, 15, 16, 17, 18, 19, 20, 21, 22, 23, 24, 25, 26, 27, 28, 29, 30, 31, 32, 33] (.seq (.reg [un (.mov 34 (.t 2)),
 un (.len 35 (.t 34)),
 un (.mk 36 1 (.int .i64 0) (.t 35)),
 un (.asg 8 (.t 36))])
 (.drop [34, 35, 36] (.seq (.seq (.reg [un (.asg 9 (.c (.int .i64 0)))])
 (.block 0 (.loop Ms)))
 (.drop [9, 37, 38, 39, 40, 43, 44, 45, 46, 47, 48, 49, 41, 42] (.seq (.reg [un (.mov 50 (.t 8)),
 un (.asg 6 (.t 50)),
 un (.asg 7 (.c (.bool true)))])
 (.drop [50] .ret)))))))))
abbrev Yd : List RS := [.t 6, .t 7]
theorem Yn : Az Try.prog Jw 51 Z2 Yd = true := by kernel_rfl
def Vf : ACode :=
 (.seq (.reg [un (.ld 12 2 true (.t 4)),
 un (.call 13 Em [((.t 12), false)]),
 un (.un 14 .not (.t 13)),
 un (.asg 15 (.t 14)),
 ⟨some (15, false), .ld 16 2 true (.t 5)⟩,
 ⟨some (15, false), .call 17 Em [((.t 16), false)]⟩,
 ⟨some (15, false), .un 18 .not (.t 17)⟩,
 un (.pick 19 (.t 15) (.c (.bool true)) (.t 18))])
 (.drop [12, 13, 14, 15, 16, 17, 18] (.cond (.t 19) (.seq (.reg [un (.mov 20 (.t 7)),
 un (.asg 6 (.t 20))])
 (.drop [20] .ret))
 .skip)))
def Me : ACode :=
 (.seq (.seq (.reg [un (.mov 21 (.t 8)),
 un (.fadr 22 0 (.t 4)),
 un (.ld 23 1 false (.t 22)),
 un (.bin 24 .lss (.t 21) (.t 23))])
 (.drop [21, 22, 23] (.cond (.t 24) .skip
 (.exit 0))))
 (.drop [21, 22, 23, 24] (.seq (.block 1 (.reg [un (.mov 27 (.t 7)),
 un (.mov 28 (.t 0)),
 un (.fadr 29 0 (.t 5)),
 un (.ld 30 1 false (.t 29)),
 un (.call 31 Ao [((.t 28), true), ((.t 30), false)]),
 un (.bsl 32 1 [(.t 31)]),
 un (.app 33 1 (.t 27) (.t 32)),
 un (.asg 7 (.t 33))]))
 (.drop [27, 28, 29, 30, 31, 32, 33] (.reg [un (.mov 25 (.t 8)),
 un (.bin 26 .add (.t 25) (.c (.int .i64 1))),
 un (.asg 8 (.t 26))])))))
def Vj : ACode :=
 (.reg [un (.ld 34 2 true (.t 4)),
 un (.ld 35 2 true (.t 5)),
 un (.call 36 Is [((.t 34), false), ((.t 35), false)]),
 un (.asg 37 (.t 36)),
 ⟨some (37, true), .mov 38 (.t 0)⟩,
 ⟨some (37, true), .call 39 De [((.t 38), true), ((.c (.int .i64 3)), false)]⟩,
 ⟨some (37, true), .un 40 .not (.t 39)⟩,
 un (.pick 41 (.t 37) (.t 40) (.c (.bool false)))])
def Uq : ACode :=
 (.seq (.cut Vj)
 (.drop [34, 35, 36, 37, 38, 39, 40] (.cond (.t 41) (.seq (.reg [un (.ld 43 2 true (.t 4)),
 un (.ld 44 2 true (.t 5)),
 un (.call 45 Lz [((.t 43), false), ((.t 44), false), ((.c (.bool false)), false), ((.c (.bool false)), false), ((.c (.int .i64 8)), false)]),
 un (.asg 42 (.t 45)),
 un (.ext 46 (.t 42) 0),
 un (.ext 47 (.t 42) 1),
 un (.asg 9 (.t 46)),
 un (.asg 10 (.t 47))])
 (.drop [43, 44, 45, 42, 46, 47, 10] (.seq (.reg [un (.mov 48 (.t 9)),
 un (.len 49 (.t 48)),
 un (.bin 50 .gtr (.t 49) (.c (.int .i64 0)))])
 (.drop [48, 49] (.cond (.t 50) (.reg [un (.mov 51 (.t 9)),
 un (.mov 52 (.t 0)),
 un (.mov 53 (.t 9)),
 un (.len 54 (.t 53)),
 un (.call 55 Ao [((.t 52), true), ((.t 54), false)]),
 un (.iad 56 1 (.t 51) (.t 55)),
 un (.ld 57 1 false (.t 56)),
 un (.call 58 Hz [((.t 57), false)]),
 un (.asg 7 (.t 58))])
 .skip)))))
 .skip)))
def Yh : ACode :=
 (.seq (.reg [un (.box 4 (.t 1)),
 un (.box 5 (.t 2)),
 un (.asg 6 (.c (.nilsl 1)))])
 (.seq (.reg [un (.bsl 11 1 []),
 un (.asg 7 (.t 11))])
 (.drop [11] (.seq (.cut Vf)
 (.drop [12, 13, 14, 15, 16, 17, 18, 19, 20] (.seq (.seq (.reg [un (.asg 8 (.c (.int .i64 0)))])
 (.block 0 (.loop Me)))
 (.drop [8, 21, 22, 23, 24, 27, 28, 29, 30, 31, 32, 33, 25, 26] (.seq (.cut Uq)
 (.drop [34, 35, 36, 37, 38, 39, 40, 41, 43, 44, 45, 42, 46, 47, 9, 10, 48, 49, 50, 51, 52, 53, 54, 55, 56, 57, 58] (.seq (.seq (.reg [un (.mov 59 (.t 0)),
 un (.call 60 Ao [((.t 59), true), ((.c (.int .i64 24)), false)])])
 (.drop [59] (.block 2 (.seq (.reg [un (.bin 62 .eql (.t 60) (.c (.int .i64 0))),
 un (.asg 61 (.t 62))])
 (.drop [62] (.cond (.t 61) (.reg [un (.mov 63 (.t 7)),
 un (.bsl 64 1 [(.c (.int .i64 0))]),
 un (.app 65 1 (.t 63) (.t 64)),
 un (.asg 7 (.t 65))])
 (.seq (.reg [un (.bin 67 .eql (.t 60) (.c (.int .i64 1))),
 un (.asg 66 (.t 67))])
 (.drop [67] (.cond (.t 66) (.dregl [(0, .mov 68 (.t 7)),
 (1, .mov 69 (.t 0)),
 (2, .mov 70 (.t 7)),
 (5, .mov 73 (.t 0)),
 (6, .fadr 74 0 (.t 5)),
 (7, .ld 75 1 false (.t 74))]
 (.alt 3 (.len 71 (.t 70)) [0, 1, 2, 5, 6, 7] [] (.alt 4 (.call 72 Ao [((.t 69), true), ((.t 71), false)]) [0, 1, 5, 6, 7] [] (.alt 8 (.bsl 76 1 [(.c (.int .i64 (-1))), (.t 75), (.c (.int .i64 1099511627776))]) [0, 5, 6, 7] [] (.alt 9 (.call 77 Ba [((.t 73), true), ((.t 76), false)]) [0, 5] [] (.alt 10 (.iad 78 1 (.t 68) (.t 72)) [0] [] (.alt 11 (.st 1 (.t 78) (.t 77)) [] [] .nil .nil) .nil) .nil) .nil) (.alt 8 (.bsl 76 1 [(.c (.int .i64 (-1))), (.t 75), (.c (.int .i64 1099511627776))]) [0, 1, 5, 6, 7] [] (.alt 4 (.call 72 Ao [((.t 69), true), ((.t 71), false)]) [0, 1, 5] [] (.alt 9 (.call 77 Ba [((.t 73), true), ((.t 76), false)]) [0, 5] [] (.alt 10 (.iad 78 1 (.t 68) (.t 72)) [0] [] (.alt 11 (.st 1 (.t 78) (.t 77)) [] [] .nil .nil) .nil) .nil) .nil) .nil)) (.alt 8 (.bsl 76 1 [(.c (.int .i64 (-1))), (.t 75), (.c (.int .i64 1099511627776))]) [0, 1, 2, 5, 6, 7] [] (.alt 3 (.len 71 (.t 70)) [0, 1, 2, 5] [] (.alt 4 (.call 72 Ao [((.t 69), true), ((.t 71), false)]) [0, 1, 5] [] (.alt 9 (.call 77 Ba [((.t 73), true), ((.t 76), false)]) [0, 5] [] (.alt 10 (.iad 78 1 (.t 68) (.t 72)) [0] [] (.alt 11 (.st 1 (.t 78) (.t 77)) [] [] .nil .nil) .nil) .nil) .nil) .nil) .nil)))
 .skip)))))))))
 (.drop [59, 60, 62, 61, 63, 64, 65, 67, 66, 68, 69, 70, 71, 72, 73, 74, 75, 76, 77, 78] (.seq (.reg [un (.mov 79 (.t 7)),
 un (.asg 6 (.t 79))])
 (.drop [79] .ret)))))))))))))
abbrev Zx : List RS := [.t 6]
theorem Y4 : Az Try.prog Dw 80 Yh Zx = true := by kernel_rfl
def Amd : ACode :=
 (.seq (.reg [un (.box 4 (.t 0)),
 un (.box 5 (.t 1)),
 un (.asg 8 (.c (.nilsl 1))),
 un (.asg 9 (.c (.bool false)))])
 (.seq (.reg [un (.ld 13 2 true (.t 4)),
 un (.ld 14 2 true (.t 5)),
 un (.mov 15 (.t 2)),
 un (.mov 16 (.t 3)),
 un (.call 17 Lz [((.t 13), false), ((.t 14), false), ((.t 15), false), ((.t 16), false), ((.c (.int .i64 1)), false)]),
 un (.asg 12 (.t 17)),
 un (.ext 18 (.t 12) 0),
 un (.ext 19 (.t 12) 1),
 un (.asg 10 (.t 18)),
 un (.asg 11 (.t 19))])
 (.drop [13, 14, 15, 16, 17, 12, 18, 19] (.seq (.seq (.reg [un (.mov 20 (.t 11)),
 un (.un 21 .not (.t 20)),
 un (.asg 22 (.t 21)),
 ⟨some (22, false), .mov 23 (.t 10)⟩,
 ⟨some (22, false), .len 24 (.t 23)⟩,
 ⟨some (22, false), .bin 25 .eql (.t 24) (.c (.int .i64 0))⟩,
 un (.pick 26 (.t 22) (.c (.bool true)) (.t 25))])
 (.drop [20, 21, 22, 23, 24, 25] (.cond (.t 26) (.seq (.reg [un (.bsl 27 1 []),
 un (.asg 8 (.t 27)),
 un (.asg 9 (.c (.bool false)))])
 (.drop [27] .ret))
 .skip)))
 (.drop [20, 21, 22, 23, 24, 25, 26, 27] (.seq (.reg [un (.mov 28 (.t 10)),
 un (.iad 29 1 (.t 28) (.c (.int .i64 0))),
 un (.ld 30 1 false (.t 29)),
 un (.asg 8 (.t 30)),
 un (.asg 9 (.c (.bool true)))])
 (.drop [28, 29, 30] .ret)))))))
abbrev Alf : List RS := [.t 8, .t 9]
theorem Al5 : Az Try.prog Tf 31 Amd Alf = true := by kernel_rfl
def Akt : ACode :=
 (.seq (.reg [un (.box 2 (.t 0)),
 un (.box 3 (.t 1)),
 un (.asg 4 (.c (.bool false)))])
 (.seq (.reg [un (.ld 8 2 true (.t 2)),
 un (.ld 9 2 true (.t 3)),
 un (.call 10 Nf [((.t 8), false), ((.t 9), false)]),
 un (.asg 7 (.t 10)),
 un (.ext 11 (.t 7) 0),
 un (.ext 12 (.t 7) 1),
 un (.asg 5 (.t 11)),
 un (.asg 6 (.t 12))])
 (.drop [8, 9, 10, 7, 11, 12] (.seq (.reg [un (.mov 13 (.t 6)),
 un (.asg 14 (.t 13)),
 ⟨some (14, true), .mov 15 (.t 5)⟩,
 un (.pick 16 (.t 14) (.t 15) (.c (.bool false))),
 un (.asg 4 (.t 16))])
 (.drop [13, 14, 15, 16] .ret)))))
abbrev Ak3 : List RS := [.t 4]
theorem Alr : Az Try.prog Tb 17 Akt Ak3 = true := by kernel_rfl
def Ud : ACode :=
 (.seq (.seq (.reg [un (.mov 7 (.t 4)),
 un (.fadr 8 0 (.t 1)),
 un (.ld 9 1 false (.t 8)),
 un (.bin 10 .shl (.c (.int .i64 1)) (.t 9)),
 un (.bin 11 .lss (.t 7) (.t 10))])
 (.drop [7, 8, 9, 10] (.cond (.t 11) .skip
 (.exit 0))))
 (.drop [7, 8, 9, 10, 11] (.seq (.block 1 (.seq (.reg [un (.mov 14 (.t 4)),
 un (.call 15 Q0 [((.t 14), false)]),
 un (.asg 5 (.t 15))])
 (.drop [14, 15] (.seq (.reg [un (.ld 16 2 true (.t 1)),
 un (.mov 17 (.t 5)),
 un (.call 18 Ve [((.t 16), false), ((.t 17), false)])])
 (.drop [16, 17] (.cond (.t 18) (.frz [3, 5] (.reg [un (.mov 19 (.t 3)),
 un (.mov 20 (.t 5)),
 un (.call 21 Qt [((.t 19), false), ((.t 20), false)]),
 un (.asg 3 (.t 21))]))
 .skip))))))
 (.drop [14, 15, 5, 16, 17, 18, 19, 20, 21] (.reg [un (.mov 12 (.t 4)),
 un (.bin 13 .add (.t 12) (.c (.int .i64 1))),
 un (.asg 4 (.t 13))])))))
def Am7 : ACode :=
 (.seq (.reg [un (.box 1 (.t 0)),
 un (.asg 2 (.c (.nilsl 1)))])
 (.seq (.reg [un (.bsl 6 1 []),
 un (.asg 3 (.t 6))])
 (.drop [6] (.seq (.seq (.reg [un (.asg 4 (.c (.int .i64 0)))])
 (.block 0 (.loop Ud)))
 (.drop [4, 7, 8, 9, 10, 11, 14, 15, 5, 16, 17, 18, 19, 20, 21, 12, 13] (.seq (.reg [un (.mov 22 (.t 3)),
 un (.asg 2 (.t 22))])
 (.drop [22] .ret)))))))
abbrev Amk : List RS := [.t 2]
theorem Amr : Az Try.prog To 23 Am7 Amk = true := by kernel_rfl
def Adh : ACode :=
 (.seq (.reg [un (.box 2 (.t 0)),
 un (.box 3 (.t 1)),
 un (.asg 4 (.c (.bool false)))])
 (.seq (.reg [un (.ld 5 2 true (.t 2)),
 un (.call 6 Dc [((.t 5), false)]),
 un (.asg 7 (.t 6)),
 ⟨some (7, true), .ld 8 2 true (.t 3)⟩,
 ⟨some (7, true), .call 9 Dc [((.t 8), false)]⟩,
 un (.pick 10 (.t 7) (.t 9) (.c (.bool false))),
 un (.asg 11 (.t 10)),
 ⟨some (11, true), .ld 12 2 true (.t 2)⟩,
 ⟨some (11, true), .ld 13 2 true (.t 3)⟩,
 ⟨some (11, true), .call 14 Tb [((.t 12), false), ((.t 13), false)]⟩,
 un (.pick 15 (.t 11) (.t 14) (.c (.bool false))),
 un (.asg 4 (.t 15))])
 (.drop [5, 6, 7, 8, 9, 10, 11, 12, 13, 14, 15] .ret)))
abbrev Ac4 : List RS := [.t 4]
theorem Adu : Az Try.prog Ea 16 Adh Ac4 = true := by kernel_rfl
def U1 : ACode :=
 (.seq (.frz [4] (.reg [un (.ld 14 2 true (.t 4)),
 un (.call 15 Em [((.t 14), false)]),
 un (.un 16 .not (.t 15)),
 un (.asg 17 (.t 16)),
 ⟨some (17, false), .mov 18 (.t 0)⟩,
 ⟨some (17, false), .call 19 De [((.t 18), true), ((.c (.int .i64 8)), false)]⟩,
 un (.pick 20 (.t 17) (.c (.bool true)) (.t 19))]))
 (.drop [14, 15, 16, 17, 18, 19] (.cond (.t 20) (.seq (.dreg [(un (.ld 21 2 true (.t 4)), [119]),
 (un (.mov 22 (.t 0)), [21]),
 (un (.call 23 Ds [((.t 22), true)]), [119, 21])]
 [un (.st 2 (.t 2) (.t 21)),
 un (.st 2 (.t 3) (.t 23))])
 (.drop [21, 22, 23] (.frz [2, 3] .ret)))
 .skip)))
def Mx : ACode :=
 (.seq (.seq (.reg [un (.mov 73 (.t 8)),
 un (.bin 74 .lss (.t 73) (.c (.int .i64 12)))])
 (.drop [73] (.cond (.t 74) .skip
 (.exit 1))))
 (.drop [73, 74] (.seq (.block 2 (.seq (.reg [un (.mov 77 (.t 0)),
 un (.call 78 Ds [((.t 77), true)]),
 un (.alc 9 (.agg [.int .i64 0, .nilsl 2])),
 un (.st 2 (.t 9) (.t 78))])
 (.drop [77, 78] (.seq (.frz [9] (.reg [un (.ld 79 2 true (.t 9)),
 un (.call 80 Em [((.t 79), false)]),
 un (.asg 81 (.t 80)),
 ⟨some (81, true), .ld 82 2 true (.t 4)⟩,
 ⟨some (81, true), .ld 83 2 true (.t 9)⟩,
 ⟨some (81, true), .call 84 Is [((.t 82), false), ((.t 83), false)]⟩,
 un (.pick 85 (.t 81) (.t 84) (.c (.bool false)))]))
 (.drop [79, 80, 81, 82, 83, 84] (.cond (.t 85) (.seq (.dregl [(0, .ld 86 2 true (.t 4)),
 (1, .ld 87 2 true (.t 9))]
 (.alt 2 (.st 2 (.t 2) (.t 86)) [0, 1] [] (.alt 3 (.st 2 (.t 3) (.t 87)) [1] [] .nil .nil) .nil))
 (.drop [86, 87] (.frz [2, 3] .ret)))
 .skip))))))
 (.drop [77, 78, 9, 79, 80, 81, 82, 83, 84, 85, 86, 87] (.reg [un (.mov 75 (.t 8)),
 un (.bin 76 .add (.t 75) (.c (.int .i64 1))),
 un (.asg 8 (.t 76))])))))
def U7 : ACode :=
 (.seq (.reg [un (.mov 24 (.t 0)),
 un (.call 25 Ao [((.t 24), true), ((.c (.int .i64 5)), false)])])
 (.drop [24] (.block 0 (.seq (.reg [un (.bin 27 .eql (.t 25) (.c (.int .i64 0))),
 un (.asg 26 (.t 27))])
 (.drop [27] (.cond (.t 26) (.seq (.dreg [(un (.ld 28 2 true (.t 4)), []),
 (un (.ld 29 2 true (.t 4)), [28]),
 (un (.call 30 N3 [((.t 29), false)]), [28])]
 [un (.st 2 (.t 2) (.t 28)),
 un (.st 2 (.t 3) (.t 30))])
 (.drop [28, 29, 30] (.frz [2, 3] .ret)))
 (.seq (.reg [un (.bin 32 .eql (.t 25) (.c (.int .i64 1))),
 un (.asg 31 (.t 32))])
 (.drop [32] (.cond (.t 31) (.seq (.reg [un (.mov 33 (.t 0)),
 un (.fadr 34 0 (.t 4)),
 un (.ld 35 1 false (.t 34)),
 un (.call 36 Ij [((.t 33), true), ((.t 35), false)]),
 un (.asg 5 (.t 36))])
 (.drop [33, 34, 35, 36] (.seq (.frz [5] (.reg [un (.mov 37 (.t 5)),
 un (.fadr 38 0 (.t 4)),
 un (.ld 39 1 false (.t 38)),
 un (.call 40 Ra [((.t 37), false), ((.t 39), false)])]))
 (.drop [37, 38, 39] (.cond (.t 40) (.seq (.dreg [(un (.ld 41 2 true (.t 4)), []),
 (un (.ld 42 2 true (.t 4)), [41]),
 (un (.mov 43 (.t 5)), [41, 42]),
 (un (.call 44 Mz [((.t 42), false), ((.t 43), false)]), [41])]
 [un (.st 2 (.t 2) (.t 41)),
 un (.st 2 (.t 3) (.t 44))])
 (.drop [41, 42, 43, 44] (.frz [2, 3] .ret)))
 .skip)))))
 (.seq (.reg [un (.bin 46 .eql (.t 25) (.c (.int .i64 2))),
 un (.asg 45 (.t 46))])
 (.drop [46] (.cond (.t 45) (.seq (.reg [un (.ld 47 2 true (.t 4)),
 un (.call 48 To [((.t 47), false)]),
 un (.asg 6 (.t 48))])
 (.drop [47, 48] (.seq (.frz [6] (.reg [un (.mov 49 (.t 6)),
 un (.mov 50 (.t 6)),
 un (.len 51 (.t 50)),
 un (.bin 52 .sub (.t 51) (.c (.int .i64 1))),
 un (.iad 53 1 (.t 49) (.t 52)),
 un (.ld 54 1 false (.t 53)),
 un (.len 55 (.t 54)),
 un (.bin 56 .gtr (.t 55) (.c (.int .i64 0)))]))
 (.drop [49, 50, 51, 52, 53, 54, 55] (.cond (.t 56) (.seq (.reg [un (.mov 57 (.t 6)),
 un (.mov 58 (.t 0)),
 un (.mov 59 (.t 6)),
 un (.len 60 (.t 59)),
 un (.call 61 Ao [((.t 58), true), ((.t 60), false)]),
 un (.iad 62 1 (.t 57) (.t 61)),
 un (.ld 63 1 false (.t 62)),
 un (.asg 7 (.t 63))])
 (.drop [57, 58, 59, 60, 61, 62, 63] (.seq (.reg [un (.mov 64 (.t 7)),
 un (.len 65 (.t 64)),
 un (.bin 66 .gtr (.t 65) (.c (.int .i64 0)))])
 (.drop [64, 65] (.cond (.t 66) (.seq (.dregl [(0, .ld 67 2 true (.t 4)),
 (1, .mov 68 (.t 7)),
 (3, .ld 70 2 true (.t 4))]
 (.alt 2 (.call 69 Tv [((.t 67), false), ((.t 68), false)]) [0, 1, 3] [] (.alt 4 (.st 2 (.t 2) (.t 69)) [3] [] (.alt 5 (.st 2 (.t 3) (.t 70)) [3] [] .nil .nil) .nil) .nil))
 (.drop [67, 68, 69, 70] (.frz [2, 3] .ret)))
 .skip)))))
 .skip)))))
 (.seq (.reg [un (.bin 72 .eql (.t 25) (.c (.int .i64 3))),
 un (.asg 71 (.t 72))])
 (.drop [72] (.cond (.t 71) (.seq (.reg [un (.asg 8 (.c (.int .i64 0)))])
 (.block 1 (.loop Mx)))
 .skip)))))))))))))))
def Mk : ACode :=
 (.seq (.seq (.reg [un (.mov 90 (.t 11)),
 un (.fadr 91 1 (.t 10)),
 un (.ld 92 1 false (.t 91)),
 un (.len 93 (.t 92)),
 un (.bin 94 .lss (.t 90) (.t 93))])
 (.drop [90, 91, 92, 93] (.cond (.t 94) .skip
 (.exit 3))))
 (.drop [90, 91, 92, 93, 94] (.seq (.block 4 (.dregl [(0, .fadr 97 1 (.t 10)),
 (1, .ld 98 1 false (.t 97)),
 (2, .mov 99 (.t 11)),
 (3, .iad 100 2 (.t 98) (.t 99)),
 (4, .fadr 101 1 (.t 100)),
 (5, .ld 102 1 false (.t 101)),
 (6, .mov 103 (.t 0)),
 (7, .fadr 104 1 (.t 10)),
 (8, .ld 105 1 false (.t 104)),
 (9, .mov 106 (.t 11)),
 (10, .iad 107 2 (.t 105) (.t 106)),
 (11, .fadr 108 1 (.t 107)),
 (12, .ld 109 1 false (.t 108)),
 (15, .mov 112 (.t 0)),
 (16, .fadr 113 0 (.t 10)),
 (17, .ld 114 1 false (.t 113))]
 (.alt 13 (.len 110 (.t 109)) [0, 1, 2, 3, 4, 5, 6, 7, 8, 9, 10, 11, 12, 15, 16, 17] [] (.alt 14 (.call 111 Ao [((.t 103), true), ((.t 110), false)]) [0, 1, 2, 3, 4, 5, 6, 15, 16, 17] [] (.alt 18 (.call 115 Ao [((.t 112), true), ((.t 114), false)]) [0, 1, 2, 3, 4, 5, 15, 16, 17] [] (.alt 19 (.iad 116 1 (.t 102) (.t 111)) [0, 1, 2, 3, 4, 5] [] (.alt 20 (.st 1 (.t 116) (.t 115)) [] [] .nil .nil) .nil) .nil) .nil) .nil)))
 (.drop [97, 98, 99, 100, 101, 102, 103, 104, 105, 106, 107, 108, 109, 110, 111, 112, 113, 114, 115, 116] (.reg [un (.mov 95 (.t 11)),
 un (.bin 96 .add (.t 95) (.c (.int .i64 1))),
 un (.asg 11 (.t 96))])))))
def Yj : ACode :=
 (.seq (.reg [un (.alc 2 (.agg [.int .i64 0, .nilsl 2])),
 un (.alc 3 (.agg [.int .i64 0, .nilsl 2]))])
 (.seq (.reg [un (.mov 12 (.t 0)),
 un (.call 13 Ds [((.t 12), true)]),
 un (.alc 4 (.agg [.int .i64 0, .nilsl 2])),
 un (.st 2 (.t 4) (.t 13))])
 (.drop [12, 13] (.seq (.cut U1)
 (.drop [14, 15, 16, 17, 18, 19, 20, 21, 22, 23] (.seq (.cut U7)
 (.drop [24, 25, 27, 26, 28, 29, 30, 32, 31, 33, 34, 35, 36, 5, 37, 38, 39, 40, 41, 42, 43, 44, 46, 45, 47, 48, 6, 49, 50, 51, 52, 53, 54, 55, 56, 57, 58, 59, 60, 61, 62, 63, 7, 64, 65, 66, 67, 68, 69, 70, 72, 71, 8, 73, 74, 77, 78, 9, 79, 80, 81, 82, 83, 84, 85, 86, 87, 75, 76] (.seq (.reg [un (.ld 88 2 true (.t 4)),
 un (.call 89 N3 [((.t 88), false)]),
 un (.alc 10 (.agg [.int .i64 0, .nilsl 2])),
 un (.st 2 (.t 10) (.t 89))])
 (.drop [88, 89] (.seq (.seq (.reg [un (.asg 11 (.c (.int .i64 0)))])
 (.block 3 (.loop Mk)))
 (.drop [11, 90, 91, 92, 93, 94, 97, 98, 99, 100, 101, 102, 103, 104, 105, 106, 107, 108, 109, 110, 111, 112, 113, 114, 115, 116, 95, 96] (.seq (.frz [10] (.dregl [(0, .ld 117 2 true (.t 4)),
 (1, .ld 118 2 true (.t 10))]
 (.alt 2 (.st 2 (.t 2) (.t 117)) [0, 1] [] (.alt 3 (.st 2 (.t 3) (.t 118)) [1] [] .nil .nil) .nil)))
 (.drop [117, 118] (.frz [2, 3] .ret))))))))))))))
abbrev Aae : List RS := [.c 2 2 true, .c 3 2 true]
theorem Yr : Az Try.prog Fq 119 Yj Aae = true := by kernel_rfl
def Yc : ACode :=
 (.seq (.reg [un (.ld 11 2 true (.t 3)),
 un (.ld 12 2 true (.t 4)),
 un (.call 13 Ea [((.t 11), false), ((.t 12), false)]),
 un (.un 14 .not (.t 13)),
 un (.asg 15 (.t 14)),
 ⟨some (15, false), .ld 16 2 true (.t 3)⟩,
 ⟨some (15, false), .ld 17 2 true (.t 4)⟩,
 ⟨some (15, false), .mov 18 (.t 2)⟩,
 ⟨some (15, false), .call 19 Ns [((.t 16), false), ((.t 17), false), ((.t 18), false)]⟩,
 ⟨some (15, false), .un 20 .not (.t 19)⟩,
 un (.pick 21 (.t 15) (.c (.bool true)) (.t 20))])
 (.drop [11, 12, 13, 14, 15, 16, 17, 18, 19, 20] (.cond (.t 21) (.seq (.reg [un (.bsl 22 1 []),
 un (.asg 6 (.c (.int .i64 0))),
 un (.asg 7 (.t 22)),
 un (.asg 8 (.c (.bool false)))])
 (.drop [22] .ret))
 .skip)))
def Ac2 : ACode :=
 (.seq (.reg [un (.box 3 (.t 0)),
 un (.box 4 (.t 1)),
 un (.asg 6 (.c (.int .i64 0))),
 un (.asg 7 (.c (.nilsl 1))),
 un (.asg 8 (.c (.bool false)))])
 (.seq (.cut Yc)
 (.drop [11, 12, 13, 14, 15, 16, 17, 18, 19, 20, 21, 22] (.seq (.reg [un (.ld 24 2 true (.t 3)),
 un (.ld 25 2 true (.t 4)),
 un (.mov 26 (.t 2)),
 un (.call 27 Jo [((.t 24), false), ((.t 25), false), ((.t 26), false)]),
 un (.asg 23 (.t 27)),
 un (.ext 28 (.t 23) 0),
 un (.ext 29 (.t 23) 1),
 un (.asg 9 (.t 28)),
 un (.asg 10 (.t 29))])
 (.drop [24, 25, 26, 27, 23, 28, 29] (.seq (.seq (.reg [un (.mov 30 (.t 9)),
 un (.bin 31 .lss (.t 30) (.c (.int .i64 0)))])
 (.drop [30] (.cond (.t 31) (.seq (.reg [un (.bsl 32 1 []),
 un (.asg 6 (.c (.int .i64 0))),
 un (.asg 7 (.t 32)),
 un (.asg 8 (.c (.bool false)))])
 (.drop [32] .ret))
 .skip)))
 (.drop [30, 31, 32] (.seq (.dreg [(un (.mov 33 (.t 9)), []),
 (un (.mov 34 (.t 10)), [33]),
 (un (.fadr 35 1 (.t 3)), [33, 34]),
 (un (.ld 36 1 false (.t 35)), [33, 34]),
 (un (.mov 37 (.t 9)), [33, 34, 35, 36]),
 (un (.iad 38 2 (.t 36) (.t 37)), [33, 34]),
 (un (.fadr 39 0 (.t 38)), [33, 34]),
 (un (.ld 40 1 false (.t 39)), [33, 34]),
 (un (.fadr 41 0 (.t 3)), [33, 34, 35, 36, 37, 38, 39, 40]),
 (un (.ld 42 1 false (.t 41)), [33, 34, 35, 36, 37, 38, 39, 40]),
 (un (.call 43 Qs [((.t 34), false), ((.t 40), false), ((.t 42), false)]), [33])]
 [un (.asg 6 (.t 33)),
 un (.asg 7 (.t 43)),
 un (.asg 8 (.c (.bool true)))])
 (.drop [33, 34, 35, 36, 37, 38, 39, 40, 41, 42, 43] .ret)))))))))
abbrev Adx : List RS := [.t 6, .t 7, .t 8]
theorem Ac5 : Az Try.prog Nj 44 Ac2 Adx = true := by kernel_rfl
def Ak1 : ACode :=
 (.seq (.reg [un (.box 3 (.t 0)),
 un (.box 4 (.t 1)),
 un (.asg 6 (.c (.bool false))),
 un (.asg 7 (.c (.bool false)))])
 (.seq (.seq (.reg [un (.ld 8 2 true (.t 3)),
 un (.ld 9 2 true (.t 4)),
 un (.call 10 Ea [((.t 8), false), ((.t 9), false)]),
 un (.un 11 .not (.t 10))])
 (.drop [8, 9, 10] (.cond (.t 11) (.seq (.reg [un (.asg 6 (.c (.bool false))),
 un (.asg 7 (.c (.bool false)))])
 .ret)
 .skip)))
 (.drop [8, 9, 10, 11] (.seq (.reg [un (.ld 12 2 true (.t 3)),
 un (.ld 13 2 true (.t 4)),
 un (.mov 14 (.t 2)),
 un (.call 15 H6 [((.t 12), false), ((.t 13), false), ((.t 14), false)]),
 un (.asg 6 (.t 15)),
 un (.asg 7 (.c (.bool true)))])
 (.drop [12, 13, 14, 15] .ret)))))
abbrev Alx : List RS := [.t 6, .t 7]
theorem Alt : Az Try.prog Nu 16 Ak1 Alx = true := by kernel_rfl
def Pb : ACode :=
 (.seq (.reg [un (.mov 20 (.t 7)),
 un (.call 21 De [((.t 20), true), ((.c (.int .i64 3)), false)])])
 (.drop [20] (.cond (.t 21) (.reg [un (.ld 22 2 true (.t 8)),
 un (.st 2 (.t 10) (.t 22))])
 .skip)))
def S9 : ACode :=
 (.seq (.reg [un (.alc 2 (.agg [.int .i64 0, .nilsl 2])),
 un (.alc 3 (.agg [.int .i64 0, .nilsl 2])),
 un (.alc 4 (.agg [.int .i64 0, .nilsl 2])),
 un (.asg 5 (.c (.nilsl 1))),
 un (.asg 6 (.c (.nilsl 1)))])
 (.seq (.reg [un (.mov 11 (.t 0)),
 un (.bld 12 [.nilsl 1, .int .i64 0, .int .u64 0] [(0, 1, (.t 11))]),
 un (.box 13 (.t 12)),
 un (.asg 7 (.t 13))])
 (.drop [11, 12, 13] (.seq (.reg [un (.mov 15 (.t 7)),
 un (.call 16 Fq [((.t 15), true)]),
 un (.asg 14 (.t 16)),
 un (.ext 17 (.t 14) 0),
 un (.ext 18 (.t 14) 1),
 un (.alc 8 (.agg [.int .i64 0, .nilsl 2])),
 un (.alc 9 (.agg [.int .i64 0, .nilsl 2])),
 un (.st 2 (.t 8) (.t 17)),
 un (.st 2 (.t 9) (.t 18))])
 (.drop [15, 16, 14, 17, 18] (.seq (.reg [un (.ld 19 2 true (.t 9)),
 un (.alc 10 (.agg [.int .i64 0, .nilsl 2])),
 un (.st 2 (.t 10) (.t 19))])
 (.drop [19] (.seq (.cut Pb)
 (.drop [20, 21, 22] (.seq (.dregl [(0, .ld 23 2 true (.t 8)),
 (1, .ld 24 2 true (.t 9)),
 (2, .ld 25 2 true (.t 10)),
 (3, .mov 26 (.t 7)),
 (4, .ld 27 2 true (.t 8)),
 (5, .ld 28 2 true (.t 9)),
 (7, .mov 30 (.t 7)),
 (8, .ld 31 2 true (.t 9)),
 (9, .ld 32 2 true (.t 10))]
 (.alt 6 (.call 29 Dw [((.t 26), true), ((.t 27), false), ((.t 28), false)]) [0, 1, 2, 3, 4, 5, 7, 8, 9] [] (.alt 10 (.call 33 Dw [((.t 30), true), ((.t 31), false), ((.t 32), false)]) [0, 1, 2, 7, 8, 9] [] (.alt 11 (.st 2 (.t 2) (.t 23)) [0, 1, 2] [] (.alt 12 (.st 2 (.t 3) (.t 24)) [1, 2] [] (.alt 13 (.st 2 (.t 4) (.t 25)) [2] [] (.alt 14 (.asg 5 (.t 29)) [] [] (.alt 15 (.asg 6 (.t 33)) [] [] .nil .nil) .nil) .nil) .nil) .nil) .nil) .nil))
 (.drop [23, 24, 25, 26, 27, 28, 29, 30, 31, 32, 33] .ret)))))))))))
abbrev Tr : List RS := [.c 2 2 true, .c 3 2 true, .c 4 2 true, .t 5, .t 6]
theorem Tt : Az Try.prog Gk 34 S9 Tr = true := by kernel_rfl
def Xt : ACode :=
 (.seq (.reg [un (.box 5 (.t 0)),
 un (.box 6 (.t 1)),
 un (.box 7 (.t 2)),
 un (.asg 10 (.c (.nilsl 1))),
 un (.asg 11 (.c (.bool false)))])
 (.seq (.seq (.reg [un (.ld 12 2 true (.t 5)),
 un (.ld 13 2 true (.t 6)),
 un (.call 14 Ea [((.t 12), false), ((.t 13), false)]),
 un (.un 15 .not (.t 14)),
 un (.asg 16 (.t 15)),
 ⟨some (16, false), .ld 17 2 true (.t 6)⟩,
 ⟨some (16, false), .ld 18 2 true (.t 7)⟩,
 ⟨some (16, false), .call 19 Ea [((.t 17), false), ((.t 18), false)]⟩,
 ⟨some (16, false), .un 20 .not (.t 19)⟩,
 un (.pick 21 (.t 16) (.c (.bool true)) (.t 20)),
 un (.asg 22 (.t 21)),
 ⟨some (22, false), .ld 23 2 true (.t 5)⟩,
 ⟨some (22, false), .ld 24 2 true (.t 6)⟩,
 ⟨some (22, false), .mov 25 (.t 3)⟩,
 ⟨some (22, false), .call 26 H6 [((.t 23), false), ((.t 24), false), ((.t 25), false)]⟩,
 ⟨some (22, false), .un 27 .not (.t 26)⟩,
 un (.pick 28 (.t 22) (.c (.bool true)) (.t 27)),
 un (.asg 29 (.t 28)),
 ⟨some (29, false), .ld 30 2 true (.t 6)⟩,
 ⟨some (29, false), .ld 31 2 true (.t 7)⟩,
 ⟨some (29, false), .mov 32 (.t 4)⟩,
 ⟨some (29, false), .call 33 H6 [((.t 30), false), ((.t 31), false), ((.t 32), false)]⟩,
 ⟨some (29, false), .un 34 .not (.t 33)⟩,
 un (.pick 35 (.t 29) (.c (.bool true)) (.t 34))])
 (.drop [12, 13, 14, 15, 16, 17, 18, 19, 20, 21, 22, 23, 24, 25, 26, 27, 28, 29, 30, 31, 32, 33, 34] (.cond (.t 35) (.seq (.reg [un (.bsl 36 1 []),
 un (.asg 10 (.t 36)),
 un (.asg 11 (.c (.bool false)))])
 (.drop [36] .ret))
 .skip)))
 (.drop [12, 13, 14, 15, 16, 17, 18, 19, 20, 21, 22, 23, 24, 25, 26, 27, 28, 29, 30, 31, 32, 33, 34, 35, 36] (.seq (.reg [un (.mov 37 (.t 3)),
 un (.mov 38 (.t 4)),
 un (.call 39 O3 [((.t 37), false), ((.t 38), false)]),
 un (.asg 10 (.t 39)),
 un (.asg 11 (.c (.bool true)))])
 (.drop [37, 38, 39] .ret)))))
abbrev Xf : List RS := [.t 10, .t 11]
theorem X6 : Az Try.prog Gh 40 Xt Xf = true := by kernel_rfl
def Q8 : ACode :=
 (.reg [un (.ld 18 2 true (.t 6)),
 un (.ld 19 2 true (.t 7)),
 un (.call 20 Fh [((.t 18), false), ((.t 19), false)]),
 un (.asg 21 (.t 20)),
 ⟨some (21, true), .fadr 22 0 (.t 6)⟩,
 ⟨some (21, true), .ld 23 1 false (.t 22)⟩,
 ⟨some (21, true), .fadr 24 0 (.t 7)⟩,
 ⟨some (21, true), .ld 25 1 false (.t 24)⟩,
 ⟨some (21, true), .bin 26 .eql (.t 23) (.t 25)⟩,
 un (.pick 27 (.t 21) (.t 26) (.c (.bool false))),
 un (.asg 28 (.t 27)),
 ⟨some (28, true), .mov 29 (.t 5)⟩,
 ⟨some (28, true), .call 30 De [((.t 29), true), ((.c (.int .i64 3)), false)]⟩,
 ⟨some (28, true), .un 31 .not (.t 30)⟩,
 un (.pick 32 (.t 28) (.t 31) (.c (.bool false)))])
def Q7 : ACode :=
 (.seq (.cut Q8)
 (.drop [18, 19, 20, 21, 22, 23, 24, 25, 26, 27, 28, 29, 30, 31] (.cond (.t 32) (.seq (.reg [un (.ld 34 2 true (.t 6)),
 un (.ld 35 2 true (.t 7)),
 un (.call 36 Tf [((.t 34), false), ((.t 35), false), ((.c (.bool true)), false), ((.c (.bool false)), false)]),
 un (.asg 33 (.t 36)),
 un (.ext 37 (.t 33) 0),
 un (.ext 38 (.t 33) 1),
 un (.asg 8 (.t 37)),
 un (.asg 9 (.t 38))])
 (.drop [34, 35, 36, 33, 37, 38] (.seq (.reg [un (.mov 39 (.t 9))])
 (.cond (.t 39) (.seq (.dregl [(0, .ld 40 2 true (.t 6)),
 (1, .ld 41 2 true (.t 7)),
 (2, .mov 42 (.t 8))]
 (.alt 3 (.st 2 (.t 2) (.t 40)) [0, 1, 2] [] (.alt 4 (.st 2 (.t 3) (.t 41)) [1, 2] [] (.alt 5 (.asg 4 (.t 42)) [2] [] .nil .nil) .nil) .nil))
 (.drop [40, 41, 42] .ret))
 .skip))))
 .skip)))
def Uo : ACode :=
 (.seq (.reg [un (.alc 2 (.agg [.int .i64 0, .nilsl 2])),
 un (.alc 3 (.agg [.int .i64 0, .nilsl 2])),
 un (.asg 4 (.c (.nilsl 1)))])
 (.seq (.reg [un (.mov 10 (.t 0)),
 un (.bld 11 [.nilsl 1, .int .i64 0, .int .u64 0] [(0, 1, (.t 10))]),
 un (.box 12 (.t 11)),
 un (.asg 5 (.t 12))])
 (.drop [10, 11, 12] (.seq (.reg [un (.mov 14 (.t 5)),
 un (.call 15 Fq [((.t 14), true)]),
 un (.asg 13 (.t 15)),
 un (.ext 16 (.t 13) 0),
 un (.ext 17 (.t 13) 1),
 un (.alc 6 (.agg [.int .i64 0, .nilsl 2])),
 un (.alc 7 (.agg [.int .i64 0, .nilsl 2])),
 un (.st 2 (.t 6) (.t 16)),
 un (.st 2 (.t 7) (.t 17))])
 (.drop [14, 15, 13, 16, 17] (.seq (.cut Q7)
 (.drop [18, 19, 20, 21, 22, 23, 24, 25, 26, 27, 28, 29, 30, 31, 32, 34, 35, 36, 33, 37, 38, 8, 9, 39, 40, 41, 42] (.seq (.dregl [(0, .ld 43 2 true (.t 6)),
 (1, .ld 44 2 true (.t 7)),
 (2, .mov 45 (.t 5)),
 (3, .ld 46 2 true (.t 6)),
 (4, .ld 47 2 true (.t 7))]
 (.alt 5 (.call 48 Dw [((.t 45), true), ((.t 46), false), ((.t 47), false)]) [0, 1, 2, 3, 4] [] (.alt 6 (.st 2 (.t 2) (.t 43)) [0, 1] [] (.alt 7 (.st 2 (.t 3) (.t 44)) [1] [] (.alt 8 (.asg 4 (.t 48)) [] [] .nil .nil) .nil) .nil) .nil))
 (.drop [43, 44, 45, 46, 47, 48] .ret)))))))))
abbrev Up : List RS := [.c 2 2 true, .c 3 2 true, .t 4]
theorem Ul : Az Try.prog G8 49 Uo Up = true := by kernel_rfl
def Zg : ACode :=
 (.seq (.reg [un (.box 3 (.t 0)),
 un (.box 4 (.t 1)),
 un (.asg 6 (.c (.nilsl 1))),
 un (.asg 7 (.c (.bool false)))])
 (.seq (.seq (.reg [un (.ld 8 2 true (.t 3)),
 un (.ld 9 2 true (.t 4)),
 un (.call 10 Ea [((.t 8), false), ((.t 9), false)]),
 un (.un 11 .not (.t 10)),
 un (.asg 12 (.t 11)),
 ⟨some (12, false), .fadr 13 0 (.t 3)⟩,
 ⟨some (12, false), .ld 14 1 false (.t 13)⟩,
 ⟨some (12, false), .fadr 15 0 (.t 4)⟩,
 ⟨some (12, false), .ld 16 1 false (.t 15)⟩,
 ⟨some (12, false), .bin 17 .neq (.t 14) (.t 16)⟩,
 un (.pick 18 (.t 12) (.c (.bool true)) (.t 17)),
 un (.asg 19 (.t 18)),
 ⟨some (19, false), .ld 20 2 true (.t 3)⟩,
 ⟨some (19, false), .ld 21 2 true (.t 4)⟩,
 ⟨some (19, false), .mov 22 (.t 2)⟩,
 ⟨some (19, false), .call 23 H6 [((.t 20), false), ((.t 21), false), ((.t 22), false)]⟩,
 ⟨some (19, false), .un 24 .not (.t 23)⟩,
 un (.pick 25 (.t 19) (.c (.bool true)) (.t 24)),
 un (.asg 26 (.t 25)),
 ⟨some (26, false), .mov 27 (.t 2)⟩,
 ⟨some (26, false), .fadr 28 0 (.t 3)⟩,
 ⟨some (26, false), .ld 29 1 false (.t 28)⟩,
 ⟨some (26, false), .call 30 Pa [((.t 27), false), ((.t 29), false)]⟩,
 ⟨some (26, false), .un 31 .not (.t 30)⟩,
 un (.pick 32 (.t 26) (.c (.bool true)) (.t 31))])
 (.drop [8, 9, 10, 11, 12, 13, 14, 15, 16, 17, 18, 19, 20, 21, 22, 23, 24, 25, 26, 27, 28, 29, 30, 31] (.cond (.t 32) (.seq (.reg [un (.bsl 33 1 []),
 un (.asg 6 (.t 33)),
 un (.asg 7 (.c (.bool false)))])
 (.drop [33] .ret))
 .skip)))
 (.drop [8, 9, 10, 11, 12, 13, 14, 15, 16, 17, 18, 19, 20, 21, 22, 23, 24, 25, 26, 27, 28, 29, 30, 31, 32, 33] (.seq (.reg [un (.mov 34 (.t 2)),
 un (.call 35 Om [((.t 34), false)]),
 un (.asg 6 (.t 35)),
 un (.asg 7 (.c (.bool true)))])
 (.drop [34, 35] .ret)))))
abbrev Zp : List RS := [.t 6, .t 7]
theorem Zl : Az Try.prog Jn 36 Zg Zp = true := by kernel_rfl
def Abq : ACode :=
 (.seq (.reg [un (.alc 2 (.agg [.int .i64 0, .nilsl 2])),
 un (.alc 3 (.agg [.int .i64 0, .nilsl 2])),
 un (.asg 4 (.c (.nilsl 1)))])
 (.seq (.reg [un (.mov 8 (.t 0)),
 un (.bld 9 [.nilsl 1, .int .i64 0, .int .u64 0] [(0, 1, (.t 8))]),
 un (.box 10 (.t 9)),
 un (.asg 5 (.t 10))])
 (.drop [8, 9, 10] (.seq (.reg [un (.mov 12 (.t 5)),
 un (.call 13 Fq [((.t 12), true)]),
 un (.asg 11 (.t 13)),
 un (.ext 14 (.t 11) 0),
 un (.ext 15 (.t 11) 1),
 un (.alc 6 (.agg [.int .i64 0, .nilsl 2])),
 un (.alc 7 (.agg [.int .i64 0, .nilsl 2])),
 un (.st 2 (.t 6) (.t 14)),
 un (.st 2 (.t 7) (.t 15))])
 (.drop [12, 13, 11, 14, 15] (.seq (.dregl [(0, .ld 16 2 true (.t 6)),
 (1, .ld 17 2 true (.t 7)),
 (2, .mov 18 (.t 5)),
 (3, .ld 19 2 true (.t 6)),
 (4, .ld 20 2 true (.t 7))]
 (.alt 5 (.call 21 Dw [((.t 18), true), ((.t 19), false), ((.t 20), false)]) [0, 1, 2, 3, 4] [] (.alt 6 (.st 2 (.t 2) (.t 16)) [0, 1] [] (.alt 7 (.st 2 (.t 3) (.t 17)) [1] [] (.alt 8 (.asg 4 (.t 21)) [] [] .nil .nil) .nil) .nil) .nil))
 (.drop [16, 17, 18, 19, 20, 21] .ret)))))))
abbrev Aav : List RS := [.c 2 2 true, .c 3 2 true, .t 4]
theorem Aa2 : Az Try.prog Lf 22 Abq Aav = true := by kernel_rfl
def Ww : ACode :=
 (.seq (.reg [un (.alc 2 (.agg [.int .i64 0, .nilsl 2])),
 un (.alc 3 (.agg [.int .i64 0, .nilsl 2])),
 un (.asg 4 (.c (.nilsl 1)))])
 (.seq (.reg [un (.mov 5 (.t 0)),
 un (.call 6 Lf [((.t 5), false)]),
 un (.ext 7 (.t 6) 0),
 un (.ext 8 (.t 6) 1),
 un (.ext 9 (.t 6) 2),
 un (.st 2 (.t 2) (.t 7)),
 un (.st 2 (.t 3) (.t 8)),
 un (.asg 4 (.t 9))])
 (.drop [5, 6, 7, 8, 9] .ret)))
abbrev Wz : List RS := [.c 2 2 true, .c 3 2 true, .t 4]
theorem Wr : Az Try.prog Ii 10 Ww Wz = true := by kernel_rfl
def Abr : ACode :=
 (.seq (.reg [un (.ld 60 2 true (.t 3)),
 un (.ld 61 2 true (.t 4)),
 un (.mov 62 (.t 5)),
 un (.call 63 M7 [((.t 60), false), ((.t 61), false), ((.t 62), false)]),
 un (.asg 59 (.t 63)),
 un (.ext 64 (.t 59) 0),
 un (.ext 65 (.t 59) 1),
 un (.ext 66 (.t 59) 2),
 un (.asg 9 (.t 64)),
 un (.asg 10 (.t 65)),
 un (.asg 11 (.t 66))])
 (.drop [60, 61, 62, 63, 59, 64, 65, 66] (.seq (.reg [un (.mov 67 (.t 6)),
 un (.mov 68 (.t 9)),
 un (.bin 69 .neq (.t 67) (.t 68)),
 un (.asg 70 (.t 69)),
 ⟨some (70, false), .mov 71 (.t 8)⟩,
 ⟨some (70, false), .mov 72 (.t 11)⟩,
 ⟨some (70, false), .binb 73 .neq (.t 71) (.t 72)⟩,
 un (.pick 74 (.t 70) (.c (.bool true)) (.t 73)),
 un (.asg 75 (.t 74)),
 ⟨some (75, false), .mov 76 (.t 7)⟩,
 ⟨some (75, false), .mov 77 (.t 10)⟩,
 ⟨some (75, false), .call 78 J6 [((.t 76), false), ((.t 77), false)]⟩,
 ⟨some (75, false), .un 79 .not (.t 78)⟩,
 un (.pick 80 (.t 75) (.c (.bool true)) (.t 79))])
 (.drop [67, 68, 69, 70, 71, 72, 73, 74, 75, 76, 77, 78, 79] (.cond (.t 80) (.seq (.reg [un (.asg 2 (.c (.bool false)))])
 .ret)
 .skip)))))
def Abb : ACode :=
 (.seq (.reg [un (.ld 89 2 true (.t 3)),
 un (.ld 90 2 true (.t 4)),
 un (.mov 91 (.t 5)),
 un (.call 92 S4 [((.t 89), false), ((.t 90), false), ((.t 91), false)]),
 un (.asg 88 (.t 92)),
 un (.ext 93 (.t 88) 0),
 un (.ext 94 (.t 88) 1),
 un (.asg 14 (.t 93)),
 un (.asg 15 (.t 94))])
 (.drop [89, 90, 91, 92, 88, 93, 94] (.seq (.reg [un (.mov 95 (.t 12)),
 un (.mov 96 (.t 14)),
 un (.binb 97 .neq (.t 95) (.t 96)),
 un (.asg 98 (.t 97)),
 ⟨some (98, false), .mov 99 (.t 13)⟩,
 ⟨some (98, false), .mov 100 (.t 15)⟩,
 ⟨some (98, false), .binb 101 .neq (.t 99) (.t 100)⟩,
 un (.pick 102 (.t 98) (.c (.bool true)) (.t 101)),
 un (.asg 103 (.t 102)),
 ⟨some (103, false), .mov 104 (.t 8)⟩,
 ⟨some (103, false), .asg 105 (.t 104)⟩,
 ⟨some (105, true), .mov 106 (.t 12)⟩,
 ⟨some (103, false), .pick 107 (.t 105) (.t 106) (.c (.bool false))⟩,
 un (.pick 108 (.t 103) (.c (.bool true)) (.t 107))])
 (.drop [95, 96, 97, 98, 99, 100, 101, 102, 103, 104, 105, 106, 107] (.cond (.t 108) (.seq (.reg [un (.asg 2 (.c (.bool false)))])
 .ret)
 .skip)))))
def Sm : ACode :=
 (.seq (.seq (.reg [un (.mov 118 (.t 19)),
 un (.mov 119 (.t 7)),
 un (.len 120 (.t 119)),
 un (.bin 121 .lss (.t 118) (.t 120))])
 (.drop [118, 119, 120] (.cond (.t 121) .skip
 (.exit 0))))
 (.drop [118, 119, 120, 121] (.seq (.block 1 (.seq (.seq (.reg [un (.mov 124 (.t 7)),
 un (.mov 125 (.t 19)),
 un (.iad 126 1 (.t 124) (.t 125)),
 un (.ld 127 1 false (.t 126)),
 un (.mov 128 (.t 5)),
 un (.len 129 (.t 128)),
 un (.bin 130 .geq (.t 127) (.t 129))])
 (.drop [124, 125, 126, 127, 128, 129] (.cond (.t 130) (.seq (.reg [un (.asg 2 (.c (.bool false)))])
 .ret)
 .skip)))
 (.drop [124, 125, 126, 127, 128, 129, 130] (.reg [un (.mov 131 (.t 18)),
 un (.mov 132 (.t 5)),
 un (.mov 133 (.t 7)),
 un (.mov 134 (.t 19)),
 un (.iad 135 1 (.t 133) (.t 134)),
 un (.ld 136 1 false (.t 135)),
 un (.iad 137 1 (.t 132) (.t 136)),
 un (.ld 138 1 false (.t 137)),
 un (.bsl 139 1 [(.t 138)]),
 un (.app 140 1 (.t 131) (.t 139)),
 un (.asg 18 (.t 140))]))))
 (.drop [124, 125, 126, 127, 128, 129, 130, 131, 132, 133, 134, 135, 136, 137, 138, 139, 140] (.reg [un (.mov 122 (.t 19)),
 un (.bin 123 .add (.t 122) (.c (.int .i64 1))),
 un (.asg 19 (.t 123))])))))
def Abx : ACode :=
 (.seq (.reg [un (.mov 109 (.t 8))])
 (.cond (.t 109) (.seq (.reg [un (.ld 111 2 true (.t 3)),
 un (.mov 112 (.t 6)),
 un (.mov 113 (.t 7)),
 un (.call 114 Jt [((.t 111), false), ((.t 112), false), ((.t 113), false)]),
 un (.asg 110 (.t 114)),
 un (.ext 115 (.t 110) 0),
 un (.ext 116 (.t 110) 1),
 un (.asg 16 (.t 115)),
 un (.asg 17 (.t 116))])
 (.drop [111, 112, 113, 114, 110, 115, 116] (.seq (.reg [un (.bsl 117 1 []),
 un (.asg 18 (.t 117))])
 (.drop [117] (.seq (.seq (.reg [un (.asg 19 (.c (.int .i64 0)))])
 (.block 0 (.loop Sm)))
 (.drop [19, 118, 119, 120, 121, 124, 125, 126, 127, 128, 129, 130, 131, 132, 133, 134, 135, 136, 137, 138, 139, 140, 122, 123] (.seq (.reg [un (.ld 142 2 true (.t 4)),
 un (.mov 143 (.t 6)),
 un (.mov 144 (.t 18)),
 un (.call 145 Jt [((.t 142), false), ((.t 143), false), ((.t 144), false)]),
 un (.asg 141 (.t 145)),
 un (.ext 146 (.t 141) 0),
 un (.ext 147 (.t 141) 1),
 un (.asg 20 (.t 146)),
 un (.asg 21 (.t 147))])
 (.drop [142, 143, 144, 145, 141, 146, 147] (.seq (.reg [un (.mov 148 (.t 17)),
 un (.un 149 .not (.t 148)),
 un (.asg 150 (.t 149)),
 ⟨some (150, false), .mov 151 (.t 21)⟩,
 ⟨some (150, false), .un 152 .not (.t 151)⟩,
 un (.pick 153 (.t 150) (.c (.bool true)) (.t 152)),
 un (.asg 154 (.t 153)),
 ⟨some (154, false), .mov 155 (.t 16)⟩,
 ⟨some (154, false), .mov 156 (.t 5)⟩,
 ⟨some (154, false), .len 157 (.t 156)⟩,
 ⟨some (154, false), .bin 158 .geq (.t 155) (.t 157)⟩,
 un (.pick 159 (.t 154) (.c (.bool true)) (.t 158)),
 un (.asg 160 (.t 159)),
 ⟨some (160, false), .mov 161 (.t 5)⟩,
 ⟨some (160, false), .mov 162 (.t 16)⟩,
 ⟨some (160, false), .iad 163 1 (.t 161) (.t 162)⟩,
 ⟨some (160, false), .ld 164 1 false (.t 163)⟩,
 ⟨some (160, false), .mov 165 (.t 20)⟩,
 ⟨some (160, false), .bin 166 .eql (.t 164) (.t 165)⟩,
 un (.pick 167 (.t 160) (.c (.bool true)) (.t 166))])
 (.drop [148, 149, 150, 151, 152, 153, 154, 155, 156, 157, 158, 159, 160, 161, 162, 163, 164, 165, 166] (.cond (.t 167) (.seq (.reg [un (.asg 2 (.c (.bool false)))])
 .ret)
 .skip)))))))))))
 .skip))
def Abs : ACode :=
 (.seq (.reg [un (.ld 186 2 true (.t 22)),
 un (.ld 187 2 true (.t 23)),
 un (.ld 188 2 true (.t 24)),
 un (.mov 189 (.t 25)),
 un (.mov 190 (.t 26)),
 un (.call 191 Ja [((.t 186), false), ((.t 187), false), ((.t 188), false), ((.t 189), false), ((.t 190), false)]),
 un (.asg 185 (.t 191)),
 un (.ext 192 (.t 185) 0),
 un (.ext 193 (.t 185) 1),
 un (.asg 29 (.t 192)),
 un (.asg 30 (.t 193))])
 (.drop [186, 187, 188, 189, 190, 191, 185, 192, 193] (.seq (.reg [un (.mov 194 (.t 28)),
 un (.mov 195 (.t 30)),
 un (.binb 196 .neq (.t 194) (.t 195)),
 un (.asg 197 (.t 196)),
 ⟨some (197, false), .mov 198 (.t 27)⟩,
 ⟨some (197, false), .mov 199 (.t 29)⟩,
 ⟨some (197, false), .call 200 J6 [((.t 198), false), ((.t 199), false)]⟩,
 ⟨some (197, false), .un 201 .not (.t 200)⟩,
 un (.pick 202 (.t 197) (.c (.bool true)) (.t 201))])
 (.drop [194, 195, 196, 197, 198, 199, 200, 201] (.cond (.t 202) (.seq (.reg [un (.asg 2 (.c (.bool false)))])
 .ret)
 .skip)))))
def Abi : ACode :=
 (.seq (.reg [un (.mov 203 (.t 28))])
 (.cond (.t 203) (.seq (.reg [un (.ld 205 2 true (.t 22)),
 un (.ld 206 2 true (.t 24)),
 un (.mov 207 (.t 27)),
 un (.call 208 Nu [((.t 205), false), ((.t 206), false), ((.t 207), false)]),
 un (.asg 204 (.t 208)),
 un (.ext 209 (.t 204) 0),
 un (.ext 210 (.t 204) 1),
 un (.asg 31 (.t 209)),
 un (.asg 32 (.t 210))])
 (.drop [205, 206, 207, 208, 204, 209, 210] (.seq (.reg [un (.mov 211 (.t 32)),
 un (.un 212 .not (.t 211)),
 un (.asg 213 (.t 212)),
 ⟨some (213, false), .mov 214 (.t 31)⟩,
 ⟨some (213, false), .un 215 .not (.t 214)⟩,
 un (.pick 216 (.t 213) (.c (.bool true)) (.t 215))])
 (.drop [211, 212, 213, 214, 215] (.cond (.t 216) (.seq (.reg [un (.asg 2 (.c (.bool false)))])
 .ret)
 .skip)))))
 .skip))
def Aa3 : ACode :=
 (.seq (.reg [un (.ld 231 2 true (.t 33)),
 un (.ld 232 2 true (.t 34)),
 un (.mov 233 (.t 35)),
 un (.call 234 Jw [((.t 231), false), ((.t 232), false), ((.t 233), false)]),
 un (.asg 230 (.t 234)),
 un (.ext 235 (.t 230) 0),
 un (.ext 236 (.t 230) 1),
 un (.asg 38 (.t 235)),
 un (.asg 39 (.t 236))])
 (.drop [231, 232, 233, 234, 230, 235, 236] (.seq (.reg [un (.mov 237 (.t 37)),
 un (.mov 238 (.t 39)),
 un (.binb 239 .neq (.t 237) (.t 238)),
 un (.asg 240 (.t 239)),
 ⟨some (240, false), .mov 241 (.t 36)⟩,
 ⟨some (240, false), .mov 242 (.t 38)⟩,
 ⟨some (240, false), .call 243 J6 [((.t 241), false), ((.t 242), false)]⟩,
 ⟨some (240, false), .un 244 .not (.t 243)⟩,
 un (.pick 245 (.t 240) (.c (.bool true)) (.t 244))])
 (.drop [237, 238, 239, 240, 241, 242, 243, 244] (.cond (.t 245) (.seq (.reg [un (.asg 2 (.c (.bool false)))])
 .ret)
 .skip)))))
def Aam : ACode :=
 (.seq (.reg [un (.mov 256 (.t 41)),
 un (.un 257 .not (.t 256)),
 un (.asg 258 (.t 257)),
 ⟨some (258, false), .mov 259 (.t 40)⟩,
 ⟨some (258, false), .len 260 (.t 259)⟩,
 ⟨some (258, false), .fadr 261 0 (.t 33)⟩,
 ⟨some (258, false), .ld 262 1 false (.t 261)⟩,
 ⟨some (258, false), .bin 263 .neq (.t 260) (.t 262)⟩,
 un (.pick 264 (.t 258) (.c (.bool true)) (.t 263))])
 (.drop [256, 257, 258, 259, 260, 261, 262, 263] (.cond (.t 264) (.seq (.reg [un (.asg 2 (.c (.bool false)))])
 .ret)
 .skip)))
def Sf : ACode :=
 (.seq (.seq (.reg [un (.mov 265 (.t 42)),
 un (.mov 266 (.t 40)),
 un (.len 267 (.t 266)),
 un (.bin 268 .lss (.t 265) (.t 267))])
 (.drop [265, 266, 267] (.cond (.t 268) .skip
 (.exit 2))))
 (.drop [265, 266, 267, 268] (.seq (.block 3 (.seq (.reg [un (.mov 271 (.t 40)),
 un (.mov 272 (.t 42)),
 un (.iad 273 1 (.t 271) (.t 272)),
 un (.ld 274 1 false (.t 273)),
 un (.mov 275 (.t 42)),
 un (.bin 276 .neq (.t 274) (.t 275))])
 (.drop [271, 272, 273, 274, 275] (.cond (.t 276) (.seq (.reg [un (.asg 2 (.c (.bool false)))])
 .ret)
 .skip))))
 (.drop [271, 272, 273, 274, 275, 276] (.reg [un (.mov 269 (.t 42)),
 un (.bin 270 .add (.t 269) (.c (.int .i64 1))),
 un (.asg 42 (.t 270))])))))
def Ajf : ACode :=
 (.seq (.reg [un (.asg 2 (.c (.bool false)))])
 (.seq (.seq (.reg [un (.mov 43 (.t 0)),
 un (.call 44 U3 [((.t 43), false)])])
 (.drop [43] (.cond (.t 44) (.seq (.reg [un (.asg 2 (.c (.bool true)))])
 .ret)
 .skip)))
 (.drop [43, 44] (.seq (.reg [un (.mov 46 (.t 0)),
 un (.call 47 Ii [((.t 46), false)]),
 un (.asg 45 (.t 47)),
 un (.ext 48 (.t 45) 0),
 un (.ext 49 (.t 45) 1),
 un (.ext 50 (.t 45) 2),
 un (.alc 3 (.agg [.int .i64 0, .nilsl 2])),
 un (.alc 4 (.agg [.int .i64 0, .nilsl 2])),
 un (.st 2 (.t 3) (.t 48)),
 un (.st 2 (.t 4) (.t 49)),
 un (.asg 5 (.t 50))])
 (.drop [46, 47, 45, 48, 49, 50] (.seq (.reg [un (.ld 52 2 true (.t 3)),
 un (.ld 53 2 true (.t 4)),
 un (.mov 54 (.t 5)),
 un (.call 55 Nj [((.t 52), false), ((.t 53), false), ((.t 54), false)]),
 un (.asg 51 (.t 55)),
 un (.ext 56 (.t 51) 0),
 un (.ext 57 (.t 51) 1),
 un (.ext 58 (.t 51) 2),
 un (.asg 6 (.t 56)),
 un (.asg 7 (.t 57)),
 un (.asg 8 (.t 58))])
 (.drop [52, 53, 54, 55, 51, 56, 57, 58] (.seq (.cut Abr)
 (.drop [60, 61, 62, 63, 59, 64, 65, 66, 9, 10, 11, 67, 68, 69, 70, 71, 72, 73, 74, 75, 76, 77, 78, 79, 80] (.seq (.reg [un (.ld 82 2 true (.t 3)),
 un (.ld 83 2 true (.t 4)),
 un (.mov 84 (.t 5)),
 un (.call 85 Nu [((.t 82), false), ((.t 83), false), ((.t 84), false)]),
 un (.asg 81 (.t 85)),
 un (.ext 86 (.t 81) 0),
 un (.ext 87 (.t 81) 1),
 un (.asg 12 (.t 86)),
 un (.asg 13 (.t 87))])
 (.drop [82, 83, 84, 85, 81, 86, 87] (.seq (.cut Abb)
 (.drop [89, 90, 91, 92, 88, 93, 94, 14, 15, 95, 96, 97, 98, 99, 100, 101, 102, 103, 104, 105, 106, 107, 108] (.seq (.cut Abx)
 (.drop [109, 111, 112, 113, 114, 110, 115, 116, 16, 17, 117, 18, 19, 118, 119, 120, 121, 124, 125, 126, 127, 128, 129, 130, 131, 132, 133, 134, 135, 136, 137, 138, 139, 140, 122, 123, 142, 143, 144, 145, 141, 146, 147, 20, 21, 148, 149, 150, 151, 152, 153, 154, 155, 156, 157, 158, 159, 160, 161, 162, 163, 164, 165, 166, 167] (.seq (.reg [un (.mov 169 (.t 0)),
 un (.call 170 Gk [((.t 169), false)]),
 un (.asg 168 (.t 170)),
 un (.ext 171 (.t 168) 0),
 un (.ext 172 (.t 168) 1),
 un (.ext 173 (.t 168) 2),
 un (.ext 174 (.t 168) 3),
 un (.ext 175 (.t 168) 4),
 un (.alc 22 (.agg [.int .i64 0, .nilsl 2])),
 un (.alc 23 (.agg [.int .i64 0, .nilsl 2])),
 un (.alc 24 (.agg [.int .i64 0, .nilsl 2])),
 un (.st 2 (.t 22) (.t 171)),
 un (.st 2 (.t 23) (.t 172)),
 un (.st 2 (.t 24) (.t 173)),
 un (.asg 25 (.t 174)),
 un (.asg 26 (.t 175))])
 (.drop [169, 170, 168, 171, 172, 173, 174, 175] (.seq (.reg [un (.ld 177 2 true (.t 22)),
 un (.ld 178 2 true (.t 23)),
 un (.ld 179 2 true (.t 24)),
 un (.mov 180 (.t 25)),
 un (.mov 181 (.t 26)),
 un (.call 182 Gh [((.t 177), false), ((.t 178), false), ((.t 179), false), ((.t 180), false), ((.t 181), false)]),
 un (.asg 176 (.t 182)),
 un (.ext 183 (.t 176) 0),
 un (.ext 184 (.t 176) 1),
 un (.asg 27 (.t 183)),
 un (.asg 28 (.t 184))])
 (.drop [177, 178, 179, 180, 181, 182, 176, 183, 184] (.seq (.cut Abs)
 (.drop [186, 187, 188, 189, 190, 191, 185, 192, 193, 29, 30, 194, 195, 196, 197, 198, 199, 200, 201, 202] (.seq (.cut Abi)
 (.drop [203, 205, 206, 207, 208, 204, 209, 210, 31, 32, 211, 212, 213, 214, 215, 216] (.seq (.reg [un (.mov 218 (.t 0)),
 un (.call 219 G8 [((.t 218), false)]),
 un (.asg 217 (.t 219)),
 un (.ext 220 (.t 217) 0),
 un (.ext 221 (.t 217) 1),
 un (.ext 222 (.t 217) 2),
 un (.alc 33 (.agg [.int .i64 0, .nilsl 2])),
 un (.alc 34 (.agg [.int .i64 0, .nilsl 2])),
 un (.st 2 (.t 33) (.t 220)),
 un (.st 2 (.t 34) (.t 221)),
 un (.asg 35 (.t 222))])
 (.drop [218, 219, 217, 220, 221, 222] (.seq (.reg [un (.ld 224 2 true (.t 33)),
 un (.ld 225 2 true (.t 34)),
 un (.mov 226 (.t 35)),
 un (.call 227 Jn [((.t 224), false), ((.t 225), false), ((.t 226), false)]),
 un (.asg 223 (.t 227)),
 un (.ext 228 (.t 223) 0),
 un (.ext 229 (.t 223) 1),
 un (.asg 36 (.t 228)),
 un (.asg 37 (.t 229))])
 (.drop [224, 225, 226, 227, 223, 228, 229] (.seq (.cut Aa3)
 (.drop [231, 232, 233, 234, 230, 235, 236, 38, 39, 237, 238, 239, 240, 241, 242, 243, 244, 245] (.seq (.seq (.reg [un (.mov 246 (.t 37))])
 (.cond (.t 246) (.seq (.reg [un (.ld 248 2 true (.t 33)),
 un (.ld 249 2 true (.t 34)),
 un (.ld 250 2 true (.t 33)),
 un (.mov 251 (.t 35)),
 un (.mov 252 (.t 36)),
 un (.call 253 Gh [((.t 248), false), ((.t 249), false), ((.t 250), false), ((.t 251), false), ((.t 252), false)]),
 un (.asg 247 (.t 253)),
 un (.ext 254 (.t 247) 0),
 un (.ext 255 (.t 247) 1),
 un (.asg 40 (.t 254)),
 un (.asg 41 (.t 255))])
 (.drop [248, 249, 250, 251, 252, 253, 247, 254, 255] (.seq (.cut Aam)
 (.drop [256, 257, 258, 259, 260, 261, 262, 263, 264] (.seq (.reg [un (.asg 42 (.c (.int .i64 0)))])
 (.block 2 (.loop Sf)))))))
 .skip))
 (.drop [246, 248, 249, 250, 251, 252, 253, 247, 254, 255, 40, 41, 256, 257, 258, 259, 260, 261, 262, 263, 264, 42, 265, 266, 267, 268, 271, 272, 273, 274, 275, 276, 269, 270] (.seq (.reg [un (.asg 2 (.c (.bool true)))])
 .ret))))))))))))))))))))))))))))))))
abbrev Aif : List RS := [.t 2]
theorem Ai3 : Az Try.prog W4 277 Ajf Aif = true := by kernel_rfl
end Go.Proofs.Ytiakjbigaaanhaa.Ax
