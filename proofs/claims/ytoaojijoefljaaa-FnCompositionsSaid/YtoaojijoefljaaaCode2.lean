/-
  The small code of the functions, written by program; that the program's code is this one, the kernel looks at.
-/
import Derived.Test.YtoaojijoefljaaaAx3
import Derived.Test.YtoaojijoefljaaaProg
import Derived.KernelRfl
import Derived.Test.YtoaojijoefljaaaNum
namespace Go.Proofs.Ytoaojijoefljaaa.Ax
open Go
set_option maxRecDepth 100000
def Rv : ACode :=
 (.seq (.seq (.reg [un (.mov 21 (.t 9)),
 un (.mov 22 (.t 2)),
 un (.bin 23 .lss (.t 21) (.t 22))])
 (.drop [21, 22] (.cond (.t 23) .skip
 (.exit 0))))
 (.drop [21, 22, 23] (.seq (.block 1 (.reg [un (.mov 26 (.t 8)),
 un (.mov 27 (.t 0)),
 un (.mov 28 (.t 2)),
 un (.mov 29 (.t 9)),
 un (.call 30 Io [((.t 27), false), ((.t 28), false), ((.t 29), false)]),
 un (.mov 31 (.t 9)),
 un (.bsl 32 1 [(.t 31)]),
 un (.call 33 Jk [((.t 26), true), ((.t 30), false), ((.c (.int .i64 (-1))), false), ((.t 32), false)])]))
 (.drop [26, 27, 28, 29, 30, 31, 32, 33] (.reg [un (.mov 24 (.t 9)),
 un (.bin 25 .add (.t 24) (.c (.int .i64 1))),
 un (.asg 9 (.t 25))])))))
def R5 : ACode :=
 (.seq (.reg [un (.bin 72 .lss (.t 71) (.t 70))])
 (.seq (.cond (.t 72) .skip
 (.exit 8))
 (.seq (.block 9 (.seq (.reg [un (.mov 73 (.t 71)),
 un (.iad 74 1 (.t 69) (.t 71)),
 un (.ld 75 1 false (.t 74)),
 un (.asg 16 (.t 73)),
 un (.asg 17 (.t 75))])
 (.drop [73, 74, 75] (.reg [un (.mov 76 (.t 13)),
 un (.mov 77 (.t 16)),
 un (.mov 78 (.t 8)),
 un (.nck 79 (.t 78)),
 un (.fadr 80 0 (.t 79)),
 un (.ld 81 1 false (.t 80)),
 un (.mov 82 (.t 17)),
 un (.iad 83 1 (.t 81) (.t 82)),
 un (.ld 84 1 false (.t 83)),
 un (.iad 85 1 (.t 76) (.t 77)),
 un (.st 1 (.t 85) (.t 84))]))))
 (.drop [73, 74, 75, 16, 17, 76, 77, 78, 79, 80, 81, 82, 83, 84, 85] (.reg [un (.bin 86 .add (.t 71) (.c (.int .i64 1))),
 un (.asg 71 (.t 86))])))))
def R4 : ACode :=
 (.seq (.seq (.reg [un (.mov 56 (.t 14)),
 un (.mov 57 (.t 10)),
 un (.fadr 58 0 (.t 12)),
 un (.ld 59 1 false (.t 58)),
 un (.call 60 Eo [((.t 57), false), ((.t 59), false)]),
 un (.bin 61 .lss (.t 56) (.t 60))])
 (.drop [56, 57, 58, 59, 60] (.cond (.t 61) .skip
 (.exit 6))))
 (.drop [56, 57, 58, 59, 60, 61] (.seq (.block 7 (.seq (.reg [un (.mov 64 (.t 14)),
 un (.fadr 65 0 (.t 12)),
 un (.ld 66 1 false (.t 65)),
 un (.mov 67 (.t 10)),
 un (.call 68 Kl [((.t 64), false), ((.t 66), false), ((.t 67), false)]),
 un (.asg 15 (.t 68))])
 (.drop [64, 65, 66, 67, 68] (.seq (.seq (.reg [un (.mov 69 (.t 15)),
 un (.len 70 (.t 69)),
 un (.mov 71 (.c (.int .i64 0)))])
 (.block 8 (.loop R5)))
 (.drop [69, 70, 71, 72, 73, 74, 75, 16, 17, 76, 77, 78, 79, 80, 81, 82, 83, 84, 85, 86] (.seq (.frz [15] (.dreg [(un (.mov 87 (.t 8)), []),
 (un (.mov 88 (.t 0)), [87]),
 (un (.ld 89 2 true (.t 12)), [87, 88]),
 (un (.mov 90 (.t 13)), [87, 88, 89]),
 (un (.mov 91 (.t 0)), [87, 88, 89, 90]),
 (un (.mov 92 (.t 2)), [87, 88, 89, 90, 91]),
 (un (.call 93 Eo [((.t 91), false), ((.t 92), false)]), [87, 88, 89, 90]),
 (un (.call 94 Gu [((.t 88), false), ((.t 89), false), ((.t 90), false), ((.t 93), false)]), [87]),
 (un (.mov 95 (.t 11)), [87, 88, 89, 90, 91, 92, 93, 94]),
 (un (.mov 96 (.t 15)), [87, 88, 89, 90, 91, 92, 93, 94, 95])]
 [un (.call 97 Jk [((.t 87), true), ((.t 94), false), ((.t 95), false), ((.t 96), false)])]))
 (.drop [87, 88, 89, 90, 91, 92, 93, 94, 95, 96, 97] (.seq (.reg [un (.mov 98 (.t 8)),
 un (.nck 99 (.t 98)),
 un (.fadr 100 0 (.t 99)),
 un (.ld 101 1 false (.t 100)),
 un (.len 102 (.t 101)),
 un (.bin 103 .gtr (.t 102) (.c (.int .i64 60)))])
 (.drop [98, 99, 100, 101, 102] (.cond (.t 103) (.seq (.reg [un (.asg 6 (.c (.nilp))),
 un (.asg 7 (.c (.bool false)))])
 .ret)
 .skip))))))))))
 (.drop [64, 65, 66, 67, 68, 15, 69, 70, 71, 72, 73, 74, 75, 16, 17, 76, 77, 78, 79, 80, 81, 82, 83, 84, 85, 86, 87, 88, 89, 90, 91, 92, 93, 94, 95, 96, 97, 98, 99, 100, 101, 102, 103] (.reg [un (.mov 62 (.t 14)),
 un (.bin 63 .add (.t 62) (.c (.int .i64 1))),
 un (.asg 14 (.t 63))])))))
def Rt : ACode :=
 (.seq (.reg [un (.bin 49 .lss (.t 48) (.t 47))])
 (.seq (.cond (.t 49) .skip
 (.exit 4))
 (.seq (.block 5 (.seq (.reg [un (.mov 50 (.t 48)),
 un (.iad 51 2 (.t 46) (.t 48)),
 un (.ld 52 2 true (.t 51)),
 un (.alc 12 (.agg [.int .i64 0, .nilsl 1])),
 un (.asg 11 (.t 50)),
 un (.st 2 (.t 12) (.t 52))])
 (.drop [50, 51, 52] (.seq (.reg [un (.fadr 53 0 (.t 12)),
 un (.ld 54 1 false (.t 53)),
 un (.mk 55 1 (.nilsl 1) (.t 54)),
 un (.asg 13 (.t 55))])
 (.drop [53, 54, 55] (.seq (.reg [un (.asg 14 (.c (.int .i64 0)))])
 (.frz [100013] (.block 6 (.loop R4)))))))))
 (.drop [50, 51, 52, 12, 11, 53, 54, 55, 13, 14, 56, 57, 58, 59, 60, 61, 64, 65, 66, 67, 68, 15, 69, 70, 71, 72, 73, 74, 75, 16, 17, 76, 77, 78, 79, 80, 81, 82, 83, 84, 85, 86, 87, 88, 89, 90, 91, 92, 93, 94, 95, 96, 97, 98, 99, 100, 101, 102, 103, 62, 63] (.reg [un (.bin 104 .add (.t 48) (.c (.int .i64 1))),
 un (.asg 48 (.t 104))])))))
def R6 : ACode :=
 (.seq (.seq (.reg [un (.mov 34 (.t 10)),
 un (.mov 35 (.t 8)),
 un (.nck 36 (.t 35)),
 un (.fadr 37 0 (.t 36)),
 un (.ld 38 1 false (.t 37)),
 un (.len 39 (.t 38)),
 un (.bin 40 .lss (.t 34) (.t 39))])
 (.drop [34, 35, 36, 37, 38, 39] (.cond (.t 40) .skip
 (.exit 2))))
 (.drop [34, 35, 36, 37, 38, 39, 40] (.block 3 (.seq (.reg [un (.mov 41 (.t 8)),
 un (.nck 42 (.t 41)),
 un (.fadr 43 0 (.t 42)),
 un (.ld 44 1 false (.t 43)),
 un (.len 45 (.t 44)),
 un (.asg 10 (.t 45))])
 (.drop [41, 42, 43, 44, 45] (.seq (.reg [un (.mov 46 (.t 1)),
 un (.len 47 (.t 46)),
 un (.mov 48 (.c (.int .i64 0)))])
 (.block 4 (.loop Rt))))))))
def Agi : ACode :=
 (.seq (.reg [un (.asg 6 (.c (.nilp))),
 un (.asg 7 (.c (.bool false)))])
 (.seq (.reg [un (.mkm 18),
 un (.bld 19 [.nilsl 1, .nilsl 2, .dead] [(2, 1, (.t 18))]),
 un (.box 20 (.t 19)),
 un (.asg 8 (.t 20))])
 (.drop [18, 19, 20] (.seq (.seq (.reg [un (.asg 9 (.c (.int .i64 0)))])
 (.block 0 (.loop Rv)))
 (.drop [9, 21, 22, 23, 26, 27, 28, 29, 30, 31, 32, 33, 24, 25] (.seq (.seq (.reg [un (.asg 10 (.c (.int .i64 (-1))))])
 (.block 2 (.loop R6)))
 (.drop [10, 34, 35, 36, 37, 38, 39, 40, 41, 42, 43, 44, 45, 46, 47, 48, 49, 50, 51, 52, 12, 11, 53, 54, 55, 13, 14, 56, 57, 58, 59, 60, 61, 64, 65, 66, 67, 68, 15, 69, 70, 71, 72, 73, 74, 75, 16, 17, 76, 77, 78, 79, 80, 81, 82, 83, 84, 85, 86, 87, 88, 89, 90, 91, 92, 93, 94, 95, 96, 97, 98, 99, 100, 101, 102, 103, 62, 63, 104] (.seq (.reg [un (.mov 105 (.t 8)),
 un (.asg 6 (.t 105)),
 un (.asg 7 (.c (.bool true)))])
 (.drop [105] .ret)))))))))
abbrev Ah1 : List RS := [.t 6, .t 7]
theorem Agg : Bd Try.prog Pq 106 Agi Ah1 = true := by kernel_rfl
def Acv : ACode :=
 (.seq (.reg [un (.fadr 7 2 (.t 3)),
 un (.ld 8 1 false (.t 7)),
 un (.asg 9 (.t 8)),
 ⟨some (9, false), .fadr 10 0 (.t 3)⟩,
 ⟨some (9, false), .ld 11 1 false (.t 10)⟩,
 ⟨some (9, false), .mov 12 (.t 1)⟩,
 ⟨some (9, false), .call 13 Ko [((.t 11), false), ((.t 12), false)]⟩,
 ⟨some (9, false), .bin 14 .geq (.t 13) (.c (.int .i64 0))⟩,
 un (.pick 15 (.t 9) (.c (.bool true)) (.t 14))])
 (.drop [7, 8, 9, 10, 11, 12, 13, 14] (.cond (.t 15) (.seq (.reg [un (.ld 16 3 true (.t 3)),
 un (.st 3 (.t 6) (.t 16))])
 (.drop [16] .ret))
 .skip)))
def Ajh : ACode :=
 (.seq (.reg [un (.box 3 (.t 0)),
 un (.box 5 (.t 2)),
 un (.alc 6 (.agg [.nilsl 1, .nilsl 2, .bool false]))])
 (.seq (.cut Acv)
 (.drop [7, 8, 9, 10, 11, 12, 13, 14, 15, 16] (.seq (.seq (.reg [un (.fadr 17 0 (.t 3)),
 un (.ld 18 1 false (.t 17)),
 un (.len 19 (.t 18)),
 un (.bin 20 .eql (.t 19) (.c (.int .i64 60)))])
 (.drop [17, 18, 19] (.cond (.t 20) (.seq (.reg [un (.fadr 21 2 (.t 3)),
 un (.st 1 (.t 21) (.c (.bool true)))])
 (.drop [21] (.seq (.reg [un (.ld 22 3 true (.t 3)),
 un (.st 3 (.t 6) (.t 22))])
 (.drop [22] .ret))))
 .skip)))
 (.drop [17, 18, 19, 20, 21, 22] (.seq (.reg [un (.fadr 23 0 (.t 3)),
 un (.ld 24 1 false (.t 23)),
 un (.mov 25 (.t 1)),
 un (.bsl 26 1 [(.t 25)]),
 un (.app 27 1 (.t 24) (.t 26)),
 un (.fadr 28 0 (.t 3)),
 un (.st 1 (.t 28) (.t 27))])
 (.drop [23, 24, 25, 26, 27, 28] (.seq (.reg [un (.fadr 29 1 (.t 3)),
 un (.ld 30 1 false (.t 29)),
 un (.ld 31 2 true (.t 5)),
 un (.bsl 32 2 [(.t 31)]),
 un (.app 33 2 (.t 30) (.t 32)),
 un (.fadr 34 1 (.t 3)),
 un (.st 1 (.t 34) (.t 33))])
 (.drop [29, 30, 31, 32, 33, 34] (.seq (.reg [un (.ld 35 3 true (.t 3)),
 un (.st 3 (.t 6) (.t 35))])
 (.drop [35] .ret)))))))))))
abbrev Ai3 : List RS := [.c 6 3 true]
theorem Aix : Bd Try.prog M8 36 Ajh Ai3 = true := by kernel_rfl
def Agk : ACode :=
 (.seq (.reg [un (.box 5 (.t 1)),
 un (.alc 8 (.agg [.int .i64 0, .nilsl 1])),
 un (.asg 9 (.c (.bool false)))])
 (.seq (.seq (.reg [un (.mov 10 (.t 0)),
 un (.call 11 Fp [((.t 10), false)]),
 un (.un 12 .not (.t 11)),
 un (.asg 13 (.t 12)),
 ⟨some (13, false), .mov 14 (.t 0)⟩,
 ⟨some (13, false), .ld 15 2 true (.t 5)⟩,
 ⟨some (13, false), .call 16 Fk [((.t 14), false), ((.t 15), false)]⟩,
 ⟨some (13, false), .un 17 .not (.t 16)⟩,
 un (.pick 18 (.t 13) (.c (.bool true)) (.t 17)),
 un (.asg 19 (.t 18)),
 ⟨some (19, false), .mov 20 (.t 2)⟩,
 ⟨some (19, false), .len 21 (.t 20)⟩,
 ⟨some (19, false), .fadr 22 0 (.t 5)⟩,
 ⟨some (19, false), .ld 23 1 false (.t 22)⟩,
 ⟨some (19, false), .bin 24 .neq (.t 21) (.t 23)⟩,
 un (.pick 25 (.t 19) (.c (.bool true)) (.t 24)),
 un (.asg 26 (.t 25)),
 ⟨some (26, false), .mov 27 (.t 3)⟩,
 ⟨some (26, false), .call 28 Gh [((.t 27), false), ((.c (.int .i64 1)), false), ((.c (.int .i64 3)), false)]⟩,
 ⟨some (26, false), .un 29 .not (.t 28)⟩,
 un (.pick 30 (.t 26) (.c (.bool true)) (.t 29)),
 un (.asg 31 (.t 30)),
 ⟨some (31, false), .mov 32 (.t 3)⟩,
 ⟨some (31, false), .mov 33 (.t 2)⟩,
 ⟨some (31, false), .call 34 L7 [((.t 32), false), ((.t 33), false)]⟩,
 ⟨some (31, false), .un 35 .not (.t 34)⟩,
 un (.pick 36 (.t 31) (.c (.bool true)) (.t 35))])
 (.drop [10, 11, 12, 13, 14, 15, 16, 17, 18, 19, 20, 21, 22, 23, 24, 25, 26, 27, 28, 29, 30, 31, 32, 33, 34, 35] (.cond (.t 36) (.seq (.reg [un (.bld 37 [.int .i64 0, .nilsl 1] []),
 un (.st 2 (.t 8) (.t 37)),
 un (.asg 9 (.c (.bool false)))])
 (.drop [37] .ret))
 .skip)))
 (.drop [10, 11, 12, 13, 14, 15, 16, 17, 18, 19, 20, 21, 22, 23, 24, 25, 26, 27, 28, 29, 30, 31, 32, 33, 34, 35, 36, 37] (.seq (.reg [un (.mov 38 (.t 0)),
 un (.ld 39 2 true (.t 5)),
 un (.mov 40 (.t 2)),
 un (.mov 41 (.t 3)),
 un (.call 42 Kp [((.t 38), false), ((.t 39), false), ((.t 40), false), ((.t 41), false)]),
 un (.st 2 (.t 8) (.t 42)),
 un (.asg 9 (.c (.bool true)))])
 (.drop [38, 39, 40, 41, 42] .ret)))))
abbrev Ag3 : List RS := [.c 8 2 true, .t 9]
theorem Aib : Bd Try.prog Qv 43 Agk Ag3 = true := by kernel_rfl
def Tc : ACode :=
 (.seq (.reg [un (.mov 32 (.t 4)),
 un (.bin 33 .eql (.t 32) (.c (.int .i64 4))),
 un (.asg 34 (.t 33)),
 ⟨some (34, true), .fadr 35 0 (.t 7)⟩,
 ⟨some (34, true), .ld 36 1 false (.t 35)⟩,
 ⟨some (34, true), .bin 37 .eql (.t 36) (.c (.int .i64 3))⟩,
 un (.pick 38 (.t 34) (.t 37) (.c (.bool false)))])
 (.drop [32, 33, 34, 35, 36, 37] (.cond (.t 38) (.reg [un (.fadr 39 0 (.t 7)),
 un (.st 1 (.t 39) (.c (.int .i64 2)))])
 .skip)))
def K2 : ACode :=
 (.seq (.seq (.reg [un (.mov 44 (.t 8)),
 un (.bin 45 .gtr (.t 44) (.c (.int .i64 0)))])
 (.drop [44] (.cond (.t 45) .skip
 (.exit 2))))
 (.drop [44, 45] (.seq (.block 3 (.dreg [(un (.fadr 48 1 (.t 7)), [132, 52]),
 (un (.ld 49 1 false (.t 48)), [132, 52]),
 (un (.mov 50 (.t 0)), [48, 49]),
 (un (.mov 51 (.t 4)), [48, 49, 50]),
 (un (.call 52 As [((.t 50), true), ((.t 51), false)]), [132, 48, 49]),
 (un (.bsl 53 1 [(.t 52)]), [48, 49])]
 [un (.app 54 1 (.t 49) (.t 53)),
 un (.fadr 55 1 (.t 7)),
 un (.st 1 (.t 55) (.t 54))]))
 (.drop [48, 49, 50, 51, 52, 53, 54, 55] (.reg [un (.mov 46 (.t 8)),
 un (.bin 47 .sub (.t 46) (.c (.int .i64 1))),
 un (.asg 8 (.t 47))])))))
def Lc : ACode :=
 (.seq (.seq (.reg [un (.mov 24 (.t 6)),
 un (.bin 25 .gtr (.t 24) (.c (.int .i64 0)))])
 (.drop [24] (.cond (.t 25) .skip
 (.exit 0))))
 (.drop [24, 25] (.seq (.block 1 (.seq (.reg [un (.mov 28 (.t 0)),
 un (.bsl 29 1 [(.c (.int .i64 0)), (.c (.int .i64 1)), (.c (.int .i64 2)), (.c (.int .i64 2)), (.c (.int .i64 3))]),
 un (.call 30 A5 [((.t 28), true), ((.t 29), false)]),
 un (.bld 31 [.int .i64 0, .nilsl 1] [(0, 1, (.t 30))]),
 un (.alc 7 (.agg [.int .i64 0, .nilsl 1])),
 un (.st 2 (.t 7) (.t 31))])
 (.drop [28, 29, 30, 31] (.seq (.cut Tc)
 (.drop [32, 33, 34, 35, 36, 37, 38, 39] (.seq (.seq (.reg [un (.mov 40 (.t 4)),
 un (.fadr 41 0 (.t 7)),
 un (.ld 42 1 false (.t 41)),
 un (.call 43 Ep [((.t 40), false), ((.t 42), false)]),
 un (.asg 8 (.t 43))])
 (.drop [40, 41, 42, 43] (.block 2 (.loop K2))))
 (.drop [40, 41, 42, 43, 8, 44, 45, 48, 49, 50, 51, 52, 53, 54, 55, 46, 47] (.reg [un (.fadr 56 1 (.t 5)),
 un (.ld 57 1 false (.t 56)),
 un (.ld 58 2 true (.t 7)),
 un (.bsl 59 2 [(.t 58)]),
 un (.app 60 2 (.t 57) (.t 59)),
 un (.fadr 61 1 (.t 5)),
 un (.st 1 (.t 61) (.t 60))]))))))))
 (.drop [28, 29, 30, 31, 7, 32, 33, 34, 35, 36, 37, 38, 39, 40, 41, 42, 43, 8, 44, 45, 48, 49, 50, 51, 52, 53, 54, 55, 46, 47, 56, 57, 58, 59, 60, 61] (.reg [un (.mov 26 (.t 6)),
 un (.bin 27 .sub (.t 26) (.c (.int .i64 1))),
 un (.asg 6 (.t 27))])))))
def Lg : ACode :=
 (.seq (.seq (.dreg [(un (.fadr 116 1 (.t 5)), [132]),
 (un (.ld 117 1 false (.t 116)), [132]),
 (un (.len 118 (.t 117)), [132]),
 (un (.mov 119 (.t 0)), [116, 117, 118]),
 (un (.call 120 As [((.t 119), true), ((.c (.int .i64 2)), false)]), [132, 116, 117, 118]),
 (un (.bin 121 .add (.c (.int .i64 4)) (.t 120)), [116, 117, 118])]
 [un (.bin 122 .lss (.t 118) (.t 121))])
 (.drop [116, 117, 118, 119, 120, 121] (.cond (.t 122) .skip
 (.exit 5))))
 (.drop [116, 117, 118, 119, 120, 121, 122] (.block 6 (.dregl [(0, .fadr 123 1 (.t 5)),
 (1, .ld 124 1 false (.t 123)),
 (2, .mov 125 (.t 4))]
 (.alt 3 (.mk 126 1 (.int .i64 0) (.t 125)) [0, 1, 2] [] (.alt 4 (.bld 127 [.int .i64 0, .nilsl 1] [(0, 1, (.c (.int .i64 1))), (1, 1, (.t 126))]) [0, 1] [] (.alt 5 (.bsl 128 2 [(.t 127)]) [0, 1] [] (.alt 6 (.app 129 2 (.t 124) (.t 128)) [0, 1] [124] (.alt 7 (.fadr 130 1 (.t 5)) [] [] (.alt 8 (.st 1 (.t 130) (.t 129)) [] [] .nil .nil) .nil) .nil) .nil) .nil) .nil)))))
def Wj : ACode :=
 (.seq (.reg [un (.alc 2 (.agg [.int .i64 0, .nilsl 2]))])
 (.seq (.seq (.reg [un (.mov 9 (.t 0)),
 un (.call 10 Fn [((.t 9), true), ((.c (.int .i64 4)), false)]),
 un (.un 11 .not (.t 10))])
 (.drop [9, 10] (.cond (.t 11) (.seq (.reg [un (.mov 12 (.t 0)),
 un (.call 13 As [((.t 12), true), ((.c (.int .i64 17)), false)]),
 un (.call 14 P6 [((.t 13), false)]),
 un (.alc 3 (.agg [.int .i64 0, .nilsl 2])),
 un (.st 2 (.t 3) (.t 14))])
 (.drop [12, 13, 14] (.seq (.reg [un (.ld 15 2 true (.t 3)),
 un (.st 2 (.t 2) (.t 15))])
 (.drop [15] .ret))))
 .skip)))
 (.drop [9, 10, 11, 12, 13, 14, 3, 15] (.seq (.reg [un (.mov 16 (.t 0)),
 un (.bsl 17 1 [(.c (.int .i64 2)), (.c (.int .i64 2)), (.c (.int .i64 3)), (.c (.int .i64 3)), (.c (.int .i64 4))]),
 un (.call 18 A5 [((.t 16), true), ((.t 17), false)]),
 un (.asg 4 (.t 18))])
 (.drop [16, 17, 18] (.seq (.reg [un (.mov 19 (.t 4)),
 un (.bld 20 [.int .i64 0, .nilsl 2] [(0, 1, (.t 19))]),
 un (.alc 5 (.agg [.int .i64 0, .nilsl 2])),
 un (.st 2 (.t 5) (.t 20))])
 (.drop [19, 20] (.seq (.seq (.reg [un (.mov 21 (.t 0)),
 un (.bsl 22 1 [(.c (.int .i64 1)), (.c (.int .i64 1)), (.c (.int .i64 2))]),
 un (.call 23 A5 [((.t 21), true), ((.t 22), false)]),
 un (.asg 6 (.t 23))])
 (.drop [21, 22, 23] (.block 0 (.loop Lc))))
 (.drop [21, 22, 23, 6, 24, 25, 28, 29, 30, 31, 7, 32, 33, 34, 35, 36, 37, 38, 39, 40, 41, 42, 43, 8, 44, 45, 48, 49, 50, 51, 52, 53, 54, 55, 46, 47, 56, 57, 58, 59, 60, 61, 26, 27] (.seq (.seq (.reg [un (.mov 62 (.t 0)),
 un (.call 63 As [((.t 62), true), ((.c (.int .i64 16)), false)])])
 (.drop [62] (.block 4 (.seq (.reg [un (.bin 65 .eql (.t 63) (.c (.int .i64 0))),
 un (.asg 64 (.t 65))])
 (.drop [65] (.cond (.t 64) (.reg [un (.mov 66 (.t 0)),
 un (.mov 67 (.t 4)),
 un (.bin 68 .add (.t 67) (.c (.int .i64 1))),
 un (.bsl 69 1 [(.c (.int .i64 0)), (.c (.int .i64 9)), (.t 68)]),
 un (.call 70 A5 [((.t 66), true), ((.t 69), false)]),
 un (.fadr 71 0 (.t 5)),
 un (.st 1 (.t 71) (.t 70))])
 (.seq (.reg [un (.bin 73 .eql (.t 63) (.c (.int .i64 1))),
 un (.asg 72 (.t 73))])
 (.drop [73] (.cond (.t 72) (.dregl [(0, .fadr 74 1 (.t 5)),
 (1, .ld 75 1 false (.t 74)),
 (2, .fadr 76 1 (.t 5)),
 (3, .ld 77 1 false (.t 76)),
 (4, .iad 78 2 (.t 77) (.c (.int .i64 0))),
 (5, .fadr 79 1 (.t 78)),
 (6, .ld 80 1 false (.t 79))]
 (.alt 7 (.bsl 81 1 [(.c (.int .i64 0))]) [0, 1, 2, 3, 4, 5, 6] [] (.alt 8 (.app 82 1 (.t 80) (.t 81)) [0, 1, 2, 3, 4, 5, 6] [80] (.alt 9 (.iad 83 2 (.t 75) (.c (.int .i64 0))) [0, 1] [] (.alt 10 (.fadr 84 1 (.t 83)) [] [] (.alt 11 (.st 1 (.t 84) (.t 82)) [] [] .nil .nil) .nil) .nil) .nil) .nil))
 (.seq (.reg [un (.bin 86 .eql (.t 63) (.c (.int .i64 2))),
 un (.asg 85 (.t 86))])
 (.drop [86] (.cond (.t 85) (.dregl [(0, .fadr 87 1 (.t 5)),
 (1, .ld 88 1 false (.t 87)),
 (2, .iad 89 2 (.t 88) (.c (.int .i64 0))),
 (3, .fadr 90 1 (.t 89)),
 (4, .ld 91 1 false (.t 90)),
 (5, .mov 92 (.t 0)),
 (6, .fadr 93 1 (.t 5)),
 (7, .ld 94 1 false (.t 93)),
 (8, .iad 95 2 (.t 94) (.c (.int .i64 0))),
 (9, .fadr 96 1 (.t 95)),
 (10, .ld 97 1 false (.t 96)),
 (13, .mov 100 (.t 0)),
 (14, .mov 101 (.t 4))]
 (.alt 11 (.len 98 (.t 97)) [0, 1, 2, 3, 4, 5, 6, 7, 8, 9, 10, 13, 14] [] (.alt 12 (.call 99 As [((.t 92), true), ((.t 98), false)]) [0, 1, 2, 3, 4, 5, 13, 14] [] (.alt 15 (.bsl 102 1 [(.c (.int .i64 (-1))), (.t 101)]) [0, 1, 2, 3, 4, 13, 14] [] (.alt 16 (.call 103 A5 [((.t 100), true), ((.t 102), false)]) [0, 1, 2, 3, 4, 13] [] (.alt 17 (.iad 104 1 (.t 91) (.t 99)) [0, 1, 2, 3, 4] [] (.alt 18 (.st 1 (.t 104) (.t 103)) [] [] .nil .nil) .nil) .nil) .nil) (.alt 15 (.bsl 102 1 [(.c (.int .i64 (-1))), (.t 101)]) [0, 1, 2, 3, 4, 5, 13, 14] [] (.alt 12 (.call 99 As [((.t 92), true), ((.t 98), false)]) [0, 1, 2, 3, 4, 5, 13] [] (.alt 16 (.call 103 A5 [((.t 100), true), ((.t 102), false)]) [0, 1, 2, 3, 4, 13] [] (.alt 17 (.iad 104 1 (.t 91) (.t 99)) [0, 1, 2, 3, 4] [] (.alt 18 (.st 1 (.t 104) (.t 103)) [] [] .nil .nil) .nil) .nil) .nil) .nil)) (.alt 15 (.bsl 102 1 [(.c (.int .i64 (-1))), (.t 101)]) [0, 1, 2, 3, 4, 5, 6, 7, 8, 9, 10, 13, 14] [] (.alt 11 (.len 98 (.t 97)) [0, 1, 2, 3, 4, 5, 6, 7, 8, 9, 10, 13] [] (.alt 12 (.call 99 As [((.t 92), true), ((.t 98), false)]) [0, 1, 2, 3, 4, 5, 13] [] (.alt 16 (.call 103 A5 [((.t 100), true), ((.t 102), false)]) [0, 1, 2, 3, 4, 13] [] (.alt 17 (.iad 104 1 (.t 91) (.t 99)) [0, 1, 2, 3, 4] [] (.alt 18 (.st 1 (.t 104) (.t 103)) [] [] .nil .nil) .nil) .nil) .nil) .nil) .nil)))
 (.seq (.reg [un (.bin 106 .eql (.t 63) (.c (.int .i64 3))),
 un (.asg 105 (.t 106))])
 (.drop [106] (.cond (.t 105) (.dregl [(0, .fadr 107 1 (.t 5)),
 (1, .ld 108 1 false (.t 107)),
 (2, .mov 109 (.t 0))]
 (.alt 3 (.bsl 110 1 [(.c (.int .i64 (-1))), (.c (.int .i64 4))]) [0, 1, 2] [] (.alt 4 (.call 111 A5 [((.t 109), true), ((.t 110), false)]) [0, 1, 2] [] (.alt 5 (.iad 112 2 (.t 108) (.c (.int .i64 0))) [0, 1] [] (.alt 6 (.fadr 113 0 (.t 112)) [] [] (.alt 7 (.st 1 (.t 113) (.t 111)) [] [] .nil .nil) .nil) .nil) .nil) .nil))
 (.seq (.reg [un (.bin 115 .eql (.t 63) (.c (.int .i64 4))),
 un (.asg 114 (.t 115))])
 (.drop [115] (.cond (.t 114) (.block 5 (.loop Lg))
 .skip))))))))))))))))))
 (.drop [62, 63, 65, 64, 66, 67, 68, 69, 70, 71, 73, 72, 74, 75, 76, 77, 78, 79, 80, 81, 82, 83, 84, 86, 85, 87, 88, 89, 90, 91, 92, 93, 94, 95, 96, 97, 98, 99, 100, 101, 102, 103, 104, 106, 105, 107, 108, 109, 110, 111, 112, 113, 115, 114, 116, 117, 118, 119, 120, 121, 122, 123, 124, 125, 126, 127, 128, 129, 130] (.seq (.reg [un (.ld 131 2 true (.t 5)),
 un (.st 2 (.t 2) (.t 131))])
 (.drop [131] .ret)))))))))))))
abbrev Xp : List RS := [.c 2 2 true]
theorem W8 : Bd Try.prog Ja 132 Wj Xp = true := by kernel_rfl
def Tk : ACode :=
 (.seq (.reg [un (.ld 6 2 true (.t 2)),
 un (.call 7 My [((.t 6), false)]),
 un (.un 8 .not (.t 7)),
 un (.asg 9 (.t 8)),
 ⟨some (9, false), .fadr 10 0 (.t 2)⟩,
 ⟨some (9, false), .ld 11 1 false (.t 10)⟩,
 ⟨some (9, false), .mov 12 (.t 1)⟩,
 ⟨some (9, false), .call 13 J8 [((.t 11), false), ((.t 12), false)]⟩,
 ⟨some (9, false), .un 14 .not (.t 13)⟩,
 un (.pick 15 (.t 9) (.c (.bool true)) (.t 14))])
 (.drop [6, 7, 8, 9, 10, 11, 12, 13, 14] (.cond (.t 15) (.seq (.reg [un (.asg 4 (.c (.nilp))),
 un (.asg 5 (.c (.bool false)))])
 .ret)
 .skip)))
def Xv : ACode :=
 (.seq (.reg [un (.box 2 (.t 0)),
 un (.asg 4 (.c (.nilp))),
 un (.asg 5 (.c (.bool false)))])
 (.seq (.cut Tk)
 (.drop [6, 7, 8, 9, 10, 11, 12, 13, 14, 15] (.seq (.reg [un (.fadr 16 0 (.t 2)),
 un (.ld 17 1 false (.t 16)),
 un (.fadr 18 1 (.t 2)),
 un (.ld 19 1 false (.t 18)),
 un (.mov 20 (.t 1)),
 un (.call 21 Pq [((.t 17), false), ((.t 19), false), ((.t 20), false)]),
 un (.ext 22 (.t 21) 0),
 un (.ext 23 (.t 21) 1),
 un (.asg 4 (.t 22)),
 un (.asg 5 (.t 23))])
 (.drop [16, 17, 18, 19, 20, 21, 22, 23] .ret)))))
abbrev Wi : List RS := [.t 4, .t 5]
theorem W4 : Bd Try.prog Gp 24 Xv Wi = true := by kernel_rfl
def Als : ACode :=
 (.seq (.reg [un (.box 2 (.t 0)),
 un (.box 3 (.t 1)),
 un (.asg 4 (.c (.bool false)))])
 (.seq (.reg [un (.ld 5 2 true (.t 2)),
 un (.call 6 Kj [((.t 5), false)]),
 un (.asg 7 (.t 6)),
 ⟨some (7, true), .fadr 8 0 (.t 2)⟩,
 ⟨some (7, true), .ld 9 1 false (.t 8)⟩,
 ⟨some (7, true), .fadr 10 0 (.t 3)⟩,
 ⟨some (7, true), .ld 11 1 false (.t 10)⟩,
 ⟨some (7, true), .call 12 He [((.t 9), false), ((.t 11), false)]⟩,
 un (.pick 13 (.t 7) (.t 12) (.c (.bool false))),
 un (.asg 14 (.t 13)),
 ⟨some (14, true), .fadr 15 0 (.t 2)⟩,
 ⟨some (14, true), .ld 16 1 false (.t 15)⟩,
 ⟨some (14, true), .ld 17 2 true (.t 3)⟩,
 ⟨some (14, true), .call 18 Fk [((.t 16), false), ((.t 17), false)]⟩,
 un (.pick 19 (.t 14) (.t 18) (.c (.bool false))),
 un (.asg 4 (.t 19))])
 (.drop [5, 6, 7, 8, 9, 10, 11, 12, 13, 14, 15, 16, 17, 18, 19] .ret)))
abbrev Ame : List RS := [.t 4]
theorem Akj : Bd Try.prog U1 20 Als Ame = true := by kernel_rfl
def I4 : ACode :=
 (.seq (.seq (.reg [un (.mov 18 (.t 6)),
 un (.bin 19 .gtr (.t 18) (.c (.int .i64 0)))])
 (.drop [18] (.cond (.t 19) .skip
 (.exit 0))))
 (.drop [18, 19] (.seq (.block 1 (.dreg [(un (.fadr 22 1 (.t 5)), [68, 26]),
 (un (.ld 23 1 false (.t 22)), [68, 26]),
 (un (.mov 24 (.t 0)), [22, 23]),
 (un (.mov 25 (.t 1)), [22, 23, 24]),
 (un (.call 26 As [((.t 24), true), ((.t 25), false)]), [68, 22, 23]),
 (un (.bsl 27 1 [(.t 26)]), [22, 23])]
 [un (.app 28 1 (.t 23) (.t 27)),
 un (.fadr 29 1 (.t 5)),
 un (.st 1 (.t 29) (.t 28))]))
 (.drop [22, 23, 24, 25, 26, 27, 28, 29] (.reg [un (.mov 20 (.t 6)),
 un (.bin 21 .sub (.t 20) (.c (.int .i64 1))),
 un (.asg 6 (.t 21))])))))
def S6 : ACode :=
 (.seq (.reg [un (.alc 4 (.agg [.int .i64 0, .nilsl 1]))])
 (.seq (.reg [un (.mov 7 (.t 1)),
 un (.call 8 Kd [((.t 7), false), ((.c (.int .i64 1)), false)]),
 un (.call 9 Qe [((.t 8), false), ((.c (.int .i64 4)), false)]),
 un (.asg 1 (.t 9))])
 (.drop [7, 8, 9] (.seq (.reg [un (.mov 10 (.t 0)),
 un (.bsl 11 1 [(.c (.int .i64 1)), (.c (.int .i64 1)), (.c (.int .i64 2)), (.c (.int .i64 2)), (.c (.int .i64 2)), (.c (.int .i64 3)), (.c (.int .i64 0))]),
 un (.call 12 A5 [((.t 10), true), ((.t 11), false)]),
 un (.bld 13 [.int .i64 0, .nilsl 1] [(0, 1, (.t 12))]),
 un (.alc 5 (.agg [.int .i64 0, .nilsl 1])),
 un (.st 2 (.t 5) (.t 13))])
 (.drop [10, 11, 12, 13] (.seq (.seq (.reg [un (.mov 14 (.t 1)),
 un (.fadr 15 0 (.t 5)),
 un (.ld 16 1 false (.t 15)),
 un (.call 17 Ep [((.t 14), false), ((.t 16), false)]),
 un (.asg 6 (.t 17))])
 (.drop [14, 15, 16, 17] (.block 0 (.loop I4))))
 (.drop [14, 15, 16, 17, 6, 18, 19, 22, 23, 24, 25, 26, 27, 28, 29, 20, 21] (.seq (.seq (.reg [un (.mov 30 (.t 0)),
 un (.call 31 As [((.t 30), true), ((.c (.int .i64 12)), false)])])
 (.drop [30] (.block 2 (.seq (.reg [un (.bin 33 .eql (.t 31) (.c (.int .i64 0))),
 un (.asg 32 (.t 33))])
 (.drop [33] (.cond (.t 32) (.seq (.reg [un (.fadr 34 0 (.t 5)),
 un (.ld 35 1 false (.t 34)),
 un (.bin 36 .gtr (.t 35) (.c (.int .i64 0)))])
 (.drop [34, 35] (.cond (.t 36) (.dreg [(un (.mov 37 (.t 1)), [68]),
 (un (.fadr 38 0 (.t 5)), [68, 37]),
 (un (.ld 39 1 false (.t 38)), [68, 37]),
 (un (.mov 40 (.t 0)), [37, 38, 39]),
 (un (.fadr 41 0 (.t 5)), [37, 38, 39, 40]),
 (un (.ld 42 1 false (.t 41)), [37, 38, 39, 40]),
 (un (.call 43 As [((.t 40), true), ((.t 42), false)]), [68, 37, 38, 39])]
 [un (.call 44 Di [((.t 37), false), ((.t 39), false), ((.t 43), false)]),
 un (.fadr 45 1 (.t 5)),
 un (.st 1 (.t 45) (.t 44))])
 .skip)))
 (.seq (.reg [un (.bin 47 .eql (.t 31) (.c (.int .i64 1))),
 un (.asg 46 (.t 47))])
 (.drop [47] (.cond (.t 46) (.dregl [(0, .fadr 48 1 (.t 5)),
 (1, .ld 49 1 false (.t 48)),
 (2, .mov 50 (.t 0)),
 (3, .fadr 51 1 (.t 5)),
 (4, .ld 52 1 false (.t 51)),
 (7, .mov 55 (.t 0)),
 (8, .mov 56 (.t 1))]
 (.alt 5 (.len 53 (.t 52)) [0, 1, 2, 3, 4, 7, 8] [] (.alt 6 (.call 54 As [((.t 50), true), ((.t 53), false)]) [0, 1, 2, 7, 8] [] (.alt 9 (.bsl 57 1 [(.c (.int .i64 (-1))), (.t 56), (.c (.int .i64 0))]) [0, 1, 7, 8] [] (.alt 10 (.call 58 A5 [((.t 55), true), ((.t 57), false)]) [0, 1, 7] [] (.alt 11 (.iad 59 1 (.t 49) (.t 54)) [0, 1] [] (.alt 12 (.st 1 (.t 59) (.t 58)) [] [] .nil .nil) .nil) .nil) .nil) (.alt 9 (.bsl 57 1 [(.c (.int .i64 (-1))), (.t 56), (.c (.int .i64 0))]) [0, 1, 2, 7, 8] [] (.alt 6 (.call 54 As [((.t 50), true), ((.t 53), false)]) [0, 1, 2, 7] [] (.alt 10 (.call 58 A5 [((.t 55), true), ((.t 57), false)]) [0, 1, 7] [] (.alt 11 (.iad 59 1 (.t 49) (.t 54)) [0, 1] [] (.alt 12 (.st 1 (.t 59) (.t 58)) [] [] .nil .nil) .nil) .nil) .nil) .nil)) (.alt 9 (.bsl 57 1 [(.c (.int .i64 (-1))), (.t 56), (.c (.int .i64 0))]) [0, 1, 2, 3, 4, 7, 8] [] (.alt 5 (.len 53 (.t 52)) [0, 1, 2, 3, 4, 7] [] (.alt 6 (.call 54 As [((.t 50), true), ((.t 53), false)]) [0, 1, 2, 7] [] (.alt 10 (.call 58 A5 [((.t 55), true), ((.t 57), false)]) [0, 1, 7] [] (.alt 11 (.iad 59 1 (.t 49) (.t 54)) [0, 1] [] (.alt 12 (.st 1 (.t 59) (.t 58)) [] [] .nil .nil) .nil) .nil) .nil) .nil) .nil)))
 (.seq (.reg [un (.bin 61 .eql (.t 31) (.c (.int .i64 2))),
 un (.asg 60 (.t 61))])
 (.drop [61] (.cond (.t 60) (.reg [un (.fadr 62 1 (.t 5)),
 un (.ld 63 1 false (.t 62)),
 un (.bsl 64 1 [(.c (.int .i64 0))]),
 un (.app 65 1 (.t 63) (.t 64)),
 un (.fadr 66 1 (.t 5)),
 un (.st 1 (.t 66) (.t 65))])
 .skip))))))))))))
 (.drop [30, 31, 33, 32, 34, 35, 36, 37, 38, 39, 40, 41, 42, 43, 44, 45, 47, 46, 48, 49, 50, 51, 52, 53, 54, 55, 56, 57, 58, 59, 61, 60, 62, 63, 64, 65, 66] (.seq (.reg [un (.ld 67 2 true (.t 5)),
 un (.st 2 (.t 4) (.t 67))])
 (.drop [67] .ret)))))))))))
abbrev Tx : List RS := [.c 4 2 true]
theorem T5 : Bd Try.prog Dj 68 S6 Tx = true := by kernel_rfl
def W3 : ACode :=
 (.seq (.reg [un (.asg 2 (.c (.int .i64 0)))])
 (.seq (.reg [un (.mov 3 (.t 0)),
 un (.bsl 4 1 [(.c (.int .i64 1)), (.c (.int .i64 1)), (.c (.int .i64 2)), (.c (.int .i64 2)), (.c (.int .i64 2)), (.c (.int .i64 3)), (.c (.int .i64 0)), (.c (.int .i64 4))]),
 un (.mov 5 (.t 0)),
 un (.call 6 As [((.t 5), true), ((.c (.int .i64 24)), false)]),
 un (.bin 7 .quo (.t 6) (.c (.int .i64 11))),
 un (.bin 8 .add (.c (.int .i64 6)) (.t 7)),
 un (.slc 9 1 (.t 4) none (some (.t 8))),
 un (.call 10 A5 [((.t 3), true), ((.t 9), false)]),
 un (.asg 2 (.t 10))])
 (.drop [3, 4, 5, 6, 7, 8, 9, 10] .ret)))
abbrev W5 : List RS := [.t 2]
theorem Wm : Bd Try.prog Gk 11 W3 W5 = true := by kernel_rfl
def Zn : ACode :=
 (.seq (.reg [un (.mov 19 (.t 15)),
 un (.mov 20 (.t 4)),
 un (.fadr 21 0 (.t 9)),
 un (.ld 22 1 false (.t 21)),
 un (.call 23 Ep [((.t 20), false), ((.t 22), false)]),
 un (.bin 24 .lss (.t 19) (.t 23)),
 un (.asg 25 (.t 24)),
 ⟨some (25, true), .fadr 26 2 (.t 8)⟩,
 ⟨some (25, true), .ld 27 1 false (.t 26)⟩,
 ⟨some (25, true), .un 28 .not (.t 27)⟩,
 un (.pick 29 (.t 25) (.t 28) (.c (.bool false)))])
 (.drop [19, 20, 21, 22, 23, 24, 25, 26, 27, 28] (.cond (.t 29) .skip
 (.exit 0))))
def Po : ACode :=
 (.seq (.seq (.reg [un (.mov 45 (.t 18)),
 un (.mov 46 (.t 16)),
 un (.len 47 (.t 46)),
 un (.bin 48 .lss (.t 45) (.t 47))])
 (.drop [45, 46, 47] (.cond (.t 48) .skip
 (.exit 2))))
 (.drop [45, 46, 47, 48] (.seq (.block 3 (.dreg [(un (.mov 51 (.t 17)), [59]),
 (un (.fadr 52 0 (.t 8)), [51]),
 (un (.ld 53 1 false (.t 52)), [51]),
 (un (.mov 54 (.t 16)), [51, 52, 53]),
 (un (.mov 55 (.t 18)), [51, 52, 53, 54]),
 (un (.iad 56 1 (.t 54) (.t 55)), [51, 52, 53]),
 (un (.ld 57 1 false (.t 56)), [51, 52, 53]),
 (un (.iad 58 1 (.t 53) (.t 57)), [51]),
 (un (.ld 59 1 false (.t 58)), [51]),
 (un (.bsl 60 1 [(.t 59)]), [51])]
 [un (.app 61 1 (.t 51) (.t 60)),
 un (.asg 17 (.t 61))]))
 (.drop [51, 52, 53, 54, 55, 56, 57, 58, 59, 60, 61] (.reg [un (.mov 49 (.t 18)),
 un (.bin 50 .add (.t 49) (.c (.int .i64 1))),
 un (.asg 18 (.t 50))])))))
def Qh : ACode :=
 (.seq (.cut Zn)
 (.drop [19, 20, 21, 22, 23, 24, 25, 26, 27, 28, 29] (.seq (.block 1 (.seq (.seq (.reg [un (.mov 32 (.t 4)),
 un (.fadr 33 0 (.t 9)),
 un (.ld 34 1 false (.t 33)),
 un (.mov 35 (.t 15)),
 un (.mov 36 (.t 5)),
 un (.call 37 N7 [((.t 32), false), ((.t 34), false), ((.t 35), false), ((.t 36), false)]),
 un (.un 38 .not (.t 37))])
 (.drop [32, 33, 34, 35, 36, 37] (.cond (.t 38) (.exit 1)
 .skip)))
 (.drop [32, 33, 34, 35, 36, 37, 38] (.seq (.reg [un (.mov 39 (.t 4)),
 un (.fadr 40 0 (.t 9)),
 un (.ld 41 1 false (.t 40)),
 un (.mov 42 (.t 15)),
 un (.call 43 Nb [((.t 39), false), ((.t 41), false), ((.t 42), false)]),
 un (.asg 16 (.t 43))])
 (.drop [39, 40, 41, 42, 43] (.seq (.reg [un (.bsl 44 1 []),
 un (.asg 17 (.t 44))])
 (.drop [44] (.seq (.seq (.reg [un (.asg 18 (.c (.int .i64 0)))])
 (.block 2 (.loop Po)))
 (.drop [18, 45, 46, 47, 48, 51, 52, 53, 54, 55, 56, 57, 58, 59, 60, 61, 49, 50] (.frz [16] (.dreg [(un (.ld 62 3 true (.t 8)), []),
 (un (.mov 63 (.t 0)), [62]),
 (un (.ld 64 2 true (.t 9)), [62, 63]),
 (un (.mov 65 (.t 17)), [62, 63, 64]),
 (un (.mov 66 (.t 6)), [62, 63, 64, 65]),
 (un (.call 67 Gv [((.t 63), false), ((.t 64), false), ((.t 65), false), ((.t 66), false)]), [62]),
 (un (.mov 68 (.t 3)), [62, 63, 64, 65, 66, 67]),
 (un (.mov 69 (.t 16)), [62, 63, 64, 65, 66, 67, 68]),
 (un (.bld 70 [.int .i64 0, .nilsl 1] [(0, 1, (.t 68)), (1, 1, (.t 69))]), [62, 63, 64, 65, 66, 67])]
 [un (.call 71 M8 [((.t 62), true), ((.t 67), false), ((.t 70), false)]),
 un (.st 3 (.t 8) (.t 71))])))))))))))
 (.drop [32, 33, 34, 35, 36, 37, 38, 39, 40, 41, 42, 43, 16, 44, 17, 18, 45, 46, 47, 48, 51, 52, 53, 54, 55, 56, 57, 58, 59, 60, 61, 49, 50, 62, 63, 64, 65, 66, 67, 68, 69, 70, 71] (.reg [un (.mov 30 (.t 15)),
 un (.bin 31 .add (.t 30) (.c (.int .i64 1))),
 un (.asg 15 (.t 31))])))))
def Aet : ACode :=
 (.seq (.reg [un (.box 8 (.t 1)),
 un (.box 9 (.t 2)),
 un (.alc 14 (.agg [.nilsl 1, .nilsl 2, .bool false]))])
 (.seq (.seq (.reg [un (.asg 15 (.c (.int .i64 0)))])
 (.block 0 (.loop Qh)))
 (.drop [15, 19, 20, 21, 22, 23, 24, 25, 26, 27, 28, 29, 32, 33, 34, 35, 36, 37, 38, 39, 40, 41, 42, 43, 16, 44, 17, 18, 45, 46, 47, 48, 51, 52, 53, 54, 55, 56, 57, 58, 59, 60, 61, 49, 50, 62, 63, 64, 65, 66, 67, 68, 69, 70, 71, 30, 31] (.seq (.reg [un (.ld 72 3 true (.t 8)),
 un (.st 3 (.t 14) (.t 72))])
 (.drop [72] .ret)))))
abbrev Ae4 : List RS := [.c 14 3 true]
theorem Aep : Bd Try.prog N8 73 Aet Ae4 = true := by kernel_rfl
def Sa : ACode :=
 (.seq (.reg [un (.mov 15 (.t 7)),
 un (.un 16 .not (.t 15)),
 un (.asg 17 (.t 16)),
 ⟨some (17, false), .ld 18 2 true (.t 3)⟩,
 ⟨some (17, false), .fadr 19 0 (.t 2)⟩,
 ⟨some (17, false), .ld 20 1 false (.t 19)⟩,
 ⟨some (17, false), .call 21 Gj [((.t 18), false), ((.t 20), false)]⟩,
 ⟨some (17, false), .un 22 .not (.t 21)⟩,
 un (.pick 23 (.t 17) (.c (.bool true)) (.t 22))])
 (.drop [15, 16, 17, 18, 19, 20, 21, 22] (.cond (.t 23) (.seq (.reg [un (.asg 4 (.c (.bool false))),
 un (.asg 5 (.c (.bool false)))])
 .ret)
 .skip)))
def V8 : ACode :=
 (.seq (.reg [un (.box 2 (.t 0)),
 un (.box 3 (.t 1)),
 un (.asg 4 (.c (.bool false))),
 un (.asg 5 (.c (.bool false)))])
 (.seq (.reg [un (.ld 9 2 true (.t 2)),
 un (.fadr 10 0 (.t 3)),
 un (.ld 11 1 false (.t 10)),
 un (.call 12 Gp [((.t 9), false), ((.t 11), false)]),
 un (.asg 8 (.t 12)),
 un (.ext 13 (.t 8) 0),
 un (.ext 14 (.t 8) 1),
 un (.asg 6 (.t 13)),
 un (.asg 7 (.t 14))])
 (.drop [9, 10, 11, 12, 8, 13, 14] (.seq (.cut Sa)
 (.drop [15, 16, 17, 18, 19, 20, 21, 22, 23] (.seq (.dreg [(un (.mov 24 (.t 6)), []),
 (un (.nck 25 (.t 24)), []),
 (un (.fadr 26 2 (.t 25)), []),
 (un (.ld 27 1 false (.t 26)), []),
 (un (.fadr 28 1 (.t 3)), [24, 25, 26, 27]),
 (un (.ld 29 1 false (.t 28)), [24, 25, 26, 27]),
 (un (.call 30 O9 [((.t 29), false)]), [24, 25, 26, 27])]
 [un (.mlk 31 (.t 27) (.t 30) (.bool false) false),
 un (.asg 4 (.t 31)),
 un (.asg 5 (.c (.bool true)))])
 (.drop [24, 25, 26, 27, 28, 29, 30, 31] .ret)))))))
abbrev V1 : List RS := [.t 4, .t 5]
theorem Vy : Bd Try.prog F6 32 V8 V1 = true := by kernel_rfl
def Ww : ACode :=
 (.seq (.reg [un (.box 2 (.t 0)),
 un (.asg 4 (.c (.nilsl 2))),
 un (.asg 5 (.c (.bool false)))])
 (.seq (.reg [un (.ld 9 2 true (.t 2)),
 un (.mov 10 (.t 1)),
 un (.call 11 Gp [((.t 9), false), ((.t 10), false)]),
 un (.asg 8 (.t 11)),
 un (.ext 12 (.t 8) 0),
 un (.ext 13 (.t 8) 1),
 un (.asg 6 (.t 12)),
 un (.asg 7 (.t 13))])
 (.drop [9, 10, 11, 8, 12, 13] (.seq (.seq (.reg [un (.mov 14 (.t 7)),
 un (.un 15 .not (.t 14))])
 (.drop [14] (.cond (.t 15) (.seq (.reg [un (.bsl 16 2 []),
 un (.asg 4 (.t 16)),
 un (.asg 5 (.c (.bool false)))])
 (.drop [16] .ret))
 .skip)))
 (.drop [14, 15, 16] (.seq (.reg [un (.mov 17 (.t 1)),
 un (.mov 18 (.t 6)),
 un (.nck 19 (.t 18)),
 un (.fadr 20 0 (.t 19)),
 un (.ld 21 1 false (.t 20)),
 un (.call 22 Ug [((.t 17), false), ((.t 21), false)]),
 un (.asg 4 (.t 22)),
 un (.asg 5 (.c (.bool true)))])
 (.drop [17, 18, 19, 20, 21, 22] .ret)))))))
abbrev Xc : List RS := [.t 4, .t 5]
theorem Xi : Bd Try.prog Jc 23 Ww Xc = true := by kernel_rfl
def Me : ACode :=
 (.seq (.seq (.reg [un (.mov 29 (.t 11)),
 un (.fadr 30 0 (.t 8)),
 un (.ld 31 1 false (.t 30)),
 un (.bin 32 .lss (.t 29) (.t 31))])
 (.drop [29, 30, 31] (.cond (.t 32) .skip
 (.exit 0))))
 (.drop [29, 30, 31, 32] (.seq (.block 1 (.reg [un (.mov 35 (.t 10)),
 un (.mov 36 (.t 6)),
 un (.mov 37 (.t 9)),
 un (.call 38 Kd [((.t 37), false), ((.c (.int .i64 1)), false)]),
 un (.call 39 As [((.t 36), true), ((.t 38), false)]),
 un (.bsl 40 1 [(.t 39)]),
 un (.app 41 1 (.t 35) (.t 40)),
 un (.asg 10 (.t 41))]))
 (.drop [35, 36, 37, 38, 39, 40, 41] (.reg [un (.mov 33 (.t 11)),
 un (.bin 34 .add (.t 33) (.c (.int .i64 1))),
 un (.asg 11 (.t 34))])))))
def V6 : ACode :=
 (.seq (.reg [un (.mov 42 (.t 6)),
 un (.call 43 Fn [((.t 42), true), ((.c (.int .i64 16)), false)])])
 (.drop [42] (.cond (.t 43) (.reg [un (.mov 44 (.t 10)),
 un (.mov 45 (.t 6)),
 un (.mov 46 (.t 9)),
 un (.bsl 47 1 [(.c (.int .i64 0)), (.t 46)]),
 un (.call 48 A5 [((.t 45), true), ((.t 47), false)]),
 un (.bsl 49 1 [(.t 48)]),
 un (.app 50 1 (.t 44) (.t 49)),
 un (.asg 10 (.t 50))])
 .skip)))
def Z0 : ACode :=
 (.seq (.reg [un (.asg 2 (.c (.int .i64 0))),
 un (.alc 3 (.agg [.int .i64 0, .nilsl 1])),
 un (.asg 4 (.c (.nilsl 1))),
 un (.asg 5 (.c (.int .i64 0)))])
 (.seq (.reg [un (.mov 12 (.t 0)),
 un (.bld 13 [.nilsl 1, .int .i64 0, .int .u64 0] [(0, 1, (.t 12))]),
 un (.box 14 (.t 13)),
 un (.asg 6 (.t 14))])
 (.drop [12, 13, 14] (.seq (.reg [un (.mov 15 (.t 6)),
 un (.bsl 16 1 [(.c (.int .i64 1)), (.c (.int .i64 2)), (.c (.int .i64 2)), (.c (.int .i64 3)), (.c (.int .i64 4)), (.c (.int .i64 0)), (.c (.int .i64 9))]),
 un (.mov 17 (.t 6)),
 un (.call 18 As [((.t 17), true), ((.c (.int .i64 24)), false)]),
 un (.bin 19 .quo (.t 18) (.c (.int .i64 11))),
 un (.bin 20 .add (.c (.int .i64 5)) (.t 19)),
 un (.slc 21 1 (.t 16) none (some (.t 20))),
 un (.call 22 A5 [((.t 15), true), ((.t 21), false)]),
 un (.asg 7 (.t 22))])
 (.drop [15, 16, 17, 18, 19, 20, 21, 22] (.seq (.reg [un (.mov 23 (.t 6)),
 un (.mov 24 (.t 7)),
 un (.call 25 Dj [((.t 23), true), ((.t 24), false)]),
 un (.alc 8 (.agg [.int .i64 0, .nilsl 1])),
 un (.st 2 (.t 8) (.t 25))])
 (.drop [23, 24, 25] (.seq (.reg [un (.mov 26 (.t 6)),
 un (.call 27 Gk [((.t 26), true)]),
 un (.asg 9 (.t 27))])
 (.drop [26, 27] (.seq (.reg [un (.bsl 28 1 []),
 un (.asg 10 (.t 28))])
 (.drop [28] (.seq (.seq (.reg [un (.asg 11 (.c (.int .i64 0)))])
 (.block 0 (.loop Me)))
 (.drop [11, 29, 30, 31, 32, 35, 36, 37, 38, 39, 40, 41, 33, 34] (.seq (.cut V6)
 (.drop [42, 43, 44, 45, 46, 47, 48, 49, 50] (.seq (.frz [8] (.dregl [(0, .mov 51 (.t 7)),
 (1, .ld 52 2 true (.t 8)),
 (2, .mov 53 (.t 10)),
 (3, .mov 54 (.t 9))]
 (.alt 4 (.asg 2 (.t 51)) [0, 1, 2, 3] [] (.alt 5 (.st 2 (.t 3) (.t 52)) [1, 2, 3] [] (.alt 6 (.asg 4 (.t 53)) [2, 3] [] (.alt 7 (.asg 5 (.t 54)) [3] [] .nil .nil) .nil) .nil) .nil)))
 (.drop [51, 52, 53, 54] .ret)))))))))))))))))
abbrev Z2 : List RS := [.t 2, .c 3 2 true, .t 4, .t 5]
theorem Aag : Bd Try.prog Kw 55 Z0 Z2 = true := by kernel_rfl
def Ny : ACode :=
 (.reg [un (.mov 24 (.t 5)),
 un (.call 25 Fp [((.t 24), false)]),
 un (.asg 26 (.t 25)),
 ⟨some (26, true), .mov 27 (.t 5)⟩,
 ⟨some (26, true), .ld 28 2 true (.t 6)⟩,
 ⟨some (26, true), .call 29 Fk [((.t 27), false), ((.t 28), false)]⟩,
 un (.pick 30 (.t 26) (.t 29) (.c (.bool false))),
 un (.asg 31 (.t 30)),
 ⟨some (31, true), .fadr 32 0 (.t 6)⟩,
 ⟨some (31, true), .ld 33 1 false (.t 32)⟩,
 ⟨some (31, true), .bin 34 .gtr (.t 33) (.c (.int .i64 0))⟩,
 un (.pick 35 (.t 31) (.t 34) (.c (.bool false))),
 un (.asg 36 (.t 35)),
 ⟨some (36, true), .mov 37 (.t 4)⟩,
 ⟨some (36, true), .call 38 Fn [((.t 37), true), ((.c (.int .i64 3)), false)]⟩,
 un (.pick 39 (.t 36) (.t 38) (.c (.bool false)))])
def Hs : ACode :=
 (.seq (.seq (.reg [un (.mov 46 (.t 9)),
 un (.fadr 47 0 (.t 6)),
 un (.ld 48 1 false (.t 47)),
 un (.bin 49 .lss (.t 46) (.t 48))])
 (.drop [46, 47, 48] (.cond (.t 49) .skip
 (.exit 0))))
 (.drop [46, 47, 48, 49] (.seq (.block 1 (.reg [un (.mov 52 (.t 8)),
 un (.mov 53 (.t 4)),
 un (.mov 54 (.t 7)),
 un (.call 55 As [((.t 53), true), ((.t 54), false)]),
 un (.bsl 56 1 [(.t 55)]),
 un (.app 57 1 (.t 52) (.t 56)),
 un (.asg 8 (.t 57))]))
 (.drop [52, 53, 54, 55, 56, 57] (.reg [un (.mov 50 (.t 9)),
 un (.bin 51 .add (.t 50) (.c (.int .i64 1))),
 un (.asg 9 (.t 51))])))))
def P2 : ACode :=
 (.seq (.reg [un (.asg 2 (.c (.int .i64 0))),
 un (.alc 3 (.agg [.int .i64 0, .nilsl 1]))])
 (.seq (.reg [un (.mov 10 (.t 0)),
 un (.bld 11 [.nilsl 1, .int .i64 0, .int .u64 0] [(0, 1, (.t 10))]),
 un (.box 12 (.t 11)),
 un (.asg 4 (.t 12))])
 (.drop [10, 11, 12] (.seq (.reg [un (.mov 13 (.t 4)),
 un (.bsl 14 1 [(.c (.int .i64 1)), (.c (.int .i64 2)), (.c (.int .i64 2)), (.c (.int .i64 3)), (.c (.int .i64 4)), (.c (.int .i64 0)), (.c (.int .i64 9))]),
 un (.mov 15 (.t 4)),
 un (.call 16 As [((.t 15), true), ((.c (.int .i64 24)), false)]),
 un (.bin 17 .quo (.t 16) (.c (.int .i64 11))),
 un (.bin 18 .add (.c (.int .i64 5)) (.t 17)),
 un (.slc 19 1 (.t 14) none (some (.t 18))),
 un (.call 20 A5 [((.t 13), true), ((.t 19), false)]),
 un (.asg 5 (.t 20))])
 (.drop [13, 14, 15, 16, 17, 18, 19, 20] (.seq (.reg [un (.mov 21 (.t 4)),
 un (.mov 22 (.t 5)),
 un (.call 23 Dj [((.t 21), true), ((.t 22), false)]),
 un (.alc 6 (.agg [.int .i64 0, .nilsl 1])),
 un (.st 2 (.t 6) (.t 23))])
 (.drop [21, 22, 23] (.seq (.seq (.cut Ny)
 (.drop [24, 25, 26, 27, 28, 29, 30, 31, 32, 33, 34, 35, 36, 37, 38] (.cond (.t 39) (.seq (.reg [un (.mov 40 (.t 4)),
 un (.fadr 41 0 (.t 6)),
 un (.ld 42 1 false (.t 41)),
 un (.call 43 As [((.t 40), true), ((.t 42), false)]),
 un (.bin 44 .add (.t 43) (.c (.int .i64 1))),
 un (.asg 7 (.t 44))])
 (.drop [40, 41, 42, 43, 44] (.seq (.reg [un (.bsl 45 1 []),
 un (.asg 8 (.t 45))])
 (.drop [45] (.seq (.seq (.reg [un (.asg 9 (.c (.int .i64 0)))])
 (.block 0 (.loop Hs)))
 (.drop [9, 46, 47, 48, 49, 52, 53, 54, 55, 56, 57, 50, 51] (.dreg [(un (.mov 58 (.t 5)), []),
 (un (.ld 59 2 true (.t 6)), [58]),
 (un (.mov 60 (.t 8)), [58, 59]),
 (un (.mov 61 (.t 7)), [58, 59, 60]),
 (un (.call 62 Kd [((.t 61), false), ((.c (.int .i64 2)), false)]), [58, 59, 60])]
 [un (.call 63 Kp [((.t 58), false), ((.t 59), false), ((.t 60), false), ((.t 62), false)]),
 un (.st 2 (.t 6) (.t 63))])))))))
 .skip)))
 (.drop [24, 25, 26, 27, 28, 29, 30, 31, 32, 33, 34, 35, 36, 37, 38, 39, 40, 41, 42, 43, 44, 7, 45, 8, 9, 46, 47, 48, 49, 52, 53, 54, 55, 56, 57, 50, 51, 58, 59, 60, 61, 62, 63] (.seq (.dreg [(un (.mov 64 (.t 5)), []),
 (un (.ld 65 2 true (.t 6)), [64, 64]),
 (un (.asg 2 (.t 64)), [65])]
 [un (.st 2 (.t 3) (.t 65))])
 (.drop [64, 65] .ret)))))))))))
abbrev P1 : List RS := [.t 2, .c 3 2 true]
theorem P4 : Bd Try.prog Fq 66 P2 P1 = true := by kernel_rfl
def Ox : ACode :=
 (.seq (.seq (.reg [un (.mov 13 (.t 8)),
 un (.mov 14 (.t 2)),
 un (.len 15 (.t 14)),
 un (.bin 16 .lss (.t 13) (.t 15))])
 (.drop [13, 14, 15] (.cond (.t 16) .skip
 (.exit 0))))
 (.drop [13, 14, 15, 16] (.seq (.block 1 (.dreg [(un (.ld 19 3 true (.t 7)), [24]),
 (un (.mov 20 (.t 2)), [19, 24]),
 (un (.mov 21 (.t 8)), [19, 20, 24]),
 (un (.iad 22 1 (.t 20) (.t 21)), [19, 24]),
 (un (.ld 23 1 false (.t 22)), [19, 24]),
 (un (.mov 24 (.t 8)), [19, 20, 21, 22, 23]),
 (un (.bslr 25 1 [(.t 24)]), [19, 20, 21, 22, 23]),
 (un (.bld 26 [.int .i64 0, .nilsl 1] [(0, 1, (.c (.int .i64 (-1)))), (1, 1, (.t 25))]), [19, 20, 21, 22, 23, 24])]
 [un (.call 27 M8 [((.t 19), true), ((.t 23), false), ((.t 26), false)]),
 un (.st 3 (.t 7) (.t 27))]))
 (.drop [19, 20, 21, 22, 23, 24, 25, 26, 27] (.reg [un (.mov 17 (.t 8)),
 un (.bin 18 .add (.t 17) (.c (.int .i64 1))),
 un (.asg 8 (.t 18))])))))
def Yw : ACode :=
 (.seq (.reg [un (.mov 28 (.t 9)),
 un (.fadr 29 0 (.t 7)),
 un (.ld 30 1 false (.t 29)),
 un (.len 31 (.t 30)),
 un (.bin 32 .lss (.t 28) (.t 31)),
 un (.asg 33 (.t 32)),
 ⟨some (33, true), .fadr 34 2 (.t 7)⟩,
 ⟨some (33, true), .ld 35 1 false (.t 34)⟩,
 ⟨some (33, true), .un 36 .not (.t 35)⟩,
 un (.pick 37 (.t 33) (.t 36) (.c (.bool false)))])
 (.drop [28, 29, 30, 31, 32, 33, 34, 35, 36] (.cond (.t 37) .skip
 (.exit 2))))
def Ys : ACode :=
 (.seq (.reg [un (.mov 41 (.t 11)),
 un (.mov 42 (.t 1)),
 un (.len 43 (.t 42)),
 un (.bin 44 .lss (.t 41) (.t 43)),
 un (.asg 45 (.t 44)),
 ⟨some (45, true), .fadr 46 2 (.t 7)⟩,
 ⟨some (45, true), .ld 47 1 false (.t 46)⟩,
 ⟨some (45, true), .un 48 .not (.t 47)⟩,
 un (.pick 49 (.t 45) (.t 48) (.c (.bool false)))])
 (.drop [41, 42, 43, 44, 45, 46, 47, 48] (.cond (.t 49) .skip
 (.exit 4))))
def Ou : ACode :=
 (.seq (.cut Ys)
 (.drop [41, 42, 43, 44, 45, 46, 47, 48, 49] (.seq (.block 5 (.dreg [(un (.mov 52 (.t 0)), []),
 (un (.ld 53 3 true (.t 7)), [52]),
 (un (.mov 54 (.t 1)), [52, 53]),
 (un (.mov 55 (.t 11)), [52, 53, 54]),
 (un (.iad 56 2 (.t 54) (.t 55)), [52, 53]),
 (un (.ld 57 2 true (.t 56)), [52, 53]),
 (un (.mov 58 (.t 11)), [52, 53, 54, 55, 56, 57]),
 (un (.mov 59 (.t 10)), [52, 53, 54, 55, 56, 57, 58]),
 (un (.mov 60 (.t 9)), [52, 53, 54, 55, 56, 57, 58, 59]),
 (un (.mov 61 (.t 2)), [52, 53, 54, 55, 56, 57, 58, 59, 60]),
 (un (.iad 62 1 (.t 61) (.c (.int .i64 0))), [52, 53, 54, 55, 56, 57, 58, 59, 60]),
 (un (.ld 63 1 false (.t 62)), [52, 53, 54, 55, 56, 57, 58, 59, 60]),
 (un (.len 64 (.t 63)), [52, 53, 54, 55, 56, 57, 58, 59, 60])]
 [un (.call 65 N8 [((.t 52), false), ((.t 53), true), ((.t 57), false), ((.t 58), false), ((.t 59), false), ((.t 60), false), ((.t 64), false)]),
 un (.st 3 (.t 7) (.t 65))]))
 (.drop [52, 53, 54, 55, 56, 57, 58, 59, 60, 61, 62, 63, 64, 65] (.reg [un (.mov 50 (.t 11)),
 un (.bin 51 .add (.t 50) (.c (.int .i64 1))),
 un (.asg 11 (.t 51))])))))
def Ow : ACode :=
 (.seq (.cut Yw)
 (.drop [28, 29, 30, 31, 32, 33, 34, 35, 36, 37] (.block 3 (.seq (.reg [un (.fadr 38 0 (.t 7)),
 un (.ld 39 1 false (.t 38)),
 un (.len 40 (.t 39)),
 un (.asg 10 (.t 40))])
 (.drop [38, 39, 40] (.seq (.seq (.reg [un (.asg 11 (.c (.int .i64 0)))])
 (.block 4 (.loop Ou)))
 (.drop [11, 41, 42, 43, 44, 45, 46, 47, 48, 49, 52, 53, 54, 55, 56, 57, 58, 59, 60, 61, 62, 63, 64, 65, 50, 51] (.reg [un (.mov 66 (.t 10)),
 un (.asg 9 (.t 66))]))))))))
def Adg : ACode :=
 (.seq (.reg [un (.alc 6 (.agg [.nilsl 1, .nilsl 2, .bool false]))])
 (.seq (.reg [un (.bld 12 [.nilsl 1, .nilsl 2, .bool false] []),
 un (.alc 7 (.agg [.nilsl 1, .nilsl 2, .bool false])),
 un (.st 3 (.t 7) (.t 12))])
 (.drop [12] (.seq (.seq (.reg [un (.asg 8 (.c (.int .i64 0)))])
 (.block 0 (.loop Ox)))
 (.drop [8, 13, 14, 15, 16, 19, 20, 21, 22, 23, 24, 25, 26, 27, 17, 18] (.seq (.reg [un (.asg 9 (.c (.int .i64 0)))])
 (.seq (.block 2 (.loop Ow))
 (.drop [28, 29, 30, 31, 32, 33, 34, 35, 36, 37, 38, 39, 40, 10, 11, 41, 42, 43, 44, 45, 46, 47, 48, 49, 52, 53, 54, 55, 56, 57, 58, 59, 60, 61, 62, 63, 64, 65, 50, 51, 66] (.seq (.reg [un (.ld 67 3 true (.t 7)),
 un (.st 3 (.t 6) (.t 67))])
 (.drop [67] .ret))))))))))
abbrev Adj : List RS := [.c 6 3 true]
theorem Add : Bd Try.prog Ml 68 Adg Adj = true := by kernel_rfl
def S0 : ACode :=
 (.seq (.reg [un (.asg 2 (.c (.int .i64 0))),
 un (.alc 3 (.agg [.int .i64 0, .nilsl 1]))])
 (.seq (.reg [un (.mov 4 (.t 0)),
 un (.call 5 Fq [((.t 4), false)]),
 un (.ext 6 (.t 5) 0),
 un (.ext 7 (.t 5) 1),
 un (.asg 2 (.t 6)),
 un (.st 2 (.t 3) (.t 7))])
 (.drop [4, 5, 6, 7] .ret)))
abbrev S7 : List RS := [.t 2, .c 3 2 true]
theorem Tw : Bd Try.prog G6 8 S0 S7 = true := by kernel_rfl
def P0 : ACode :=
 (.seq (.seq (.reg [un (.mov 8 (.t 6)),
 un (.mov 9 (.t 1)),
 un (.bin 10 .lss (.t 8) (.t 9))])
 (.drop [8, 9] (.cond (.t 10) .skip
 (.exit 0))))
 (.drop [8, 9, 10] (.seq (.block 1 (.reg [un (.mov 13 (.t 5)),
 un (.fadr 14 0 (.t 2)),
 un (.ld 15 1 false (.t 14)),
 un (.mov 16 (.t 1)),
 un (.mov 17 (.t 6)),
 un (.call 18 Di [((.t 15), false), ((.t 16), false), ((.t 17), false)]),
 un (.bsl 19 1 [(.t 18)]),
 un (.app 20 1 (.t 13) (.t 19)),
 un (.asg 5 (.t 20))]))
 (.drop [13, 14, 15, 16, 17, 18, 19, 20] (.reg [un (.mov 11 (.t 6)),
 un (.bin 12 .add (.t 11) (.c (.int .i64 1))),
 un (.asg 6 (.t 12))])))))
def Afa : ACode :=
 (.seq (.reg [un (.box 2 (.t 0)),
 un (.alc 4 (.agg [.nilsl 1, .nilsl 2, .bool false]))])
 (.seq (.reg [un (.bsl 7 1 []),
 un (.asg 5 (.t 7))])
 (.drop [7] (.seq (.seq (.reg [un (.asg 6 (.c (.int .i64 0)))])
 (.block 0 (.loop P0)))
 (.drop [6, 8, 9, 10, 13, 14, 15, 16, 17, 18, 19, 20, 11, 12] (.seq (.frz [5] (.reg [un (.fadr 21 0 (.t 2)),
 un (.ld 22 1 false (.t 21)),
 un (.fadr 23 1 (.t 2)),
 un (.ld 24 1 false (.t 23)),
 un (.mov 25 (.t 5)),
 un (.call 26 Ml [((.t 22), false), ((.t 24), false), ((.t 25), false)]),
 un (.st 3 (.t 4) (.t 26))]))
 (.drop [21, 22, 23, 24, 25, 26] .ret)))))))
abbrev Aeu : List RS := [.c 4 3 true]
theorem Afj : Bd Try.prog Id 27 Afa Aeu = true := by kernel_rfl
def V3 : ACode :=
 (.seq (.reg [un (.box 2 (.t 0)),
 un (.box 3 (.t 1)),
 un (.asg 4 (.c (.bool false))),
 un (.asg 5 (.c (.bool false)))])
 (.seq (.seq (.reg [un (.ld 7 2 true (.t 2)),
 un (.ld 8 2 true (.t 3)),
 un (.call 9 U1 [((.t 7), false), ((.t 8), false)]),
 un (.un 10 .not (.t 9))])
 (.drop [7, 8, 9] (.cond (.t 10) (.seq (.reg [un (.asg 4 (.c (.bool false))),
 un (.asg 5 (.c (.bool false)))])
 .ret)
 .skip)))
 (.drop [7, 8, 9, 10] (.seq (.reg [un (.ld 11 2 true (.t 2)),
 un (.fadr 12 0 (.t 3)),
 un (.ld 13 1 false (.t 12)),
 un (.call 14 Id [((.t 11), false), ((.t 13), false)]),
 un (.alc 6 (.agg [.nilsl 1, .nilsl 2, .bool false])),
 un (.st 3 (.t 6) (.t 14))])
 (.drop [11, 12, 13, 14] (.seq (.seq (.reg [un (.fadr 15 2 (.t 6)),
 un (.ld 16 1 false (.t 15))])
 (.drop [15] (.cond (.t 16) (.seq (.reg [un (.asg 4 (.c (.bool false))),
 un (.asg 5 (.c (.bool false)))])
 .ret)
 .skip)))
 (.drop [15, 16] (.seq (.reg [un (.fadr 17 0 (.t 6)),
 un (.ld 18 1 false (.t 17)),
 un (.fadr 19 1 (.t 3)),
 un (.ld 20 1 false (.t 19)),
 un (.call 21 Ko [((.t 18), false), ((.t 20), false)]),
 un (.bin 22 .geq (.t 21) (.c (.int .i64 0))),
 un (.asg 4 (.t 22)),
 un (.asg 5 (.c (.bool true)))])
 (.drop [17, 18, 19, 20, 21, 22] .ret)))))))))
abbrev Vz : List RS := [.t 4, .t 5]
theorem Wa : Bd Try.prog Im 23 V3 Vz = true := by kernel_rfl
def Sz : ACode :=
 (.seq (.reg [un (.ld 7 2 true (.t 2)),
 un (.call 8 Kj [((.t 7), false)]),
 un (.un 9 .not (.t 8)),
 un (.asg 10 (.t 9)),
 ⟨some (10, false), .fadr 11 0 (.t 2)⟩,
 ⟨some (10, false), .ld 12 1 false (.t 11)⟩,
 ⟨some (10, false), .mov 13 (.t 1)⟩,
 ⟨some (10, false), .call 14 He [((.t 12), false), ((.t 13), false)]⟩,
 ⟨some (10, false), .un 15 .not (.t 14)⟩,
 un (.pick 16 (.t 10) (.c (.bool true)) (.t 15))])
 (.drop [7, 8, 9, 10, 11, 12, 13, 14, 15] (.cond (.t 16) (.seq (.reg [un (.bsl 17 2 []),
 un (.asg 4 (.t 17)),
 un (.asg 5 (.c (.bool false)))])
 (.drop [17] .ret))
 .skip)))
def X0 : ACode :=
 (.seq (.reg [un (.box 2 (.t 0)),
 un (.asg 4 (.c (.nilsl 2))),
 un (.asg 5 (.c (.bool false)))])
 (.seq (.cut Sz)
 (.drop [7, 8, 9, 10, 11, 12, 13, 14, 15, 16, 17] (.seq (.reg [un (.ld 18 2 true (.t 2)),
 un (.mov 19 (.t 1)),
 un (.call 20 Id [((.t 18), false), ((.t 19), false)]),
 un (.alc 6 (.agg [.nilsl 1, .nilsl 2, .bool false])),
 un (.st 3 (.t 6) (.t 20))])
 (.drop [18, 19, 20] (.seq (.seq (.reg [un (.fadr 21 2 (.t 6)),
 un (.ld 22 1 false (.t 21))])
 (.drop [21] (.cond (.t 22) (.seq (.reg [un (.bsl 23 2 []),
 un (.asg 4 (.t 23)),
 un (.asg 5 (.c (.bool false)))])
 (.drop [23] .ret))
 .skip)))
 (.drop [21, 22, 23] (.seq (.reg [un (.mov 24 (.t 1)),
 un (.fadr 25 0 (.t 6)),
 un (.ld 26 1 false (.t 25)),
 un (.call 27 Sd [((.t 24), false), ((.t 26), false)]),
 un (.asg 4 (.t 27)),
 un (.asg 5 (.c (.bool true)))])
 (.drop [24, 25, 26, 27] .ret)))))))))
abbrev X3 : List RS := [.t 4, .t 5]
theorem Xh : Bd Try.prog Jd 28 X0 X3 = true := by kernel_rfl
def Su : ACode :=
 (.reg [un (.ld 9 2 true (.t 3)),
 un (.call 10 Kj [((.t 9), false)]),
 un (.asg 11 (.t 10)),
 ⟨some (11, true), .fadr 12 0 (.t 3)⟩,
 ⟨some (11, true), .ld 13 1 false (.t 12)⟩,
 ⟨some (11, true), .mov 14 (.t 5)⟩,
 ⟨some (11, true), .call 15 He [((.t 13), false), ((.t 14), false)]⟩,
 un (.pick 16 (.t 11) (.t 15) (.c (.bool false))),
 un (.asg 17 (.t 16)),
 ⟨some (17, true), .fadr 18 0 (.t 3)⟩,
 ⟨some (17, true), .ld 19 1 false (.t 18)⟩,
 ⟨some (17, true), .bin 20 .leq (.t 19) (.c (.int .i64 3))⟩,
 un (.pick 21 (.t 17) (.t 20) (.c (.bool false))),
 un (.asg 22 (.t 21)),
 ⟨some (22, true), .mov 23 (.t 0)⟩,
 ⟨some (22, true), .call 24 Fn [((.t 23), true), ((.c (.int .i64 3)), false)]⟩,
 ⟨some (22, true), .un 25 .not (.t 24)⟩,
 un (.pick 26 (.t 22) (.t 25) (.c (.bool false)))])
def V4 : ACode :=
 (.seq (.reg [un (.box 3 (.t 1)),
 un (.alc 4 (.agg [.int .i64 0, .nilsl 1]))])
 (.seq (.reg [un (.mov 7 (.t 0)),
 un (.call 8 Gk [((.t 7), true)]),
 un (.asg 5 (.t 8))])
 (.drop [7, 8] (.seq (.seq (.cut Su)
 (.drop [9, 10, 11, 12, 13, 14, 15, 16, 17, 18, 19, 20, 21, 22, 23, 24, 25] (.cond (.t 26) (.seq (.reg [un (.ld 27 2 true (.t 3)),
 un (.mov 28 (.t 5)),
 un (.call 29 Id [((.t 27), false), ((.t 28), false)]),
 un (.alc 6 (.agg [.nilsl 1, .nilsl 2, .bool false])),
 un (.st 3 (.t 6) (.t 29))])
 (.drop [27, 28, 29] (.seq (.dreg [(un (.mov 30 (.t 5)), [46]),
 (un (.fadr 31 0 (.t 6)), [46, 30]),
 (un (.ld 32 1 false (.t 31)), [46, 30]),
 (un (.mov 33 (.t 0)), [30, 31, 32]),
 (un (.fadr 34 0 (.t 6)), [30, 31, 32, 33]),
 (un (.ld 35 1 false (.t 34)), [30, 31, 32, 33]),
 (un (.len 36 (.t 35)), [30, 31, 32, 33]),
 (un (.call 37 As [((.t 33), true), ((.t 36), false)]), [46, 30, 31, 32]),
 (un (.iad 38 1 (.t 32) (.t 37)), [30]),
 (un (.ld 39 1 false (.t 38)), [30]),
 (un (.call 40 O6 [((.t 39), false)]), [30])]
 [un (.bld 41 [.int .i64 0, .nilsl 1] [(0, 1, (.t 30)), (1, 1, (.t 40))]),
 un (.st 2 (.t 4) (.t 41))])
 (.drop [30, 31, 32, 33, 34, 35, 36, 37, 38, 39, 40, 41] .ret))))
 .skip)))
 (.drop [9, 10, 11, 12, 13, 14, 15, 16, 17, 18, 19, 20, 21, 22, 23, 24, 25, 26, 27, 28, 29, 6, 30, 31, 32, 33, 34, 35, 36, 37, 38, 39, 40, 41] (.seq (.reg [un (.mov 42 (.t 0)),
 un (.fadr 43 0 (.t 3)),
 un (.ld 44 1 false (.t 43)),
 un (.call 45 Dj [((.t 42), true), ((.t 44), false)]),
 un (.st 2 (.t 4) (.t 45))])
 (.drop [42, 43, 44, 45] .ret)))))))
abbrev V7 : List RS := [.c 4 2 true]
theorem V9 : Bd Try.prog Ik 46 V4 V7 = true := by kernel_rfl
def Q5 : ACode :=
 (.seq (.reg [un (.alc 2 (.agg [.int .i64 0, .nilsl 2])),
 un (.alc 3 (.agg [.int .i64 0, .nilsl 1]))])
 (.seq (.reg [un (.mov 6 (.t 0)),
 un (.bld 7 [.nilsl 1, .int .i64 0, .int .u64 0] [(0, 1, (.t 6))]),
 un (.box 8 (.t 7)),
 un (.asg 4 (.t 8))])
 (.drop [6, 7, 8] (.seq (.reg [un (.mov 9 (.t 4)),
 un (.call 10 Ja [((.t 9), true)]),
 un (.alc 5 (.agg [.int .i64 0, .nilsl 2])),
 un (.st 2 (.t 5) (.t 10))])
 (.drop [9, 10] (.seq (.frz [100005] (.dreg [(un (.ld 11 2 true (.t 5)), [4]),
 (un (.mov 12 (.t 4)), [11]),
 (un (.ld 13 2 true (.t 5)), [11, 12]),
 (un (.call 14 Ik [((.t 12), true), ((.t 13), false)]), [4, 11])]
 [un (.st 2 (.t 2) (.t 11)),
 un (.st 2 (.t 3) (.t 14))]))
 (.drop [11, 12, 13, 14] .ret)))))))
abbrev Q1 : List RS := [.c 2 2 true, .c 3 2 true]
theorem Q3 : Bd Try.prog Ge 15 Q5 Q1 = true := by kernel_rfl
def So : ACode :=
 (.seq (.reg [un (.ld 56 2 true (.t 3)),
 un (.ld 57 2 true (.t 4)),
 un (.call 58 Im [((.t 56), false), ((.t 57), false)]),
 un (.asg 55 (.t 58)),
 un (.ext 59 (.t 55) 0),
 un (.ext 60 (.t 55) 1),
 un (.asg 7 (.t 59)),
 un (.asg 8 (.t 60))])
 (.drop [56, 57, 58, 55, 59, 60] (.seq (.reg [un (.mov 61 (.t 5)),
 un (.mov 62 (.t 7)),
 un (.binb 63 .neq (.t 61) (.t 62)),
 un (.asg 64 (.t 63)),
 ⟨some (64, false), .mov 65 (.t 6)⟩,
 ⟨some (64, false), .mov 66 (.t 8)⟩,
 ⟨some (64, false), .binb 67 .neq (.t 65) (.t 66)⟩,
 un (.pick 68 (.t 64) (.c (.bool true)) (.t 67))])
 (.drop [61, 62, 63, 64, 65, 66, 67] (.cond (.t 68) (.seq (.reg [un (.asg 2 (.c (.bool false)))])
 .ret)
 .skip)))))
def Sl : ACode :=
 (.reg [un (.mov 69 (.t 6)),
 un (.asg 70 (.t 69)),
 ⟨some (70, true), .mov 71 (.t 5)⟩,
 un (.pick 72 (.t 70) (.t 71) (.c (.bool false)))])
def Sv : ACode :=
 (.seq (.reg [un (.ld 81 2 true (.t 3)),
 un (.fadr 82 0 (.t 4)),
 un (.ld 83 1 false (.t 82)),
 un (.call 84 Jd [((.t 81), false), ((.t 83), false)]),
 un (.asg 80 (.t 84)),
 un (.ext 85 (.t 80) 0),
 un (.ext 86 (.t 80) 1),
 un (.asg 11 (.t 85)),
 un (.asg 12 (.t 86))])
 (.drop [81, 82, 83, 84, 80, 85, 86] (.seq (.reg [un (.mov 87 (.t 10)),
 un (.mov 88 (.t 12)),
 un (.binb 89 .neq (.t 87) (.t 88)),
 un (.asg 90 (.t 89)),
 ⟨some (90, false), .mov 91 (.t 10)⟩,
 ⟨some (90, false), .un 92 .not (.t 91)⟩,
 un (.pick 93 (.t 90) (.c (.bool true)) (.t 92)),
 un (.asg 94 (.t 93)),
 ⟨some (94, false), .mov 95 (.t 9)⟩,
 ⟨some (94, false), .mov 96 (.t 11)⟩,
 ⟨some (94, false), .call 97 Xx [((.t 95), false), ((.t 96), false)]⟩,
 ⟨some (94, false), .un 98 .not (.t 97)⟩,
 un (.pick 99 (.t 94) (.c (.bool true)) (.t 98)),
 un (.asg 100 (.t 99)),
 ⟨some (100, false), .mov 101 (.t 9)⟩,
 ⟨some (100, false), .len 102 (.t 101)⟩,
 ⟨some (100, false), .bin 103 .eql (.t 102) (.c (.int .i64 0))⟩,
 un (.pick 104 (.t 100) (.c (.bool true)) (.t 103))])
 (.drop [87, 88, 89, 90, 91, 92, 93, 94, 95, 96, 97, 98, 99, 100, 101, 102, 103] (.cond (.t 104) (.seq (.reg [un (.asg 2 (.c (.bool false)))])
 .ret)
 .skip)))))
def Kb : ACode :=
 (.seq (.seq (.reg [un (.mov 106 (.t 14)),
 un (.fadr 107 0 (.t 4)),
 un (.ld 108 1 false (.t 107)),
 un (.bin 109 .lss (.t 106) (.t 108))])
 (.drop [106, 107, 108] (.cond (.t 109) .skip
 (.exit 0))))
 (.drop [106, 107, 108, 109] (.seq (.block 1 (.reg [un (.mov 112 (.t 13)),
 un (.mov 113 (.t 9)),
 un (.mov 114 (.t 14)),
 un (.bin 115 .mul (.t 114) (.c (.int .i64 7))),
 un (.fadr 116 1 (.t 4)),
 un (.ld 117 1 false (.t 116)),
 un (.len 118 (.t 117)),
 un (.bin 119 .add (.t 115) (.t 118)),
 un (.mov 120 (.t 9)),
 un (.len 121 (.t 120)),
 un (.bin 122 .rem (.t 119) (.t 121)),
 un (.iad 123 2 (.t 113) (.t 122)),
 un (.ld 124 2 true (.t 123)),
 un (.bsl 125 2 [(.t 124)]),
 un (.app 126 2 (.t 112) (.t 125)),
 un (.asg 13 (.t 126))]))
 (.drop [112, 113, 114, 115, 116, 117, 118, 119, 120, 121, 122, 123, 124, 125, 126] (.reg [un (.mov 110 (.t 14)),
 un (.bin 111 .add (.t 110) (.c (.int .i64 1))),
 un (.asg 14 (.t 111))])))))
def Sb : ACode :=
 (.seq (.reg [un (.fadr 136 0 (.t 3)),
 un (.ld 137 1 false (.t 136)),
 un (.ld 138 2 true (.t 4)),
 un (.mov 139 (.t 13)),
 un (.call 140 Ha [((.t 137), false), ((.t 138), false), ((.t 139), false)]),
 un (.asg 135 (.t 140)),
 un (.ext 141 (.t 135) 0),
 un (.ext 142 (.t 135) 1),
 un (.alc 17 (.agg [.int .i64 0, .nilsl 1])),
 un (.st 2 (.t 17) (.t 141)),
 un (.asg 18 (.t 142))])
 (.drop [136, 137, 138, 139, 140, 135, 141, 142] (.seq (.reg [un (.mov 143 (.t 16)),
 un (.mov 144 (.t 18)),
 un (.binb 145 .neq (.t 143) (.t 144)),
 un (.asg 146 (.t 145)),
 ⟨some (146, false), .mov 147 (.t 16)⟩,
 ⟨some (146, false), .un 148 .not (.t 147)⟩,
 un (.pick 149 (.t 146) (.c (.bool true)) (.t 148)),
 un (.asg 150 (.t 149)),
 ⟨some (150, false), .ld 151 2 true (.t 15)⟩,
 ⟨some (150, false), .ld 152 2 true (.t 17)⟩,
 ⟨some (150, false), .call 153 Ps [((.t 151), false), ((.t 152), false)]⟩,
 ⟨some (150, false), .un 154 .not (.t 153)⟩,
 un (.pick 155 (.t 150) (.c (.bool true)) (.t 154))])
 (.drop [143, 144, 145, 146, 147, 148, 149, 150, 151, 152, 153, 154] (.cond (.t 155) (.seq (.reg [un (.asg 2 (.c (.bool false)))])
 .ret)
 .skip)))))
def Sh : ACode :=
 (.seq (.cut Sl)
 (.drop [69, 70, 71] (.cond (.t 72) (.seq (.reg [un (.ld 74 2 true (.t 3)),
 un (.fadr 75 0 (.t 4)),
 un (.ld 76 1 false (.t 75)),
 un (.call 77 Jc [((.t 74), false), ((.t 76), false)]),
 un (.asg 73 (.t 77)),
 un (.ext 78 (.t 73) 0),
 un (.ext 79 (.t 73) 1),
 un (.asg 9 (.t 78)),
 un (.asg 10 (.t 79))])
 (.drop [74, 75, 76, 77, 73, 78, 79] (.seq (.cut Sv)
 (.drop [81, 82, 83, 84, 80, 85, 86, 11, 12, 87, 88, 89, 90, 91, 92, 93, 94, 95, 96, 97, 98, 99, 100, 101, 102, 103, 104] (.seq (.reg [un (.bsl 105 2 []),
 un (.asg 13 (.t 105))])
 (.drop [105] (.seq (.seq (.reg [un (.asg 14 (.c (.int .i64 0)))])
 (.block 0 (.loop Kb)))
 (.drop [14, 106, 107, 108, 109, 112, 113, 114, 115, 116, 117, 118, 119, 120, 121, 122, 123, 124, 125, 126, 110, 111] (.seq (.reg [un (.fadr 128 0 (.t 3)),
 un (.ld 129 1 false (.t 128)),
 un (.ld 130 2 true (.t 4)),
 un (.mov 131 (.t 13)),
 un (.call 132 G5 [((.t 129), false), ((.t 130), false), ((.t 131), false)]),
 un (.asg 127 (.t 132)),
 un (.ext 133 (.t 127) 0),
 un (.ext 134 (.t 127) 1),
 un (.alc 15 (.agg [.int .i64 0, .nilsl 1])),
 un (.st 2 (.t 15) (.t 133)),
 un (.asg 16 (.t 134))])
 (.drop [128, 129, 130, 131, 132, 127, 133, 134] (.seq (.cut Sb)
 (.drop [136, 137, 138, 139, 140, 135, 141, 142, 17, 18, 143, 144, 145, 146, 147, 148, 149, 150, 151, 152, 153, 154, 155] (.seq (.reg [un (.ld 157 2 true (.t 3)),
 un (.ld 158 2 true (.t 15)),
 un (.call 159 F6 [((.t 157), false), ((.t 158), false)]),
 un (.asg 156 (.t 159)),
 un (.ext 160 (.t 156) 0),
 un (.ext 161 (.t 156) 1),
 un (.asg 19 (.t 160)),
 un (.asg 20 (.t 161))])
 (.drop [157, 158, 159, 156, 160, 161] (.seq (.reg [un (.mov 162 (.t 20)),
 un (.un 163 .not (.t 162)),
 un (.asg 164 (.t 163)),
 ⟨some (164, false), .mov 165 (.t 19)⟩,
 ⟨some (164, false), .un 166 .not (.t 165)⟩,
 un (.pick 167 (.t 164) (.c (.bool true)) (.t 166))])
 (.drop [162, 163, 164, 165, 166] (.cond (.t 167) (.seq (.reg [un (.asg 2 (.c (.bool false)))])
 .ret)
 .skip)))))))))))))))))
 .skip)))
def Sj : ACode :=
 (.seq (.reg [un (.mov 184 (.t 21)),
 un (.ld 185 2 true (.t 22)),
 un (.mov 186 (.t 23)),
 un (.mov 187 (.t 24)),
 un (.call 188 Qv [((.t 184), false), ((.t 185), false), ((.t 186), false), ((.t 187), false)]),
 un (.asg 183 (.t 188)),
 un (.ext 189 (.t 183) 0),
 un (.ext 190 (.t 183) 1),
 un (.alc 27 (.agg [.int .i64 0, .nilsl 1])),
 un (.st 2 (.t 27) (.t 189)),
 un (.asg 28 (.t 190))])
 (.drop [184, 185, 186, 187, 188, 183, 189, 190] (.seq (.reg [un (.mov 191 (.t 26)),
 un (.mov 192 (.t 28)),
 un (.binb 193 .neq (.t 191) (.t 192)),
 un (.asg 194 (.t 193)),
 ⟨some (194, false), .ld 195 2 true (.t 25)⟩,
 ⟨some (194, false), .ld 196 2 true (.t 27)⟩,
 ⟨some (194, false), .call 197 Ps [((.t 195), false), ((.t 196), false)]⟩,
 ⟨some (194, false), .un 198 .not (.t 197)⟩,
 un (.pick 199 (.t 194) (.c (.bool true)) (.t 198))])
 (.drop [191, 192, 193, 194, 195, 196, 197, 198] (.cond (.t 199) (.seq (.reg [un (.asg 2 (.c (.bool false)))])
 .ret)
 .skip)))))
def Sg : ACode :=
 (.seq (.reg [un (.mov 208 (.t 21)),
 un (.ld 209 2 true (.t 25)),
 un (.call 210 Hu [((.t 208), false), ((.t 209), false)]),
 un (.asg 207 (.t 210)),
 un (.ext 211 (.t 207) 0),
 un (.ext 212 (.t 207) 1),
 un (.asg 31 (.t 211)),
 un (.asg 32 (.t 212))])
 (.drop [208, 209, 210, 207, 211, 212] (.seq (.reg [un (.mov 213 (.t 30)),
 un (.mov 214 (.t 32)),
 un (.binb 215 .neq (.t 213) (.t 214)),
 un (.asg 216 (.t 215)),
 ⟨some (216, false), .mov 217 (.t 30)⟩,
 ⟨some (216, false), .un 218 .not (.t 217)⟩,
 un (.pick 219 (.t 216) (.c (.bool true)) (.t 218)),
 un (.asg 220 (.t 219)),
 ⟨some (220, false), .mov 221 (.t 29)⟩,
 ⟨some (220, false), .mov 222 (.t 31)⟩,
 ⟨some (220, false), .call 223 Oy [((.t 221), false), ((.t 222), false)]⟩,
 ⟨some (220, false), .un 224 .not (.t 223)⟩,
 un (.pick 225 (.t 220) (.c (.bool true)) (.t 224))])
 (.drop [213, 214, 215, 216, 217, 218, 219, 220, 221, 222, 223, 224] (.cond (.t 225) (.seq (.reg [un (.asg 2 (.c (.bool false)))])
 .ret)
 .skip)))))
def Kg : ACode :=
 (.seq (.seq (.reg [un (.mov 226 (.t 33)),
 un (.mov 227 (.t 29)),
 un (.len 228 (.t 227)),
 un (.bin 229 .lss (.t 226) (.t 228))])
 (.drop [226, 227, 228] (.cond (.t 229) .skip
 (.exit 2))))
 (.drop [226, 227, 228, 229] (.seq (.block 3 (.seq (.reg [un (.mov 232 (.t 23)),
 un (.mov 233 (.t 29)),
 un (.mov 234 (.t 33)),
 un (.iad 235 1 (.t 233) (.t 234)),
 un (.ld 236 1 false (.t 235)),
 un (.call 237 Xd [((.t 232), false), ((.t 236), false)]),
 un (.un 238 .not (.t 237))])
 (.drop [232, 233, 234, 235, 236, 237] (.cond (.t 238) (.seq (.reg [un (.asg 2 (.c (.bool false)))])
 .ret)
 .skip))))
 (.drop [232, 233, 234, 235, 236, 237, 238] (.reg [un (.mov 230 (.t 33)),
 un (.bin 231 .add (.t 230) (.c (.int .i64 1))),
 un (.asg 33 (.t 231))])))))
def Sy : ACode :=
 (.seq (.reg [un (.mov 200 (.t 26))])
 (.cond (.t 200) (.seq (.reg [un (.mov 202 (.t 21)),
 un (.ld 203 2 true (.t 25)),
 un (.call 204 Fh [((.t 202), false), ((.t 203), false)]),
 un (.asg 201 (.t 204)),
 un (.ext 205 (.t 201) 0),
 un (.ext 206 (.t 201) 1),
 un (.asg 29 (.t 205)),
 un (.asg 30 (.t 206))])
 (.drop [202, 203, 204, 201, 205, 206] (.seq (.cut Sg)
 (.drop [208, 209, 210, 207, 211, 212, 31, 32, 213, 214, 215, 216, 217, 218, 219, 220, 221, 222, 223, 224, 225] (.seq (.reg [un (.asg 33 (.c (.int .i64 0)))])
 (.block 2 (.loop Kg)))))))
 .skip))
def R9 : ACode :=
 (.seq (.reg [un (.mov 251 (.t 34)),
 un (.ld 252 2 true (.t 35)),
 un (.call 253 J9 [((.t 251), false), ((.t 252), false)]),
 un (.asg 250 (.t 253)),
 un (.ext 254 (.t 250) 0),
 un (.ext 255 (.t 250) 1),
 un (.asg 38 (.t 254)),
 un (.asg 39 (.t 255))])
 (.drop [251, 252, 253, 250, 254, 255] (.seq (.reg [un (.mov 256 (.t 36)),
 un (.mov 257 (.t 38)),
 un (.binb 258 .neq (.t 256) (.t 257)),
 un (.asg 259 (.t 258)),
 ⟨some (259, false), .mov 260 (.t 37)⟩,
 ⟨some (259, false), .mov 261 (.t 39)⟩,
 ⟨some (259, false), .binb 262 .neq (.t 260) (.t 261)⟩,
 un (.pick 263 (.t 259) (.c (.bool true)) (.t 262))])
 (.drop [256, 257, 258, 259, 260, 261, 262] (.cond (.t 263) (.seq (.reg [un (.asg 2 (.c (.bool false)))])
 .ret)
 .skip)))))
def Qz : ACode :=
 (.reg [un (.mov 264 (.t 37)),
 un (.asg 265 (.t 264)),
 ⟨some (265, true), .mov 266 (.t 36)⟩,
 un (.pick 267 (.t 265) (.t 266) (.c (.bool false)))])
def Wg : ACode :=
 (.seq (.reg [un (.asg 2 (.c (.bool false)))])
 (.seq (.seq (.reg [un (.mov 42 (.t 0)),
 un (.call 43 Xt [((.t 42), false)])])
 (.drop [42] (.cond (.t 43) (.seq (.reg [un (.asg 2 (.c (.bool true)))])
 .ret)
 .skip)))
 (.drop [42, 43] (.seq (.reg [un (.mov 45 (.t 0)),
 un (.call 46 Ge [((.t 45), false)]),
 un (.asg 44 (.t 46)),
 un (.ext 47 (.t 44) 0),
 un (.ext 48 (.t 44) 1),
 un (.alc 3 (.agg [.int .i64 0, .nilsl 2])),
 un (.alc 4 (.agg [.int .i64 0, .nilsl 1])),
 un (.st 2 (.t 3) (.t 47)),
 un (.st 2 (.t 4) (.t 48))])
 (.drop [45, 46, 44, 47, 48] (.seq (.reg [un (.ld 50 2 true (.t 3)),
 un (.ld 51 2 true (.t 4)),
 un (.call 52 F6 [((.t 50), false), ((.t 51), false)]),
 un (.asg 49 (.t 52)),
 un (.ext 53 (.t 49) 0),
 un (.ext 54 (.t 49) 1),
 un (.asg 5 (.t 53)),
 un (.asg 6 (.t 54))])
 (.drop [50, 51, 52, 49, 53, 54] (.seq (.cut So)
 (.drop [56, 57, 58, 55, 59, 60, 7, 8, 61, 62, 63, 64, 65, 66, 67, 68] (.seq (.cut Sh)
 (.drop [69, 70, 71, 72, 74, 75, 76, 77, 73, 78, 79, 9, 10, 81, 82, 83, 84, 80, 85, 86, 11, 12, 87, 88, 89, 90, 91, 92, 93, 94, 95, 96, 97, 98, 99, 100, 101, 102, 103, 104, 105, 13, 14, 106, 107, 108, 109, 112, 113, 114, 115, 116, 117, 118, 119, 120, 121, 122, 123, 124, 125, 126, 110, 111, 128, 129, 130, 131, 132, 127, 133, 134, 15, 16, 136, 137, 138, 139, 140, 135, 141, 142, 17, 18, 143, 144, 145, 146, 147, 148, 149, 150, 151, 152, 153, 154, 155, 157, 158, 159, 156, 160, 161, 19, 20, 162, 163, 164, 165, 166, 167] (.seq (.reg [un (.mov 169 (.t 0)),
 un (.call 170 Kw [((.t 169), false)]),
 un (.asg 168 (.t 170)),
 un (.ext 171 (.t 168) 0),
 un (.ext 172 (.t 168) 1),
 un (.ext 173 (.t 168) 2),
 un (.ext 174 (.t 168) 3),
 un (.alc 22 (.agg [.int .i64 0, .nilsl 1])),
 un (.asg 21 (.t 171)),
 un (.st 2 (.t 22) (.t 172)),
 un (.asg 23 (.t 173)),
 un (.asg 24 (.t 174))])
 (.drop [169, 170, 168, 171, 172, 173, 174] (.seq (.reg [un (.mov 176 (.t 21)),
 un (.ld 177 2 true (.t 22)),
 un (.mov 178 (.t 23)),
 un (.mov 179 (.t 24)),
 un (.call 180 Ql [((.t 176), false), ((.t 177), false), ((.t 178), false), ((.t 179), false)]),
 un (.asg 175 (.t 180)),
 un (.ext 181 (.t 175) 0),
 un (.ext 182 (.t 175) 1),
 un (.alc 25 (.agg [.int .i64 0, .nilsl 1])),
 un (.st 2 (.t 25) (.t 181)),
 un (.asg 26 (.t 182))])
 (.drop [176, 177, 178, 179, 180, 175, 181, 182] (.seq (.cut Sj)
 (.drop [184, 185, 186, 187, 188, 183, 189, 190, 27, 28, 191, 192, 193, 194, 195, 196, 197, 198, 199] (.seq (.cut Sy)
 (.drop [200, 202, 203, 204, 201, 205, 206, 29, 30, 208, 209, 210, 207, 211, 212, 31, 32, 213, 214, 215, 216, 217, 218, 219, 220, 221, 222, 223, 224, 225, 33, 226, 227, 228, 229, 232, 233, 234, 235, 236, 237, 238, 230, 231] (.seq (.reg [un (.mov 240 (.t 0)),
 un (.call 241 G6 [((.t 240), false)]),
 un (.asg 239 (.t 241)),
 un (.ext 242 (.t 239) 0),
 un (.ext 243 (.t 239) 1),
 un (.alc 35 (.agg [.int .i64 0, .nilsl 1])),
 un (.asg 34 (.t 242)),
 un (.st 2 (.t 35) (.t 243))])
 (.drop [240, 241, 239, 242, 243] (.seq (.reg [un (.mov 245 (.t 34)),
 un (.ld 246 2 true (.t 35)),
 un (.call 247 J5 [((.t 245), false), ((.t 246), false)]),
 un (.asg 244 (.t 247)),
 un (.ext 248 (.t 244) 0),
 un (.ext 249 (.t 244) 1),
 un (.asg 36 (.t 248)),
 un (.asg 37 (.t 249))])
 (.drop [245, 246, 247, 244, 248, 249] (.seq (.cut R9)
 (.drop [251, 252, 253, 250, 254, 255, 38, 39, 256, 257, 258, 259, 260, 261, 262, 263] (.seq (.seq (.cut Qz)
 (.drop [264, 265, 266] (.cond (.t 267) (.seq (.reg [un (.mov 269 (.t 34)),
 un (.ld 270 2 true (.t 35)),
 un (.call 271 Fh [((.t 269), false), ((.t 270), false)]),
 un (.asg 268 (.t 271)),
 un (.ext 272 (.t 268) 0),
 un (.ext 273 (.t 268) 1),
 un (.asg 40 (.t 272)),
 un (.asg 41 (.t 273))])
 (.drop [269, 270, 271, 268, 272, 273] (.seq (.reg [un (.mov 274 (.t 41)),
 un (.un 275 .not (.t 274)),
 un (.asg 276 (.t 275)),
 ⟨some (276, false), .mov 277 (.t 40)⟩,
 ⟨some (276, false), .len 278 (.t 277)⟩,
 ⟨some (276, false), .bin 279 .gtr (.t 278) (.c (.int .i64 1))⟩,
 un (.pick 280 (.t 276) (.c (.bool true)) (.t 279)),
 un (.asg 281 (.t 280)),
 ⟨some (281, false), .mov 282 (.t 34)⟩,
 ⟨some (281, false), .bin 283 .gtr (.t 282) (.c (.int .i64 1))⟩,
 ⟨some (281, false), .asg 284 (.t 283)⟩,
 ⟨some (284, true), .mov 285 (.t 40)⟩,
 ⟨some (284, true), .len 286 (.t 285)⟩,
 ⟨some (284, true), .bin 287 .eql (.t 286) (.c (.int .i64 0))⟩,
 ⟨some (281, false), .pick 288 (.t 284) (.t 287) (.c (.bool false))⟩,
 un (.pick 289 (.t 281) (.c (.bool true)) (.t 288))])
 (.drop [274, 275, 276, 277, 278, 279, 280, 281, 282, 283, 284, 285, 286, 287, 288] (.cond (.t 289) (.seq (.reg [un (.asg 2 (.c (.bool false)))])
 .ret)
 .skip)))))
 .skip)))
 (.drop [264, 265, 266, 267, 269, 270, 271, 268, 272, 273, 40, 41, 274, 275, 276, 277, 278, 279, 280, 281, 282, 283, 284, 285, 286, 287, 288, 289] (.seq (.reg [un (.asg 2 (.c (.bool true)))])
 .ret))))))))))))))))))))))))))))
abbrev Wc : List RS := [.t 2]
theorem Wf : Bd Try.prog Ma 290 Wg Wc = true := by kernel_rfl
end Go.Proofs.Ytoaojijoefljaaa.Ax
