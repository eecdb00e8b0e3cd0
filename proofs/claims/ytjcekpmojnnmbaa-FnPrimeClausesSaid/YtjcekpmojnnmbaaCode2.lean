/-
  The small code of the functions, written by program; that the program's code is this one, the kernel looks at.
-/
import Derived.Test.YtjcekpmojnnmbaaAx3
import Derived.Test.YtjcekpmojnnmbaaProg
import Derived.KernelRfl
import Derived.Test.YtjcekpmojnnmbaaNum
namespace Go.Proofs.Ytjcekpmojnnmbaa.Ax
open Go
set_option maxRecDepth 100000
def Th : ACode :=
 (.seq (.reg [un (.mov 14 (.t 1)),
 un (.call 15 Tw [((.t 14), false)]),
 un (.un 16 .not (.t 15)),
 un (.asg 17 (.t 16)),
 ⟨some (17, false), .mov 18 (.t 2)⟩,
 ⟨some (17, false), .call 19 Hd [((.t 18), false), ((.c (.int .i64 1)), false), ((.c (.int .i64 3)), false)]⟩,
 ⟨some (17, false), .un 20 .not (.t 19)⟩,
 un (.pick 21 (.t 17) (.c (.bool true)) (.t 20))])
 (.drop [14, 15, 16, 17, 18, 19, 20] (.cond (.t 21) (.seq (.reg [un (.ld 22 2 true (.t 7)),
 un (.st 2 (.t 6) (.t 22))])
 (.drop [22] .ret))
 .skip)))
def Ka : ACode :=
 (.seq (.seq (.reg [un (.mov 31 (.t 10)),
 un (.mov 32 (.t 2)),
 un (.bin 33 .lss (.t 31) (.t 32))])
 (.drop [31, 32] (.cond (.t 33) .skip
 (.exit 2))))
 (.drop [31, 32, 33] (.seq (.block 3 (.reg [un (.mov 36 (.t 9)),
 un (.mov 37 (.t 0)),
 un (.mov 38 (.t 1)),
 un (.call 39 Bi [((.t 37), true), ((.t 38), false)]),
 un (.bsl 40 1 [(.t 39)]),
 un (.app 41 1 (.t 36) (.t 40)),
 un (.asg 9 (.t 41))]))
 (.drop [36, 37, 38, 39, 40, 41] (.reg [un (.mov 34 (.t 10)),
 un (.bin 35 .add (.t 34) (.c (.int .i64 1))),
 un (.asg 10 (.t 35))])))))
def Kc : ACode :=
 (.seq (.seq (.reg [un (.mov 26 (.t 8)),
 un (.bin 27 .gtr (.t 26) (.c (.int .i64 0)))])
 (.drop [26] (.cond (.t 27) .skip
 (.exit 0))))
 (.drop [26, 27] (.seq (.block 1 (.seq (.reg [un (.bsl 30 1 []),
 un (.asg 9 (.t 30))])
 (.drop [30] (.seq (.seq (.reg [un (.asg 10 (.c (.int .i64 0)))])
 (.block 2 (.loop Ka)))
 (.drop [10, 31, 32, 33, 36, 37, 38, 39, 40, 41, 34, 35] (.frz [9] (.reg [un (.fadr 42 1 (.t 7)),
 un (.ld 43 1 false (.t 42)),
 un (.mov 44 (.t 9)),
 un (.call 45 Jp [((.t 43), true), ((.t 44), false)]),
 un (.fadr 46 1 (.t 7)),
 un (.st 1 (.t 46) (.t 45))])))))))
 (.drop [30, 9, 10, 31, 32, 33, 36, 37, 38, 39, 40, 41, 34, 35, 42, 43, 44, 45, 46] (.reg [un (.mov 28 (.t 8)),
 un (.bin 29 .sub (.t 28) (.c (.int .i64 1))),
 un (.asg 8 (.t 29))])))))
def Tm : ACode :=
 (.seq (.reg [un (.mov 47 (.t 2)),
 un (.bin 48 .eql (.t 47) (.c (.int .i64 2))),
 un (.asg 49 (.t 48)),
 ⟨some (49, true), .mov 50 (.t 0)⟩,
 ⟨some (49, true), .call 51 Hb [((.t 50), true), ((.c (.int .i64 3)), false)]⟩,
 un (.pick 52 (.t 49) (.t 51) (.c (.bool false)))])
 (.drop [47, 48, 49, 50, 51] (.cond (.t 52) (.reg [un (.mov 53 (.t 0)),
 un (.mov 54 (.t 1)),
 un (.call 55 Gj [((.t 53), true), ((.t 54), false)]),
 un (.call 56 H7 [((.t 55), false)]),
 un (.st 2 (.t 7) (.t 56))])
 .skip)))
def S8 : ACode :=
 (.seq (.reg [un (.mov 57 (.t 0)),
 un (.call 58 Hb [((.t 57), true), ((.c (.int .i64 12)), false)])])
 (.drop [57] (.cond (.t 58) (.reg [un (.mov 59 (.t 1)),
 un (.mov 60 (.t 2)),
 un (.call 61 Lb [((.t 59), false), ((.t 60), false)]),
 un (.st 2 (.t 7) (.t 61))])
 .skip)))
def W0 : ACode :=
 (.seq (.reg [un (.alc 6 (.agg [.int .i64 0, .nilsl 1]))])
 (.seq (.reg [un (.mov 11 (.t 2)),
 un (.bsl 12 1 []),
 un (.bld 13 [.int .i64 0, .nilsl 1] [(0, 1, (.t 11)), (1, 1, (.t 12))]),
 un (.alc 7 (.agg [.int .i64 0, .nilsl 1])),
 un (.st 2 (.t 7) (.t 13))])
 (.drop [11, 12, 13] (.seq (.cut Th)
 (.drop [14, 15, 16, 17, 18, 19, 20, 21, 22] (.seq (.seq (.reg [un (.mov 23 (.t 0)),
 un (.bsl 24 1 [(.c (.int .i64 0)), (.c (.int .i64 1)), (.c (.int .i64 2)), (.c (.int .i64 3)), (.c (.int .i64 4)), (.c (.int .i64 6)), (.c (.int .i64 9))]),
 un (.call 25 B0 [((.t 23), true), ((.t 24), false)]),
 un (.asg 8 (.t 25))])
 (.drop [23, 24, 25] (.block 0 (.loop Kc))))
 (.drop [23, 24, 25, 8, 26, 27, 30, 9, 10, 31, 32, 33, 36, 37, 38, 39, 40, 41, 34, 35, 42, 43, 44, 45, 46, 28, 29] (.seq (.cut Tm)
 (.drop [47, 48, 49, 50, 51, 52, 53, 54, 55, 56] (.seq (.cut S8)
 (.drop [57, 58, 59, 60, 61] (.seq (.seq (.reg [un (.mov 62 (.t 0)),
 un (.call 63 Bi [((.t 62), true), ((.c (.int .i64 40)), false)])])
 (.drop [62] (.block 4 (.seq (.reg [un (.bin 65 .eql (.t 63) (.c (.int .i64 0))),
 un (.asg 64 (.t 65))])
 (.drop [65] (.cond (.t 64) (.reg [un (.mov 66 (.t 0)),
 un (.bsl 67 1 [(.c (.int .i64 0)), (.c (.int .i64 4)), (.c (.int .i64 (-1)))]),
 un (.call 68 B0 [((.t 66), true), ((.t 67), false)]),
 un (.fadr 69 0 (.t 7)),
 un (.st 1 (.t 69) (.t 68))])
 (.seq (.reg [un (.bin 71 .eql (.t 63) (.c (.int .i64 1))),
 un (.asg 70 (.t 71))])
 (.drop [71] (.cond (.t 70) (.dreg [(un (.fadr 72 1 (.t 7)), [75]),
 (un (.ld 73 1 false (.t 72)), [75]),
 (un (.mov 74 (.t 2)), [72, 73]),
 (un (.mkr 75 1 (.int .i64 0) (.t 74)), [72, 73]),
 (un (.bsl 76 1 [(.t 75)]), [72, 73])]
 [un (.app 77 1 (.t 73) (.t 76)),
 un (.fadr 78 1 (.t 7)),
 un (.st 1 (.t 78) (.t 77))])
 (.seq (.reg [un (.bin 80 .eql (.t 63) (.c (.int .i64 2))),
 un (.asg 79 (.t 80))])
 (.drop [80] (.cond (.t 79) (.seq (.reg [un (.fadr 81 1 (.t 7)),
 un (.ld 82 1 false (.t 81)),
 un (.len 83 (.t 82)),
 un (.bin 84 .gtr (.t 83) (.c (.int .i64 0)))])
 (.drop [81, 82, 83] (.cond (.t 84) (.dreg [(un (.fadr 85 1 (.t 7)), [94, 88, 90]),
 (un (.ld 86 1 false (.t 85)), [94, 88, 90]),
 (un (.mov 87 (.t 0)), [85, 86, 88]),
 (un (.mov 88 (.t 1)), [85, 86, 87]),
 (un (.bslr 89 1 [(.c (.int .i64 (-1))), (.t 88), (.c (.int .i64 0))]), [85, 86, 87]),
 (un (.call 90 B0 [((.t 87), true), ((.t 89), false)]), [94, 85, 86, 88]),
 (un (.bslr 91 1 [(.t 90)]), [85, 86, 88])]
 [un (.iad 92 1 (.t 86) (.c (.int .i64 0))),
 un (.st 1 (.t 92) (.t 91))])
 .skip)))
 .skip))))))))))))
 (.drop [62, 63, 65, 64, 66, 67, 68, 69, 71, 70, 72, 73, 74, 75, 76, 77, 78, 80, 79, 81, 82, 83, 84, 85, 86, 87, 88, 89, 90, 91, 92] (.seq (.reg [un (.ld 93 2 true (.t 7)),
 un (.st 2 (.t 6) (.t 93))])
 (.drop [93] .ret)))))))))))))))
abbrev Wz : List RS := [.c 6 2 true]
theorem W5 : A9 Try.prog Fx 94 W0 Wz = true := by kernel_rfl
def Lr : ACode :=
 (.seq (.reg [un (.bin 24 .lss (.t 23) (.t 22))])
 (.seq (.cond (.t 24) .skip
 (.exit 2))
 (.seq (.block 3 (.seq (.reg [un (.mov 25 (.t 23)),
 un (.asg 7 (.t 25))])
 (.drop [25] (.dreg [(un (.mov 26 (.t 6)), []),
 (un (.asg 27 (.t 26)), []),
 (⟨some (27, true), .fadr 28 1 (.t 1)⟩, [26]),
 (⟨some (27, true), .ld 29 1 false (.t 28)⟩, [26]),
 (⟨some (27, true), .mov 30 (.t 5)⟩, [28, 29, 26]),
 (⟨some (27, true), .mov 31 (.t 7)⟩, [28, 29, 30, 26]),
 (⟨some (27, true), .call 32 Q3 [((.t 30), false), ((.t 31), false)]⟩, [28, 29, 26])]
 [⟨some (27, true), .call 33 L0 [((.t 29), false), ((.t 32), false)]⟩,
 ⟨some (27, true), .un 34 .not (.t 33)⟩,
 un (.pick 35 (.t 27) (.t 34) (.c (.bool false))),
 un (.asg 6 (.t 35))]))))
 (.drop [25, 7, 26, 27, 28, 29, 30, 31, 32, 33, 34, 35] (.reg [un (.bin 36 .add (.t 23) (.c (.int .i64 1))),
 un (.asg 23 (.t 36))])))))
def Ma : ACode :=
 (.seq (.reg [un (.bin 14 .lss (.t 13) (.t 12))])
 (.seq (.cond (.t 14) .skip
 (.exit 0))
 (.seq (.block 1 (.seq (.reg [un (.iad 15 1 (.t 11) (.t 13)),
 un (.ld 16 1 false (.t 15)),
 un (.asg 5 (.t 16))])
 (.drop [15, 16] (.seq (.reg [un (.fadr 17 1 (.t 1)),
 un (.ld 18 1 false (.t 17)),
 un (.mov 19 (.t 5)),
 un (.call 20 L0 [((.t 18), false), ((.t 19), false)]),
 un (.asg 6 (.t 20))])
 (.drop [17, 18, 19, 20] (.seq (.seq (.reg [un (.mov 21 (.t 5)),
 un (.len 22 (.t 21)),
 un (.mov 23 (.c (.int .i64 0)))])
 (.drop [21] (.block 2 (.loop Lr))))
 (.drop [21, 22, 23, 24, 25, 7, 26, 27, 28, 29, 30, 31, 32, 33, 34, 35, 36] (.seq (.reg [un (.mov 37 (.t 6))])
 (.cond (.t 37) (.reg [un (.mov 38 (.t 3)),
 un (.mov 39 (.t 5)),
 un (.bsl 40 1 [(.t 39)]),
 un (.app 41 1 (.t 38) (.t 40)),
 un (.asg 3 (.t 41))])
 .skip)))))))))
 (.drop [15, 16, 5, 17, 18, 19, 20, 6, 21, 22, 23, 24, 25, 7, 26, 27, 28, 29, 30, 31, 32, 33, 34, 35, 36, 37, 38, 39, 40, 41] (.reg [un (.bin 42 .add (.t 13) (.c (.int .i64 1))),
 un (.asg 13 (.t 42))])))))
def Y9 : ACode :=
 (.seq (.reg [un (.box 1 (.t 0)),
 un (.asg 2 (.c (.nilsl 1)))])
 (.seq (.reg [un (.bsl 8 1 []),
 un (.asg 3 (.t 8))])
 (.drop [8] (.seq (.seq (.reg [un (.fadr 9 0 (.t 1)),
 un (.ld 10 1 false (.t 9)),
 un (.call 11 Li [((.t 10), false)]),
 un (.len 12 (.t 11)),
 un (.mov 13 (.c (.int .i64 0)))])
 (.drop [9, 10] (.block 0 (.loop Ma))))
 (.drop [9, 10, 11, 12, 13, 14, 15, 16, 5, 17, 18, 19, 20, 6, 21, 22, 23, 24, 25, 7, 26, 27, 28, 29, 30, 31, 32, 33, 34, 35, 36, 37, 38, 39, 40, 41, 42] (.seq (.reg [un (.mov 43 (.t 3)),
 un (.asg 2 (.t 43))])
 (.drop [43] .ret)))))))
abbrev Za : List RS := [.t 2]
theorem Y5 : A9 Try.prog Gx 44 Y9 Za = true := by kernel_rfl
def Abt : ACode :=
 (.seq (.dreg [(un (.fadr 6 0 (.t 3)), []),
 (un (.ld 7 1 false (.t 6)), []),
 (un (.call 8 Hd [((.t 7), false), ((.c (.int .i64 1)), false), ((.c (.int .i64 3)), false)]), []),
 (un (.un 9 .not (.t 8)), []),
 (un (.asg 10 (.t 9)), []),
 (⟨some (10, false), .fadr 11 1 (.t 3)⟩, [9]),
 (⟨some (10, false), .ld 12 1 false (.t 11)⟩, [9]),
 (⟨some (10, false), .len 13 (.t 12)⟩, [9]),
 (⟨some (10, false), .mov 14 (.t 0)⟩, [11, 12, 13, 9]),
 (⟨some (10, false), .fadr 15 0 (.t 3)⟩, [11, 12, 13, 14, 9]),
 (⟨some (10, false), .ld 16 1 false (.t 15)⟩, [11, 12, 13, 14, 9]),
 (⟨some (10, false), .call 17 Jo [((.t 14), false), ((.t 16), false)]⟩, [11, 12, 13, 9])]
 [⟨some (10, false), .bin 18 .gtr (.t 13) (.t 17)⟩,
 un (.pick 19 (.t 10) (.c (.bool true)) (.t 18))])
 (.drop [6, 7, 8, 9, 10, 11, 12, 13, 14, 15, 16, 17, 18] (.cond (.t 19) (.seq (.reg [un (.asg 4 (.c (.bool false)))])
 .ret)
 .skip)))
def R4 : ACode :=
 (.seq (.seq (.reg [un (.mov 20 (.t 5)),
 un (.fadr 21 1 (.t 3)),
 un (.ld 22 1 false (.t 21)),
 un (.len 23 (.t 22)),
 un (.bin 24 .lss (.t 20) (.t 23))])
 (.drop [20, 21, 22, 23] (.cond (.t 24) .skip
 (.exit 0))))
 (.drop [20, 21, 22, 23, 24] (.seq (.block 1 (.seq (.dreg [(un (.mov 27 (.t 0)), []),
 (un (.fadr 28 0 (.t 3)), [27]),
 (un (.ld 29 1 false (.t 28)), [27]),
 (un (.fadr 30 1 (.t 3)), [27, 28, 29]),
 (un (.ld 31 1 false (.t 30)), [27, 28, 29]),
 (un (.mov 32 (.t 5)), [27, 28, 29, 30, 31]),
 (un (.iad 33 1 (.t 31) (.t 32)), [27, 28, 29]),
 (un (.ld 34 1 false (.t 33)), [27, 28, 29]),
 (un (.call 35 Q5 [((.t 27), false), ((.t 29), false), ((.t 34), false)]), []),
 (un (.un 36 .not (.t 35)), []),
 (un (.asg 37 (.t 36)), []),
 (⟨some (37, false), .mov 38 (.t 5)⟩, [36]),
 (⟨some (37, false), .bin 39 .gtr (.t 38) (.c (.int .i64 0))⟩, [36]),
 (⟨some (37, false), .asg 40 (.t 39)⟩, [36]),
 (⟨some (40, true), .fadr 41 1 (.t 3)⟩, [36, 39]),
 (⟨some (40, true), .ld 42 1 false (.t 41)⟩, [36, 39]),
 (⟨some (40, true), .mov 43 (.t 5)⟩, [41, 42, 36, 39]),
 (⟨some (40, true), .bin 44 .sub (.t 43) (.c (.int .i64 1))⟩, [41, 42, 36, 39]),
 (⟨some (40, true), .iad 45 1 (.t 42) (.t 44)⟩, [36, 39]),
 (⟨some (40, true), .ld 46 1 false (.t 45)⟩, [36, 39]),
 (⟨some (40, true), .fadr 47 1 (.t 3)⟩, [41, 42, 43, 44, 45, 46, 36, 39]),
 (⟨some (40, true), .ld 48 1 false (.t 47)⟩, [41, 42, 43, 44, 45, 46, 36, 39]),
 (⟨some (40, true), .mov 49 (.t 5)⟩, [41, 42, 43, 44, 45, 46, 47, 48, 36, 39]),
 (⟨some (40, true), .iad 50 1 (.t 48) (.t 49)⟩, [41, 42, 43, 44, 45, 46, 36, 39]),
 (⟨some (40, true), .ld 51 1 false (.t 50)⟩, [41, 42, 43, 44, 45, 46, 36, 39])]
 [⟨some (40, true), .call 52 J5 [((.t 46), false), ((.t 51), false)]⟩,
 ⟨some (40, true), .un 53 .not (.t 52)⟩,
 ⟨some (37, false), .pick 54 (.t 40) (.t 53) (.c (.bool false))⟩,
 un (.pick 55 (.t 37) (.c (.bool true)) (.t 54))])
 (.drop [27, 28, 29, 30, 31, 32, 33, 34, 35, 36, 37, 38, 39, 40, 41, 42, 43, 44, 45, 46, 47, 48, 49, 50, 51, 52, 53, 54] (.cond (.t 55) (.seq (.reg [un (.asg 4 (.c (.bool false)))])
 .ret)
 .skip))))
 (.drop [27, 28, 29, 30, 31, 32, 33, 34, 35, 36, 37, 38, 39, 40, 41, 42, 43, 44, 45, 46, 47, 48, 49, 50, 51, 52, 53, 54, 55] (.reg [un (.mov 25 (.t 5)),
 un (.bin 26 .add (.t 25) (.c (.int .i64 1))),
 un (.asg 5 (.t 26))])))))
def Aiu : ACode :=
 (.seq (.reg [un (.box 3 (.t 1)),
 un (.asg 4 (.c (.bool false)))])
 (.seq (.cut Abt)
 (.drop [6, 7, 8, 9, 10, 11, 12, 13, 14, 15, 16, 17, 18, 19] (.seq (.seq (.reg [un (.asg 5 (.c (.int .i64 0)))])
 (.block 0 (.loop R4)))
 (.drop [5, 20, 21, 22, 23, 24, 27, 28, 29, 30, 31, 32, 33, 34, 35, 36, 37, 38, 39, 40, 41, 42, 43, 44, 45, 46, 47, 48, 49, 50, 51, 52, 53, 54, 55, 25, 26] (.seq (.reg [un (.asg 4 (.c (.bool true)))])
 .ret))))))
abbrev Ah0 : List RS := [.t 4]
theorem Aih : A9 Try.prog I8 56 Aiu Ah0 = true := by kernel_rfl
def Aal : ACode :=
 (.seq (.reg [un (.mov 24 (.t 7)),
 un (.mov 25 (.t 4)),
 un (.mov 26 (.t 5)),
 un (.iad 27 1 (.t 25) (.t 26)),
 un (.ld 28 1 false (.t 27)),
 un (.len 29 (.t 28)),
 un (.bin 30 .lss (.t 24) (.t 29)),
 un (.asg 31 (.t 30)),
 ⟨some (31, true), .mov 32 (.t 6)⟩,
 un (.pick 33 (.t 31) (.t 32) (.c (.bool false)))])
 (.drop [24, 25, 26, 27, 28, 29, 30, 31, 32] (.cond (.t 33) .skip
 (.exit 2))))
def Rd : ACode :=
 (.seq (.cut Aal)
 (.drop [24, 25, 26, 27, 28, 29, 30, 31, 32, 33] (.seq (.block 3 (.dreg [(un (.ld 36 2 true (.t 1)), [43]),
 (un (.mov 37 (.t 4)), [36]),
 (un (.mov 38 (.t 5)), [36, 37]),
 (un (.iad 39 1 (.t 37) (.t 38)), [36]),
 (un (.ld 40 1 false (.t 39)), [36]),
 (un (.mov 41 (.t 7)), [36, 37, 38, 39, 40]),
 (un (.slc 42 1 (.t 40) none (some (.t 41))), [36]),
 (un (.call 43 Jv [((.t 42), false)]), [36]),
 (un (.mov 44 (.t 4)), [36, 37, 38, 39, 40, 41, 42, 43]),
 (un (.mov 45 (.t 5)), [36, 37, 38, 39, 40, 41, 42, 43, 44]),
 (un (.iad 46 1 (.t 44) (.t 45)), [36, 37, 38, 39, 40, 41, 42, 43]),
 (un (.ld 47 1 false (.t 46)), [36, 37, 38, 39, 40, 41, 42, 43]),
 (un (.mov 48 (.t 7)), [36, 37, 38, 39, 40, 41, 42, 43, 44, 45, 46, 47]),
 (un (.bin 49 .add (.t 48) (.c (.int .i64 1))), [36, 37, 38, 39, 40, 41, 42, 43, 44, 45, 46, 47]),
 (un (.slc 50 1 (.t 47) (some (.t 49)) none), [36, 37, 38, 39, 40, 41, 42, 43]),
 (un (.app 51 1 (.t 43) (.t 50)), [36])]
 [un (.call 52 Nw [((.t 36), false), ((.t 51), false)]),
 un (.un 53 .not (.t 52)),
 un (.asg 6 (.t 53))]))
 (.drop [36, 37, 38, 39, 40, 41, 42, 43, 44, 45, 46, 47, 48, 49, 50, 51, 52, 53] (.reg [un (.mov 34 (.t 7)),
 un (.bin 35 .add (.t 34) (.c (.int .i64 1))),
 un (.asg 7 (.t 35))])))))
def Qj : ACode :=
 (.seq (.seq (.reg [un (.mov 12 (.t 5)),
 un (.mov 13 (.t 4)),
 un (.len 14 (.t 13)),
 un (.bin 15 .lss (.t 12) (.t 14))])
 (.drop [12, 13, 14] (.cond (.t 15) .skip
 (.exit 0))))
 (.drop [12, 13, 14, 15] (.seq (.block 1 (.seq (.dreg [(un (.ld 18 2 true (.t 1)), []),
 (un (.mov 19 (.t 4)), [18]),
 (un (.mov 20 (.t 5)), [18, 19]),
 (un (.iad 21 1 (.t 19) (.t 20)), [18]),
 (un (.ld 22 1 false (.t 21)), [18])]
 [un (.call 23 Nw [((.t 18), false), ((.t 22), false)]),
 un (.asg 6 (.t 23))])
 (.drop [18, 19, 20, 21, 22, 23] (.seq (.seq (.reg [un (.asg 7 (.c (.int .i64 0)))])
 (.block 2 (.loop Rd)))
 (.drop [7, 24, 25, 26, 27, 28, 29, 30, 31, 32, 33, 36, 37, 38, 39, 40, 41, 42, 43, 44, 45, 46, 47, 48, 49, 50, 51, 52, 53, 34, 35] (.seq (.reg [un (.mov 54 (.t 6))])
 (.cond (.t 54) (.reg [un (.mov 55 (.t 3)),
 un (.mov 56 (.t 4)),
 un (.mov 57 (.t 5)),
 un (.iad 58 1 (.t 56) (.t 57)),
 un (.ld 59 1 false (.t 58)),
 un (.bsl 60 1 [(.t 59)]),
 un (.app 61 1 (.t 55) (.t 60)),
 un (.asg 3 (.t 61))])
 .skip)))))))
 (.drop [18, 19, 20, 21, 22, 23, 6, 7, 24, 25, 26, 27, 28, 29, 30, 31, 32, 33, 36, 37, 38, 39, 40, 41, 42, 43, 44, 45, 46, 47, 48, 49, 50, 51, 52, 53, 34, 35, 54, 55, 56, 57, 58, 59, 60, 61] (.reg [un (.mov 16 (.t 5)),
 un (.bin 17 .add (.t 16) (.c (.int .i64 1))),
 un (.asg 5 (.t 17))])))))
def Af8 : ACode :=
 (.seq (.reg [un (.box 1 (.t 0)),
 un (.asg 2 (.c (.nilsl 1)))])
 (.seq (.reg [un (.bsl 8 1 []),
 un (.fadr 9 0 (.t 1)),
 un (.ld 10 1 false (.t 9)),
 un (.call 11 Im [((.t 10), false)]),
 un (.asg 3 (.t 8)),
 un (.asg 4 (.t 11))])
 (.drop [8, 9, 10, 11] (.seq (.seq (.reg [un (.asg 5 (.c (.int .i64 0)))])
 (.block 0 (.loop Qj)))
 (.drop [5, 12, 13, 14, 15, 18, 19, 20, 21, 22, 23, 6, 7, 24, 25, 26, 27, 28, 29, 30, 31, 32, 33, 36, 37, 38, 39, 40, 41, 42, 43, 44, 45, 46, 47, 48, 49, 50, 51, 52, 53, 34, 35, 54, 55, 56, 57, 58, 59, 60, 61, 16, 17] (.seq (.reg [un (.mov 62 (.t 3)),
 un (.asg 2 (.t 62))])
 (.drop [62] .ret)))))))
abbrev Ags : List RS := [.t 2]
theorem Afx : A9 Try.prog Kk 63 Af8 Ags = true := by kernel_rfl
def Ag7 : ACode :=
 (.seq (.reg [un (.box 4 (.t 1)),
 un (.box 5 (.t 2)),
 un (.asg 6 (.c (.bool false)))])
 (.seq (.reg [un (.mov 7 (.t 0)),
 un (.ld 8 2 true (.t 5)),
 un (.call 9 Kr [((.t 7), false), ((.t 8), false)]),
 un (.asg 10 (.t 9)),
 ⟨some (10, true), .ld 11 2 true (.t 4)⟩,
 ⟨some (10, true), .mov 12 (.t 0)⟩,
 ⟨some (10, true), .call 13 Xm [((.t 11), false), ((.t 12), false)]⟩,
 un (.pick 14 (.t 10) (.t 13) (.c (.bool false))),
 un (.asg 15 (.t 14)),
 ⟨some (15, true), .fadr 16 1 (.t 5)⟩,
 ⟨some (15, true), .ld 17 1 false (.t 16)⟩,
 ⟨some (15, true), .len 18 (.t 17)⟩,
 ⟨some (15, true), .fadr 19 0 (.t 4)⟩,
 ⟨some (15, true), .ld 20 1 false (.t 19)⟩,
 ⟨some (15, true), .call 21 Hn [((.t 18), false), ((.t 20), false)]⟩,
 ⟨some (15, true), .bin 22 .leq (.t 21) (.c (.int .i64 70000))⟩,
 un (.pick 23 (.t 15) (.t 22) (.c (.bool false))),
 un (.asg 6 (.t 23))])
 (.drop [7, 8, 9, 10, 11, 12, 13, 14, 15, 16, 17, 18, 19, 20, 21, 22, 23] .ret)))
abbrev Aio : List RS := [.t 6]
theorem Aid : A9 Try.prog Rb 24 Ag7 Aio = true := by kernel_rfl
def Sg : ACode :=
 (.seq (.seq (.reg [un (.mov 29 (.t 12)),
 un (.mov 30 (.t 2)),
 un (.len 31 (.t 30)),
 un (.bin 32 .lss (.t 29) (.t 31))])
 (.drop [29, 30, 31] (.cond (.t 32) .skip
 (.exit 0))))
 (.drop [29, 30, 31, 32] (.seq (.block 1 (.reg [un (.mov 35 (.t 11)),
 un (.mov 36 (.t 2)),
 un (.mov 37 (.t 12)),
 un (.iad 38 1 (.t 36) (.t 37)),
 un (.ld 39 1 false (.t 38)),
 un (.call 40 Jv [((.t 39), false)]),
 un (.bsl 41 1 [(.t 40)]),
 un (.app 42 1 (.t 35) (.t 41)),
 un (.asg 11 (.t 42))]))
 (.drop [35, 36, 37, 38, 39, 40, 41, 42] (.reg [un (.mov 33 (.t 12)),
 un (.bin 34 .add (.t 33) (.c (.int .i64 1))),
 un (.asg 12 (.t 34))])))))
def Sf : ACode :=
 (.seq (.seq (.reg [un (.mov 43 (.t 13)),
 un (.fadr 44 1 (.t 3)),
 un (.ld 45 1 false (.t 44)),
 un (.len 46 (.t 45)),
 un (.bin 47 .lss (.t 43) (.t 46))])
 (.drop [43, 44, 45, 46] (.cond (.t 47) .skip
 (.exit 2))))
 (.drop [43, 44, 45, 46, 47] (.seq (.block 3 (.seq (.reg [un (.fadr 50 1 (.t 3)),
 un (.ld 51 1 false (.t 50)),
 un (.mov 52 (.t 13)),
 un (.iad 53 2 (.t 51) (.t 52)),
 un (.fadr 54 0 (.t 53)),
 un (.ld 55 1 false (.t 54)),
 un (.bin 56 .eql (.t 55) (.c (.int .i64 0)))])
 (.drop [50, 51, 52, 53, 54, 55] (.cond (.t 56) (.reg [un (.mov 57 (.t 11)),
 un (.ld 58 2 true (.t 3)),
 un (.mov 59 (.t 13)),
 un (.bsl 60 1 []),
 un (.mov 61 (.t 1)),
 un (.call 62 Lx [((.t 58), false), ((.t 59), false), ((.t 60), false), ((.t 61), false)]),
 un (.bsl 63 1 [(.t 62)]),
 un (.app 64 1 (.t 57) (.t 63)),
 un (.asg 11 (.t 64))])
 .skip))))
 (.drop [50, 51, 52, 53, 54, 55, 56, 57, 58, 59, 60, 61, 62, 63, 64] (.reg [un (.mov 48 (.t 13)),
 un (.bin 49 .add (.t 48) (.c (.int .i64 1))),
 un (.asg 13 (.t 49))])))))
def Rk : ACode :=
 (.seq (.seq (.reg [un (.mov 65 (.t 14)),
 un (.mov 66 (.t 11)),
 un (.len 67 (.t 66)),
 un (.bin 68 .lss (.t 65) (.t 67))])
 (.drop [65, 66, 67] (.cond (.t 68) .skip
 (.exit 4))))
 (.drop [65, 66, 67, 68] (.seq (.block 5 (.seq (.reg [un (.mov 72 (.t 8)),
 un (.mov 73 (.t 11)),
 un (.mov 74 (.t 14)),
 un (.iad 75 1 (.t 73) (.t 74)),
 un (.ld 76 1 false (.t 75)),
 un (.call 77 Kg [((.t 72), false), ((.t 76), false)]),
 un (.asg 71 (.t 77)),
 un (.ext 78 (.t 71) 0),
 un (.ext 79 (.t 71) 1),
 un (.asg 15 (.t 78)),
 un (.asg 16 (.t 79))])
 (.drop [72, 73, 74, 75, 76, 77, 71, 78, 79, 15] (.seq (.reg [un (.mov 80 (.t 16)),
 un (.un 81 .not (.t 80))])
 (.drop [80] (.cond (.t 81) (.seq (.reg [un (.mov 82 (.t 8)),
 un (.mov 83 (.t 11)),
 un (.mov 84 (.t 14)),
 un (.iad 85 1 (.t 83) (.t 84)),
 un (.ld 86 1 false (.t 85)),
 un (.call 87 Jp [((.t 82), true), ((.t 86), false)]),
 un (.asg 8 (.t 87))])
 (.drop [82, 83, 84, 85, 86, 87] (.reg [un (.mov 88 (.t 9)),
 un (.mov 89 (.t 11)),
 un (.mov 90 (.t 14)),
 un (.iad 91 1 (.t 89) (.t 90)),
 un (.ld 92 1 false (.t 91)),
 un (.bsl 93 1 [(.t 92)]),
 un (.app 94 1 (.t 88) (.t 93)),
 un (.asg 9 (.t 94))])))
 .skip))))))
 (.drop [72, 73, 74, 75, 76, 77, 71, 78, 79, 15, 16, 80, 81, 82, 83, 84, 85, 86, 87, 88, 89, 90, 91, 92, 93, 94] (.reg [un (.mov 69 (.t 14)),
 un (.bin 70 .add (.t 69) (.c (.int .i64 1))),
 un (.asg 14 (.t 70))])))))
def Adh : ACode :=
 (.seq (.reg [un (.mov 95 (.t 17)),
 un (.mov 96 (.t 9)),
 un (.len 97 (.t 96)),
 un (.bin 98 .lss (.t 95) (.t 97)),
 un (.asg 99 (.t 98)),
 ⟨some (99, true), .mov 100 (.t 9)⟩,
 ⟨some (99, true), .len 101 (.t 100)⟩,
 ⟨some (99, true), .mov 102 (.t 10)⟩,
 ⟨some (99, true), .bin 103 .leq (.t 101) (.t 102)⟩,
 un (.pick 104 (.t 99) (.t 103) (.c (.bool false)))])
 (.drop [95, 96, 97, 98, 99, 100, 101, 102, 103] (.cond (.t 104) .skip
 (.exit 6))))
def Abr : ACode :=
 (.seq (.reg [un (.mov 128 (.t 20)),
 un (.asg 129 (.t 128)),
 ⟨some (129, true), .mov 130 (.t 9)⟩,
 ⟨some (129, true), .len 131 (.t 130)⟩,
 ⟨some (129, true), .mov 132 (.t 10)⟩,
 ⟨some (129, true), .bin 133 .leq (.t 131) (.t 132)⟩,
 un (.pick 134 (.t 129) (.t 133) (.c (.bool false)))])
 (.drop [128, 129, 130, 131, 132, 133] (.cond (.t 134) .skip
 (.exit 10))))
def Adv : ACode :=
 (.seq (.reg [un (.mov 135 (.t 19)),
 un (.mov 136 (.t 17)),
 un (.call 137 Vi [((.t 135), false), ((.t 136), false)])])
 (.drop [135, 136] (.cond (.t 137) (.seq (.dreg [(un (.ld 138 2 true (.t 3)), [9]),
 (un (.mov 139 (.t 18)), [9, 138]),
 (un (.mov 140 (.t 9)), [138, 139]),
 (un (.mov 141 (.t 19)), [138, 139, 140]),
 (un (.call 142 Pa [((.t 140), true), ((.t 141), false)]), [9, 138, 139]),
 (un (.mov 143 (.t 1)), [9, 138, 139, 140, 141, 142])]
 [un (.call 144 Lx [((.t 138), false), ((.t 139), false), ((.t 142), false), ((.t 143), false)]),
 un (.asgf 21 (.t 144))])
 (.drop [138, 139, 140, 141, 142, 143, 144] (.seq (.reg [un (.mov 146 (.t 8)),
 un (.mov 147 (.t 21)),
 un (.call 148 Kg [((.t 146), false), ((.t 147), false)]),
 un (.asg 145 (.t 148)),
 un (.ext 149 (.t 145) 0),
 un (.ext 150 (.t 145) 1),
 un (.asg 22 (.t 149)),
 un (.asg 23 (.t 150))])
 (.drop [146, 147, 148, 145, 149, 150, 22] (.seq (.reg [un (.mov 151 (.t 23)),
 un (.un 152 .not (.t 151))])
 (.drop [151] (.cond (.t 152) (.seq (.reg [un (.mov 153 (.t 8)),
 un (.mov 154 (.t 21)),
 un (.call 155 Jp [((.t 153), true), ((.t 154), false)]),
 un (.asg 8 (.t 155))])
 (.drop [153, 154, 155] (.reg [un (.mov 156 (.t 9)),
 un (.mov 157 (.t 21)),
 un (.bsl 158 1 [(.t 157)]),
 un (.app 159 1 (.t 156) (.t 158)),
 un (.asg 9 (.t 159))])))
 .skip)))))))
 .skip)))
def Sk : ACode :=
 (.seq (.cut Abr)
 (.drop [128, 129, 130, 131, 132, 133, 134] (.frz [19] (.block 11 (.seq (.cut Adv)
 (.drop [135, 136, 137, 138, 139, 140, 141, 142, 143, 144, 21, 146, 147, 148, 145, 149, 150, 22, 23, 151, 152, 153, 154, 155, 156, 157, 158, 159] (.reg [un (.mov 161 (.t 19)),
 un (.mov 162 (.t 17)),
 un (.bin 163 .add (.t 162) (.c (.int .i64 1))),
 un (.call 164 Ts [((.t 161), false), ((.t 163), false)]),
 un (.asg 160 (.t 164)),
 un (.ext 165 (.t 160) 0),
 un (.ext 166 (.t 160) 1),
 un (.asg 19 (.t 165)),
 un (.asg 20 (.t 166))])))))))
def R8 : ACode :=
 (.seq (.seq (.reg [un (.mov 107 (.t 18)),
 un (.fadr 108 1 (.t 3)),
 un (.ld 109 1 false (.t 108)),
 un (.len 110 (.t 109)),
 un (.bin 111 .lss (.t 107) (.t 110))])
 (.drop [107, 108, 109, 110] (.cond (.t 111) .skip
 (.exit 8))))
 (.drop [107, 108, 109, 110, 111] (.seq (.block 9 (.seq (.dregp 0 [19] [(un (.fadr 114 1 (.t 3)), []),
 (un (.ld 115 1 false (.t 114)), []),
 (un (.mov 116 (.t 18)), [114, 115]),
 (un (.iad 117 2 (.t 115) (.t 116)), []),
 (un (.fadr 118 0 (.t 117)), []),
 (un (.ld 119 1 false (.t 118)), []),
 (un (.mk 120 1 (.int .i64 0) (.t 119)), []),
 (un (.fadr 121 1 (.t 3)), [114, 115, 116, 117, 118, 119, 120, 120]),
 (un (.ld 122 1 false (.t 121)), [114, 115, 116, 117, 118, 119, 120, 120]),
 (un (.mov 123 (.t 18)), [114, 115, 116, 117, 118, 119, 120, 121, 122, 120]),
 (un (.iad 124 2 (.t 122) (.t 123)), [114, 115, 116, 117, 118, 119, 120, 120]),
 (un (.fadr 125 0 (.t 124)), [114, 115, 116, 117, 118, 119, 120, 120]),
 (un (.ld 126 1 false (.t 125)), [114, 115, 116, 117, 118, 119, 120, 120]),
 (un (.bin 127 .gtr (.t 126) (.c (.int .i64 0))), [114, 115, 116, 117, 118, 119, 120, 120]),
 (un (.asg 19 (.t 120)), [121, 122, 123, 124, 125, 126, 127])]
 [un (.asg 20 (.t 127))])
 (.drop [114, 115, 116, 117, 118, 119, 120, 121, 122, 123, 124, 125, 126, 127] (.block 10 (.loop Sk)))))
 (.drop [114, 115, 116, 117, 118, 119, 120, 121, 122, 123, 124, 125, 126, 127, 19, 20, 128, 129, 130, 131, 132, 133, 134, 135, 136, 137, 138, 139, 140, 141, 142, 143, 144, 21, 146, 147, 148, 145, 149, 150, 22, 23, 151, 152, 153, 154, 155, 156, 157, 158, 159, 161, 162, 163, 164, 160, 165, 166] (.reg [un (.mov 112 (.t 18)),
 un (.bin 113 .add (.t 112) (.c (.int .i64 1))),
 un (.asg 18 (.t 113))])))))
def Rp : ACode :=
 (.seq (.cut Adh)
 (.drop [95, 96, 97, 98, 99, 100, 101, 102, 103, 104] (.seq (.block 7 (.seq (.reg [un (.asg 18 (.c (.int .i64 0)))])
 (.block 8 (.loop R8))))
 (.drop [18, 107, 108, 109, 110, 111, 114, 115, 116, 117, 118, 119, 120, 121, 122, 123, 124, 125, 126, 127, 19, 20, 128, 129, 130, 131, 132, 133, 134, 135, 136, 137, 138, 139, 140, 141, 142, 143, 144, 21, 146, 147, 148, 145, 149, 150, 22, 23, 151, 152, 153, 154, 155, 156, 157, 158, 159, 161, 162, 163, 164, 160, 165, 166, 112, 113] (.reg [un (.mov 105 (.t 17)),
 un (.bin 106 .add (.t 105) (.c (.int .i64 1))),
 un (.asg 17 (.t 106))])))))
def Ah1 : ACode :=
 (.seq (.reg [un (.box 3 (.t 0)),
 un (.asg 6 (.c (.nilsl 1))),
 un (.asg 7 (.c (.bool false)))])
 (.seq (.reg [un (.bsl 24 1 []),
 un (.bsl 25 1 []),
 un (.ld 26 2 true (.t 3)),
 un (.call 27 Sy [((.t 26), false)]),
 un (.asg 8 (.t 24)),
 un (.asg 9 (.t 25)),
 un (.asg 10 (.t 27))])
 (.drop [24, 25, 26, 27] (.seq (.reg [un (.bsl 28 1 []),
 un (.asg 11 (.t 28))])
 (.drop [28] (.seq (.seq (.reg [un (.asg 12 (.c (.int .i64 0)))])
 (.block 0 (.loop Sg)))
 (.drop [12, 29, 30, 31, 32, 35, 36, 37, 38, 39, 40, 41, 42, 33, 34] (.seq (.seq (.reg [un (.asg 13 (.c (.int .i64 0)))])
 (.block 2 (.loop Sf)))
 (.drop [13, 43, 44, 45, 46, 47, 50, 51, 52, 53, 54, 55, 56, 57, 58, 59, 60, 61, 62, 63, 64, 48, 49] (.seq (.seq (.reg [un (.asg 14 (.c (.int .i64 0)))])
 (.frz [100011] (.block 4 (.loop Rk))))
 (.drop [14, 65, 66, 67, 68, 72, 73, 74, 75, 76, 77, 71, 78, 79, 15, 16, 80, 81, 82, 83, 84, 85, 86, 87, 88, 89, 90, 91, 92, 93, 94, 69, 70] (.seq (.seq (.reg [un (.asg 17 (.c (.int .i64 0)))])
 (.block 6 (.loop Rp)))
 (.drop [17, 95, 96, 97, 98, 99, 100, 101, 102, 103, 104, 18, 107, 108, 109, 110, 111, 114, 115, 116, 117, 118, 119, 120, 121, 122, 123, 124, 125, 126, 127, 19, 20, 128, 129, 130, 131, 132, 133, 134, 135, 136, 137, 138, 139, 140, 141, 142, 143, 144, 21, 146, 147, 148, 145, 149, 150, 22, 23, 151, 152, 153, 154, 155, 156, 157, 158, 159, 161, 162, 163, 164, 160, 165, 166, 112, 113, 105, 106] (.seq (.reg [un (.mov 167 (.t 8)),
 un (.mov 168 (.t 8)),
 un (.len 169 (.t 168)),
 un (.mov 170 (.t 10)),
 un (.bin 171 .leq (.t 169) (.t 170)),
 un (.asg 6 (.t 167)),
 un (.asg 7 (.t 171))])
 (.drop [167, 168, 169, 170, 171] .ret)))))))))))))))
abbrev Ajb : List RS := [.t 6, .t 7]
theorem Ahe : A9 Try.prog Q9 172 Ah1 Ajb = true := by kernel_rfl
def Zk : ACode :=
 (.seq (.reg [un (.box 1 (.t 0)),
 un (.asg 2 (.c (.nilsl 1))),
 un (.asg 3 (.c (.bool false)))])
 (.seq (.seq (.reg [un (.ld 4 2 true (.t 1)),
 un (.call 5 Ga [((.c (.int .i64 2)), false), ((.t 4), false)]),
 un (.un 6 .not (.t 5))])
 (.drop [4, 5] (.cond (.t 6) (.seq (.reg [un (.bsl 7 1 []),
 un (.asg 2 (.t 7)),
 un (.asg 3 (.c (.bool false)))])
 (.drop [7] .ret))
 .skip)))
 (.drop [4, 5, 6, 7] (.seq (.reg [un (.ld 8 2 true (.t 1)),
 un (.call 9 Gx [((.t 8), false)]),
 un (.asg 2 (.t 9)),
 un (.asg 3 (.c (.bool true)))])
 (.drop [8, 9] .ret)))))
abbrev Y4 : List RS := [.t 2, .t 3]
theorem Zi : A9 Try.prog Jx 10 Zk Y4 = true := by kernel_rfl
def Ze : ACode :=
 (.seq (.reg [un (.box 1 (.t 0)),
 un (.asg 2 (.c (.nilsl 1))),
 un (.asg 3 (.c (.bool false)))])
 (.seq (.seq (.reg [un (.ld 4 2 true (.t 1)),
 un (.call 5 I8 [((.c (.int .i64 2)), false), ((.t 4), false)]),
 un (.un 6 .not (.t 5))])
 (.drop [4, 5] (.cond (.t 6) (.seq (.reg [un (.bsl 7 1 []),
 un (.asg 2 (.t 7)),
 un (.asg 3 (.c (.bool false)))])
 (.drop [7] .ret))
 .skip)))
 (.drop [4, 5, 6, 7] (.seq (.reg [un (.ld 8 2 true (.t 1)),
 un (.call 9 Kk [((.t 8), false)]),
 un (.asg 2 (.t 9)),
 un (.asg 3 (.c (.bool true)))])
 (.drop [8, 9] .ret)))))
abbrev Y0 : List RS := [.t 2, .t 3]
theorem Yy : A9 Try.prog Jy 10 Ze Y0 = true := by kernel_rfl
def Mx : ACode :=
 (.seq (.reg [un (.bin 25 .lss (.t 24) (.t 23))])
 (.seq (.cond (.t 25) .skip
 (.exit 2))
 (.seq (.block 3 (.seq (.reg [un (.iad 26 1 (.t 22) (.t 24)),
 un (.ld 27 1 false (.t 26)),
 un (.asg 9 (.t 27))])
 (.drop [26, 27] (.seq (.reg [un (.mov 28 (.t 9)),
 un (.bin 29 .gtr (.t 28) (.c (.int .i64 0)))])
 (.drop [28] (.cond (.t 29) (.reg [un (.mov 30 (.t 7)),
 un (.bin 31 .add (.t 30) (.c (.int .i64 1))),
 un (.asg 7 (.t 31))])
 .skip))))))
 (.drop [26, 27, 9, 28, 29, 30, 31] (.reg [un (.bin 32 .add (.t 24) (.c (.int .i64 1))),
 un (.asg 24 (.t 32))])))))
def W3 : ACode :=
 (.reg [un (.mov 33 (.t 4)),
 un (.mov 34 (.t 4)),
 un (.iad 35 1 (.t 34) (.c (.int .i64 0))),
 un (.ld 36 1 false (.t 35)),
 un (.asg 37 (.t 36)),
 ⟨some (37, true), .mov 38 (.t 7)⟩,
 ⟨some (37, true), .bin 39 .leq (.t 38) (.c (.int .i64 1))⟩,
 un (.pick 40 (.t 37) (.t 39) (.c (.bool false))),
 un (.iad 41 1 (.t 33) (.c (.int .i64 0))),
 un (.st 1 (.t 41) (.t 40))])
def Wp : ACode :=
 (.reg [un (.mov 42 (.t 4)),
 un (.mov 43 (.t 4)),
 un (.iad 44 1 (.t 43) (.c (.int .i64 1))),
 un (.ld 45 1 false (.t 44)),
 un (.asg 46 (.t 45)),
 ⟨some (46, true), .mov 47 (.t 6)⟩,
 ⟨some (46, true), .len 48 (.t 47)⟩,
 ⟨some (46, true), .mov 49 (.t 7)⟩,
 ⟨some (46, true), .bin 50 .sub (.t 48) (.t 49)⟩,
 ⟨some (46, true), .bin 51 .leq (.t 50) (.c (.int .i64 1))⟩,
 un (.pick 52 (.t 46) (.t 51) (.c (.bool false))),
 un (.iad 53 1 (.t 42) (.c (.int .i64 1))),
 un (.st 1 (.t 53) (.t 52))])
def Mw : ACode :=
 (.seq (.reg [un (.bin 19 .lss (.t 18) (.t 17))])
 (.seq (.cond (.t 19) .skip
 (.exit 0))
 (.seq (.block 1 (.seq (.reg [un (.iad 20 1 (.t 16) (.t 18)),
 un (.ld 21 1 false (.t 20)),
 un (.asg 6 (.t 21))])
 (.drop [20, 21] (.seq (.reg [un (.asg 7 (.c (.int .i64 0)))])
 (.seq (.seq (.reg [un (.mov 22 (.t 6)),
 un (.len 23 (.t 22)),
 un (.mov 24 (.c (.int .i64 0)))])
 (.block 2 (.loop Mx)))
 (.drop [22, 23, 24, 25, 26, 27, 9, 28, 29, 30, 31, 32] (.seq (.cut W3)
 (.drop [33, 34, 35, 36, 37, 38, 39, 40, 41] (.seq (.cut Wp)
 (.drop [42, 43, 44, 45, 46, 47, 48, 49, 50, 51, 52, 53] (.reg [un (.mov 54 (.t 4)),
 un (.mov 55 (.t 4)),
 un (.iad 56 1 (.t 55) (.c (.int .i64 2))),
 un (.ld 57 1 false (.t 56)),
 un (.asg 58 (.t 57)),
 ⟨some (58, true), .mov 59 (.t 6)⟩,
 ⟨some (58, true), .len 60 (.t 59)⟩,
 ⟨some (58, true), .bin 61 .leq (.t 60) (.c (.int .i64 2))⟩,
 un (.pick 62 (.t 58) (.t 61) (.c (.bool false))),
 un (.iad 63 1 (.t 54) (.c (.int .i64 2))),
 un (.st 1 (.t 63) (.t 62))])))))))))))
 (.drop [20, 21, 6, 7, 22, 23, 24, 25, 26, 27, 9, 28, 29, 30, 31, 32, 33, 34, 35, 36, 37, 38, 39, 40, 41, 42, 43, 44, 45, 46, 47, 48, 49, 50, 51, 52, 53, 54, 55, 56, 57, 58, 59, 60, 61, 62, 63] (.reg [un (.bin 64 .add (.t 18) (.c (.int .i64 1))),
 un (.asg 18 (.t 64))])))))
def Aap : ACode :=
 (.seq (.reg [un (.box 1 (.t 0)),
 un (.asg 2 (.c (.nilsl 1))),
 un (.asg 3 (.c (.bool false)))])
 (.seq (.seq (.reg [un (.ld 10 2 true (.t 1)),
 un (.call 11 Ga [((.c (.int .i64 2)), false), ((.t 10), false)]),
 un (.un 12 .not (.t 11))])
 (.drop [10, 11] (.cond (.t 12) (.seq (.reg [un (.bsl 13 1 []),
 un (.asg 2 (.t 13)),
 un (.asg 3 (.c (.bool false)))])
 (.drop [13] .ret))
 .skip)))
 (.drop [10, 11, 12, 13] (.seq (.reg [un (.bsl 14 1 [(.c (.bool true)), (.c (.bool true)), (.c (.bool true))]),
 un (.asg 4 (.t 14))])
 (.drop [14] (.seq (.seq (.reg [un (.ld 15 2 true (.t 1)),
 un (.call 16 Gx [((.t 15), false)]),
 un (.len 17 (.t 16)),
 un (.mov 18 (.c (.int .i64 0)))])
 (.drop [15] (.block 0 (.loop Mw))))
 (.drop [15, 16, 17, 18, 19, 20, 21, 6, 7, 22, 23, 24, 25, 26, 27, 9, 28, 29, 30, 31, 32, 33, 34, 35, 36, 37, 38, 39, 40, 41, 42, 43, 44, 45, 46, 47, 48, 49, 50, 51, 52, 53, 54, 55, 56, 57, 58, 59, 60, 61, 62, 63, 64] (.seq (.reg [un (.mov 65 (.t 4)),
 un (.asg 2 (.t 65)),
 un (.asg 3 (.c (.bool true)))])
 (.drop [65] .ret)))))))))
abbrev Aa3 : List RS := [.t 2, .t 3]
theorem Aaq : A9 Try.prog Kq 66 Aap Aa3 = true := by kernel_rfl
def Mj : ACode :=
 (.seq (.seq (.reg [un (.mov 22 (.t 8)),
 un (.mov 23 (.t 5)),
 un (.mov 24 (.t 6)),
 un (.iad 25 1 (.t 23) (.t 24)),
 un (.ld 26 1 false (.t 25)),
 un (.len 27 (.t 26)),
 un (.bin 28 .lss (.t 22) (.t 27))])
 (.drop [22, 23, 24, 25, 26, 27] (.cond (.t 28) .skip
 (.exit 2))))
 (.drop [22, 23, 24, 25, 26, 27, 28] (.seq (.block 3 (.seq (.reg [un (.mov 31 (.t 5)),
 un (.mov 32 (.t 6)),
 un (.iad 33 1 (.t 31) (.t 32)),
 un (.ld 34 1 false (.t 33)),
 un (.mov 35 (.t 8)),
 un (.iad 36 1 (.t 34) (.t 35)),
 un (.ld 37 1 false (.t 36)),
 un (.bin 38 .gtr (.t 37) (.c (.int .i64 0)))])
 (.drop [31, 32, 33, 34, 35, 36, 37] (.cond (.t 38) (.reg [un (.mov 39 (.t 7)),
 un (.bin 40 .add (.t 39) (.c (.int .i64 1))),
 un (.asg 7 (.t 40))])
 .skip))))
 (.drop [31, 32, 33, 34, 35, 36, 37, 38, 39, 40] (.reg [un (.mov 29 (.t 8)),
 un (.bin 30 .add (.t 29) (.c (.int .i64 1))),
 un (.asg 8 (.t 30))])))))
def Wq : ACode :=
 (.reg [un (.mov 41 (.t 4)),
 un (.mov 42 (.t 4)),
 un (.iad 43 1 (.t 42) (.c (.int .i64 0))),
 un (.ld 44 1 false (.t 43)),
 un (.asg 45 (.t 44)),
 ⟨some (45, true), .mov 46 (.t 7)⟩,
 ⟨some (45, true), .bin 47 .leq (.t 46) (.c (.int .i64 1))⟩,
 un (.pick 48 (.t 45) (.t 47) (.c (.bool false))),
 un (.iad 49 1 (.t 41) (.c (.int .i64 0))),
 un (.st 1 (.t 49) (.t 48))])
def Wv : ACode :=
 (.reg [un (.mov 50 (.t 4)),
 un (.mov 51 (.t 4)),
 un (.iad 52 1 (.t 51) (.c (.int .i64 1))),
 un (.ld 53 1 false (.t 52)),
 un (.asg 54 (.t 53)),
 ⟨some (54, true), .mov 55 (.t 5)⟩,
 ⟨some (54, true), .mov 56 (.t 6)⟩,
 ⟨some (54, true), .iad 57 1 (.t 55) (.t 56)⟩,
 ⟨some (54, true), .ld 58 1 false (.t 57)⟩,
 ⟨some (54, true), .len 59 (.t 58)⟩,
 ⟨some (54, true), .mov 60 (.t 7)⟩,
 ⟨some (54, true), .bin 61 .sub (.t 59) (.t 60)⟩,
 ⟨some (54, true), .bin 62 .leq (.t 61) (.c (.int .i64 1))⟩,
 un (.pick 63 (.t 54) (.t 62) (.c (.bool false))),
 un (.iad 64 1 (.t 50) (.c (.int .i64 1))),
 un (.st 1 (.t 64) (.t 63))])
def My : ACode :=
 (.seq (.seq (.reg [un (.mov 16 (.t 6)),
 un (.mov 17 (.t 5)),
 un (.len 18 (.t 17)),
 un (.bin 19 .lss (.t 16) (.t 18))])
 (.drop [16, 17, 18] (.cond (.t 19) .skip
 (.exit 0))))
 (.drop [16, 17, 18, 19] (.seq (.block 1 (.seq (.reg [un (.asg 7 (.c (.int .i64 0)))])
 (.seq (.seq (.reg [un (.asg 8 (.c (.int .i64 0)))])
 (.block 2 (.loop Mj)))
 (.drop [8, 22, 23, 24, 25, 26, 27, 28, 31, 32, 33, 34, 35, 36, 37, 38, 39, 40, 29, 30] (.seq (.cut Wq)
 (.drop [41, 42, 43, 44, 45, 46, 47, 48, 49] (.seq (.cut Wv)
 (.drop [50, 51, 52, 53, 54, 55, 56, 57, 58, 59, 60, 61, 62, 63, 64] (.reg [un (.mov 65 (.t 4)),
 un (.mov 66 (.t 4)),
 un (.iad 67 1 (.t 66) (.c (.int .i64 2))),
 un (.ld 68 1 false (.t 67)),
 un (.asg 69 (.t 68)),
 ⟨some (69, true), .mov 70 (.t 5)⟩,
 ⟨some (69, true), .mov 71 (.t 6)⟩,
 ⟨some (69, true), .iad 72 1 (.t 70) (.t 71)⟩,
 ⟨some (69, true), .ld 73 1 false (.t 72)⟩,
 ⟨some (69, true), .len 74 (.t 73)⟩,
 ⟨some (69, true), .bin 75 .leq (.t 74) (.c (.int .i64 2))⟩,
 un (.pick 76 (.t 69) (.t 75) (.c (.bool false))),
 un (.iad 77 1 (.t 65) (.c (.int .i64 2))),
 un (.st 1 (.t 77) (.t 76))])))))))))
 (.drop [7, 8, 22, 23, 24, 25, 26, 27, 28, 31, 32, 33, 34, 35, 36, 37, 38, 39, 40, 29, 30, 41, 42, 43, 44, 45, 46, 47, 48, 49, 50, 51, 52, 53, 54, 55, 56, 57, 58, 59, 60, 61, 62, 63, 64, 65, 66, 67, 68, 69, 70, 71, 72, 73, 74, 75, 76, 77] (.reg [un (.mov 20 (.t 6)),
 un (.bin 21 .add (.t 20) (.c (.int .i64 1))),
 un (.asg 6 (.t 21))])))))
def Aay : ACode :=
 (.seq (.reg [un (.box 1 (.t 0)),
 un (.asg 2 (.c (.nilsl 1))),
 un (.asg 3 (.c (.bool false)))])
 (.seq (.seq (.reg [un (.ld 9 2 true (.t 1)),
 un (.call 10 I8 [((.c (.int .i64 2)), false), ((.t 9), false)]),
 un (.un 11 .not (.t 10))])
 (.drop [9, 10] (.cond (.t 11) (.seq (.reg [un (.bsl 12 1 []),
 un (.asg 2 (.t 12)),
 un (.asg 3 (.c (.bool false)))])
 (.drop [12] .ret))
 .skip)))
 (.drop [9, 10, 11, 12] (.seq (.reg [un (.bsl 13 1 [(.c (.bool true)), (.c (.bool true)), (.c (.bool true))]),
 un (.ld 14 2 true (.t 1)),
 un (.call 15 Kk [((.t 14), false)]),
 un (.asg 4 (.t 13)),
 un (.asg 5 (.t 15))])
 (.drop [13, 14, 15] (.seq (.seq (.reg [un (.asg 6 (.c (.int .i64 0)))])
 (.block 0 (.loop My)))
 (.drop [6, 16, 17, 18, 19, 7, 8, 22, 23, 24, 25, 26, 27, 28, 31, 32, 33, 34, 35, 36, 37, 38, 39, 40, 29, 30, 41, 42, 43, 44, 45, 46, 47, 48, 49, 50, 51, 52, 53, 54, 55, 56, 57, 58, 59, 60, 61, 62, 63, 64, 65, 66, 67, 68, 69, 70, 71, 72, 73, 74, 75, 76, 77, 20, 21] (.seq (.reg [un (.mov 78 (.t 4)),
 un (.asg 2 (.t 78)),
 un (.asg 3 (.c (.bool true)))])
 (.drop [78] .ret)))))))))
abbrev Aac : List RS := [.t 2, .t 3]
theorem Aav : A9 Try.prog Kv 79 Aay Aac = true := by kernel_rfl
def Agt : ACode :=
 (.seq (.reg [un (.box 4 (.t 1)),
 un (.box 5 (.t 2)),
 un (.asg 6 (.c (.bool false))),
 un (.asg 7 (.c (.bool false)))])
 (.seq (.seq (.reg [un (.mov 11 (.t 0)),
 un (.ld 12 2 true (.t 4)),
 un (.ld 13 2 true (.t 5)),
 un (.call 14 Rb [((.t 11), false), ((.t 12), false), ((.t 13), false)]),
 un (.un 15 .not (.t 14))])
 (.drop [11, 12, 13, 14] (.cond (.t 15) (.seq (.reg [un (.asg 6 (.c (.bool false))),
 un (.asg 7 (.c (.bool false)))])
 .ret)
 .skip)))
 (.drop [11, 12, 13, 14, 15] (.seq (.reg [un (.mov 17 (.t 0)),
 un (.ld 18 2 true (.t 4)),
 un (.ld 19 2 true (.t 5)),
 un (.call 20 Lh [((.t 17), false), ((.t 18), false), ((.t 19), false)]),
 un (.asg 16 (.t 20)),
 un (.ext 21 (.t 16) 0),
 un (.ext 22 (.t 16) 1),
 un (.ext 23 (.t 16) 2),
 un (.asg 8 (.t 21)),
 un (.asg 9 (.t 22)),
 un (.asg 10 (.t 23))])
 (.drop [17, 18, 19, 20, 16, 21, 22, 23, 8, 9] (.seq (.reg [un (.mov 24 (.t 10)),
 un (.un 25 .not (.t 24)),
 un (.asg 6 (.t 25)),
 un (.asg 7 (.c (.bool true)))])
 (.drop [24, 25] .ret)))))))
abbrev Agu : List RS := [.t 6, .t 7]
theorem Afy : A9 Try.prog Hu 26 Agt Agu = true := by kernel_rfl
def W7 : ACode :=
 (.seq (.reg [un (.ld 13 2 true (.t 6)),
 un (.call 14 I8 [((.c (.int .i64 2)), false), ((.t 13), false)]),
 un (.un 15 .not (.t 14))])
 (.drop [13, 14] (.cond (.t 15) (.reg [un (.mov 16 (.t 5)),
 un (.call 17 Lb [((.c (.int .i64 2)), false), ((.t 16), false)]),
 un (.st 2 (.t 6) (.t 17))])
 .skip)))
def Wx : ACode :=
 (.reg [un (.mov 19 (.t 1)),
 un (.bin 20 .leq (.t 19) (.c (.int .i64 1))),
 un (.asg 21 (.t 20)),
 ⟨some (21, true), .fadr 22 1 (.t 6)⟩,
 ⟨some (21, true), .ld 23 1 false (.t 22)⟩,
 ⟨some (21, true), .len 24 (.t 23)⟩,
 ⟨some (21, true), .bin 25 .gtr (.t 24) (.c (.int .i64 0))⟩,
 un (.pick 26 (.t 21) (.t 25) (.c (.bool false))),
 un (.asg 18 (.t 26))])
def Wn : ACode :=
 (.reg [un (.mov 36 (.t 1)),
 un (.bin 37 .gtr (.t 36) (.c (.int .i64 1))),
 un (.asg 38 (.t 37)),
 ⟨some (38, true), .mov 39 (.t 1)⟩,
 ⟨some (38, true), .bin 40 .lss (.t 39) (.c (.int .i64 6))⟩,
 un (.pick 41 (.t 38) (.t 40) (.c (.bool false))),
 un (.asg 35 (.t 41))])
def Aai : ACode :=
 (.seq (.reg [un (.alc 4 (.agg [.int .i64 0, .nilsl 1]))])
 (.seq (.reg [un (.mov 7 (.t 0)),
 un (.bsl 8 1 [(.c (.int .i64 1)), (.c (.int .i64 2)), (.c (.int .i64 2)), (.c (.int .i64 3)), (.c (.int .i64 3)), (.c (.int .i64 3))]),
 un (.call 9 B0 [((.t 7), true), ((.t 8), false)]),
 un (.asg 5 (.t 9))])
 (.drop [7, 8, 9] (.seq (.reg [un (.mov 10 (.t 0)),
 un (.mov 11 (.t 5)),
 un (.call 12 Fx [((.t 10), true), ((.c (.int .i64 2)), false), ((.t 11), false)]),
 un (.alc 6 (.agg [.int .i64 0, .nilsl 1])),
 un (.st 2 (.t 6) (.t 12))])
 (.drop [10, 11, 12] (.seq (.cut W7)
 (.drop [13, 14, 15, 16, 17] (.seq (.block 0 (.seq (.cut Wx)
 (.drop [19, 20, 21, 22, 23, 24, 25, 26] (.cond (.t 18) (.dreg [(un (.fadr 27 1 (.t 6)), []),
 (un (.ld 28 1 false (.t 27)), []),
 (un (.fadr 29 0 (.t 6)), [27, 28]),
 (un (.ld 30 1 false (.t 29)), [27, 28]),
 (un (.mov 31 (.t 1)), [27, 28, 29, 30]),
 (un (.call 32 Ko [((.t 30), false), ((.t 31), false)]), [27, 28])]
 [un (.call 33 Jp [((.t 28), true), ((.t 32), false)]),
 un (.fadr 34 1 (.t 6)),
 un (.st 1 (.t 34) (.t 33))])
 (.seq (.cut Wn)
 (.drop [36, 37, 38, 39, 40, 41] (.cond (.t 35) (.frz [100006] (.dreg [(un (.call 43 S6 []), []),
 (un (.mov 44 (.t 1)), [43]),
 (un (.bin 45 .sub (.t 44) (.c (.int .i64 2))), [43]),
 (un (.iad 46 2 (.t 43) (.t 45)), []),
 (un (.ld 47 2 true (.t 46)), []),
 (un (.bslr 48 2 [(.t 47)]), []),
 (un (.bld 49 [.int .i64 0, .nilsl 2] [(0, 1, (.c (.int .i64 2))), (1, 1, (.t 48))]), [47]),
 (un (.fadr 50 0 (.t 6)), [43, 44, 45, 46, 47, 48, 49, 47]),
 (un (.ld 51 1 false (.t 50)), [43, 44, 45, 46, 47, 48, 49, 47]),
 (un (.fadr 52 1 (.t 6)), [43, 44, 45, 46, 47, 48, 49, 50, 51, 47]),
 (un (.ld 53 1 false (.t 52)), [43, 44, 45, 46, 47, 48, 49, 50, 51, 47]),
 (un (.call 54 Q9 [((.t 49), false), ((.t 51), false), ((.t 53), false)]), [47]),
 (un (.asg 42 (.t 54)), [47]),
 (un (.ext 55 (.t 42) 0), [47, 54]),
 (un (.ext 56 (.t 42) 1), [55, 47, 54])]
 [un (.fadr 57 1 (.t 6)),
 un (.st 1 (.t 57) (.t 55))]))
 .skip)))))))
 (.drop [19, 20, 21, 22, 23, 24, 25, 26, 18, 27, 28, 29, 30, 31, 32, 33, 34, 36, 37, 38, 39, 40, 41, 35, 43, 44, 45, 46, 47, 48, 49, 50, 51, 52, 53, 54, 42, 55, 56, 57] (.seq (.reg [un (.ld 58 2 true (.t 6)),
 un (.st 2 (.t 4) (.t 58))])
 (.drop [58] .ret)))))))))))
abbrev Z7 : List RS := [.c 4 2 true]
theorem Aaf : A9 Try.prog K0 59 Aai Z7 = true := by kernel_rfl
def Ua : ACode :=
 (.seq (.reg [un (.alc 2 (.agg [.int .i64 0, .nilsl 1]))])
 (.seq (.reg [un (.mov 4 (.t 0)),
 un (.bld 5 [.nilsl 1, .int .i64 0, .int .u64 0] [(0, 1, (.t 4))]),
 un (.box 6 (.t 5)),
 un (.asg 3 (.t 6))])
 (.drop [4, 5, 6] (.seq (.seq (.reg [un (.mov 7 (.t 3)),
 un (.call 8 Hb [((.t 7), true), ((.c (.int .i64 12)), false)])])
 (.drop [7] (.cond (.t 8) (.seq (.reg [un (.mov 9 (.t 3)),
 un (.mov 10 (.t 3)),
 un (.bsl 11 1 [(.c (.int .i64 2)), (.c (.int .i64 3))]),
 un (.call 12 B0 [((.t 10), true), ((.t 11), false)]),
 un (.mov 13 (.t 3)),
 un (.bsl 14 1 [(.c (.int .i64 1)), (.c (.int .i64 2)), (.c (.int .i64 3))]),
 un (.call 15 B0 [((.t 13), true), ((.t 14), false)]),
 un (.call 16 Fx [((.t 9), true), ((.t 12), false), ((.t 15), false)]),
 un (.st 2 (.t 2) (.t 16))])
 (.drop [9, 10, 11, 12, 13, 14, 15, 16] .ret))
 .skip)))
 (.drop [7, 8, 9, 10, 11, 12, 13, 14, 15, 16] (.seq (.reg [un (.mov 17 (.t 3)),
 un (.mov 18 (.t 3)),
 un (.call 19 Bi [((.t 18), true), ((.c (.int .i64 8)), false)]),
 un (.call 20 K0 [((.t 17), true), ((.t 19), false)]),
 un (.st 2 (.t 2) (.t 20))])
 (.drop [17, 18, 19, 20] .ret)))))))
abbrev Ut : List RS := [.c 2 2 true]
theorem Uj : A9 Try.prog G0 21 Ua Ut = true := by kernel_rfl
def Sz : ACode :=
 (.seq (.reg [un (.ld 38 2 true (.t 3)),
 un (.call 39 Jy [((.t 38), false)]),
 un (.asg 37 (.t 39)),
 un (.ext 40 (.t 37) 0),
 un (.ext 41 (.t 37) 1),
 un (.asg 6 (.t 40)),
 un (.asg 7 (.t 41))])
 (.drop [38, 39, 37, 40, 41] (.seq (.reg [un (.mov 42 (.t 5)),
 un (.mov 43 (.t 7)),
 un (.binb 44 .neq (.t 42) (.t 43)),
 un (.asg 45 (.t 44)),
 ⟨some (45, false), .mov 46 (.t 4)⟩,
 ⟨some (45, false), .mov 47 (.t 6)⟩,
 ⟨some (45, false), .call 48 N2 [((.t 46), false), ((.t 47), false)]⟩,
 ⟨some (45, false), .un 49 .not (.t 48)⟩,
 un (.pick 50 (.t 45) (.c (.bool true)) (.t 49))])
 (.drop [42, 43, 44, 45, 46, 47, 48, 49] (.cond (.t 50) (.seq (.reg [un (.asg 2 (.c (.bool false)))])
 .ret)
 .skip)))))
def To : ACode :=
 (.seq (.reg [un (.ld 57 2 true (.t 3)),
 un (.call 58 Kv [((.t 57), false)]),
 un (.asg 56 (.t 58)),
 un (.ext 59 (.t 56) 0),
 un (.ext 60 (.t 56) 1),
 un (.asg 10 (.t 59)),
 un (.asg 11 (.t 60))])
 (.drop [57, 58, 56, 59, 60] (.seq (.reg [un (.mov 61 (.t 9)),
 un (.mov 62 (.t 11)),
 un (.binb 63 .neq (.t 61) (.t 62)),
 un (.asg 64 (.t 63)),
 ⟨some (64, false), .mov 65 (.t 9)⟩,
 ⟨some (64, false), .mov 66 (.t 5)⟩,
 ⟨some (64, false), .binb 67 .neq (.t 65) (.t 66)⟩,
 un (.pick 68 (.t 64) (.c (.bool true)) (.t 67)),
 un (.asg 69 (.t 68)),
 ⟨some (69, false), .mov 70 (.t 8)⟩,
 ⟨some (69, false), .mov 71 (.t 10)⟩,
 ⟨some (69, false), .call 72 Ns [((.t 70), false), ((.t 71), false)]⟩,
 ⟨some (69, false), .un 73 .not (.t 72)⟩,
 un (.pick 74 (.t 69) (.c (.bool true)) (.t 73))])
 (.drop [61, 62, 63, 64, 65, 66, 67, 68, 69, 70, 71, 72, 73] (.cond (.t 74) (.seq (.reg [un (.asg 2 (.c (.bool false)))])
 .ret)
 .skip)))))
def Ty : ACode :=
 (.seq (.reg [un (.mov 83 (.t 13)),
 un (.un 84 .not (.t 83)),
 un (.asg 85 (.t 84)),
 ⟨some (85, false), .ld 86 2 true (.t 12)⟩,
 ⟨some (85, false), .ld 87 2 true (.t 3)⟩,
 ⟨some (85, false), .call 88 Jr [((.t 86), false), ((.t 87), false)]⟩,
 ⟨some (85, false), .un 89 .not (.t 88)⟩,
 un (.pick 90 (.t 85) (.c (.bool true)) (.t 89))])
 (.drop [83, 84, 85, 86, 87, 88, 89] (.cond (.t 90) (.seq (.reg [un (.asg 2 (.c (.bool false)))])
 .ret)
 .skip)))
def S0 : ACode :=
 (.seq (.reg [un (.mov 75 (.t 5))])
 (.cond (.t 75) (.seq (.reg [un (.fadr 77 0 (.t 3)),
 un (.ld 78 1 false (.t 77)),
 un (.mov 79 (.t 4)),
 un (.call 80 De [((.t 78), false), ((.t 79), false)]),
 un (.asg 76 (.t 80)),
 un (.ext 81 (.t 76) 0),
 un (.ext 82 (.t 76) 1),
 un (.alc 12 (.agg [.int .i64 0, .nilsl 1])),
 un (.st 2 (.t 12) (.t 81)),
 un (.asg 13 (.t 82))])
 (.drop [77, 78, 79, 80, 76, 81, 82] (.seq (.cut Ty)
 (.drop [83, 84, 85, 86, 87, 88, 89, 90] (.seq (.reg [un (.bsl 92 1 [(.c (.int .i64 0)), (.c (.int .i64 0)), (.c (.int .i64 0)), (.c (.int .i64 1))]),
 un (.bld 93 [.int .i64 0, .nilsl 1] [(0, 1, (.c (.int .i64 2))), (1, 1, (.t 92))]),
 un (.ld 94 2 true (.t 3)),
 un (.call 95 Hu [((.c (.int .i64 2)), false), ((.t 93), false), ((.t 94), false)]),
 un (.asg 91 (.t 95)),
 un (.ext 96 (.t 91) 0),
 un (.ext 97 (.t 91) 1),
 un (.asg 14 (.t 96)),
 un (.asg 15 (.t 97))])
 (.drop [92, 93, 94, 95, 91, 96, 97] (.seq (.reg [un (.bsl 99 1 [(.c (.int .i64 0)), (.c (.int .i64 1)), (.c (.int .i64 1)), (.c (.int .i64 1))]),
 un (.bld 100 [.int .i64 0, .nilsl 1] [(0, 1, (.c (.int .i64 2))), (1, 1, (.t 99))]),
 un (.ld 101 2 true (.t 3)),
 un (.call 102 Hu [((.c (.int .i64 2)), false), ((.t 100), false), ((.t 101), false)]),
 un (.asg 98 (.t 102)),
 un (.ext 103 (.t 98) 0),
 un (.ext 104 (.t 98) 1),
 un (.asg 16 (.t 103)),
 un (.asg 17 (.t 104))])
 (.drop [99, 100, 101, 102, 98, 103, 104] (.seq (.reg [un (.bsl 106 1 [(.c (.int .i64 0)), (.c (.int .i64 0)), (.c (.int .i64 0)), (.c (.int .i64 1)), (.c (.int .i64 0)), (.c (.int .i64 1)), (.c (.int .i64 1)), (.c (.int .i64 1))]),
 un (.bld 107 [.int .i64 0, .nilsl 1] [(0, 1, (.c (.int .i64 3))), (1, 1, (.t 106))]),
 un (.ld 108 2 true (.t 3)),
 un (.call 109 Hu [((.c (.int .i64 2)), false), ((.t 107), false), ((.t 108), false)]),
 un (.asg 105 (.t 109)),
 un (.ext 110 (.t 105) 0),
 un (.ext 111 (.t 105) 1),
 un (.asg 18 (.t 110)),
 un (.asg 19 (.t 111))])
 (.drop [106, 107, 108, 109, 105, 110, 111] (.seq (.reg [un (.mov 112 (.t 15)),
 un (.un 113 .not (.t 112)),
 un (.asg 114 (.t 113)),
 ⟨some (114, false), .mov 115 (.t 17)⟩,
 ⟨some (114, false), .un 116 .not (.t 115)⟩,
 un (.pick 117 (.t 114) (.c (.bool true)) (.t 116)),
 un (.asg 118 (.t 117)),
 ⟨some (118, false), .mov 119 (.t 19)⟩,
 ⟨some (118, false), .un 120 .not (.t 119)⟩,
 un (.pick 121 (.t 118) (.c (.bool true)) (.t 120)),
 un (.asg 122 (.t 121)),
 ⟨some (122, false), .mov 123 (.t 8)⟩,
 ⟨some (122, false), .mov 124 (.t 14)⟩,
 ⟨some (122, false), .mov 125 (.t 16)⟩,
 ⟨some (122, false), .mov 126 (.t 18)⟩,
 ⟨some (122, false), .bsl 127 1 [(.t 124), (.t 125), (.t 126)]⟩,
 ⟨some (122, false), .call 128 Ns [((.t 123), false), ((.t 127), false)]⟩,
 ⟨some (122, false), .un 129 .not (.t 128)⟩,
 un (.pick 130 (.t 122) (.c (.bool true)) (.t 129))])
 (.drop [112, 113, 114, 115, 116, 117, 118, 119, 120, 121, 122, 123, 124, 125, 126, 127, 128, 129] (.cond (.t 130) (.seq (.reg [un (.asg 2 (.c (.bool false)))])
 .ret)
 .skip)))))))))))))
 .skip))
def Sv : ACode :=
 (.seq (.reg [un (.mov 143 (.t 20)),
 un (.mov 144 (.t 21)),
 un (.call 145 Gr [((.t 143), false), ((.t 144), false)]),
 un (.asg 142 (.t 145)),
 un (.ext 146 (.t 142) 0),
 un (.ext 147 (.t 142) 1),
 un (.alc 24 (.agg [.int .i64 0, .nilsl 1])),
 un (.st 2 (.t 24) (.t 146)),
 un (.asg 25 (.t 147))])
 (.drop [143, 144, 145, 142, 146, 147] (.seq (.reg [un (.mov 148 (.t 23)),
 un (.mov 149 (.t 25)),
 un (.binb 150 .neq (.t 148) (.t 149)),
 un (.asg 151 (.t 150)),
 ⟨some (151, false), .ld 152 2 true (.t 22)⟩,
 ⟨some (151, false), .ld 153 2 true (.t 24)⟩,
 ⟨some (151, false), .call 154 Jr [((.t 152), false), ((.t 153), false)]⟩,
 ⟨some (151, false), .un 155 .not (.t 154)⟩,
 un (.pick 156 (.t 151) (.c (.bool true)) (.t 155))])
 (.drop [148, 149, 150, 151, 152, 153, 154, 155] (.cond (.t 156) (.seq (.reg [un (.asg 2 (.c (.bool false)))])
 .ret)
 .skip)))))
def Sw : ACode :=
 (.reg [un (.mov 157 (.t 23)),
 un (.asg 158 (.t 157)),
 ⟨some (158, true), .mov 159 (.t 21)⟩,
 ⟨some (158, true), .len 160 (.t 159)⟩,
 ⟨some (158, true), .bin 161 .gtr (.t 160) (.c (.int .i64 0))⟩,
 un (.pick 162 (.t 158) (.t 161) (.c (.bool false)))])
def W4 : ACode :=
 (.seq (.reg [un (.asg 2 (.c (.bool false)))])
 (.seq (.seq (.reg [un (.mov 28 (.t 0)),
 un (.call 29 Yc [((.t 28), false)])])
 (.drop [28] (.cond (.t 29) (.seq (.reg [un (.asg 2 (.c (.bool true)))])
 .ret)
 .skip)))
 (.drop [28, 29] (.seq (.reg [un (.mov 30 (.t 0)),
 un (.call 31 G0 [((.t 30), false)]),
 un (.alc 3 (.agg [.int .i64 0, .nilsl 1])),
 un (.st 2 (.t 3) (.t 31))])
 (.drop [30, 31] (.seq (.reg [un (.ld 33 2 true (.t 3)),
 un (.call 34 Jx [((.t 33), false)]),
 un (.asg 32 (.t 34)),
 un (.ext 35 (.t 32) 0),
 un (.ext 36 (.t 32) 1),
 un (.asg 4 (.t 35)),
 un (.asg 5 (.t 36))])
 (.drop [33, 34, 32, 35, 36] (.seq (.cut Sz)
 (.drop [38, 39, 37, 40, 41, 6, 7, 42, 43, 44, 45, 46, 47, 48, 49, 50] (.seq (.reg [un (.ld 52 2 true (.t 3)),
 un (.call 53 Kq [((.t 52), false)]),
 un (.asg 51 (.t 53)),
 un (.ext 54 (.t 51) 0),
 un (.ext 55 (.t 51) 1),
 un (.asg 8 (.t 54)),
 un (.asg 9 (.t 55))])
 (.drop [52, 53, 51, 54, 55] (.seq (.cut To)
 (.drop [57, 58, 56, 59, 60, 10, 11, 61, 62, 63, 64, 65, 66, 67, 68, 69, 70, 71, 72, 73, 74] (.seq (.cut S0)
 (.drop [75, 77, 78, 79, 80, 76, 81, 82, 12, 13, 83, 84, 85, 86, 87, 88, 89, 90, 92, 93, 94, 95, 91, 96, 97, 14, 15, 99, 100, 101, 102, 98, 103, 104, 16, 17, 106, 107, 108, 109, 105, 110, 111, 18, 19, 112, 113, 114, 115, 116, 117, 118, 119, 120, 121, 122, 123, 124, 125, 126, 127, 128, 129, 130] (.seq (.reg [un (.mov 132 (.t 0)),
 un (.call 133 Es [((.t 132), false)]),
 un (.asg 131 (.t 133)),
 un (.ext 134 (.t 131) 0),
 un (.ext 135 (.t 131) 1),
 un (.asg 20 (.t 134)),
 un (.asg 21 (.t 135))])
 (.drop [132, 133, 131, 134, 135] (.seq (.reg [un (.mov 137 (.t 20)),
 un (.mov 138 (.t 21)),
 un (.call 139 De [((.t 137), false), ((.t 138), false)]),
 un (.asg 136 (.t 139)),
 un (.ext 140 (.t 136) 0),
 un (.ext 141 (.t 136) 1),
 un (.alc 22 (.agg [.int .i64 0, .nilsl 1])),
 un (.st 2 (.t 22) (.t 140)),
 un (.asg 23 (.t 141))])
 (.drop [137, 138, 139, 136, 140, 141] (.seq (.cut Sv)
 (.drop [143, 144, 145, 142, 146, 147, 24, 25, 148, 149, 150, 151, 152, 153, 154, 155, 156] (.seq (.seq (.cut Sw)
 (.drop [157, 158, 159, 160, 161] (.cond (.t 162) (.seq (.reg [un (.mov 164 (.t 20)),
 un (.mov 165 (.t 21)),
 un (.mov 166 (.t 21)),
 un (.len 167 (.t 166)),
 un (.bin 168 .sub (.t 167) (.c (.int .i64 1))),
 un (.slc 169 1 (.t 165) none (some (.t 168))),
 un (.call 170 De [((.t 164), false), ((.t 169), false)]),
 un (.asg 163 (.t 170)),
 un (.ext 171 (.t 163) 0),
 un (.ext 172 (.t 163) 1),
 un (.alc 26 (.agg [.int .i64 0, .nilsl 1])),
 un (.st 2 (.t 26) (.t 171)),
 un (.asg 27 (.t 172))])
 (.drop [164, 165, 166, 167, 168, 169, 170, 163, 171, 172] (.seq (.reg [un (.mov 173 (.t 27)),
 un (.un 174 .not (.t 173)),
 un (.asg 175 (.t 174)),
 ⟨some (175, false), .fadr 176 1 (.t 26)⟩,
 ⟨some (175, false), .ld 177 1 false (.t 176)⟩,
 ⟨some (175, false), .len 178 (.t 177)⟩,
 ⟨some (175, false), .fadr 179 1 (.t 22)⟩,
 ⟨some (175, false), .ld 180 1 false (.t 179)⟩,
 ⟨some (175, false), .len 181 (.t 180)⟩,
 ⟨some (175, false), .bin 182 .lss (.t 178) (.t 181)⟩,
 un (.pick 183 (.t 175) (.c (.bool true)) (.t 182))])
 (.drop [173, 174, 175, 176, 177, 178, 179, 180, 181, 182] (.cond (.t 183) (.seq (.reg [un (.asg 2 (.c (.bool false)))])
 .ret)
 .skip)))))
 .skip)))
 (.drop [157, 158, 159, 160, 161, 162, 164, 165, 166, 167, 168, 169, 170, 163, 171, 172, 26, 27, 173, 174, 175, 176, 177, 178, 179, 180, 181, 182, 183] (.seq (.reg [un (.asg 2 (.c (.bool true)))])
 .ret))))))))))))))))))))))))
abbrev Wo : List RS := [.t 2]
theorem Ww : A9 Try.prog Mp 184 W4 Wo = true := by kernel_rfl
end Go.Proofs.Ytjcekpmojnnmbaa.Ax
