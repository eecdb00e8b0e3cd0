/-
  The small code of the functions, written by program; that the program's code is this one, the kernel looks at.
-/
import Derived.Test.YtjinhobffbppbaaAx3
import Derived.Test.YtjinhobffbppbaaProg
import Derived.KernelRfl
import Derived.Test.YtjinhobffbppbaaNum
namespace Go.Proofs.Ytjinhobffbppbaa.Ax
open Go
set_option maxRecDepth 100000
def Oi : ACode :=
 (.dregl [(0, .mov 10 (.t 0)),
 (1, .ld 11 2 true (.t 3)),
 (2, .mov 12 (.t 0)),
 (5, .mov 15 (.t 0))]
 (.alt 3 (.call 13 Ao [((.t 12), true), ((.c (.int .i64 3)), false)]) [0, 1, 2, 5] [] (.alt 4 (.bin 14 .add (.c (.int .i64 1)) (.t 13)) [0, 1, 5] [] (.alt 6 (.bsl 16 1 [(.c (.int .i64 1)), (.c (.int .i64 2)), (.c (.int .i64 3)), (.c (.int .i64 3)), (.c (.int .i64 6))]) [0, 1, 5] [] (.alt 7 (.call 17 Am [((.t 15), true), ((.t 16), false)]) [0, 1, 5] [] (.alt 8 (.call 18 A8 [((.t 10), true), ((.t 11), false), ((.t 14), false), ((.t 17), false)]) [0, 1] [] (.alt 9 (.asg 5 (.t 18)) [] [] .nil .nil) .nil) .nil) .nil) (.alt 6 (.bsl 16 1 [(.c (.int .i64 1)), (.c (.int .i64 2)), (.c (.int .i64 3)), (.c (.int .i64 3)), (.c (.int .i64 6))]) [0, 1, 5] [] (.alt 4 (.bin 14 .add (.c (.int .i64 1)) (.t 13)) [0, 1, 5] [] (.alt 7 (.call 17 Am [((.t 15), true), ((.t 16), false)]) [0, 1, 5] [] (.alt 8 (.call 18 A8 [((.t 10), true), ((.t 11), false), ((.t 14), false), ((.t 17), false)]) [0, 1] [] (.alt 9 (.asg 5 (.t 18)) [] [] .nil .nil) .nil) .nil) (.alt 7 (.call 17 Am [((.t 15), true), ((.t 16), false)]) [0, 1, 5] [] (.alt 4 (.bin 14 .add (.c (.int .i64 1)) (.t 13)) [0, 1] [] (.alt 8 (.call 18 A8 [((.t 10), true), ((.t 11), false), ((.t 14), false), ((.t 17), false)]) [0, 1] [] (.alt 9 (.asg 5 (.t 18)) [] [] .nil .nil) .nil) .nil) .nil)) .nil)) (.alt 6 (.bsl 16 1 [(.c (.int .i64 1)), (.c (.int .i64 2)), (.c (.int .i64 3)), (.c (.int .i64 3)), (.c (.int .i64 6))]) [0, 1, 2, 5] [] (.alt 3 (.call 13 Ao [((.t 12), true), ((.c (.int .i64 3)), false)]) [0, 1, 2, 5] [] (.alt 4 (.bin 14 .add (.c (.int .i64 1)) (.t 13)) [0, 1, 5] [] (.alt 7 (.call 17 Am [((.t 15), true), ((.t 16), false)]) [0, 1, 5] [] (.alt 8 (.call 18 A8 [((.t 10), true), ((.t 11), false), ((.t 14), false), ((.t 17), false)]) [0, 1] [] (.alt 9 (.asg 5 (.t 18)) [] [] .nil .nil) .nil) .nil) (.alt 7 (.call 17 Am [((.t 15), true), ((.t 16), false)]) [0, 1, 5] [] (.alt 4 (.bin 14 .add (.c (.int .i64 1)) (.t 13)) [0, 1] [] (.alt 8 (.call 18 A8 [((.t 10), true), ((.t 11), false), ((.t 14), false), ((.t 17), false)]) [0, 1] [] (.alt 9 (.asg 5 (.t 18)) [] [] .nil .nil) .nil) .nil) .nil)) .nil) .nil)))
def Sb : ACode :=
 (.seq (.reg [un (.box 3 (.t 1)),
 un (.asg 4 (.c (.nilsl 1)))])
 (.seq (.seq (.reg [un (.ld 6 2 true (.t 3)),
 un (.call 7 I8 [((.t 6), false)]),
 un (.un 8 .not (.t 7))])
 (.drop [6, 7] (.cond (.t 8) (.seq (.reg [un (.bsl 9 1 [(.c (.int .i64 0))]),
 un (.asg 4 (.t 9))])
 (.drop [9] .ret))
 .skip)))
 (.drop [6, 7, 8, 9] (.seq (.cut Oi)
 (.drop [10, 11, 12, 13, 14, 15, 16, 17, 18] (.seq (.seq (.reg [un (.mov 19 (.t 0)),
 un (.call 20 Ao [((.t 19), true), ((.c (.int .i64 32)), false)])])
 (.drop [19] (.block 0 (.seq (.reg [un (.bin 22 .eql (.t 20) (.c (.int .i64 0))),
 un (.asg 21 (.t 22))])
 (.drop [22] (.cond (.t 21) (.reg [un (.mov 23 (.t 5)),
 un (.bsl 24 1 [(.c (.int .i64 0))]),
 un (.app 25 1 (.t 23) (.t 24)),
 un (.asg 5 (.t 25))])
 (.seq (.reg [un (.bin 27 .eql (.t 20) (.c (.int .i64 1))),
 un (.asg 26 (.t 27))])
 (.drop [27] (.cond (.t 26) (.dregl [(0, .mov 28 (.t 5)),
 (1, .mov 29 (.t 0)),
 (2, .mov 30 (.t 5)),
 (5, .mov 33 (.t 0)),
 (6, .fadr 34 1 (.t 3)),
 (7, .ld 35 1 false (.t 34))]
 (.alt 3 (.len 31 (.t 30)) [0, 1, 2, 5, 6, 7] [] (.alt 4 (.call 32 Ao [((.t 29), true), ((.t 31), false)]) [0, 1, 5, 6, 7] [] (.alt 8 (.len 36 (.t 35)) [0, 5, 6, 7] [] (.alt 9 (.bin 37 .sub (.c (.int .i64 (-1))) (.t 36)) [0, 5] [] (.alt 10 (.bsl 38 1 [(.t 37), (.c (.int .i64 6)), (.c (.int .i64 (-9223372036854775808))), (.c (.int .i64 9223372036854775807))]) [0, 5] [] (.alt 11 (.call 39 Am [((.t 33), true), ((.t 38), false)]) [0, 5] [] (.alt 12 (.iad 40 1 (.t 28) (.t 32)) [0] [] (.alt 13 (.st 1 (.t 40) (.t 39)) [] [] .nil .nil) .nil) .nil) .nil) .nil) .nil) (.alt 8 (.len 36 (.t 35)) [0, 1, 5, 6, 7] [] (.alt 4 (.call 32 Ao [((.t 29), true), ((.t 31), false)]) [0, 1, 5] [] (.alt 9 (.bin 37 .sub (.c (.int .i64 (-1))) (.t 36)) [0, 5] [] (.alt 10 (.bsl 38 1 [(.t 37), (.c (.int .i64 6)), (.c (.int .i64 (-9223372036854775808))), (.c (.int .i64 9223372036854775807))]) [0, 5] [] (.alt 11 (.call 39 Am [((.t 33), true), ((.t 38), false)]) [0, 5] [] (.alt 12 (.iad 40 1 (.t 28) (.t 32)) [0] [] (.alt 13 (.st 1 (.t 40) (.t 39)) [] [] .nil .nil) .nil) .nil) .nil) .nil) (.alt 9 (.bin 37 .sub (.c (.int .i64 (-1))) (.t 36)) [0, 1, 5] [] (.alt 4 (.call 32 Ao [((.t 29), true), ((.t 31), false)]) [0, 1, 5] [] (.alt 10 (.bsl 38 1 [(.t 37), (.c (.int .i64 6)), (.c (.int .i64 (-9223372036854775808))), (.c (.int .i64 9223372036854775807))]) [0, 5] [] (.alt 11 (.call 39 Am [((.t 33), true), ((.t 38), false)]) [0, 5] [] (.alt 12 (.iad 40 1 (.t 28) (.t 32)) [0] [] (.alt 13 (.st 1 (.t 40) (.t 39)) [] [] .nil .nil) .nil) .nil) .nil) (.alt 10 (.bsl 38 1 [(.t 37), (.c (.int .i64 6)), (.c (.int .i64 (-9223372036854775808))), (.c (.int .i64 9223372036854775807))]) [0, 1, 5] [] (.alt 4 (.call 32 Ao [((.t 29), true), ((.t 31), false)]) [0, 1, 5] [] (.alt 11 (.call 39 Am [((.t 33), true), ((.t 38), false)]) [0, 5] [] (.alt 12 (.iad 40 1 (.t 28) (.t 32)) [0] [] (.alt 13 (.st 1 (.t 40) (.t 39)) [] [] .nil .nil) .nil) .nil) .nil) .nil)) .nil)) .nil)) (.alt 8 (.len 36 (.t 35)) [0, 1, 2, 5, 6, 7] [] (.alt 3 (.len 31 (.t 30)) [0, 1, 2, 5] [] (.alt 4 (.call 32 Ao [((.t 29), true), ((.t 31), false)]) [0, 1, 5] [] (.alt 9 (.bin 37 .sub (.c (.int .i64 (-1))) (.t 36)) [0, 5] [] (.alt 10 (.bsl 38 1 [(.t 37), (.c (.int .i64 6)), (.c (.int .i64 (-9223372036854775808))), (.c (.int .i64 9223372036854775807))]) [0, 5] [] (.alt 11 (.call 39 Am [((.t 33), true), ((.t 38), false)]) [0, 5] [] (.alt 12 (.iad 40 1 (.t 28) (.t 32)) [0] [] (.alt 13 (.st 1 (.t 40) (.t 39)) [] [] .nil .nil) .nil) .nil) .nil) .nil) (.alt 9 (.bin 37 .sub (.c (.int .i64 (-1))) (.t 36)) [0, 1, 5] [] (.alt 4 (.call 32 Ao [((.t 29), true), ((.t 31), false)]) [0, 1, 5] [] (.alt 10 (.bsl 38 1 [(.t 37), (.c (.int .i64 6)), (.c (.int .i64 (-9223372036854775808))), (.c (.int .i64 9223372036854775807))]) [0, 5] [] (.alt 11 (.call 39 Am [((.t 33), true), ((.t 38), false)]) [0, 5] [] (.alt 12 (.iad 40 1 (.t 28) (.t 32)) [0] [] (.alt 13 (.st 1 (.t 40) (.t 39)) [] [] .nil .nil) .nil) .nil) .nil) (.alt 10 (.bsl 38 1 [(.t 37), (.c (.int .i64 6)), (.c (.int .i64 (-9223372036854775808))), (.c (.int .i64 9223372036854775807))]) [0, 1, 5] [] (.alt 4 (.call 32 Ao [((.t 29), true), ((.t 31), false)]) [0, 1, 5] [] (.alt 11 (.call 39 Am [((.t 33), true), ((.t 38), false)]) [0, 5] [] (.alt 12 (.iad 40 1 (.t 28) (.t 32)) [0] [] (.alt 13 (.st 1 (.t 40) (.t 39)) [] [] .nil .nil) .nil) .nil) .nil) .nil)) .nil)) (.alt 9 (.bin 37 .sub (.c (.int .i64 (-1))) (.t 36)) [0, 1, 2, 5] [] (.alt 3 (.len 31 (.t 30)) [0, 1, 2, 5] [] (.alt 4 (.call 32 Ao [((.t 29), true), ((.t 31), false)]) [0, 1, 5] [] (.alt 10 (.bsl 38 1 [(.t 37), (.c (.int .i64 6)), (.c (.int .i64 (-9223372036854775808))), (.c (.int .i64 9223372036854775807))]) [0, 5] [] (.alt 11 (.call 39 Am [((.t 33), true), ((.t 38), false)]) [0, 5] [] (.alt 12 (.iad 40 1 (.t 28) (.t 32)) [0] [] (.alt 13 (.st 1 (.t 40) (.t 39)) [] [] .nil .nil) .nil) .nil) .nil) (.alt 10 (.bsl 38 1 [(.t 37), (.c (.int .i64 6)), (.c (.int .i64 (-9223372036854775808))), (.c (.int .i64 9223372036854775807))]) [0, 1, 5] [] (.alt 4 (.call 32 Ao [((.t 29), true), ((.t 31), false)]) [0, 1, 5] [] (.alt 11 (.call 39 Am [((.t 33), true), ((.t 38), false)]) [0, 5] [] (.alt 12 (.iad 40 1 (.t 28) (.t 32)) [0] [] (.alt 13 (.st 1 (.t 40) (.t 39)) [] [] .nil .nil) .nil) .nil) .nil) .nil)) (.alt 10 (.bsl 38 1 [(.t 37), (.c (.int .i64 6)), (.c (.int .i64 (-9223372036854775808))), (.c (.int .i64 9223372036854775807))]) [0, 1, 2, 5] [] (.alt 3 (.len 31 (.t 30)) [0, 1, 2, 5] [] (.alt 4 (.call 32 Ao [((.t 29), true), ((.t 31), false)]) [0, 1, 5] [] (.alt 11 (.call 39 Am [((.t 33), true), ((.t 38), false)]) [0, 5] [] (.alt 12 (.iad 40 1 (.t 28) (.t 32)) [0] [] (.alt 13 (.st 1 (.t 40) (.t 39)) [] [] .nil .nil) .nil) .nil) .nil) .nil) .nil)) .nil)) .nil)))
 (.seq (.reg [un (.bin 42 .eql (.t 20) (.c (.int .i64 2))),
 un (.asg 41 (.t 42))])
 (.drop [42] (.cond (.t 41) (.frz [5] (.reg [un (.mov 43 (.t 5)),
 un (.slc 44 1 (.t 43) (some (.c (.int .i64 1))) none),
 un (.asg 5 (.t 44))]))
 .skip))))))))))))
 (.drop [19, 20, 22, 21, 23, 24, 25, 27, 26, 28, 29, 30, 31, 32, 33, 34, 35, 36, 37, 38, 39, 40, 42, 41, 43, 44] (.seq (.reg [un (.mov 45 (.t 5)),
 un (.asg 4 (.t 45))])
 (.drop [45] .ret)))))))))
abbrev Sx : List RS := [.t 4]
theorem Rw : Bd Try.prog B6 46 Sb Sx = true := by kernel_rfl
def Pi : ACode :=
 (.seq (.reg [un (.alc 2 (.agg [.int .i64 0, .nilsl 2])),
 un (.asg 3 (.c (.nilsl 1))),
 un (.asg 4 (.c (.int .i64 0))),
 un (.asg 5 (.c (.nilsl 1)))])
 (.seq (.reg [un (.mov 9 (.t 0)),
 un (.bld 10 [.nilsl 1, .int .i64 0, .int .u64 0] [(0, 1, (.t 9))]),
 un (.box 11 (.t 10)),
 un (.asg 6 (.t 11))])
 (.drop [9, 10, 11] (.seq (.reg [un (.mov 12 (.t 6)),
 un (.call 13 Ef [((.t 12), true)]),
 un (.alc 7 (.agg [.int .i64 0, .nilsl 2])),
 un (.st 2 (.t 7) (.t 13))])
 (.drop [12, 13] (.seq (.frz [100007] (.reg [un (.mov 14 (.t 6)),
 un (.ld 15 2 true (.t 7)),
 un (.call 16 B6 [((.t 14), true), ((.t 15), false)]),
 un (.asg 8 (.t 16))]))
 (.drop [14, 15, 16] (.seq (.dregl [(0, .ld 17 2 true (.t 7)),
 (1, .mov 18 (.t 8)),
 (2, .mov 19 (.t 6)),
 (3, .mov 20 (.t 8)),
 (7, .mov 24 (.t 6)),
 (11, .mov 28 (.t 6)),
 (12, .ld 29 2 true (.t 7))]
 (.alt 4 (.len 21 (.t 20)) [0, 1, 2, 3, 7, 11, 12] [] (.alt 5 (.bin 22 .add (.t 21) (.c (.int .i64 1))) [0, 1, 2, 7, 11, 12] [] (.alt 6 (.call 23 Ao [((.t 19), true), ((.t 22), false)]) [0, 1, 2, 7, 11, 12] [] (.alt 8 (.call 25 Ao [((.t 24), true), ((.c (.int .i64 24)), false)]) [0, 1, 7, 11, 12] [] (.alt 9 (.bin 26 .quo (.t 25) (.c (.int .i64 23))) [0, 1, 11, 12] [] (.alt 10 (.bin 27 .sub (.t 23) (.t 26)) [0, 1, 11, 12] [] (.alt 13 (.call 30 B6 [((.t 28), true), ((.t 29), false)]) [0, 1, 11, 12] [] (.alt 14 (.st 2 (.t 2) (.t 17)) [0, 1] [] (.alt 15 (.asg 3 (.t 18)) [1] [] (.alt 16 (.asg 4 (.t 27)) [] [] (.alt 17 (.asg 5 (.t 30)) [] [] .nil .nil) .nil) .nil) .nil) .nil) (.alt 13 (.call 30 B6 [((.t 28), true), ((.t 29), false)]) [0, 1, 11, 12] [] (.alt 10 (.bin 27 .sub (.t 23) (.t 26)) [0, 1] [] (.alt 14 (.st 2 (.t 2) (.t 17)) [0, 1] [] (.alt 15 (.asg 3 (.t 18)) [1] [] (.alt 16 (.asg 4 (.t 27)) [] [] (.alt 17 (.asg 5 (.t 30)) [] [] .nil .nil) .nil) .nil) .nil) (.alt 14 (.st 2 (.t 2) (.t 17)) [0, 1] [] (.alt 10 (.bin 27 .sub (.t 23) (.t 26)) [1] [] (.alt 15 (.asg 3 (.t 18)) [1] [] (.alt 16 (.asg 4 (.t 27)) [] [] (.alt 17 (.asg 5 (.t 30)) [] [] .nil .nil) .nil) .nil) (.alt 15 (.asg 3 (.t 18)) [1] [] (.alt 10 (.bin 27 .sub (.t 23) (.t 26)) [] [] (.alt 16 (.asg 4 (.t 27)) [] [] (.alt 17 (.asg 5 (.t 30)) [] [] .nil .nil) .nil) .nil) .nil)) .nil)) .nil)) (.alt 13 (.call 30 B6 [((.t 28), true), ((.t 29), false)]) [0, 1, 11, 12] [] (.alt 9 (.bin 26 .quo (.t 25) (.c (.int .i64 23))) [0, 1] [] (.alt 10 (.bin 27 .sub (.t 23) (.t 26)) [0, 1] [] (.alt 14 (.st 2 (.t 2) (.t 17)) [0, 1] [] (.alt 15 (.asg 3 (.t 18)) [1] [] (.alt 16 (.asg 4 (.t 27)) [] [] (.alt 17 (.asg 5 (.t 30)) [] [] .nil .nil) .nil) .nil) .nil) (.alt 14 (.st 2 (.t 2) (.t 17)) [0, 1] [] (.alt 10 (.bin 27 .sub (.t 23) (.t 26)) [1] [] (.alt 15 (.asg 3 (.t 18)) [1] [] (.alt 16 (.asg 4 (.t 27)) [] [] (.alt 17 (.asg 5 (.t 30)) [] [] .nil .nil) .nil) .nil) (.alt 15 (.asg 3 (.t 18)) [1] [] (.alt 10 (.bin 27 .sub (.t 23) (.t 26)) [] [] (.alt 16 (.asg 4 (.t 27)) [] [] (.alt 17 (.asg 5 (.t 30)) [] [] .nil .nil) .nil) .nil) .nil)) .nil)) (.alt 14 (.st 2 (.t 2) (.t 17)) [0, 1] [] (.alt 9 (.bin 26 .quo (.t 25) (.c (.int .i64 23))) [1] [] (.alt 10 (.bin 27 .sub (.t 23) (.t 26)) [1] [] (.alt 15 (.asg 3 (.t 18)) [1] [] (.alt 16 (.asg 4 (.t 27)) [] [] (.alt 17 (.asg 5 (.t 30)) [] [] .nil .nil) .nil) .nil) (.alt 15 (.asg 3 (.t 18)) [1] [] (.alt 10 (.bin 27 .sub (.t 23) (.t 26)) [] [] (.alt 16 (.asg 4 (.t 27)) [] [] (.alt 17 (.asg 5 (.t 30)) [] [] .nil .nil) .nil) .nil) .nil)) (.alt 15 (.asg 3 (.t 18)) [1] [] (.alt 9 (.bin 26 .quo (.t 25) (.c (.int .i64 23))) [] [] (.alt 10 (.bin 27 .sub (.t 23) (.t 26)) [] [] (.alt 16 (.asg 4 (.t 27)) [] [] (.alt 17 (.asg 5 (.t 30)) [] [] .nil .nil) .nil) .nil) .nil) .nil)) .nil)) .nil)) .nil) .nil) .nil) .nil))
 (.drop [17, 18, 19, 20, 21, 22, 23, 24, 25, 26, 27, 28, 29, 30] .ret)))))))))
abbrev O5 : List RS := [.c 2 2 true, .t 3, .t 4, .t 5]
theorem Pk : Bd Try.prog F5 31 Pi O5 = true := by kernel_rfl
def Ho : ACode :=
 (.seq (.seq (.reg [un (.mov 11 (.t 6)),
 un (.bin 12 .gtr (.t 11) (.c (.int .i64 0)))])
 (.drop [11] (.cond (.t 12) .skip
 (.exit 0))))
 (.drop [11, 12] (.seq (.block 1 (.reg [un (.mov 15 (.t 5)),
 un (.mov 16 (.t 0)),
 un (.ld 17 2 true (.t 3)),
 un (.call 18 B6 [((.t 16), true), ((.t 17), false)]),
 un (.bsl 19 1 [(.t 18)]),
 un (.app 20 1 (.t 15) (.t 19)),
 un (.asg 5 (.t 20))]))
 (.drop [15, 16, 17, 18, 19, 20] (.reg [un (.mov 13 (.t 6)),
 un (.bin 14 .sub (.t 13) (.c (.int .i64 1))),
 un (.asg 6 (.t 14))])))))
def Qj : ACode :=
 (.seq (.reg [un (.box 3 (.t 1)),
 un (.asg 4 (.c (.nilsl 1)))])
 (.seq (.reg [un (.bsl 7 1 []),
 un (.asg 5 (.t 7))])
 (.drop [7] (.seq (.seq (.reg [un (.mov 8 (.t 0)),
 un (.bsl 9 1 [(.c (.int .i64 3)), (.c (.int .i64 6)), (.c (.int .i64 6)), (.c (.int .i64 2)), (.c (.int .i64 1)), (.c (.int .i64 0)), (.c (.int .i64 7))]),
 un (.call 10 Am [((.t 8), true), ((.t 9), false)]),
 un (.asg 6 (.t 10))])
 (.drop [8, 9, 10] (.block 0 (.loop Ho))))
 (.drop [8, 9, 10, 6, 11, 12, 15, 16, 17, 18, 19, 20, 13, 14] (.seq (.reg [un (.mov 21 (.t 5)),
 un (.asg 4 (.t 21))])
 (.drop [21] .ret)))))))
abbrev Qo : List RS := [.t 4]
theorem Qm : Bd Try.prog Gk 22 Qj Qo = true := by kernel_rfl
def Mo : ACode :=
 (.seq (.reg [un (.alc 2 (.agg [.int .i64 0, .nilsl 2])),
 un (.asg 3 (.c (.nilsl 1))),
 un (.asg 4 (.c (.nilsl 1)))])
 (.seq (.reg [un (.mov 7 (.t 0)),
 un (.bld 8 [.nilsl 1, .int .i64 0, .int .u64 0] [(0, 1, (.t 7))]),
 un (.box 9 (.t 8)),
 un (.asg 5 (.t 9))])
 (.drop [7, 8, 9] (.seq (.reg [un (.mov 10 (.t 5)),
 un (.call 11 Ef [((.t 10), true)]),
 un (.alc 6 (.agg [.int .i64 0, .nilsl 2])),
 un (.st 2 (.t 6) (.t 11))])
 (.drop [10, 11] (.seq (.frz [100006] (.dregl [(0, .ld 12 2 true (.t 6)),
 (1, .mov 13 (.t 5)),
 (2, .ld 14 2 true (.t 6)),
 (4, .mov 16 (.t 5)),
 (5, .ld 17 2 true (.t 6))]
 (.alt 3 (.call 15 B6 [((.t 13), true), ((.t 14), false)]) [0, 1, 2, 4, 5] [] (.alt 6 (.call 18 Gk [((.t 16), true), ((.t 17), false)]) [0, 4, 5] [] (.alt 7 (.st 2 (.t 2) (.t 12)) [0] [] (.alt 8 (.asg 3 (.t 15)) [] [] (.alt 9 (.asg 4 (.t 18)) [] [] .nil .nil) .nil) .nil) .nil) .nil)))
 (.drop [12, 13, 14, 15, 16, 17, 18] .ret)))))))
abbrev L9 : List RS := [.c 2 2 true, .t 3, .t 4]
theorem Mw : Bd Try.prog E4 19 Mo L9 = true := by kernel_rfl
def Ry : ACode :=
 (.seq (.reg [un (.ld 66 2 true (.t 3)),
 un (.mov 67 (.t 4)),
 un (.mov 68 (.t 5)),
 un (.call 69 Gi [((.t 66), false), ((.t 67), false), ((.t 68), false)]),
 un (.asg 65 (.t 69)),
 un (.ext 70 (.t 65) 0),
 un (.ext 71 (.t 65) 1),
 un (.asg 8 (.t 70)),
 un (.asg 9 (.t 71))])
 (.drop [66, 67, 68, 69, 65, 70, 71] (.seq (.reg [un (.mov 72 (.t 7)),
 un (.mov 73 (.t 9)),
 un (.binb 74 .neq (.t 72) (.t 73)),
 un (.asg 75 (.t 74)),
 ⟨some (75, false), .mov 76 (.t 6)⟩,
 ⟨some (75, false), .mov 77 (.t 8)⟩,
 ⟨some (75, false), .call 78 Fb [((.t 76), false), ((.t 77), false)]⟩,
 ⟨some (75, false), .un 79 .not (.t 78)⟩,
 un (.pick 80 (.t 75) (.c (.bool true)) (.t 79))])
 (.drop [72, 73, 74, 75, 76, 77, 78, 79] (.cond (.t 80) (.seq (.reg [un (.asg 2 (.c (.bool false)))])
 .ret)
 .skip)))))
def K4 : ACode :=
 (.seq (.seq (.reg [un (.mov 87 (.t 13)),
 un (.mov 88 (.t 5)),
 un (.len 89 (.t 88)),
 un (.bin 90 .lss (.t 87) (.t 89))])
 (.drop [87, 88, 89] (.cond (.t 90) .skip
 (.exit 0))))
 (.drop [87, 88, 89, 90] (.seq (.block 1 (.seq (.dreg [(un (.ld 94 2 true (.t 3)), []),
 (un (.mov 95 (.t 5)), [94]),
 (un (.mov 96 (.t 13)), [94, 95]),
 (un (.iad 97 1 (.t 95) (.t 96)), [94]),
 (un (.ld 98 1 false (.t 97)), [94]),
 (un (.mov 99 (.t 10)), [94, 95, 96, 97, 98]),
 (un (.call 100 B9 [((.t 94), false), ((.t 98), false), ((.t 99), false)]), []),
 (un (.asg 93 (.t 100)), []),
 (un (.ext 101 (.t 93) 0), [100]),
 (un (.ext 102 (.t 93) 1), [101, 100, 101])]
 [un (.asg 14 (.t 101)),
 un (.asg 15 (.t 102))])
 (.drop [94, 95, 96, 97, 98, 99, 100, 93, 101, 102] (.seq (.reg [un (.mov 103 (.t 12)),
 un (.asg 104 (.t 103)),
 ⟨some (104, true), .mov 105 (.t 15)⟩,
 un (.pick 106 (.t 104) (.t 105) (.c (.bool false))),
 un (.asg 12 (.t 106))])
 (.drop [103, 104, 105, 106] (.reg [un (.mov 107 (.t 11)),
 un (.mov 108 (.t 14)),
 un (.bsl 109 1 [(.t 108)]),
 un (.app 110 1 (.t 107) (.t 109)),
 un (.asg 11 (.t 110))]))))))
 (.drop [94, 95, 96, 97, 98, 99, 100, 93, 101, 102, 14, 15, 103, 104, 105, 106, 107, 108, 109, 110] (.reg [un (.mov 91 (.t 13)),
 un (.bin 92 .add (.t 91) (.c (.int .i64 1))),
 un (.asg 13 (.t 92))])))))
def Su : ACode :=
 (.seq (.reg [un (.mov 85 (.t 7))])
 (.cond (.t 85) (.seq (.reg [un (.bsl 86 1 []),
 un (.asg 11 (.t 86)),
 un (.asg 12 (.c (.bool true)))])
 (.drop [86] (.seq (.seq (.reg [un (.asg 13 (.c (.int .i64 0)))])
 (.block 0 (.loop K4)))
 (.drop [13, 87, 88, 89, 90, 94, 95, 96, 97, 98, 99, 100, 93, 101, 102, 14, 15, 103, 104, 105, 106, 107, 108, 109, 110, 91, 92] (.seq (.reg [un (.mov 111 (.t 12))])
 (.cond (.t 111) (.seq (.reg [un (.ld 113 2 true (.t 3)),
 un (.mov 114 (.t 6)),
 un (.mov 115 (.t 10)),
 un (.call 116 B9 [((.t 113), false), ((.t 114), false), ((.t 115), false)]),
 un (.asg 112 (.t 116)),
 un (.ext 117 (.t 112) 0),
 un (.ext 118 (.t 112) 1),
 un (.asg 16 (.t 117)),
 un (.asg 17 (.t 118))])
 (.drop [113, 114, 115, 116, 112, 117, 118] (.seq (.reg [un (.ld 120 2 true (.t 3)),
 un (.mov 121 (.t 4)),
 un (.mov 122 (.t 11)),
 un (.call 123 B9 [((.t 120), false), ((.t 121), false), ((.t 122), false)]),
 un (.asg 119 (.t 123)),
 un (.ext 124 (.t 119) 0),
 un (.ext 125 (.t 119) 1),
 un (.asg 18 (.t 124)),
 un (.asg 19 (.t 125))])
 (.drop [120, 121, 122, 123, 119, 124, 125] (.seq (.reg [un (.mov 126 (.t 17)),
 un (.un 127 .not (.t 126)),
 un (.asg 128 (.t 127)),
 ⟨some (128, false), .mov 129 (.t 19)⟩,
 ⟨some (128, false), .un 130 .not (.t 129)⟩,
 un (.pick 131 (.t 128) (.c (.bool true)) (.t 130)),
 un (.asg 132 (.t 131)),
 ⟨some (132, false), .mov 133 (.t 16)⟩,
 ⟨some (132, false), .mov 134 (.t 18)⟩,
 ⟨some (132, false), .bin 135 .neq (.t 133) (.t 134)⟩,
 un (.pick 136 (.t 132) (.c (.bool true)) (.t 135))])
 (.drop [126, 127, 128, 129, 130, 131, 132, 133, 134, 135] (.cond (.t 136) (.seq (.reg [un (.asg 2 (.c (.bool false)))])
 .ret)
 .skip)))))))
 .skip))))))
 .skip))
def Rv : ACode :=
 (.seq (.reg [un (.ld 153 2 true (.t 20)),
 un (.mov 154 (.t 21)),
 un (.mov 155 (.t 22)),
 un (.mov 156 (.t 23)),
 un (.call 157 I3 [((.t 153), false), ((.t 154), false), ((.t 155), false), ((.t 156), false)]),
 un (.asg 152 (.t 157)),
 un (.ext 158 (.t 152) 0),
 un (.ext 159 (.t 152) 1),
 un (.asg 26 (.t 158)),
 un (.asg 27 (.t 159))])
 (.drop [153, 154, 155, 156, 157, 152, 158, 159] (.seq (.reg [un (.mov 160 (.t 25)),
 un (.mov 161 (.t 27)),
 un (.binb 162 .neq (.t 160) (.t 161)),
 un (.asg 163 (.t 162)),
 ⟨some (163, false), .mov 164 (.t 24)⟩,
 ⟨some (163, false), .mov 165 (.t 26)⟩,
 ⟨some (163, false), .call 166 Fb [((.t 164), false), ((.t 165), false)]⟩,
 ⟨some (163, false), .un 167 .not (.t 166)⟩,
 un (.pick 168 (.t 163) (.c (.bool true)) (.t 167))])
 (.drop [160, 161, 162, 163, 164, 165, 166, 167] (.cond (.t 168) (.seq (.reg [un (.asg 2 (.c (.bool false)))])
 .ret)
 .skip)))))
def Rz : ACode :=
 (.seq (.reg [un (.ld 177 2 true (.t 20)),
 un (.mov 178 (.t 21)),
 un (.mov 179 (.t 22)),
 un (.call 180 Iy [((.t 177), false), ((.t 178), false), ((.t 179), false)]),
 un (.asg 176 (.t 180)),
 un (.ext 181 (.t 176) 0),
 un (.ext 182 (.t 176) 1),
 un (.asg 30 (.t 181)),
 un (.asg 31 (.t 182))])
 (.drop [177, 178, 179, 180, 176, 181, 182] (.seq (.reg [un (.mov 183 (.t 29)),
 un (.mov 184 (.t 31)),
 un (.binb 185 .neq (.t 183) (.t 184)),
 un (.asg 186 (.t 185)),
 ⟨some (186, false), .mov 187 (.t 28)⟩,
 ⟨some (186, false), .mov 188 (.t 30)⟩,
 ⟨some (186, false), .call 189 Fb [((.t 187), false), ((.t 188), false)]⟩,
 ⟨some (186, false), .un 190 .not (.t 189)⟩,
 un (.pick 191 (.t 186) (.c (.bool true)) (.t 190))])
 (.drop [183, 184, 185, 186, 187, 188, 189, 190] (.cond (.t 191) (.seq (.reg [un (.asg 2 (.c (.bool false)))])
 .ret)
 .skip)))))
def R5 : ACode :=
 (.seq (.reg [un (.mov 192 (.t 29))])
 (.cond (.t 192) (.seq (.reg [un (.ld 194 2 true (.t 20)),
 un (.mov 195 (.t 21)),
 un (.mov 196 (.t 22)),
 un (.mov 197 (.t 28)),
 un (.call 198 Gb [((.t 194), false), ((.t 195), false), ((.t 196), false), ((.t 197), false)]),
 un (.asg 193 (.t 198)),
 un (.ext 199 (.t 193) 0),
 un (.ext 200 (.t 193) 1),
 un (.asg 32 (.t 199)),
 un (.asg 33 (.t 200))])
 (.drop [194, 195, 196, 197, 198, 193, 199, 200] (.seq (.reg [un (.mov 201 (.t 33)),
 un (.un 202 .not (.t 201)),
 un (.asg 203 (.t 202)),
 ⟨some (203, false), .mov 204 (.t 32)⟩,
 ⟨some (203, false), .mov 205 (.t 21)⟩,
 ⟨some (203, false), .call 206 Fb [((.t 204), false), ((.t 205), false)]⟩,
 ⟨some (203, false), .un 207 .not (.t 206)⟩,
 un (.pick 208 (.t 203) (.c (.bool true)) (.t 207))])
 (.drop [201, 202, 203, 204, 205, 206, 207] (.cond (.t 208) (.seq (.reg [un (.asg 2 (.c (.bool false)))])
 .ret)
 .skip)))))
 .skip))
def Sm : ACode :=
 (.seq (.reg [un (.mov 213 (.t 25))])
 (.cond (.t 213) (.seq (.reg [un (.ld 215 2 true (.t 20)),
 un (.mov 216 (.t 28)),
 un (.mov 217 (.t 10)),
 un (.call 218 B9 [((.t 215), false), ((.t 216), false), ((.t 217), false)]),
 un (.asg 214 (.t 218)),
 un (.ext 219 (.t 214) 0),
 un (.ext 220 (.t 214) 1),
 un (.asg 34 (.t 219)),
 un (.asg 35 (.t 220))])
 (.drop [215, 216, 217, 218, 214, 219, 220] (.seq (.reg [un (.ld 222 2 true (.t 20)),
 un (.mov 223 (.t 23)),
 un (.mov 224 (.t 10)),
 un (.call 225 B9 [((.t 222), false), ((.t 223), false), ((.t 224), false)]),
 un (.asg 221 (.t 225)),
 un (.ext 226 (.t 221) 0),
 un (.ext 227 (.t 221) 1),
 un (.asg 36 (.t 226)),
 un (.asg 37 (.t 227))])
 (.drop [222, 223, 224, 225, 221, 226, 227] (.seq (.reg [un (.ld 229 2 true (.t 20)),
 un (.mov 230 (.t 21)),
 un (.mov 231 (.t 10)),
 un (.call 232 B9 [((.t 229), false), ((.t 230), false), ((.t 231), false)]),
 un (.asg 228 (.t 232)),
 un (.ext 233 (.t 228) 0),
 un (.ext 234 (.t 228) 1),
 un (.asg 38 (.t 233)),
 un (.asg 39 (.t 234))])
 (.drop [229, 230, 231, 232, 228, 233, 234] (.seq (.reg [un (.ld 236 2 true (.t 20)),
 un (.mov 237 (.t 24)),
 un (.mov 238 (.t 10)),
 un (.call 239 B9 [((.t 236), false), ((.t 237), false), ((.t 238), false)]),
 un (.asg 235 (.t 239)),
 un (.ext 240 (.t 235) 0),
 un (.ext 241 (.t 235) 1),
 un (.asg 40 (.t 240)),
 un (.asg 41 (.t 241))])
 (.drop [236, 237, 238, 239, 235, 240, 241] (.seq (.reg [un (.mov 242 (.t 35)),
 un (.asg 243 (.t 242)),
 ⟨some (243, true), .mov 244 (.t 37)⟩,
 un (.pick 245 (.t 243) (.t 244) (.c (.bool false))),
 un (.asg 246 (.t 245)),
 ⟨some (246, true), .mov 247 (.t 39)⟩,
 un (.pick 248 (.t 246) (.t 247) (.c (.bool false))),
 un (.asg 249 (.t 248)),
 ⟨some (249, true), .mov 250 (.t 34)⟩,
 ⟨some (249, true), .mov 251 (.t 36)⟩,
 ⟨some (249, true), .bin 252 .eql (.t 250) (.t 251)⟩,
 un (.pick 253 (.t 249) (.t 252) (.c (.bool false))),
 un (.asg 254 (.t 253)),
 ⟨some (254, true), .mov 255 (.t 41)⟩,
 ⟨some (254, true), .un 256 .not (.t 255)⟩,
 ⟨some (254, true), .asg 257 (.t 256)⟩,
 ⟨some (257, false), .mov 258 (.t 38)⟩,
 ⟨some (257, false), .mov 259 (.t 40)⟩,
 ⟨some (257, false), .bin 260 .neq (.t 258) (.t 259)⟩,
 ⟨some (254, true), .pick 261 (.t 257) (.c (.bool true)) (.t 260)⟩,
 un (.pick 262 (.t 254) (.t 261) (.c (.bool false)))])
 (.drop [242, 243, 244, 245, 246, 247, 248, 249, 250, 251, 252, 253, 254, 255, 256, 257, 258, 259, 260, 261] (.cond (.t 262) (.seq (.reg [un (.asg 2 (.c (.bool false)))])
 .ret)
 .skip)))))))))))
 .skip))
def Ss : ACode :=
 (.seq (.reg [un (.ld 270 2 true (.t 20)),
 un (.mov 271 (.t 21)),
 un (.call 272 Kj [((.t 270), false), ((.t 271), false)]),
 un (.asg 269 (.t 272)),
 un (.ext 273 (.t 269) 0),
 un (.ext 274 (.t 269) 1),
 un (.asg 44 (.t 273)),
 un (.asg 45 (.t 274))])
 (.drop [270, 271, 272, 269, 273, 274] (.seq (.reg [un (.mov 275 (.t 42)),
 un (.mov 276 (.t 44)),
 un (.bin 277 .neq (.t 275) (.t 276)),
 un (.asg 278 (.t 277)),
 ⟨some (278, false), .mov 279 (.t 43)⟩,
 ⟨some (278, false), .mov 280 (.t 45)⟩,
 ⟨some (278, false), .binb 281 .neq (.t 279) (.t 280)⟩,
 un (.pick 282 (.t 278) (.c (.bool true)) (.t 281)),
 un (.asg 283 (.t 282)),
 ⟨some (283, false), .mov 284 (.t 43)⟩,
 ⟨some (283, false), .ld 285 2 true (.t 20)⟩,
 ⟨some (283, false), .mov 286 (.t 21)⟩,
 ⟨some (283, false), .call 287 C8 [((.t 285), false), ((.t 286), false)]⟩,
 ⟨some (283, false), .binb 288 .neq (.t 284) (.t 287)⟩,
 un (.pick 289 (.t 283) (.c (.bool true)) (.t 288))])
 (.drop [275, 276, 277, 278, 279, 280, 281, 282, 283, 284, 285, 286, 287, 288] (.cond (.t 289) (.seq (.reg [un (.asg 2 (.c (.bool false)))])
 .ret)
 .skip)))))
def Zc : ACode :=
 (.seq (.reg [un (.asg 2 (.c (.bool false)))])
 (.seq (.seq (.reg [un (.mov 50 (.t 0)),
 un (.call 51 Ou [((.t 50), false)])])
 (.drop [50] (.cond (.t 51) (.seq (.reg [un (.asg 2 (.c (.bool true)))])
 .ret)
 .skip)))
 (.drop [50, 51] (.seq (.reg [un (.mov 53 (.t 0)),
 un (.call 54 E4 [((.t 53), false)]),
 un (.asg 52 (.t 54)),
 un (.ext 55 (.t 52) 0),
 un (.ext 56 (.t 52) 1),
 un (.ext 57 (.t 52) 2),
 un (.alc 3 (.agg [.int .i64 0, .nilsl 2])),
 un (.st 2 (.t 3) (.t 55)),
 un (.asg 4 (.t 56)),
 un (.asg 5 (.t 57))])
 (.drop [53, 54, 52, 55, 56, 57] (.seq (.reg [un (.ld 59 2 true (.t 3)),
 un (.mov 60 (.t 4)),
 un (.mov 61 (.t 5)),
 un (.call 62 Gm [((.t 59), false), ((.t 60), false), ((.t 61), false)]),
 un (.asg 58 (.t 62)),
 un (.ext 63 (.t 58) 0),
 un (.ext 64 (.t 58) 1),
 un (.asg 6 (.t 63)),
 un (.asg 7 (.t 64))])
 (.drop [59, 60, 61, 62, 58, 63, 64] (.seq (.cut Ry)
 (.drop [66, 67, 68, 69, 65, 70, 71, 8, 9, 72, 73, 74, 75, 76, 77, 78, 79, 80] (.seq (.reg [un (.mov 81 (.t 0)),
 un (.fadr 82 0 (.t 3)),
 un (.ld 83 1 false (.t 82)),
 un (.call 84 Hz [((.t 81), false), ((.t 83), false)]),
 un (.asg 10 (.t 84))])
 (.drop [81, 82, 83, 84] (.seq (.cut Su)
 (.drop [85, 86, 11, 12, 13, 87, 88, 89, 90, 94, 95, 96, 97, 98, 99, 100, 93, 101, 102, 14, 15, 103, 104, 105, 106, 107, 108, 109, 110, 91, 92, 111, 113, 114, 115, 116, 112, 117, 118, 16, 17, 120, 121, 122, 123, 119, 124, 125, 18, 19, 126, 127, 128, 129, 130, 131, 132, 133, 134, 135, 136] (.seq (.reg [un (.mov 138 (.t 0)),
 un (.call 139 F5 [((.t 138), false)]),
 un (.asg 137 (.t 139)),
 un (.ext 140 (.t 137) 0),
 un (.ext 141 (.t 137) 1),
 un (.ext 142 (.t 137) 2),
 un (.ext 143 (.t 137) 3),
 un (.alc 20 (.agg [.int .i64 0, .nilsl 2])),
 un (.st 2 (.t 20) (.t 140)),
 un (.asg 21 (.t 141)),
 un (.asg 22 (.t 142)),
 un (.asg 23 (.t 143))])
 (.drop [138, 139, 137, 140, 141, 142, 143] (.seq (.reg [un (.ld 145 2 true (.t 20)),
 un (.mov 146 (.t 21)),
 un (.mov 147 (.t 22)),
 un (.mov 148 (.t 23)),
 un (.call 149 Gb [((.t 145), false), ((.t 146), false), ((.t 147), false), ((.t 148), false)]),
 un (.asg 144 (.t 149)),
 un (.ext 150 (.t 144) 0),
 un (.ext 151 (.t 144) 1),
 un (.asg 24 (.t 150)),
 un (.asg 25 (.t 151))])
 (.drop [145, 146, 147, 148, 149, 144, 150, 151] (.seq (.cut Rv)
 (.drop [153, 154, 155, 156, 157, 152, 158, 159, 26, 27, 160, 161, 162, 163, 164, 165, 166, 167, 168] (.seq (.reg [un (.ld 170 2 true (.t 20)),
 un (.mov 171 (.t 21)),
 un (.mov 172 (.t 22)),
 un (.call 173 Iz [((.t 170), false), ((.t 171), false), ((.t 172), false)]),
 un (.asg 169 (.t 173)),
 un (.ext 174 (.t 169) 0),
 un (.ext 175 (.t 169) 1),
 un (.asg 28 (.t 174)),
 un (.asg 29 (.t 175))])
 (.drop [170, 171, 172, 173, 169, 174, 175] (.seq (.cut Rz)
 (.drop [177, 178, 179, 180, 176, 181, 182, 30, 31, 183, 184, 185, 186, 187, 188, 189, 190, 191] (.seq (.cut R5)
 (.drop [192, 194, 195, 196, 197, 198, 193, 199, 200, 32, 33, 201, 202, 203, 204, 205, 206, 207, 208] (.seq (.reg [un (.mov 209 (.t 0)),
 un (.fadr 210 0 (.t 20)),
 un (.ld 211 1 false (.t 210)),
 un (.call 212 Hz [((.t 209), false), ((.t 211), false)]),
 un (.asg 10 (.t 212))])
 (.drop [209, 210, 211, 212] (.seq (.cut Sm)
 (.drop [213, 215, 216, 217, 218, 214, 219, 220, 34, 35, 222, 223, 224, 225, 221, 226, 227, 36, 37, 229, 230, 231, 232, 228, 233, 234, 38, 39, 236, 237, 238, 239, 235, 240, 241, 40, 41, 242, 243, 244, 245, 246, 247, 248, 249, 250, 251, 252, 253, 254, 255, 256, 257, 258, 259, 260, 261, 262] (.seq (.reg [un (.ld 264 2 true (.t 20)),
 un (.mov 265 (.t 21)),
 un (.call 266 Ko [((.t 264), false), ((.t 265), false)]),
 un (.asg 263 (.t 266)),
 un (.ext 267 (.t 263) 0),
 un (.ext 268 (.t 263) 1),
 un (.asg 42 (.t 267)),
 un (.asg 43 (.t 268))])
 (.drop [264, 265, 266, 263, 267, 268] (.seq (.cut Ss)
 (.drop [270, 271, 272, 269, 273, 274, 44, 45, 275, 276, 277, 278, 279, 280, 281, 282, 283, 284, 285, 286, 287, 288, 289] (.seq (.reg [un (.ld 291 2 true (.t 20)),
 un (.mov 292 (.t 21)),
 un (.call 293 L6 [((.t 291), false), ((.t 292), false)]),
 un (.asg 290 (.t 293)),
 un (.ext 294 (.t 290) 0),
 un (.ext 295 (.t 290) 1),
 un (.asg 46 (.t 294)),
 un (.asg 47 (.t 295))])
 (.drop [291, 292, 293, 290, 294, 295] (.seq (.reg [un (.ld 297 2 true (.t 20)),
 un (.mov 298 (.t 21)),
 un (.call 299 Ly [((.t 297), false), ((.t 298), false)]),
 un (.asg 296 (.t 299)),
 un (.ext 300 (.t 296) 0),
 un (.ext 301 (.t 296) 1),
 un (.asg 48 (.t 300)),
 un (.asg 49 (.t 301))])
 (.drop [297, 298, 299, 296, 300, 301] (.seq (.reg [un (.mov 302 (.t 47)),
 un (.mov 303 (.t 49)),
 un (.binb 304 .eql (.t 302) (.t 303)),
 un (.asg 305 (.t 304)),
 ⟨some (305, true), .mov 306 (.t 46)⟩,
 ⟨some (305, true), .mov 307 (.t 48)⟩,
 ⟨some (305, true), .call 308 Fb [((.t 306), false), ((.t 307), false)]⟩,
 un (.pick 309 (.t 305) (.t 308) (.c (.bool false))),
 un (.asg 2 (.t 309))])
 (.drop [302, 303, 304, 305, 306, 307, 308, 309] .ret)))))))))))))))))))))))))))))))))))))))
abbrev Zd : List RS := [.t 2]
theorem Ys : Bd Try.prog Pa 310 Zc Zd = true := by kernel_rfl
end Go.Proofs.Ytjinhobffbppbaa.Ax
