/-
  The small code of the functions, written by program; that the program's code is this one, the kernel looks at.
-/
import Derived.Test.YtidaaijecmkndaaAx3
import Derived.Test.YtidaaijecmkndaaProg
import Derived.KernelRfl
import Derived.Test.YtidaaijecmkndaaNum
namespace Go.Proofs.Ytidaaijecmkndaa.Ax
open Go
set_option maxRecDepth 100000
def W6 : ACode :=
 (.seq (.reg [un (.ld 8 2 true (.t 3)),
 un (.call 9 Fk [((.t 8), false)]),
 un (.un 10 .not (.t 9)),
 un (.asg 11 (.t 10)),
 ⟨some (11, false), .ld 12 2 true (.t 3)⟩,
 ⟨some (11, false), .mov 13 (.t 1)⟩,
 ⟨some (11, false), .call 14 Hk [((.t 12), false), ((.t 13), false)]⟩,
 ⟨some (11, false), .un 15 .not (.t 14)⟩,
 un (.pick 16 (.t 11) (.c (.bool true)) (.t 15)),
 un (.asg 17 (.t 16)),
 ⟨some (17, false), .ld 18 2 true (.t 3)⟩,
 ⟨some (17, false), .mov 19 (.t 2)⟩,
 ⟨some (17, false), .call 20 Hk [((.t 18), false), ((.t 19), false)]⟩,
 ⟨some (17, false), .un 21 .not (.t 20)⟩,
 un (.pick 22 (.t 17) (.c (.bool true)) (.t 21))])
 (.drop [8, 9, 10, 11, 12, 13, 14, 15, 16, 17, 18, 19, 20, 21] (.cond (.t 22) (.seq (.reg [un (.bsl 23 1 []),
 un (.asg 6 (.t 23)),
 un (.asg 7 (.c (.bool false)))])
 (.drop [23] .ret))
 .skip)))
def Aa4 : ACode :=
 (.seq (.reg [un (.box 3 (.t 0)),
 un (.asg 6 (.c (.nilsl 1))),
 un (.asg 7 (.c (.bool false)))])
 (.seq (.cut W6)
 (.drop [8, 9, 10, 11, 12, 13, 14, 15, 16, 17, 18, 19, 20, 21, 22, 23] (.seq (.dreg [(un (.ld 24 2 true (.t 3)), [26]),
 (un (.mov 25 (.t 1)), [24]),
 (un (.call 26 Mr [((.t 25), false)]), [24]),
 (un (.mov 27 (.t 2)), [24, 25, 26]),
 (un (.app 28 1 (.t 26) (.t 27)), [24])]
 [un (.call 29 Hr [((.t 24), false), ((.t 28), false)]),
 un (.asg 6 (.t 29)),
 un (.asg 7 (.c (.bool true)))])
 (.drop [24, 25, 26, 27, 28, 29] .ret)))))
abbrev Abb : List RS := [.t 6, .t 7]
theorem Ab9 : A5 Try.prog L8 30 Aa4 Abb = true := by kernel_rfl
def Kb : ACode :=
 (.seq (.seq (.reg [un (.mov 16 (.t 6)),
 un (.bin 17 .gtr (.t 16) (.c (.int .i64 0)))])
 (.drop [16] (.cond (.t 17) .skip
 (.exit 0))))
 (.drop [16, 17] (.seq (.block 1 (.reg [un (.mov 20 (.t 5)),
 un (.mov 21 (.t 0)),
 un (.ld 22 2 true (.t 3)),
 un (.call 23 Hb [((.t 21), true), ((.t 22), false)]),
 un (.bsl 24 1 [(.t 23)]),
 un (.app 25 1 (.t 20) (.t 24)),
 un (.asg 5 (.t 25))]))
 (.drop [20, 21, 22, 23, 24, 25] (.reg [un (.mov 18 (.t 6)),
 un (.bin 19 .sub (.t 18) (.c (.int .i64 1))),
 un (.asg 6 (.t 19))])))))
def Wn : ACode :=
 (.seq (.reg [un (.box 3 (.t 1)),
 un (.asg 4 (.c (.nilsl 1)))])
 (.seq (.reg [un (.bsl 7 1 []),
 un (.asg 5 (.t 7))])
 (.drop [7] (.seq (.seq (.reg [un (.mov 8 (.t 0)),
 un (.bsl 9 1 [(.c (.int .i64 0)), (.c (.int .i64 1)), (.c (.int .i64 1)), (.c (.int .i64 2)), (.c (.int .i64 2)), (.c (.int .i64 3)), (.c (.int .i64 20)), (.c (.int .i64 21))]),
 un (.mov 10 (.t 0)),
 un (.call 11 A6 [((.t 10), true), ((.c (.int .i64 24)), false)]),
 un (.bin 12 .quo (.t 11) (.c (.int .i64 11))),
 un (.bin 13 .add (.c (.int .i64 6)) (.t 12)),
 un (.slc 14 1 (.t 9) none (some (.t 13))),
 un (.call 15 Bb [((.t 8), true), ((.t 14), false)]),
 un (.asg 6 (.t 15))])
 (.drop [8, 9, 10, 11, 12, 13, 14, 15] (.block 0 (.loop Kb))))
 (.drop [8, 9, 10, 11, 12, 13, 14, 15, 6, 16, 17, 20, 21, 22, 23, 24, 25, 18, 19] (.seq (.reg [un (.mov 26 (.t 5)),
 un (.asg 4 (.t 26))])
 (.drop [26] .ret)))))))
abbrev W3 : List RS := [.t 4]
theorem Xd : A5 Try.prog I5 27 Wn W3 = true := by kernel_rfl
def Adw : ACode :=
 (.seq (.reg [un (.box 3 (.t 0)),
 un (.asg 6 (.c (.bool false)))])
 (.seq (.reg [un (.ld 7 2 true (.t 3)),
 un (.call 8 Ej [((.t 7), false)]),
 un (.asg 9 (.t 8)),
 ⟨some (9, true), .ld 10 2 true (.t 3)⟩,
 ⟨some (9, true), .mov 11 (.t 1)⟩,
 ⟨some (9, true), .call 12 Hy [((.t 10), false), ((.t 11), false)]⟩,
 un (.pick 13 (.t 9) (.t 12) (.c (.bool false))),
 un (.asg 14 (.t 13)),
 ⟨some (14, true), .ld 15 2 true (.t 3)⟩,
 ⟨some (14, true), .mov 16 (.t 2)⟩,
 ⟨some (14, true), .call 17 Hy [((.t 15), false), ((.t 16), false)]⟩,
 un (.pick 18 (.t 14) (.t 17) (.c (.bool false))),
 un (.asg 6 (.t 18))])
 (.drop [7, 8, 9, 10, 11, 12, 13, 14, 15, 16, 17, 18] .ret)))
abbrev Ae0 : List RS := [.t 6]
theorem Aev : A5 Try.prog Jx 19 Adw Ae0 = true := by kernel_rfl
def Od : ACode :=
 (.seq (.seq (.reg [un (.mov 7 (.t 4)),
 un (.fadr 8 0 (.t 1)),
 un (.ld 9 1 false (.t 8)),
 un (.bin 10 .shl (.c (.int .i64 1)) (.t 9)),
 un (.bin 11 .lss (.t 7) (.t 10))])
 (.drop [7, 8, 9, 10] (.cond (.t 11) .skip
 (.exit 0))))
 (.drop [7, 8, 9, 10, 11] (.seq (.block 1 (.seq (.reg [un (.mov 14 (.t 4)),
 un (.call 15 Pa [((.t 14), false)]),
 un (.asg 5 (.t 15))])
 (.drop [14, 15] (.seq (.reg [un (.ld 16 2 true (.t 1)),
 un (.mov 17 (.t 5)),
 un (.call 18 Hy [((.t 16), false), ((.t 17), false)])])
 (.drop [16, 17] (.cond (.t 18) (.reg [un (.mov 19 (.t 3)),
 un (.mov 20 (.t 5)),
 un (.bsl 21 1 [(.t 20)]),
 un (.app 22 1 (.t 19) (.t 21)),
 un (.asg 3 (.t 22))])
 .skip))))))
 (.drop [14, 15, 5, 16, 17, 18, 19, 20, 21, 22] (.reg [un (.mov 12 (.t 4)),
 un (.bin 13 .add (.t 12) (.c (.int .i64 1))),
 un (.asg 4 (.t 13))])))))
def Ae1 : ACode :=
 (.seq (.reg [un (.box 1 (.t 0)),
 un (.asg 2 (.c (.nilsl 1)))])
 (.seq (.reg [un (.bsl 6 1 []),
 un (.asg 3 (.t 6))])
 (.drop [6] (.seq (.seq (.reg [un (.asg 4 (.c (.int .i64 0)))])
 (.block 0 (.loop Od)))
 (.drop [4, 7, 8, 9, 10, 11, 14, 15, 5, 16, 17, 18, 19, 20, 21, 22, 12, 13] (.seq (.reg [un (.mov 23 (.t 3)),
 un (.call 24 Su [((.t 23), true), ((.c (.clo Fr [])), false)])])
 (.drop [23, 24] (.seq (.reg [un (.mov 25 (.t 3)),
 un (.asg 2 (.t 25))])
 (.drop [25] .ret)))))))))
abbrev Adh : List RS := [.t 2]
theorem Acm : A5 Try.prog Nq 26 Ae1 Adh = true := by kernel_rfl
def Sz : ACode :=
 (.seq (.seq (.reg [un (.mov 7 (.t 4)),
 un (.fadr 8 0 (.t 1)),
 un (.ld 9 1 false (.t 8)),
 un (.bin 10 .shl (.c (.int .i64 1)) (.t 9)),
 un (.bin 11 .lss (.t 7) (.t 10))])
 (.drop [7, 8, 9, 10] (.cond (.t 11) .skip
 (.exit 0))))
 (.drop [7, 8, 9, 10, 11] (.seq (.block 1 (.seq (.reg [un (.mov 14 (.t 4)),
 un (.call 15 O8 [((.t 14), false)]),
 un (.asg 5 (.t 15))])
 (.drop [14, 15] (.seq (.reg [un (.ld 16 2 true (.t 1)),
 un (.mov 17 (.t 5)),
 un (.call 18 Hk [((.t 16), false), ((.t 17), false)])])
 (.drop [16, 17] (.cond (.t 18) (.frz [3, 5] (.reg [un (.mov 19 (.t 3)),
 un (.mov 20 (.t 5)),
 un (.call 21 Pm [((.t 19), false), ((.t 20), false)]),
 un (.asg 3 (.t 21))]))
 .skip))))))
 (.drop [14, 15, 5, 16, 17, 18, 19, 20, 21] (.reg [un (.mov 12 (.t 4)),
 un (.bin 13 .add (.t 12) (.c (.int .i64 1))),
 un (.asg 4 (.t 13))])))))
def Ajm : ACode :=
 (.seq (.reg [un (.box 1 (.t 0)),
 un (.asg 2 (.c (.nilsl 1)))])
 (.seq (.reg [un (.bsl 6 1 []),
 un (.asg 3 (.t 6))])
 (.drop [6] (.seq (.seq (.reg [un (.asg 4 (.c (.int .i64 0)))])
 (.block 0 (.loop Sz)))
 (.drop [4, 7, 8, 9, 10, 11, 14, 15, 5, 16, 17, 18, 19, 20, 21, 12, 13] (.seq (.reg [un (.mov 22 (.t 3)),
 un (.asg 2 (.t 22))])
 (.drop [22] .ret)))))))
abbrev Ah4 : List RS := [.t 2]
theorem Ai8 : A5 Try.prog Mt 23 Ajm Ah4 = true := by kernel_rfl
def Sa : ACode :=
 (.seq (.reg [un (.alc 2 (.agg [.int .i64 0, .nilsl 2])),
 un (.asg 3 (.c (.nilsl 1)))])
 (.seq (.reg [un (.mov 6 (.t 0)),
 un (.bld 7 [.nilsl 1, .int .i64 0, .int .u64 0] [(0, 1, (.t 6))]),
 un (.box 8 (.t 7)),
 un (.asg 4 (.t 8))])
 (.drop [6, 7, 8] (.seq (.reg [un (.mov 9 (.t 4)),
 un (.call 10 Fb [((.t 9), true)]),
 un (.alc 5 (.agg [.int .i64 0, .nilsl 2])),
 un (.st 2 (.t 5) (.t 10))])
 (.drop [9, 10] (.seq (.frz [100005] (.dreg [(un (.ld 11 2 true (.t 5)), [4]),
 (un (.mov 12 (.t 4)), [11]),
 (un (.ld 13 2 true (.t 5)), [11, 12]),
 (un (.call 14 I5 [((.t 12), true), ((.t 13), false)]), [4, 11])]
 [un (.st 2 (.t 2) (.t 11)),
 un (.asg 3 (.t 14))]))
 (.drop [11, 12, 13, 14] .ret)))))))
abbrev Si : List RS := [.c 2 2 true, .t 3]
theorem Rz : A5 Try.prog F8 15 Sa Si = true := by kernel_rfl
def Aa9 : ACode :=
 (.seq (.reg [un (.box 3 (.t 0)),
 un (.asg 6 (.c (.nilsl 1))),
 un (.asg 7 (.c (.bool false)))])
 (.seq (.seq (.reg [un (.ld 8 2 true (.t 3)),
 un (.mov 9 (.t 1)),
 un (.mov 10 (.t 2)),
 un (.call 11 Jx [((.t 8), false), ((.t 9), false), ((.t 10), false)]),
 un (.un 12 .not (.t 11))])
 (.drop [8, 9, 10, 11] (.cond (.t 12) (.seq (.reg [un (.bsl 13 1 []),
 un (.asg 6 (.t 13)),
 un (.asg 7 (.c (.bool false)))])
 (.drop [13] .ret))
 .skip)))
 (.drop [8, 9, 10, 11, 12, 13] (.seq (.reg [un (.mov 14 (.t 1)),
 un (.mov 15 (.t 2)),
 un (.call 16 Kt [((.t 14), false), ((.t 15), false)]),
 un (.asg 6 (.t 16)),
 un (.asg 7 (.c (.bool true)))])
 (.drop [14, 15, 16] .ret)))))
abbrev Abx : List RS := [.t 6, .t 7]
theorem Ab2 : A5 Try.prog Md 17 Aa9 Abx = true := by kernel_rfl
def Ab6 : ACode :=
 (.seq (.reg [un (.box 3 (.t 0)),
 un (.asg 6 (.c (.nilsl 1))),
 un (.asg 7 (.c (.bool false)))])
 (.seq (.seq (.reg [un (.ld 8 2 true (.t 3)),
 un (.mov 9 (.t 1)),
 un (.mov 10 (.t 2)),
 un (.call 11 Jx [((.t 8), false), ((.t 9), false), ((.t 10), false)]),
 un (.un 12 .not (.t 11))])
 (.drop [8, 9, 10, 11] (.cond (.t 12) (.seq (.reg [un (.bsl 13 1 []),
 un (.asg 6 (.t 13)),
 un (.asg 7 (.c (.bool false)))])
 (.drop [13] .ret))
 .skip)))
 (.drop [8, 9, 10, 11, 12, 13] (.seq (.dreg [(un (.ld 14 2 true (.t 3)), [16]),
 (un (.mov 15 (.t 1)), [14]),
 (un (.call 16 R3 [((.t 15), false)]), [14]),
 (un (.mov 17 (.t 2)), [14, 15, 16]),
 (un (.app 18 1 (.t 16) (.t 17)), [14])]
 [un (.call 19 Gp [((.t 14), false), ((.t 18), false)]),
 un (.asg 6 (.t 19)),
 un (.asg 7 (.c (.bool true)))])
 (.drop [14, 15, 16, 17, 18, 19] .ret)))))
abbrev Ab8 : List RS := [.t 6, .t 7]
theorem Abz : A5 Try.prog L4 20 Ab6 Ab8 = true := by kernel_rfl
def Rn : ACode :=
 (.seq (.reg [un (.box 1 (.t 0)),
 un (.asg 2 (.c (.nilsl 1))),
 un (.asg 3 (.c (.bool false)))])
 (.seq (.seq (.reg [un (.ld 4 2 true (.t 1)),
 un (.call 5 Ej [((.t 4), false)]),
 un (.un 6 .not (.t 5))])
 (.drop [4, 5] (.cond (.t 6) (.seq (.reg [un (.bsl 7 1 []),
 un (.asg 2 (.t 7)),
 un (.asg 3 (.c (.bool false)))])
 (.drop [7] .ret))
 .skip)))
 (.drop [4, 5, 6, 7] (.seq (.reg [un (.ld 8 2 true (.t 1)),
 un (.call 9 Nq [((.t 8), false)]),
 un (.asg 2 (.t 9)),
 un (.asg 3 (.c (.bool true)))])
 (.drop [8, 9] .ret)))))
abbrev Rt : List RS := [.t 2, .t 3]
theorem Rj : A5 Try.prog Gd 10 Rn Rt = true := by kernel_rfl
def Ro : ACode :=
 (.seq (.reg [un (.box 1 (.t 0)),
 un (.asg 2 (.c (.nilsl 1))),
 un (.asg 3 (.c (.bool false)))])
 (.seq (.seq (.reg [un (.ld 4 2 true (.t 1)),
 un (.call 5 Fk [((.t 4), false)]),
 un (.un 6 .not (.t 5))])
 (.drop [4, 5] (.cond (.t 6) (.seq (.reg [un (.bsl 7 1 []),
 un (.asg 2 (.t 7)),
 un (.asg 3 (.c (.bool false)))])
 (.drop [7] .ret))
 .skip)))
 (.drop [4, 5, 6, 7] (.seq (.reg [un (.ld 8 2 true (.t 1)),
 un (.call 9 Mt [((.t 8), false)]),
 un (.asg 2 (.t 9)),
 un (.asg 3 (.c (.bool true)))])
 (.drop [8, 9] .ret)))))
abbrev Sf : List RS := [.t 2, .t 3]
theorem Sg : A5 Try.prog Ge 10 Ro Sf = true := by kernel_rfl
def Yd : ACode :=
 (.seq (.reg [un (.box 3 (.t 1)),
 un (.asg 4 (.c (.nilsl 1)))])
 (.seq (.seq (.reg [un (.ld 7 2 true (.t 3)),
 un (.call 8 Fk [((.t 7), false)]),
 un (.un 9 .not (.t 8))])
 (.drop [7, 8] (.cond (.t 9) (.seq (.reg [un (.bsl 10 1 [(.c (.int .i64 0))]),
 un (.asg 4 (.t 10))])
 (.drop [10] .ret))
 .skip)))
 (.drop [7, 8, 9, 10] (.seq (.reg [un (.ld 11 2 true (.t 3)),
 un (.call 12 Mt [((.t 11), false)]),
 un (.asg 5 (.t 12))])
 (.drop [11, 12] (.seq (.reg [un (.mov 13 (.t 5)),
 un (.mov 14 (.t 0)),
 un (.mov 15 (.t 5)),
 un (.len 16 (.t 15)),
 un (.call 17 A6 [((.t 14), true), ((.t 16), false)]),
 un (.iad 18 1 (.t 13) (.t 17)),
 un (.ld 19 1 false (.t 18)),
 un (.call 20 Mr [((.t 19), false)]),
 un (.asg 6 (.t 20))])
 (.drop [13, 14, 15, 16, 17, 18, 19, 20] (.seq (.seq (.reg [un (.mov 21 (.t 0)),
 un (.call 22 A6 [((.t 21), true), ((.c (.int .i64 16)), false)])])
 (.drop [21] (.block 0 (.seq (.reg [un (.bin 24 .eql (.t 22) (.c (.int .i64 0))),
 un (.asg 23 (.t 24))])
 (.drop [24] (.cond (.t 23) (.reg [un (.mov 25 (.t 6)),
 un (.mov 26 (.t 0)),
 un (.fadr 27 0 (.t 3)),
 un (.ld 28 1 false (.t 27)),
 un (.bin 29 .sub (.t 28) (.c (.int .i64 1))),
 un (.fadr 30 0 (.t 3)),
 un (.ld 31 1 false (.t 30)),
 un (.bsl 32 1 [(.c (.int .i64 0)), (.t 29), (.t 31)]),
 un (.call 33 Bb [((.t 26), true), ((.t 32), false)]),
 un (.bsl 34 1 [(.t 33)]),
 un (.app 35 1 (.t 25) (.t 34)),
 un (.asg 6 (.t 35))])
 (.seq (.reg [un (.bin 37 .eql (.t 22) (.c (.int .i64 1))),
 un (.asg 36 (.t 37))])
 (.drop [37] (.cond (.t 36) (.seq (.reg [un (.mov 38 (.t 6)),
 un (.len 39 (.t 38)),
 un (.bin 40 .gtr (.t 39) (.c (.int .i64 0)))])
 (.drop [38, 39] (.cond (.t 40) (.frz [6] (.reg [un (.mov 41 (.t 6)),
 un (.slc 42 1 (.t 41) (some (.c (.int .i64 1))) none),
 un (.asg 6 (.t 42))]))
 .skip)))
 .skip)))))))))
 (.drop [21, 22, 24, 23, 25, 26, 27, 28, 29, 30, 31, 32, 33, 34, 35, 37, 36, 38, 39, 40, 41, 42] (.seq (.reg [un (.mov 43 (.t 6)),
 un (.asg 4 (.t 43))])
 (.drop [43] .ret)))))))))))
abbrev Yj : List RS := [.t 4]
theorem Ya : A5 Try.prog Ak 44 Yd Yj = true := by kernel_rfl
def Vt : ACode :=
 (.seq (.reg [un (.alc 2 (.agg [.int .i64 0, .nilsl 2])),
 un (.asg 3 (.c (.nilsl 1))),
 un (.asg 4 (.c (.nilsl 1)))])
 (.seq (.reg [un (.mov 7 (.t 0)),
 un (.bld 8 [.nilsl 1, .int .i64 0, .int .u64 0] [(0, 1, (.t 7))]),
 un (.box 9 (.t 8)),
 un (.asg 5 (.t 9))])
 (.drop [7, 8, 9] (.seq (.reg [un (.mov 10 (.t 5)),
 un (.call 11 Fb [((.t 10), true)]),
 un (.alc 6 (.agg [.int .i64 0, .nilsl 2])),
 un (.st 2 (.t 6) (.t 11))])
 (.drop [10, 11] (.seq (.frz [100006] (.dregl [(1, .mov 13 (.t 5)),
 (4, .mov 16 (.t 5))]
 (.alt 0 (.ld 12 2 true (.t 6)) [1, 4] [] (.alt 2 (.ld 14 2 true (.t 6)) [1, 4] [] (.alt 3 (.call 15 Ak [((.t 13), true), ((.t 14), false)]) [1, 4] [] (.alt 5 (.ld 17 2 true (.t 6)) [4] [] (.alt 6 (.call 18 Ak [((.t 16), true), ((.t 17), false)]) [4] [] (.alt 7 (.st 2 (.t 2) (.t 12)) [] [] (.alt 8 (.asg 3 (.t 15)) [] [] (.alt 9 (.asg 4 (.t 18)) [] [] .nil .nil) .nil) .nil) .nil) .nil) (.alt 5 (.ld 17 2 true (.t 6)) [1, 4] [] (.alt 3 (.call 15 Ak [((.t 13), true), ((.t 14), false)]) [1, 4] [] (.alt 6 (.call 18 Ak [((.t 16), true), ((.t 17), false)]) [4] [] (.alt 7 (.st 2 (.t 2) (.t 12)) [] [] (.alt 8 (.asg 3 (.t 15)) [] [] (.alt 9 (.asg 4 (.t 18)) [] [] .nil .nil) .nil) .nil) .nil) .nil) .nil)) (.alt 5 (.ld 17 2 true (.t 6)) [1, 4] [] (.alt 2 (.ld 14 2 true (.t 6)) [1, 4] [] (.alt 3 (.call 15 Ak [((.t 13), true), ((.t 14), false)]) [1, 4] [] (.alt 6 (.call 18 Ak [((.t 16), true), ((.t 17), false)]) [4] [] (.alt 7 (.st 2 (.t 2) (.t 12)) [] [] (.alt 8 (.asg 3 (.t 15)) [] [] (.alt 9 (.asg 4 (.t 18)) [] [] .nil .nil) .nil) .nil) .nil) .nil) .nil) .nil)) (.alt 2 (.ld 14 2 true (.t 6)) [1, 4] [] (.alt 0 (.ld 12 2 true (.t 6)) [1, 4] [] (.alt 3 (.call 15 Ak [((.t 13), true), ((.t 14), false)]) [1, 4] [] (.alt 5 (.ld 17 2 true (.t 6)) [4] [] (.alt 6 (.call 18 Ak [((.t 16), true), ((.t 17), false)]) [4] [] (.alt 7 (.st 2 (.t 2) (.t 12)) [] [] (.alt 8 (.asg 3 (.t 15)) [] [] (.alt 9 (.asg 4 (.t 18)) [] [] .nil .nil) .nil) .nil) .nil) .nil) (.alt 5 (.ld 17 2 true (.t 6)) [1, 4] [] (.alt 3 (.call 15 Ak [((.t 13), true), ((.t 14), false)]) [1, 4] [] (.alt 6 (.call 18 Ak [((.t 16), true), ((.t 17), false)]) [4] [] (.alt 7 (.st 2 (.t 2) (.t 12)) [] [] (.alt 8 (.asg 3 (.t 15)) [] [] (.alt 9 (.asg 4 (.t 18)) [] [] .nil .nil) .nil) .nil) .nil) .nil) .nil)) (.alt 3 (.call 15 Ak [((.t 13), true), ((.t 14), false)]) [1, 4] [] (.alt 0 (.ld 12 2 true (.t 6)) [4] [] (.alt 5 (.ld 17 2 true (.t 6)) [4] [] (.alt 6 (.call 18 Ak [((.t 16), true), ((.t 17), false)]) [4] [] (.alt 7 (.st 2 (.t 2) (.t 12)) [] [] (.alt 8 (.asg 3 (.t 15)) [] [] (.alt 9 (.asg 4 (.t 18)) [] [] .nil .nil) .nil) .nil) .nil) .nil) (.alt 5 (.ld 17 2 true (.t 6)) [4] [] (.alt 0 (.ld 12 2 true (.t 6)) [4] [] (.alt 6 (.call 18 Ak [((.t 16), true), ((.t 17), false)]) [4] [] (.alt 7 (.st 2 (.t 2) (.t 12)) [] [] (.alt 8 (.asg 3 (.t 15)) [] [] (.alt 9 (.asg 4 (.t 18)) [] [] .nil .nil) .nil) .nil) .nil) (.alt 6 (.call 18 Ak [((.t 16), true), ((.t 17), false)]) [4] [] (.alt 0 (.ld 12 2 true (.t 6)) [] [] (.alt 7 (.st 2 (.t 2) (.t 12)) [] [] (.alt 8 (.asg 3 (.t 15)) [] [] (.alt 9 (.asg 4 (.t 18)) [] [] .nil .nil) .nil) .nil) .nil) .nil)) .nil)) (.alt 5 (.ld 17 2 true (.t 6)) [1, 4] [] (.alt 0 (.ld 12 2 true (.t 6)) [1, 4] [] (.alt 3 (.call 15 Ak [((.t 13), true), ((.t 14), false)]) [1, 4] [] (.alt 6 (.call 18 Ak [((.t 16), true), ((.t 17), false)]) [4] [] (.alt 7 (.st 2 (.t 2) (.t 12)) [] [] (.alt 8 (.asg 3 (.t 15)) [] [] (.alt 9 (.asg 4 (.t 18)) [] [] .nil .nil) .nil) .nil) .nil) .nil) (.alt 3 (.call 15 Ak [((.t 13), true), ((.t 14), false)]) [1, 4] [] (.alt 0 (.ld 12 2 true (.t 6)) [4] [] (.alt 6 (.call 18 Ak [((.t 16), true), ((.t 17), false)]) [4] [] (.alt 7 (.st 2 (.t 2) (.t 12)) [] [] (.alt 8 (.asg 3 (.t 15)) [] [] (.alt 9 (.asg 4 (.t 18)) [] [] .nil .nil) .nil) .nil) .nil) (.alt 6 (.call 18 Ak [((.t 16), true), ((.t 17), false)]) [4] [] (.alt 0 (.ld 12 2 true (.t 6)) [] [] (.alt 7 (.st 2 (.t 2) (.t 12)) [] [] (.alt 8 (.asg 3 (.t 15)) [] [] (.alt 9 (.asg 4 (.t 18)) [] [] .nil .nil) .nil) .nil) .nil) .nil)) .nil)) .nil))) (.alt 5 (.ld 17 2 true (.t 6)) [1, 4] [] (.alt 0 (.ld 12 2 true (.t 6)) [1, 4] [] (.alt 2 (.ld 14 2 true (.t 6)) [1, 4] [] (.alt 3 (.call 15 Ak [((.t 13), true), ((.t 14), false)]) [1, 4] [] (.alt 6 (.call 18 Ak [((.t 16), true), ((.t 17), false)]) [4] [] (.alt 7 (.st 2 (.t 2) (.t 12)) [] [] (.alt 8 (.asg 3 (.t 15)) [] [] (.alt 9 (.asg 4 (.t 18)) [] [] .nil .nil) .nil) .nil) .nil) .nil) .nil) (.alt 2 (.ld 14 2 true (.t 6)) [1, 4] [] (.alt 0 (.ld 12 2 true (.t 6)) [1, 4] [] (.alt 3 (.call 15 Ak [((.t 13), true), ((.t 14), false)]) [1, 4] [] (.alt 6 (.call 18 Ak [((.t 16), true), ((.t 17), false)]) [4] [] (.alt 7 (.st 2 (.t 2) (.t 12)) [] [] (.alt 8 (.asg 3 (.t 15)) [] [] (.alt 9 (.asg 4 (.t 18)) [] [] .nil .nil) .nil) .nil) .nil) .nil) (.alt 3 (.call 15 Ak [((.t 13), true), ((.t 14), false)]) [1, 4] [] (.alt 0 (.ld 12 2 true (.t 6)) [4] [] (.alt 6 (.call 18 Ak [((.t 16), true), ((.t 17), false)]) [4] [] (.alt 7 (.st 2 (.t 2) (.t 12)) [] [] (.alt 8 (.asg 3 (.t 15)) [] [] (.alt 9 (.asg 4 (.t 18)) [] [] .nil .nil) .nil) .nil) .nil) (.alt 6 (.call 18 Ak [((.t 16), true), ((.t 17), false)]) [4] [] (.alt 0 (.ld 12 2 true (.t 6)) [] [] (.alt 7 (.st 2 (.t 2) (.t 12)) [] [] (.alt 8 (.asg 3 (.t 15)) [] [] (.alt 9 (.asg 4 (.t 18)) [] [] .nil .nil) .nil) .nil) .nil) .nil)) .nil)) .nil)) .nil)))))
 (.drop [12, 13, 14, 15, 16, 17, 18] .ret)))))))
abbrev Vh : List RS := [.c 2 2 true, .t 3, .t 4]
theorem Vk : A5 Try.prog Ig 19 Vt Vh = true := by kernel_rfl
def Pk : ACode :=
 (.seq (.reg [un (.ld 49 2 true (.t 3)),
 un (.mov 50 (.t 4)),
 un (.call 51 I6 [((.t 49), false), ((.t 50), false)]),
 un (.asg 48 (.t 51)),
 un (.ext 52 (.t 48) 0),
 un (.ext 53 (.t 48) 1),
 un (.asg 7 (.t 52)),
 un (.asg 8 (.t 53))])
 (.drop [49, 50, 51, 48, 52, 53] (.seq (.reg [un (.mov 54 (.t 6)),
 un (.mov 55 (.t 8)),
 un (.binb 56 .neq (.t 54) (.t 55)),
 un (.asg 57 (.t 56)),
 ⟨some (57, false), .mov 58 (.t 5)⟩,
 ⟨some (57, false), .mov 59 (.t 7)⟩,
 ⟨some (57, false), .call 60 Fc [((.t 58), false), ((.t 59), false)]⟩,
 ⟨some (57, false), .un 61 .not (.t 60)⟩,
 un (.pick 62 (.t 57) (.c (.bool true)) (.t 61))])
 (.drop [54, 55, 56, 57, 58, 59, 60, 61] (.cond (.t 62) (.seq (.reg [un (.asg 2 (.c (.bool false)))])
 .ret)
 .skip)))))
def Pl : ACode :=
 (.seq (.reg [un (.ld 70 2 true (.t 3)),
 un (.mov 71 (.t 4)),
 un (.call 72 Fu [((.t 70), false), ((.t 71), false)]),
 un (.asg 69 (.t 72)),
 un (.ext 73 (.t 69) 0),
 un (.ext 74 (.t 69) 1),
 un (.asg 11 (.t 73)),
 un (.asg 12 (.t 74))])
 (.drop [70, 71, 72, 69, 73, 74] (.seq (.reg [un (.mov 75 (.t 10)),
 un (.mov 76 (.t 12)),
 un (.binb 77 .neq (.t 75) (.t 76)),
 un (.asg 78 (.t 77)),
 ⟨some (78, false), .mov 79 (.t 10)⟩,
 ⟨some (78, false), .mov 80 (.t 6)⟩,
 ⟨some (78, false), .binb 81 .neq (.t 79) (.t 80)⟩,
 un (.pick 82 (.t 78) (.c (.bool true)) (.t 81)),
 un (.asg 83 (.t 82)),
 ⟨some (83, false), .mov 84 (.t 9)⟩,
 ⟨some (83, false), .mov 85 (.t 11)⟩,
 ⟨some (83, false), .call 86 La [((.t 84), false), ((.t 85), false)]⟩,
 ⟨some (83, false), .un 87 .not (.t 86)⟩,
 un (.pick 88 (.t 83) (.c (.bool true)) (.t 87))])
 (.drop [75, 76, 77, 78, 79, 80, 81, 82, 83, 84, 85, 86, 87] (.cond (.t 88) (.seq (.reg [un (.asg 2 (.c (.bool false)))])
 .ret)
 .skip)))))
def O4 : ACode :=
 (.seq (.reg [un (.mov 102 (.t 14)),
 un (.un 103 .not (.t 102)),
 un (.asg 104 (.t 103)),
 ⟨some (104, false), .mov 105 (.t 16)⟩,
 ⟨some (104, false), .un 106 .not (.t 105)⟩,
 un (.pick 107 (.t 104) (.c (.bool true)) (.t 106)),
 un (.asg 108 (.t 107)),
 ⟨some (108, false), .mov 109 (.t 15)⟩,
 ⟨some (108, false), .un 110 .not (.t 109)⟩,
 un (.pick 111 (.t 108) (.c (.bool true)) (.t 110)),
 un (.asg 112 (.t 111)),
 ⟨some (112, false), .mov 113 (.t 13)⟩,
 ⟨some (112, false), .mov 114 (.t 5)⟩,
 ⟨some (112, false), .call 115 Fc [((.t 113), false), ((.t 114), false)]⟩,
 ⟨some (112, false), .un 116 .not (.t 115)⟩,
 un (.pick 117 (.t 112) (.c (.bool true)) (.t 116)),
 un (.asg 118 (.t 117)),
 ⟨some (118, false), .mov 119 (.t 4)⟩,
 ⟨some (118, false), .mov 120 (.t 5)⟩,
 ⟨some (118, false), .call 121 Ch [((.t 119), false), ((.t 120), false)]⟩,
 ⟨some (118, false), .un 122 .not (.t 121)⟩,
 un (.pick 123 (.t 118) (.c (.bool true)) (.t 122))])
 (.drop [102, 103, 104, 105, 106, 107, 108, 109, 110, 111, 112, 113, 114, 115, 116, 117, 118, 119, 120, 121, 122] (.cond (.t 123) (.seq (.reg [un (.asg 2 (.c (.bool false)))])
 .ret)
 .skip)))
def Ir : ACode :=
 (.seq (.seq (.reg [un (.mov 124 (.t 18)),
 un (.mov 125 (.t 9)),
 un (.len 126 (.t 125)),
 un (.bin 127 .lss (.t 124) (.t 126))])
 (.drop [124, 125, 126] (.cond (.t 127) .skip
 (.exit 0))))
 (.drop [124, 125, 126, 127] (.seq (.block 1 (.seq (.reg [un (.mov 130 (.t 17)),
 un (.mov 131 (.t 9)),
 un (.mov 132 (.t 18)),
 un (.iad 133 1 (.t 131) (.t 132)),
 un (.ld 134 1 false (.t 133)),
 un (.len 135 (.t 134)),
 un (.bin 136 .add (.t 130) (.t 135)),
 un (.asg 17 (.t 136))])
 (.drop [130, 131, 132, 133, 134, 135, 136] (.seq (.reg [un (.mov 137 (.t 9)),
 un (.mov 138 (.t 18)),
 un (.iad 139 1 (.t 137) (.t 138)),
 un (.ld 140 1 false (.t 139)),
 un (.mov 141 (.t 5)),
 un (.call 142 Ch [((.t 140), false), ((.t 141), false)]),
 un (.un 143 .not (.t 142))])
 (.drop [137, 138, 139, 140, 141, 142] (.cond (.t 143) (.seq (.reg [un (.asg 2 (.c (.bool false)))])
 .ret)
 .skip))))))
 (.drop [130, 131, 132, 133, 134, 135, 136, 137, 138, 139, 140, 141, 142, 143] (.reg [un (.mov 128 (.t 18)),
 un (.bin 129 .add (.t 128) (.c (.int .i64 1))),
 un (.asg 18 (.t 129))])))))
def Po : ACode :=
 (.seq (.reg [un (.mov 89 (.t 6))])
 (.cond (.t 89) (.seq (.reg [un (.ld 91 2 true (.t 3)),
 un (.mov 92 (.t 5)),
 un (.call 93 Gg [((.t 91), false), ((.t 92), false)]),
 un (.asg 90 (.t 93)),
 un (.ext 94 (.t 90) 0),
 un (.ext 95 (.t 90) 1),
 un (.asg 13 (.t 94)),
 un (.asg 14 (.t 95))])
 (.drop [91, 92, 93, 90, 94, 95] (.seq (.reg [un (.ld 97 2 true (.t 3)),
 un (.mov 98 (.t 5)),
 un (.call 99 Hi [((.t 97), false), ((.t 98), false)]),
 un (.asg 96 (.t 99)),
 un (.ext 100 (.t 96) 0),
 un (.ext 101 (.t 96) 1),
 un (.asg 15 (.t 100)),
 un (.asg 16 (.t 101))])
 (.drop [97, 98, 99, 96, 100, 101] (.seq (.cut O4)
 (.drop [102, 103, 104, 105, 106, 107, 108, 109, 110, 111, 112, 113, 114, 115, 116, 117, 118, 119, 120, 121, 122, 123] (.seq (.reg [un (.asg 17 (.c (.int .i64 0)))])
 (.seq (.seq (.reg [un (.asg 18 (.c (.int .i64 0)))])
 (.block 0 (.loop Ir)))
 (.drop [18, 124, 125, 126, 127, 130, 131, 132, 133, 134, 135, 136, 137, 138, 139, 140, 141, 142, 143, 128, 129] (.seq (.reg [un (.mov 144 (.t 17)),
 un (.mov 145 (.t 5)),
 un (.len 146 (.t 145)),
 un (.bin 147 .neq (.t 144) (.t 146))])
 (.drop [144, 145, 146] (.cond (.t 147) (.seq (.reg [un (.asg 2 (.c (.bool false)))])
 .ret)
 .skip))))))))))))
 .skip))
def O0 : ACode :=
 (.seq (.reg [un (.ld 162 2 true (.t 19)),
 un (.mov 163 (.t 20)),
 un (.mov 164 (.t 21)),
 un (.call 165 Me [((.t 162), false), ((.t 163), false), ((.t 164), false)]),
 un (.asg 161 (.t 165)),
 un (.ext 166 (.t 161) 0),
 un (.ext 167 (.t 161) 1),
 un (.asg 24 (.t 166)),
 un (.asg 25 (.t 167))])
 (.drop [162, 163, 164, 165, 161, 166, 167] (.seq (.reg [un (.mov 168 (.t 23)),
 un (.mov 169 (.t 25)),
 un (.binb 170 .neq (.t 168) (.t 169)),
 un (.asg 171 (.t 170)),
 ⟨some (171, false), .mov 172 (.t 22)⟩,
 ⟨some (171, false), .mov 173 (.t 24)⟩,
 ⟨some (171, false), .call 174 Fc [((.t 172), false), ((.t 173), false)]⟩,
 ⟨some (171, false), .un 175 .not (.t 174)⟩,
 un (.pick 176 (.t 171) (.c (.bool true)) (.t 175))])
 (.drop [168, 169, 170, 171, 172, 173, 174, 175] (.cond (.t 176) (.seq (.reg [un (.asg 2 (.c (.bool false)))])
 .ret)
 .skip)))))
def Pi : ACode :=
 (.seq (.reg [un (.ld 185 2 true (.t 19)),
 un (.mov 186 (.t 20)),
 un (.mov 187 (.t 21)),
 un (.call 188 L8 [((.t 185), false), ((.t 186), false), ((.t 187), false)]),
 un (.asg 184 (.t 188)),
 un (.ext 189 (.t 184) 0),
 un (.ext 190 (.t 184) 1),
 un (.asg 28 (.t 189)),
 un (.asg 29 (.t 190))])
 (.drop [185, 186, 187, 188, 184, 189, 190] (.seq (.reg [un (.mov 191 (.t 27)),
 un (.mov 192 (.t 29)),
 un (.binb 193 .neq (.t 191) (.t 192)),
 un (.asg 194 (.t 193)),
 ⟨some (194, false), .mov 195 (.t 27)⟩,
 ⟨some (194, false), .mov 196 (.t 23)⟩,
 ⟨some (194, false), .binb 197 .neq (.t 195) (.t 196)⟩,
 un (.pick 198 (.t 194) (.c (.bool true)) (.t 197)),
 un (.asg 199 (.t 198)),
 ⟨some (199, false), .mov 200 (.t 26)⟩,
 ⟨some (199, false), .mov 201 (.t 28)⟩,
 ⟨some (199, false), .call 202 Fc [((.t 200), false), ((.t 201), false)]⟩,
 ⟨some (199, false), .un 203 .not (.t 202)⟩,
 un (.pick 204 (.t 199) (.c (.bool true)) (.t 203))])
 (.drop [191, 192, 193, 194, 195, 196, 197, 198, 199, 200, 201, 202, 203] (.cond (.t 204) (.seq (.reg [un (.asg 2 (.c (.bool false)))])
 .ret)
 .skip)))))
def Pr : ACode :=
 (.seq (.reg [un (.ld 212 2 true (.t 19)),
 un (.call 213 Ge [((.t 212), false)]),
 un (.asg 211 (.t 213)),
 un (.ext 214 (.t 211) 0),
 un (.ext 215 (.t 211) 1),
 un (.asg 32 (.t 214)),
 un (.asg 33 (.t 215))])
 (.drop [212, 213, 211, 214, 215] (.seq (.reg [un (.mov 216 (.t 31)),
 un (.mov 217 (.t 33)),
 un (.binb 218 .neq (.t 216) (.t 217)),
 un (.asg 219 (.t 218)),
 ⟨some (219, false), .mov 220 (.t 31)⟩,
 ⟨some (219, false), .un 221 .not (.t 220)⟩,
 un (.pick 222 (.t 219) (.c (.bool true)) (.t 221)),
 un (.asg 223 (.t 222)),
 ⟨some (223, false), .mov 224 (.t 30)⟩,
 ⟨some (223, false), .mov 225 (.t 32)⟩,
 ⟨some (223, false), .call 226 La [((.t 224), false), ((.t 225), false)]⟩,
 ⟨some (223, false), .un 227 .not (.t 226)⟩,
 un (.pick 228 (.t 223) (.c (.bool true)) (.t 227))])
 (.drop [216, 217, 218, 219, 220, 221, 222, 223, 224, 225, 226, 227] (.cond (.t 228) (.seq (.reg [un (.asg 2 (.c (.bool false)))])
 .ret)
 .skip)))))
def Pu : ACode :=
 (.seq (.reg [un (.mov 229 (.t 30)),
 un (.mov 230 (.t 22)),
 un (.call 231 Lf [((.t 229), false), ((.t 230), false)]),
 un (.bin 232 .lss (.t 231) (.c (.int .i64 0))),
 un (.asg 233 (.t 232)),
 ⟨some (233, false), .mov 234 (.t 30)⟩,
 ⟨some (233, false), .mov 235 (.t 26)⟩,
 ⟨some (233, false), .call 236 Lf [((.t 234), false), ((.t 235), false)]⟩,
 ⟨some (233, false), .bin 237 .lss (.t 236) (.c (.int .i64 0))⟩,
 un (.pick 238 (.t 233) (.c (.bool true)) (.t 237))])
 (.drop [229, 230, 231, 232, 233, 234, 235, 236, 237] (.cond (.t 238) (.seq (.reg [un (.asg 2 (.c (.bool false)))])
 .ret)
 .skip)))
def O6 : ACode :=
 (.seq (.dreg [(un (.mov 245 (.t 30)), []),
 (un (.mov 246 (.t 34)), [245]),
 (un (.iad 247 1 (.t 245) (.t 246)), []),
 (un (.ld 248 1 false (.t 247)), []),
 (un (.mov 249 (.t 20)), [245, 246, 247, 248]),
 (un (.call 250 Ch [((.t 248), false), ((.t 249), false)]), []),
 (un (.asg 251 (.t 250)), []),
 (⟨some (251, true), .mov 252 (.t 30)⟩, [250]),
 (⟨some (251, true), .mov 253 (.t 34)⟩, [252, 250]),
 (⟨some (251, true), .iad 254 1 (.t 252) (.t 253)⟩, [250]),
 (⟨some (251, true), .ld 255 1 false (.t 254)⟩, [250]),
 (⟨some (251, true), .mov 256 (.t 21)⟩, [252, 253, 254, 255, 250]),
 (⟨some (251, true), .call 257 Ch [((.t 255), false), ((.t 256), false)]⟩, [250]),
 (⟨some (251, true), .mov 258 (.t 30)⟩, [252, 253, 254, 255, 256, 257, 250]),
 (⟨some (251, true), .mov 259 (.t 34)⟩, [252, 253, 254, 255, 256, 257, 258, 250]),
 (⟨some (251, true), .iad 260 1 (.t 258) (.t 259)⟩, [252, 253, 254, 255, 256, 257, 250]),
 (⟨some (251, true), .ld 261 1 false (.t 260)⟩, [252, 253, 254, 255, 256, 257, 250]),
 (⟨some (251, true), .mov 262 (.t 22)⟩, [252, 253, 254, 255, 256, 257, 258, 259, 260, 261, 250])]
 [⟨some (251, true), .call 263 Ch [((.t 261), false), ((.t 262), false)]⟩,
 ⟨some (251, true), .binb 264 .neq (.t 257) (.t 263)⟩,
 un (.pick 265 (.t 251) (.t 264) (.c (.bool false)))])
 (.drop [245, 246, 247, 248, 249, 250, 251, 252, 253, 254, 255, 256, 257, 258, 259, 260, 261, 262, 263, 264] (.cond (.t 265) (.seq (.reg [un (.asg 2 (.c (.bool false)))])
 .ret)
 .skip)))
def Iu : ACode :=
 (.seq (.seq (.reg [un (.mov 239 (.t 34)),
 un (.mov 240 (.t 30)),
 un (.len 241 (.t 240)),
 un (.bin 242 .lss (.t 239) (.t 241))])
 (.drop [239, 240, 241] (.cond (.t 242) .skip
 (.exit 2))))
 (.drop [239, 240, 241, 242] (.seq (.block 3 (.seq (.cut O6)
 (.drop [245, 246, 247, 248, 249, 250, 251, 252, 253, 254, 255, 256, 257, 258, 259, 260, 261, 262, 263, 264, 265] (.seq (.dreg [(un (.mov 266 (.t 20)), []),
 (un (.mov 267 (.t 30)), [266]),
 (un (.mov 268 (.t 34)), [266, 267]),
 (un (.iad 269 1 (.t 267) (.t 268)), [266]),
 (un (.ld 270 1 false (.t 269)), [266]),
 (un (.call 271 Ch [((.t 266), false), ((.t 270), false)]), []),
 (un (.asg 272 (.t 271)), []),
 (⟨some (272, true), .mov 273 (.t 21)⟩, [271]),
 (⟨some (272, true), .mov 274 (.t 30)⟩, [273, 271]),
 (⟨some (272, true), .mov 275 (.t 34)⟩, [273, 274, 271]),
 (⟨some (272, true), .iad 276 1 (.t 274) (.t 275)⟩, [273, 271]),
 (⟨some (272, true), .ld 277 1 false (.t 276)⟩, [273, 271]),
 (⟨some (272, true), .call 278 Ch [((.t 273), false), ((.t 277), false)]⟩, [271]),
 (⟨some (272, true), .mov 279 (.t 26)⟩, [273, 274, 275, 276, 277, 278, 271]),
 (⟨some (272, true), .mov 280 (.t 30)⟩, [273, 274, 275, 276, 277, 278, 279, 271]),
 (⟨some (272, true), .mov 281 (.t 34)⟩, [273, 274, 275, 276, 277, 278, 279, 280, 271]),
 (⟨some (272, true), .iad 282 1 (.t 280) (.t 281)⟩, [273, 274, 275, 276, 277, 278, 279, 271]),
 (⟨some (272, true), .ld 283 1 false (.t 282)⟩, [273, 274, 275, 276, 277, 278, 279, 271])]
 [⟨some (272, true), .call 284 Ch [((.t 279), false), ((.t 283), false)]⟩,
 ⟨some (272, true), .binb 285 .neq (.t 278) (.t 284)⟩,
 un (.pick 286 (.t 272) (.t 285) (.c (.bool false)))])
 (.drop [266, 267, 268, 269, 270, 271, 272, 273, 274, 275, 276, 277, 278, 279, 280, 281, 282, 283, 284, 285] (.cond (.t 286) (.seq (.reg [un (.asg 2 (.c (.bool false)))])
 .ret)
 .skip))))))
 (.drop [245, 246, 247, 248, 249, 250, 251, 252, 253, 254, 255, 256, 257, 258, 259, 260, 261, 262, 263, 264, 265, 266, 267, 268, 269, 270, 271, 272, 273, 274, 275, 276, 277, 278, 279, 280, 281, 282, 283, 284, 285, 286] (.reg [un (.mov 243 (.t 34)),
 un (.bin 244 .add (.t 243) (.c (.int .i64 1))),
 un (.asg 34 (.t 244))])))))
def S9 : ACode :=
 (.seq (.reg [un (.asg 2 (.c (.bool false)))])
 (.seq (.seq (.reg [un (.mov 35 (.t 0)),
 un (.call 36 Tz [((.t 35), false)])])
 (.drop [35] (.cond (.t 36) (.seq (.reg [un (.asg 2 (.c (.bool true)))])
 .ret)
 .skip)))
 (.drop [35, 36] (.seq (.reg [un (.mov 38 (.t 0)),
 un (.call 39 F8 [((.t 38), false)]),
 un (.asg 37 (.t 39)),
 un (.ext 40 (.t 37) 0),
 un (.ext 41 (.t 37) 1),
 un (.alc 3 (.agg [.int .i64 0, .nilsl 2])),
 un (.st 2 (.t 3) (.t 40)),
 un (.asg 4 (.t 41))])
 (.drop [38, 39, 37, 40, 41] (.seq (.reg [un (.ld 43 2 true (.t 3)),
 un (.mov 44 (.t 4)),
 un (.call 45 Gg [((.t 43), false), ((.t 44), false)]),
 un (.asg 42 (.t 45)),
 un (.ext 46 (.t 42) 0),
 un (.ext 47 (.t 42) 1),
 un (.asg 5 (.t 46)),
 un (.asg 6 (.t 47))])
 (.drop [43, 44, 45, 42, 46, 47] (.seq (.cut Pk)
 (.drop [49, 50, 51, 48, 52, 53, 7, 8, 54, 55, 56, 57, 58, 59, 60, 61, 62] (.seq (.reg [un (.ld 64 2 true (.t 3)),
 un (.mov 65 (.t 4)),
 un (.call 66 Fw [((.t 64), false), ((.t 65), false)]),
 un (.asg 63 (.t 66)),
 un (.ext 67 (.t 63) 0),
 un (.ext 68 (.t 63) 1),
 un (.asg 9 (.t 67)),
 un (.asg 10 (.t 68))])
 (.drop [64, 65, 66, 63, 67, 68] (.seq (.cut Pl)
 (.drop [70, 71, 72, 69, 73, 74, 11, 12, 75, 76, 77, 78, 79, 80, 81, 82, 83, 84, 85, 86, 87, 88] (.seq (.cut Po)
 (.drop [89, 91, 92, 93, 90, 94, 95, 13, 14, 97, 98, 99, 96, 100, 101, 15, 16, 102, 103, 104, 105, 106, 107, 108, 109, 110, 111, 112, 113, 114, 115, 116, 117, 118, 119, 120, 121, 122, 123, 17, 18, 124, 125, 126, 127, 130, 131, 132, 133, 134, 135, 136, 137, 138, 139, 140, 141, 142, 143, 128, 129, 144, 145, 146, 147] (.seq (.reg [un (.mov 149 (.t 0)),
 un (.call 150 Ig [((.t 149), false)]),
 un (.asg 148 (.t 150)),
 un (.ext 151 (.t 148) 0),
 un (.ext 152 (.t 148) 1),
 un (.ext 153 (.t 148) 2),
 un (.alc 19 (.agg [.int .i64 0, .nilsl 2])),
 un (.st 2 (.t 19) (.t 151)),
 un (.asg 20 (.t 152)),
 un (.asg 21 (.t 153))])
 (.drop [149, 150, 148, 151, 152, 153] (.seq (.reg [un (.ld 155 2 true (.t 19)),
 un (.mov 156 (.t 20)),
 un (.mov 157 (.t 21)),
 un (.call 158 Md [((.t 155), false), ((.t 156), false), ((.t 157), false)]),
 un (.asg 154 (.t 158)),
 un (.ext 159 (.t 154) 0),
 un (.ext 160 (.t 154) 1),
 un (.asg 22 (.t 159)),
 un (.asg 23 (.t 160))])
 (.drop [155, 156, 157, 158, 154, 159, 160] (.seq (.cut O0)
 (.drop [162, 163, 164, 165, 161, 166, 167, 24, 25, 168, 169, 170, 171, 172, 173, 174, 175, 176] (.seq (.reg [un (.ld 178 2 true (.t 19)),
 un (.mov 179 (.t 20)),
 un (.mov 180 (.t 21)),
 un (.call 181 L4 [((.t 178), false), ((.t 179), false), ((.t 180), false)]),
 un (.asg 177 (.t 181)),
 un (.ext 182 (.t 177) 0),
 un (.ext 183 (.t 177) 1),
 un (.asg 26 (.t 182)),
 un (.asg 27 (.t 183))])
 (.drop [178, 179, 180, 181, 177, 182, 183] (.seq (.cut Pi)
 (.drop [185, 186, 187, 188, 184, 189, 190, 28, 29, 191, 192, 193, 194, 195, 196, 197, 198, 199, 200, 201, 202, 203, 204] (.seq (.seq (.reg [un (.mov 205 (.t 23))])
 (.cond (.t 205) (.seq (.reg [un (.ld 207 2 true (.t 19)),
 un (.call 208 Gd [((.t 207), false)]),
 un (.asg 206 (.t 208)),
 un (.ext 209 (.t 206) 0),
 un (.ext 210 (.t 206) 1),
 un (.asg 30 (.t 209)),
 un (.asg 31 (.t 210))])
 (.drop [207, 208, 206, 209, 210] (.seq (.cut Pr)
 (.drop [212, 213, 211, 214, 215, 32, 33, 216, 217, 218, 219, 220, 221, 222, 223, 224, 225, 226, 227, 228] (.seq (.cut Pu)
 (.drop [229, 230, 231, 232, 233, 234, 235, 236, 237, 238] (.seq (.reg [un (.asg 34 (.c (.int .i64 0)))])
 (.block 2 (.loop Iu)))))))))
 .skip))
 (.drop [205, 207, 208, 206, 209, 210, 30, 31, 212, 213, 211, 214, 215, 32, 33, 216, 217, 218, 219, 220, 221, 222, 223, 224, 225, 226, 227, 228, 229, 230, 231, 232, 233, 234, 235, 236, 237, 238, 34, 239, 240, 241, 242, 245, 246, 247, 248, 249, 250, 251, 252, 253, 254, 255, 256, 257, 258, 259, 260, 261, 262, 263, 264, 265, 266, 267, 268, 269, 270, 271, 272, 273, 274, 275, 276, 277, 278, 279, 280, 281, 282, 283, 284, 285, 286, 243, 244] (.seq (.reg [un (.asg 2 (.c (.bool true)))])
 .ret))))))))))))))))))))))))))))
abbrev Td : List RS := [.t 2]
theorem Tb : A5 Try.prog J6 287 S9 Td = true := by kernel_rfl
end Go.Proofs.Ytidaaijecmkndaa.Ax
