/-
  The small code of the functions, written by program; that the program's code is this one, the kernel looks at.
-/
import Derived.Test.YtidaaijecmkndaaAx3
import Derived.Test.YtidaaijecmkndaaProg
import Derived.KernelRfl
import Derived.Test.YtidaaijecmkndaaNum
namespace Go.Proofs.Ytidaaijecmkndaa.Ax
open Go
set_option maxRecDepth 100000
def Sg : ACode :=
 (.dreg [(un (.fadr 26 1 (.t 7)), []),
 (un (.ld 27 1 false (.t 26)), []),
 (un (.mov 28 (.t 8)), [26, 27]),
 (un (.iad 29 2 (.t 27) (.t 28)), []),
 (un (.fadr 30 0 (.t 29)), []),
 (un (.ld 31 1 false (.t 30)), []),
 (un (.fadr 32 0 (.t 6)), [26, 27, 28, 29, 30, 31]),
 (un (.ld 33 1 false (.t 32)), [26, 27, 28, 29, 30, 31])]
 [un (.bin 34 .eql (.t 31) (.t 33)),
 un (.asg 35 (.t 34)),
 ⟨some (35, true), .mov 36 (.t 5)⟩,
 ⟨some (35, true), .call 37 De [((.t 36), true), ((.c (.int .i64 2)), false)]⟩,
 un (.pick 38 (.t 35) (.t 37) (.c (.bool false)))])
def K4 : ACode :=
 (.seq (.seq (.reg [un (.mov 19 (.t 8)),
 un (.fadr 20 1 (.t 7)),
 un (.ld 21 1 false (.t 20)),
 un (.len 22 (.t 21)),
 un (.bin 23 .lss (.t 19) (.t 22))])
 (.drop [19, 20, 21, 22] (.cond (.t 23) .skip
 (.exit 0))))
 (.drop [19, 20, 21, 22, 23] (.seq (.block 1 (.seq (.cut Sg)
 (.drop [26, 27, 28, 29, 30, 31, 32, 33, 34, 35, 36, 37] (.cond (.t 38) (.seq (.dregl [(0, .fadr 39 0 (.t 7)),
 (1, .ld 40 1 false (.t 39)),
 (2, .fadr 41 1 (.t 7)),
 (3, .ld 42 1 false (.t 41)),
 (4, .mov 43 (.t 8)),
 (5, .iad 44 2 (.t 42) (.t 43)),
 (6, .ld 45 2 true (.t 44)),
 (8, .ld 47 2 true (.t 6))]
 (.alt 7 (.call 46 Ni [((.t 45), false)]) [0, 1, 2, 3, 4, 5, 6, 8] [] (.alt 9 (.asg 2 (.t 40)) [0, 1, 8] [] (.alt 10 (.st 2 (.t 3) (.t 46)) [8] [] (.alt 11 (.st 2 (.t 4) (.t 47)) [8] [] .nil .nil) .nil) .nil) .nil))
 (.drop [39, 40, 41, 42, 43, 44, 45, 46, 47] .ret))
 .skip))))
 (.drop [26, 27, 28, 29, 30, 31, 32, 33, 34, 35, 36, 37, 38, 39, 40, 41, 42, 43, 44, 45, 46, 47] (.reg [un (.mov 24 (.t 8)),
 un (.bin 25 .add (.t 24) (.c (.int .i64 1))),
 un (.asg 8 (.t 25))])))))
def Sh : ACode :=
 (.reg [un (.mov 59 (.t 9)),
 un (.call 60 Dh [((.t 59), false), ((.c (.int .i64 1)), false), ((.c (.int .i64 3)), false)]),
 un (.asg 61 (.t 60)),
 ⟨some (61, true), .fadr 62 0 (.t 6)⟩,
 ⟨some (61, true), .ld 63 1 false (.t 62)⟩,
 ⟨some (61, true), .call 64 Dh [((.t 63), false), ((.c (.int .i64 1)), false), ((.c (.int .i64 3)), false)]⟩,
 un (.pick 65 (.t 61) (.t 64) (.c (.bool false)))])
def Ky : ACode :=
 (.seq (.seq (.reg [un (.mov 70 (.t 11)),
 un (.bin 71 .gtr (.t 70) (.c (.int .i64 0)))])
 (.drop [70] (.cond (.t 71) .skip
 (.exit 2))))
 (.drop [70, 71] (.seq (.block 3 (.dreg [(un (.fadr 74 1 (.t 10)), [5, 78]),
 (un (.ld 75 1 false (.t 74)), [5, 78]),
 (un (.mov 76 (.t 5)), [74, 75]),
 (un (.mov 77 (.t 9)), [74, 75, 76]),
 (un (.call 78 Ap [((.t 76), true), ((.t 77), false)]), [5, 74, 75]),
 (un (.bsl 79 1 [(.t 78)]), [74, 75])]
 [un (.app 80 1 (.t 75) (.t 79)),
 un (.fadr 81 1 (.t 10)),
 un (.st 1 (.t 81) (.t 80))]))
 (.drop [74, 75, 76, 77, 78, 79, 80, 81] (.reg [un (.mov 72 (.t 11)),
 un (.bin 73 .sub (.t 72) (.c (.int .i64 1))),
 un (.asg 11 (.t 73))])))))
def We : ACode :=
 (.seq (.reg [un (.asg 2 (.c (.int .i64 0))),
 un (.alc 3 (.agg [.int .i64 0, .nilsl 1])),
 un (.alc 4 (.agg [.int .i64 0, .nilsl 2]))])
 (.seq (.reg [un (.mov 12 (.t 0)),
 un (.bld 13 [.nilsl 1, .int .i64 0, .int .u64 0] [(0, 1, (.t 12))]),
 un (.box 14 (.t 13)),
 un (.asg 5 (.t 14))])
 (.drop [12, 13, 14] (.seq (.reg [un (.mov 15 (.t 5)),
 un (.call 16 Ft [((.t 15), true)]),
 un (.alc 6 (.agg [.int .i64 0, .nilsl 2])),
 un (.st 2 (.t 6) (.t 16))])
 (.drop [15, 16] (.seq (.reg [un (.mov 17 (.t 5)),
 un (.call 18 Fw [((.t 17), true)]),
 un (.alc 7 (.agg [.int .i64 0, .nilsl 2])),
 un (.st 2 (.t 7) (.t 18))])
 (.drop [17, 18] (.seq (.seq (.reg [un (.asg 8 (.c (.int .i64 0)))])
 (.frz [100007] (.block 0 (.loop K4))))
 (.drop [8, 19, 20, 21, 22, 23, 26, 27, 28, 29, 30, 31, 32, 33, 34, 35, 36, 37, 38, 39, 40, 41, 42, 43, 44, 45, 46, 47, 24, 25] (.seq (.reg [un (.mov 48 (.t 5)),
 un (.bsl 49 1 [(.c (.int .i64 1)), (.c (.int .i64 2)), (.c (.int .i64 2)), (.c (.int .i64 2)), (.c (.int .i64 3)), (.c (.int .i64 4)), (.c (.int .i64 0)), (.c (.int .i64 5))]),
 un (.mov 50 (.t 5)),
 un (.call 51 Ap [((.t 50), true), ((.c (.int .i64 24)), false)]),
 un (.bin 52 .quo (.t 51) (.c (.int .i64 11))),
 un (.bin 53 .add (.c (.int .i64 6)) (.t 52)),
 un (.slc 54 1 (.t 49) none (some (.t 53))),
 un (.call 55 As [((.t 48), true), ((.t 54), false)]),
 un (.asg 9 (.t 55))])
 (.drop [48, 49, 50, 51, 52, 53, 54, 55] (.seq (.reg [un (.fadr 56 0 (.t 6)),
 un (.ld 57 1 false (.t 56)),
 un (.bld 58 [.int .i64 0, .nilsl 1] [(0, 1, (.t 57))]),
 un (.alc 10 (.agg [.int .i64 0, .nilsl 1])),
 un (.st 2 (.t 10) (.t 58))])
 (.drop [56, 57, 58] (.seq (.seq (.cut Sh)
 (.drop [59, 60, 61, 62, 63, 64] (.cond (.t 65) (.seq (.reg [un (.mov 66 (.t 9)),
 un (.fadr 67 0 (.t 6)),
 un (.ld 68 1 false (.t 67)),
 un (.call 69 I0 [((.t 66), false), ((.t 68), false)]),
 un (.asg 11 (.t 69))])
 (.drop [66, 67, 68, 69] (.block 2 (.loop Ky))))
 .skip)))
 (.drop [59, 60, 61, 62, 63, 64, 65, 66, 67, 68, 69, 11, 70, 71, 74, 75, 76, 77, 78, 79, 80, 81, 72, 73] (.seq (.dregl [(0, .mov 82 (.t 9)),
 (1, .ld 83 2 true (.t 10)),
 (2, .ld 84 2 true (.t 6))]
 (.alt 3 (.asg 2 (.t 82)) [0, 1, 2] [] (.alt 4 (.st 2 (.t 3) (.t 83)) [1, 2] [] (.alt 5 (.st 2 (.t 4) (.t 84)) [2] [] .nil .nil) .nil) .nil))
 (.drop [82, 83, 84] .ret)))))))))))))))))
abbrev Vu : List RS := [.t 2, .c 3 2 true, .c 4 2 true]
theorem Vz : Be Try.prog Gs 85 We Vu = true := by kernel_rfl
def Ac2 : ACode :=
 (.seq (.reg [un (.box 4 (.t 1)),
 un (.box 5 (.t 2)),
 un (.asg 6 (.c (.bool false))),
 un (.asg 7 (.c (.bool false)))])
 (.seq (.seq (.reg [un (.mov 8 (.t 0)),
 un (.ld 9 2 true (.t 4)),
 un (.ld 10 2 true (.t 5)),
 un (.call 11 Fc [((.t 8), false), ((.t 9), false), ((.t 10), false)]),
 un (.un 12 .not (.t 11))])
 (.drop [8, 9, 10, 11] (.cond (.t 12) (.seq (.reg [un (.asg 6 (.c (.bool false))),
 un (.asg 7 (.c (.bool false)))])
 .ret)
 .skip)))
 (.drop [8, 9, 10, 11, 12] (.seq (.dreg [(un (.mov 13 (.t 0)), []),
 (un (.mov 14 (.t 0)), [13]),
 (un (.fadr 15 1 (.t 4)), [13, 14]),
 (un (.ld 16 1 false (.t 15)), [13, 14]),
 (un (.ld 17 2 true (.t 5)), [13, 14, 15, 16]),
 (un (.call 18 K5 [((.t 14), false), ((.t 16), false), ((.t 17), false)]), [13]),
 (un (.ld 19 2 true (.t 5)), [13, 14, 15, 16, 17, 18]),
 (un (.ld 20 2 true (.t 5)), [13, 14, 15, 16, 17, 18, 19]),
 (un (.call 21 Dm [((.t 20), false)]), [13, 19])]
 [un (.call 22 Hx [((.t 13), false), ((.t 18), false), ((.t 19), false), ((.t 21), false)]),
 un (.asg 6 (.t 22)),
 un (.asg 7 (.c (.bool true)))])
 (.drop [13, 14, 15, 16, 17, 18, 19, 20, 21, 22] .ret)))))
abbrev Ads : List RS := [.t 6, .t 7]
theorem Adf : Be Try.prog O3 23 Ac2 Ads = true := by kernel_rfl
def Ad4 : ACode :=
 (.seq (.reg [un (.box 4 (.t 1)),
 un (.box 5 (.t 2)),
 un (.asg 6 (.c (.bool false))),
 un (.asg 7 (.c (.bool false)))])
 (.seq (.seq (.reg [un (.mov 9 (.t 0)),
 un (.ld 10 2 true (.t 4)),
 un (.ld 11 2 true (.t 5)),
 un (.call 12 Fx [((.t 9), false), ((.t 10), false), ((.t 11), false)]),
 un (.un 13 .not (.t 12))])
 (.drop [9, 10, 11, 12] (.cond (.t 13) (.seq (.reg [un (.asg 6 (.c (.bool false))),
 un (.asg 7 (.c (.bool false)))])
 .ret)
 .skip)))
 (.drop [9, 10, 11, 12, 13] (.seq (.reg [un (.ld 14 2 true (.t 5)),
 un (.call 15 B6 [((.t 14), false)]),
 un (.asg 8 (.t 15))])
 (.drop [14, 15] (.seq (.dreg [(un (.mov 16 (.t 0)), []),
 (un (.mov 17 (.t 0)), [16]),
 (un (.ld 18 2 true (.t 4)), [16, 17]),
 (un (.mov 19 (.t 8)), [16, 17, 18]),
 (un (.call 20 Hs [((.t 17), false), ((.t 18), false), ((.t 19), false)]), [16]),
 (un (.ld 21 2 true (.t 5)), [16, 17, 18, 19, 20]),
 (un (.mov 22 (.t 8)), [16, 17, 18, 19, 20, 21])]
 [un (.call 23 Hy [((.t 16), false), ((.t 20), false), ((.t 21), false), ((.t 22), false)]),
 un (.asg 6 (.t 23)),
 un (.asg 7 (.c (.bool true)))])
 (.drop [16, 17, 18, 19, 20, 21, 22, 23] .ret)))))))
abbrev Ad0 : List RS := [.t 6, .t 7]
theorem Adj : Be Try.prog Pc 24 Ad4 Ad0 = true := by kernel_rfl
def Rc : ACode :=
 (.seq (.reg [un (.box 4 (.t 1)),
 un (.box 5 (.t 2)),
 un (.asg 6 (.c (.nilsl 1))),
 un (.asg 7 (.c (.bool false)))])
 (.seq (.seq (.reg [un (.mov 8 (.t 0)),
 un (.ld 9 2 true (.t 4)),
 un (.ld 10 2 true (.t 5)),
 un (.call 11 Fc [((.t 8), false), ((.t 9), false), ((.t 10), false)]),
 un (.un 12 .not (.t 11))])
 (.drop [8, 9, 10, 11] (.cond (.t 12) (.seq (.reg [un (.bsl 13 1 []),
 un (.asg 6 (.t 13)),
 un (.asg 7 (.c (.bool false)))])
 (.drop [13] .ret))
 .skip)))
 (.drop [8, 9, 10, 11, 12, 13] (.seq (.reg [un (.mov 14 (.t 0)),
 un (.fadr 15 1 (.t 4)),
 un (.ld 16 1 false (.t 15)),
 un (.ld 17 2 true (.t 5)),
 un (.call 18 K5 [((.t 14), false), ((.t 16), false), ((.t 17), false)]),
 un (.asg 6 (.t 18)),
 un (.asg 7 (.c (.bool true)))])
 (.drop [14, 15, 16, 17, 18] .ret)))))
abbrev Q9 : List RS := [.t 6, .t 7]
theorem Rq : Be Try.prog Gl 19 Rc Q9 = true := by kernel_rfl
def Qp : ACode :=
 (.seq (.reg [un (.box 4 (.t 1)),
 un (.box 5 (.t 2)),
 un (.asg 6 (.c (.nilsl 1))),
 un (.asg 7 (.c (.bool false)))])
 (.seq (.seq (.reg [un (.mov 8 (.t 0)),
 un (.ld 9 2 true (.t 4)),
 un (.ld 10 2 true (.t 5)),
 un (.call 11 Fx [((.t 8), false), ((.t 9), false), ((.t 10), false)]),
 un (.un 12 .not (.t 11))])
 (.drop [8, 9, 10, 11] (.cond (.t 12) (.seq (.reg [un (.bsl 13 1 []),
 un (.asg 6 (.t 13)),
 un (.asg 7 (.c (.bool false)))])
 (.drop [13] .ret))
 .skip)))
 (.drop [8, 9, 10, 11, 12, 13] (.seq (.dreg [(un (.mov 14 (.t 0)), []),
 (un (.ld 15 2 true (.t 4)), [14]),
 (un (.ld 16 2 true (.t 5)), [14, 15]),
 (un (.call 17 B6 [((.t 16), false)]), [14, 15])]
 [un (.call 18 Hs [((.t 14), false), ((.t 15), false), ((.t 17), false)]),
 un (.asg 6 (.t 18)),
 un (.asg 7 (.c (.bool true)))])
 (.drop [14, 15, 16, 17, 18] .ret)))))
abbrev Qk : List RS := [.t 6, .t 7]
theorem Qw : Be Try.prog Gj 19 Qp Qk = true := by kernel_rfl
def Pj : ACode :=
 (.seq (.reg [un (.mov 20 (.t 6)),
 un (.ld 21 2 true (.t 7)),
 un (.ld 22 2 true (.t 8)),
 un (.call 23 Fx [((.t 20), false), ((.t 21), false), ((.t 22), false)])])
 (.drop [20, 21, 22] (.cond (.t 23) (.dreg [(un (.mov 24 (.t 6)), []),
 (un (.ld 25 2 true (.t 7)), [24]),
 (un (.ld 26 2 true (.t 8)), [24, 25]),
 (un (.call 27 B6 [((.t 26), false)]), [24, 25])]
 [un (.call 28 Hs [((.t 24), false), ((.t 25), false), ((.t 27), false)]),
 un (.asg 9 (.t 28))])
 .skip)))
def R8 : ACode :=
 (.seq (.reg [un (.asg 2 (.c (.int .i64 0))),
 un (.asg 3 (.c (.nilsl 1))),
 un (.alc 4 (.agg [.int .i64 0, .nilsl 2]))])
 (.seq (.reg [un (.mov 10 (.t 0)),
 un (.bld 11 [.nilsl 1, .int .i64 0, .int .u64 0] [(0, 1, (.t 10))]),
 un (.box 12 (.t 11)),
 un (.asg 5 (.t 12))])
 (.drop [10, 11, 12] (.seq (.reg [un (.mov 14 (.t 0)),
 un (.call 15 Gs [((.t 14), false)]),
 un (.asg 13 (.t 15)),
 un (.ext 16 (.t 13) 0),
 un (.ext 17 (.t 13) 1),
 un (.ext 18 (.t 13) 2),
 un (.alc 7 (.agg [.int .i64 0, .nilsl 1])),
 un (.alc 8 (.agg [.int .i64 0, .nilsl 2])),
 un (.asg 6 (.t 16)),
 un (.st 2 (.t 7) (.t 17)),
 un (.st 2 (.t 8) (.t 18))])
 (.drop [14, 15, 13, 16, 17, 18] (.seq (.reg [un (.bsl 19 1 []),
 un (.asg 9 (.t 19))])
 (.drop [19] (.seq (.cut Pj)
 (.drop [20, 21, 22, 23, 24, 25, 26, 27, 28] (.seq (.seq (.reg [un (.mov 29 (.t 5)),
 un (.call 30 Ap [((.t 29), true), ((.c (.int .i64 10)), false)])])
 (.drop [29] (.block 0 (.seq (.reg [un (.bin 32 .eql (.t 30) (.c (.int .i64 0))),
 un (.asg 31 (.t 32))])
 (.drop [32] (.cond (.t 31) (.reg [un (.mov 33 (.t 9)),
 un (.bsl 34 1 [(.c (.int .i64 0))]),
 un (.app 35 1 (.t 33) (.t 34)),
 un (.asg 9 (.t 35))])
 (.seq (.reg [un (.bin 37 .eql (.t 30) (.c (.int .i64 1))),
 un (.asg 36 (.t 37))])
 (.drop [37] (.cond (.t 36) (.seq (.reg [un (.mov 38 (.t 9)),
 un (.len 39 (.t 38)),
 un (.bin 40 .gtr (.t 39) (.c (.int .i64 0)))])
 (.drop [38, 39] (.cond (.t 40) (.reg [un (.mov 41 (.t 9)),
 un (.mov 42 (.t 5)),
 un (.mov 43 (.t 9)),
 un (.len 44 (.t 43)),
 un (.call 45 Ap [((.t 42), true), ((.t 44), false)]),
 un (.mov 46 (.t 5)),
 un (.mov 47 (.t 6)),
 un (.bsl 48 1 [(.c (.int .i64 (-1))), (.t 47), (.c (.int .i64 0)), (.c (.int .i64 1))]),
 un (.call 49 As [((.t 46), true), ((.t 48), false)]),
 un (.iad 50 1 (.t 41) (.t 45)),
 un (.st 1 (.t 50) (.t 49))])
 .skip)))
 .skip)))))))))
 (.drop [29, 30, 32, 31, 33, 34, 35, 37, 36, 38, 39, 40, 41, 42, 43, 44, 45, 46, 47, 48, 49, 50] (.seq (.dregl [(0, .mov 51 (.t 6)),
 (1, .mov 52 (.t 9)),
 (2, .ld 53 2 true (.t 8))]
 (.alt 3 (.asg 2 (.t 51)) [0, 1, 2] [] (.alt 4 (.asg 3 (.t 52)) [1, 2] [] (.alt 5 (.st 2 (.t 4) (.t 53)) [2] [] .nil .nil) .nil) .nil))
 (.drop [51, 52, 53] .ret)))))))))))))
abbrev R3 : List RS := [.t 2, .t 3, .c 4 2 true]
theorem R9 : Be Try.prog Hg 54 R8 R3 = true := by kernel_rfl
def Mf : ACode :=
 (.seq (.reg [un (.mov 49 (.t 3)),
 un (.ld 50 2 true (.t 4)),
 un (.ld 51 2 true (.t 5)),
 un (.call 52 Pc [((.t 49), false), ((.t 50), false), ((.t 51), false)]),
 un (.asg 48 (.t 52)),
 un (.ext 53 (.t 48) 0),
 un (.ext 54 (.t 48) 1),
 un (.asg 8 (.t 53)),
 un (.asg 9 (.t 54))])
 (.drop [49, 50, 51, 52, 48, 53, 54] (.seq (.reg [un (.mov 55 (.t 6)),
 un (.mov 56 (.t 8)),
 un (.binb 57 .neq (.t 55) (.t 56)),
 un (.asg 58 (.t 57)),
 ⟨some (58, false), .mov 59 (.t 7)⟩,
 ⟨some (58, false), .mov 60 (.t 9)⟩,
 ⟨some (58, false), .binb 61 .neq (.t 59) (.t 60)⟩,
 un (.pick 62 (.t 58) (.c (.bool true)) (.t 61))])
 (.drop [55, 56, 57, 58, 59, 60, 61] (.cond (.t 62) (.seq (.reg [un (.asg 2 (.c (.bool false)))])
 .ret)
 .skip)))))
def Mh : ACode :=
 (.seq (.reg [un (.mov 71 (.t 3)),
 un (.ld 72 2 true (.t 4)),
 un (.ld 73 2 true (.t 5)),
 un (.call 74 Gj [((.t 71), false), ((.t 72), false), ((.t 73), false)]),
 un (.asg 70 (.t 74)),
 un (.ext 75 (.t 70) 0),
 un (.ext 76 (.t 70) 1),
 un (.asg 12 (.t 75)),
 un (.asg 13 (.t 76))])
 (.drop [71, 72, 73, 74, 70, 75, 76] (.seq (.reg [un (.mov 77 (.t 11)),
 un (.mov 78 (.t 13)),
 un (.binb 79 .neq (.t 77) (.t 78)),
 un (.asg 80 (.t 79)),
 ⟨some (80, false), .mov 81 (.t 11)⟩,
 ⟨some (80, false), .mov 82 (.t 7)⟩,
 ⟨some (80, false), .binb 83 .neq (.t 81) (.t 82)⟩,
 un (.pick 84 (.t 80) (.c (.bool true)) (.t 83)),
 un (.asg 85 (.t 84)),
 ⟨some (85, false), .mov 86 (.t 10)⟩,
 ⟨some (85, false), .mov 87 (.t 12)⟩,
 ⟨some (85, false), .call 88 K8 [((.t 86), false), ((.t 87), false)]⟩,
 ⟨some (85, false), .un 89 .not (.t 88)⟩,
 un (.pick 90 (.t 85) (.c (.bool true)) (.t 89))])
 (.drop [77, 78, 79, 80, 81, 82, 83, 84, 85, 86, 87, 88, 89] (.cond (.t 90) (.seq (.reg [un (.asg 2 (.c (.bool false)))])
 .ret)
 .skip)))))
def Mg : ACode :=
 (.seq (.reg [un (.ld 98 2 true (.t 5)),
 un (.call 99 I2 [((.t 98), false)]),
 un (.asg 97 (.t 99)),
 un (.ext 100 (.t 97) 0),
 un (.ext 101 (.t 97) 1),
 un (.asg 16 (.t 100)),
 un (.asg 17 (.t 101))])
 (.drop [98, 99, 97, 100, 101] (.seq (.reg [un (.mov 102 (.t 15)),
 un (.mov 103 (.t 17)),
 un (.binb 104 .neq (.t 102) (.t 103)),
 un (.asg 105 (.t 104)),
 ⟨some (105, false), .mov 106 (.t 15)⟩,
 ⟨some (105, false), .un 107 .not (.t 106)⟩,
 un (.pick 108 (.t 105) (.c (.bool true)) (.t 107)),
 un (.asg 109 (.t 108)),
 ⟨some (109, false), .mov 110 (.t 14)⟩,
 ⟨some (109, false), .mov 111 (.t 16)⟩,
 ⟨some (109, false), .call 112 Nr [((.t 110), false), ((.t 111), false)]⟩,
 ⟨some (109, false), .un 113 .not (.t 112)⟩,
 un (.pick 114 (.t 109) (.c (.bool true)) (.t 113)),
 un (.asg 115 (.t 114)),
 ⟨some (115, false), .mov 116 (.t 10)⟩,
 ⟨some (115, false), .len 117 (.t 116)⟩,
 ⟨some (115, false), .mov 118 (.t 14)⟩,
 ⟨some (115, false), .len 119 (.t 118)⟩,
 ⟨some (115, false), .mov 120 (.t 3)⟩,
 ⟨some (115, false), .bin 121 .mul (.t 119) (.t 120)⟩,
 ⟨some (115, false), .mov 122 (.t 3)⟩,
 ⟨some (115, false), .bin 123 .mul (.t 121) (.t 122)⟩,
 ⟨some (115, false), .bin 124 .neq (.t 117) (.t 123)⟩,
 un (.pick 125 (.t 115) (.c (.bool true)) (.t 124))])
 (.drop [102, 103, 104, 105, 106, 107, 108, 109, 110, 111, 112, 113, 114, 115, 116, 117, 118, 119, 120, 121, 122, 123, 124] (.cond (.t 125) (.seq (.reg [un (.asg 2 (.c (.bool false)))])
 .ret)
 .skip)))))
def Mo : ACode :=
 (.seq (.reg [un (.mov 127 (.t 3)),
 un (.mov 128 (.t 10)),
 un (.ld 129 2 true (.t 5)),
 un (.call 130 Hu [((.t 127), false), ((.t 128), false), ((.t 129), false)]),
 un (.asg 126 (.t 130)),
 un (.ext 131 (.t 126) 0),
 un (.ext 132 (.t 126) 1),
 un (.asg 18 (.t 131)),
 un (.asg 19 (.t 132))])
 (.drop [127, 128, 129, 130, 126, 131, 132] (.seq (.reg [un (.mov 133 (.t 19)),
 un (.un 134 .not (.t 133)),
 un (.asg 135 (.t 134)),
 ⟨some (135, false), .mov 136 (.t 18)⟩,
 ⟨some (135, false), .mov 137 (.t 6)⟩,
 ⟨some (135, false), .binb 138 .neq (.t 136) (.t 137)⟩,
 un (.pick 139 (.t 135) (.c (.bool true)) (.t 138))])
 (.drop [133, 134, 135, 136, 137, 138] (.cond (.t 139) (.seq (.reg [un (.asg 2 (.c (.bool false)))])
 .ret)
 .skip)))))
def Gv : ACode :=
 (.seq (.seq (.reg [un (.mov 156 (.t 24)),
 un (.mov 157 (.t 14)),
 un (.mov 158 (.t 20)),
 un (.iad 159 1 (.t 157) (.t 158)),
 un (.ld 160 1 false (.t 159)),
 un (.len 161 (.t 160)),
 un (.bin 162 .lss (.t 156) (.t 161))])
 (.drop [156, 157, 158, 159, 160, 161] (.cond (.t 162) .skip
 (.exit 6))))
 (.drop [156, 157, 158, 159, 160, 161, 162] (.seq (.block 7 (.seq (.reg [un (.mov 165 (.t 21)),
 un (.asg 25 (.t 165))])
 (.drop [165] (.seq (.seq (.reg [un (.mov 166 (.t 14)),
 un (.mov 167 (.t 20)),
 un (.iad 168 1 (.t 166) (.t 167)),
 un (.ld 169 1 false (.t 168)),
 un (.mov 170 (.t 24)),
 un (.iad 171 1 (.t 169) (.t 170)),
 un (.ld 172 1 false (.t 171)),
 un (.bin 173 .eql (.t 172) (.c (.int .i64 1)))])
 (.drop [166, 167, 168, 169, 170, 171, 172] (.cond (.t 173) (.reg [un (.mov 174 (.t 22)),
 un (.asg 25 (.t 174))])
 .skip)))
 (.drop [166, 167, 168, 169, 170, 171, 172, 173, 174] (.reg [un (.mov 175 (.t 23)),
 un (.mov 176 (.t 3)),
 un (.bin 177 .mul (.t 175) (.t 176)),
 un (.mov 178 (.t 25)),
 un (.bin 179 .add (.t 177) (.t 178)),
 un (.asg 23 (.t 179))]))))))
 (.drop [165, 25, 166, 167, 168, 169, 170, 171, 172, 173, 174, 175, 176, 177, 178, 179] (.reg [un (.mov 163 (.t 24)),
 un (.bin 164 .add (.t 163) (.c (.int .i64 1))),
 un (.asg 24 (.t 164))])))))
def G3 : ACode :=
 (.seq (.seq (.reg [un (.mov 151 (.t 22)),
 un (.mov 152 (.t 3)),
 un (.bin 153 .lss (.t 151) (.t 152))])
 (.drop [151, 152] (.cond (.t 153) .skip
 (.exit 4))))
 (.drop [151, 152, 153] (.seq (.block 5 (.seq (.reg [un (.asg 23 (.c (.int .i64 0)))])
 (.seq (.seq (.reg [un (.asg 24 (.c (.int .i64 0)))])
 (.block 6 (.loop Gv)))
 (.drop [24, 156, 157, 158, 159, 160, 161, 162, 165, 25, 166, 167, 168, 169, 170, 171, 172, 173, 174, 175, 176, 177, 178, 179, 163, 164] (.seq (.dreg [(un (.mov 180 (.t 10)), []),
 (un (.mov 181 (.t 20)), [180]),
 (un (.mov 182 (.t 3)), [180, 181]),
 (un (.bin 183 .mul (.t 181) (.t 182)), [180]),
 (un (.mov 184 (.t 3)), [180, 181, 182, 183]),
 (un (.bin 185 .mul (.t 183) (.t 184)), [180]),
 (un (.mov 186 (.t 21)), [180, 181, 182, 183, 184, 185]),
 (un (.mov 187 (.t 3)), [180, 181, 182, 183, 184, 185, 186]),
 (un (.bin 188 .mul (.t 186) (.t 187)), [180, 181, 182, 183, 184, 185]),
 (un (.bin 189 .add (.t 185) (.t 188)), [180]),
 (un (.mov 190 (.t 22)), [180, 181, 182, 183, 184, 185, 186, 187, 188, 189]),
 (un (.bin 191 .add (.t 189) (.t 190)), [180]),
 (un (.iad 192 1 (.t 180) (.t 191)), []),
 (un (.ld 193 1 false (.t 192)), []),
 (un (.fadr 194 1 (.t 4)), [180, 181, 182, 183, 184, 185, 186, 187, 188, 189, 190, 191, 192, 193]),
 (un (.ld 195 1 false (.t 194)), [180, 181, 182, 183, 184, 185, 186, 187, 188, 189, 190, 191, 192, 193]),
 (un (.mov 196 (.t 23)), [180, 181, 182, 183, 184, 185, 186, 187, 188, 189, 190, 191, 192, 193, 194, 195]),
 (un (.iad 197 1 (.t 195) (.t 196)), [180, 181, 182, 183, 184, 185, 186, 187, 188, 189, 190, 191, 192, 193]),
 (un (.ld 198 1 false (.t 197)), [180, 181, 182, 183, 184, 185, 186, 187, 188, 189, 190, 191, 192, 193])]
 [un (.bin 199 .neq (.t 193) (.t 198))])
 (.drop [180, 181, 182, 183, 184, 185, 186, 187, 188, 189, 190, 191, 192, 193, 194, 195, 196, 197, 198] (.cond (.t 199) (.seq (.reg [un (.asg 2 (.c (.bool false)))])
 .ret)
 .skip)))))))
 (.drop [23, 24, 156, 157, 158, 159, 160, 161, 162, 165, 25, 166, 167, 168, 169, 170, 171, 172, 173, 174, 175, 176, 177, 178, 179, 163, 164, 180, 181, 182, 183, 184, 185, 186, 187, 188, 189, 190, 191, 192, 193, 194, 195, 196, 197, 198, 199] (.reg [un (.mov 154 (.t 22)),
 un (.bin 155 .add (.t 154) (.c (.int .i64 1))),
 un (.asg 22 (.t 155))])))))
def Gw : ACode :=
 (.seq (.seq (.reg [un (.mov 146 (.t 21)),
 un (.mov 147 (.t 3)),
 un (.bin 148 .lss (.t 146) (.t 147))])
 (.drop [146, 147] (.cond (.t 148) .skip
 (.exit 2))))
 (.drop [146, 147, 148] (.seq (.block 3 (.seq (.reg [un (.asg 22 (.c (.int .i64 0)))])
 (.block 4 (.loop G3))))
 (.drop [22, 151, 152, 153, 23, 24, 156, 157, 158, 159, 160, 161, 162, 165, 25, 166, 167, 168, 169, 170, 171, 172, 173, 174, 175, 176, 177, 178, 179, 163, 164, 180, 181, 182, 183, 184, 185, 186, 187, 188, 189, 190, 191, 192, 193, 194, 195, 196, 197, 198, 199, 154, 155] (.reg [un (.mov 149 (.t 21)),
 un (.bin 150 .add (.t 149) (.c (.int .i64 1))),
 un (.asg 21 (.t 150))])))))
def Hc : ACode :=
 (.seq (.seq (.reg [un (.mov 140 (.t 20)),
 un (.mov 141 (.t 14)),
 un (.len 142 (.t 141)),
 un (.bin 143 .lss (.t 140) (.t 142))])
 (.drop [140, 141, 142] (.cond (.t 143) .skip
 (.exit 0))))
 (.drop [140, 141, 142, 143] (.seq (.block 1 (.seq (.reg [un (.asg 21 (.c (.int .i64 0)))])
 (.block 2 (.loop Gw))))
 (.drop [21, 146, 147, 148, 22, 151, 152, 153, 23, 24, 156, 157, 158, 159, 160, 161, 162, 165, 25, 166, 167, 168, 169, 170, 171, 172, 173, 174, 175, 176, 177, 178, 179, 163, 164, 180, 181, 182, 183, 184, 185, 186, 187, 188, 189, 190, 191, 192, 193, 194, 195, 196, 197, 198, 199, 154, 155, 149, 150] (.reg [un (.mov 144 (.t 20)),
 un (.bin 145 .add (.t 144) (.c (.int .i64 1))),
 un (.asg 20 (.t 145))])))))
def Mn : ACode :=
 (.seq (.reg [un (.mov 91 (.t 7))])
 (.cond (.t 91) (.seq (.reg [un (.ld 93 2 true (.t 5)),
 un (.call 94 I5 [((.t 93), false)]),
 un (.asg 92 (.t 94)),
 un (.ext 95 (.t 92) 0),
 un (.ext 96 (.t 92) 1),
 un (.asg 14 (.t 95)),
 un (.asg 15 (.t 96))])
 (.drop [93, 94, 92, 95, 96] (.seq (.cut Mg)
 (.drop [98, 99, 97, 100, 101, 16, 17, 102, 103, 104, 105, 106, 107, 108, 109, 110, 111, 112, 113, 114, 115, 116, 117, 118, 119, 120, 121, 122, 123, 124, 125] (.seq (.cut Mo)
 (.drop [127, 128, 129, 130, 126, 131, 132, 18, 19, 133, 134, 135, 136, 137, 138, 139] (.seq (.reg [un (.asg 20 (.c (.int .i64 0)))])
 (.block 0 (.loop Hc)))))))))
 .skip))
def Oz : ACode :=
 (.seq (.reg [un (.asg 2 (.c (.bool false)))])
 (.seq (.seq (.reg [un (.mov 33 (.t 0)),
 un (.call 34 Rp [((.t 33), false)])])
 (.drop [33] (.cond (.t 34) (.seq (.reg [un (.asg 2 (.c (.bool true)))])
 .ret)
 .skip)))
 (.drop [33, 34] (.seq (.reg [un (.mov 36 (.t 0)),
 un (.call 37 Gs [((.t 36), false)]),
 un (.asg 35 (.t 37)),
 un (.ext 38 (.t 35) 0),
 un (.ext 39 (.t 35) 1),
 un (.ext 40 (.t 35) 2),
 un (.alc 4 (.agg [.int .i64 0, .nilsl 1])),
 un (.alc 5 (.agg [.int .i64 0, .nilsl 2])),
 un (.asg 3 (.t 38)),
 un (.st 2 (.t 4) (.t 39)),
 un (.st 2 (.t 5) (.t 40))])
 (.drop [36, 37, 35, 38, 39, 40] (.seq (.reg [un (.mov 42 (.t 3)),
 un (.ld 43 2 true (.t 4)),
 un (.ld 44 2 true (.t 5)),
 un (.call 45 O3 [((.t 42), false), ((.t 43), false), ((.t 44), false)]),
 un (.asg 41 (.t 45)),
 un (.ext 46 (.t 41) 0),
 un (.ext 47 (.t 41) 1),
 un (.asg 6 (.t 46)),
 un (.asg 7 (.t 47))])
 (.drop [42, 43, 44, 45, 41, 46, 47] (.seq (.cut Mf)
 (.drop [49, 50, 51, 52, 48, 53, 54, 8, 9, 55, 56, 57, 58, 59, 60, 61, 62] (.seq (.reg [un (.mov 64 (.t 3)),
 un (.ld 65 2 true (.t 4)),
 un (.ld 66 2 true (.t 5)),
 un (.call 67 Gl [((.t 64), false), ((.t 65), false), ((.t 66), false)]),
 un (.asg 63 (.t 67)),
 un (.ext 68 (.t 63) 0),
 un (.ext 69 (.t 63) 1),
 un (.asg 10 (.t 68)),
 un (.asg 11 (.t 69))])
 (.drop [64, 65, 66, 67, 63, 68, 69] (.seq (.cut Mh)
 (.drop [71, 72, 73, 74, 70, 75, 76, 12, 13, 77, 78, 79, 80, 81, 82, 83, 84, 85, 86, 87, 88, 89, 90] (.seq (.cut Mn)
 (.drop [91, 93, 94, 92, 95, 96, 14, 15, 98, 99, 97, 100, 101, 16, 17, 102, 103, 104, 105, 106, 107, 108, 109, 110, 111, 112, 113, 114, 115, 116, 117, 118, 119, 120, 121, 122, 123, 124, 125, 127, 128, 129, 130, 126, 131, 132, 18, 19, 133, 134, 135, 136, 137, 138, 139, 20, 140, 141, 142, 143, 21, 146, 147, 148, 22, 151, 152, 153, 23, 24, 156, 157, 158, 159, 160, 161, 162, 165, 25, 166, 167, 168, 169, 170, 171, 172, 173, 174, 175, 176, 177, 178, 179, 163, 164, 180, 181, 182, 183, 184, 185, 186, 187, 188, 189, 190, 191, 192, 193, 194, 195, 196, 197, 198, 199, 154, 155, 149, 150, 144, 145] (.seq (.reg [un (.mov 201 (.t 0)),
 un (.call 202 Hg [((.t 201), false)]),
 un (.asg 200 (.t 202)),
 un (.ext 203 (.t 200) 0),
 un (.ext 204 (.t 200) 1),
 un (.ext 205 (.t 200) 2),
 un (.alc 28 (.agg [.int .i64 0, .nilsl 2])),
 un (.asg 26 (.t 203)),
 un (.asg 27 (.t 204)),
 un (.st 2 (.t 28) (.t 205))])
 (.drop [201, 202, 200, 203, 204, 205] (.seq (.reg [un (.mov 207 (.t 26)),
 un (.mov 208 (.t 27)),
 un (.ld 209 2 true (.t 28)),
 un (.call 210 Hu [((.t 207), false), ((.t 208), false), ((.t 209), false)]),
 un (.asg 206 (.t 210)),
 un (.ext 211 (.t 206) 0),
 un (.ext 212 (.t 206) 1),
 un (.asg 29 (.t 211)),
 un (.asg 30 (.t 212))])
 (.drop [207, 208, 209, 210, 206, 211, 212] (.seq (.reg [un (.mov 214 (.t 26)),
 un (.mov 215 (.t 27)),
 un (.ld 216 2 true (.t 28)),
 un (.call 217 Ko [((.t 214), false), ((.t 215), false), ((.t 216), false)]),
 un (.asg 213 (.t 217)),
 un (.ext 218 (.t 213) 0),
 un (.ext 219 (.t 213) 1),
 un (.asg 31 (.t 218)),
 un (.asg 32 (.t 219))])
 (.drop [214, 215, 216, 217, 213, 218, 219] (.seq (.reg [un (.mov 220 (.t 29)),
 un (.mov 221 (.t 31)),
 un (.binb 222 .eql (.t 220) (.t 221)),
 un (.asg 223 (.t 222)),
 ⟨some (223, true), .mov 224 (.t 30)⟩,
 ⟨some (223, true), .mov 225 (.t 32)⟩,
 ⟨some (223, true), .binb 226 .eql (.t 224) (.t 225)⟩,
 un (.pick 227 (.t 223) (.t 226) (.c (.bool false))),
 un (.asg 2 (.t 227))])
 (.drop [220, 221, 222, 223, 224, 225, 226, 227] .ret)))))))))))))))))))))))
abbrev Oq : List RS := [.t 2]
theorem Ow : Be Try.prog I7 228 Oz Oq = true := by kernel_rfl
end Go.Proofs.Ytidaaijecmkndaa.Ax
