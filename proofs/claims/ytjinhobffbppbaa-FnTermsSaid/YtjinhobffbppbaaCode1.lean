/-
  The small code of the functions, written by program; that the program's code is this one, the kernel looks at.
-/
import Derived.Test.YtjinhobffbppbaaAx3
import Derived.Test.YtjinhobffbppbaaProg
import Derived.KernelRfl
import Derived.Test.YtjinhobffbppbaaNum
namespace Go.Proofs.Ytjinhobffbppbaa.Ax
open Go
set_option maxRecDepth 100000
def Ad4 : ACode :=
 (.seq (.reg [un (.asg 2 (.c (.bool false)))])
 (.seq (.reg [un (.mov 3 (.t 0)),
 un (.len 4 (.t 3)),
 un (.bin 5 .gtr (.t 4) (.c (.int .i64 65536))),
 un (.asg 2 (.t 5))])
 (.drop [3, 4, 5] .ret)))
abbrev Aej : List RS := [.t 2]
theorem Ae3 : Bd Try.prog Ou 6 Ad4 Aej = true := by kernel_rfl
def N5 : ACode :=
 (.seq (.seq (.reg [un (.mov 11 (.t 5)),
 un (.mov 12 (.t 0)),
 un (.len 13 (.t 12)),
 un (.bin 14 .lss (.t 11) (.t 13))])
 (.drop [11, 12, 13] (.cond (.t 14) .skip
 (.exit 0))))
 (.drop [11, 12, 13, 14] (.seq (.block 1 (.seq (.dreg [(un (.mov 17 (.t 0)), []),
 (un (.mov 18 (.t 5)), [17]),
 (un (.iad 19 1 (.t 17) (.t 18)), []),
 (un (.ld 20 1 false (.t 19)), []),
 (un (.mov 21 (.t 1)), [17, 18, 19, 20]),
 (un (.mov 22 (.t 5)), [17, 18, 19, 20, 21]),
 (un (.iad 23 1 (.t 21) (.t 22)), [17, 18, 19, 20]),
 (un (.ld 24 1 false (.t 23)), [17, 18, 19, 20])]
 [un (.bin 25 .neq (.t 20) (.t 24))])
 (.drop [17, 18, 19, 20, 21, 22, 23, 24] (.cond (.t 25) (.seq (.reg [un (.asg 4 (.c (.bool false)))])
 .ret)
 .skip))))
 (.drop [17, 18, 19, 20, 21, 22, 23, 24, 25] (.reg [un (.mov 15 (.t 5)),
 un (.bin 16 .add (.t 15) (.c (.int .i64 1))),
 un (.asg 5 (.t 16))])))))
def Adl : ACode :=
 (.seq (.reg [un (.asg 4 (.c (.bool false)))])
 (.seq (.seq (.reg [un (.mov 6 (.t 0)),
 un (.len 7 (.t 6)),
 un (.mov 8 (.t 1)),
 un (.len 9 (.t 8)),
 un (.bin 10 .neq (.t 7) (.t 9))])
 (.drop [6, 7, 8, 9] (.cond (.t 10) (.seq (.reg [un (.asg 4 (.c (.bool false)))])
 .ret)
 .skip)))
 (.drop [6, 7, 8, 9, 10] (.seq (.seq (.reg [un (.asg 5 (.c (.int .i64 0)))])
 (.block 0 (.loop N5)))
 (.drop [5, 11, 12, 13, 14, 17, 18, 19, 20, 21, 22, 23, 24, 25, 15, 16] (.seq (.reg [un (.asg 4 (.c (.bool true)))])
 .ret))))))
abbrev Ada : List RS := [.t 4]
theorem Ade : Bd Try.prog Fb 26 Adl Ada = true := by kernel_rfl
def Jl : ACode :=
 (.seq (.reg [un (.bin 13 .lss (.t 12) (.t 11))])
 (.seq (.cond (.t 13) .skip
 (.exit 0))
 (.seq (.block 1 (.seq (.reg [un (.iad 14 1 (.t 10) (.t 12)),
 un (.ld 15 1 false (.t 14)),
 un (.asg 8 (.t 15))])
 (.drop [14, 15] (.seq (.seq (.reg [un (.mov 16 (.t 8)),
 un (.bin 17 .lss (.t 16) (.c (.int .i64 0)))])
 (.drop [16] (.cond (.t 17) (.seq (.reg [un (.mov 18 (.t 6)),
 un (.mov 19 (.t 8)),
 un (.bsl 20 1 [(.t 19)]),
 un (.app 21 1 (.t 18) (.t 20)),
 un (.asg 6 (.t 21))])
 (.drop [18, 19, 20, 21] (.exit 1)))
 .skip)))
 (.drop [16, 17, 18, 19, 20, 21] (.seq (.seq (.reg [un (.mov 22 (.t 8)),
 un (.mov 23 (.t 1)),
 un (.len 24 (.t 23)),
 un (.bin 25 .geq (.t 22) (.t 24))])
 (.drop [22, 23, 24] (.cond (.t 25) (.seq (.reg [un (.bsl 26 1 []),
 un (.asg 4 (.t 26)),
 un (.asg 5 (.c (.bool false)))])
 (.drop [26] .ret))
 .skip)))
 (.drop [22, 23, 24, 25, 26] (.seq (.reg [un (.mov 27 (.t 6)),
 un (.mov 28 (.t 1)),
 un (.mov 29 (.t 8)),
 un (.iad 30 1 (.t 28) (.t 29)),
 un (.ld 31 1 false (.t 30)),
 un (.app 32 1 (.t 27) (.t 31)),
 un (.asg 6 (.t 32))])
 (.drop [27, 28, 29, 30, 31, 32] (.seq (.reg [un (.mov 33 (.t 6)),
 un (.len 34 (.t 33)),
 un (.bin 35 .gtr (.t 34) (.c (.int .i64 60)))])
 (.drop [33, 34] (.cond (.t 35) (.seq (.reg [un (.bsl 36 1 []),
 un (.asg 4 (.t 36)),
 un (.asg 5 (.c (.bool false)))])
 (.drop [36] .ret))
 .skip))))))))))))
 (.drop [14, 15, 8, 16, 17, 18, 19, 20, 21, 22, 23, 24, 25, 26, 27, 28, 29, 30, 31, 32, 33, 34, 35, 36] (.reg [un (.bin 37 .add (.t 12) (.c (.int .i64 1))),
 un (.asg 12 (.t 37))])))))
def Td : ACode :=
 (.seq (.reg [un (.asg 4 (.c (.nilsl 1))),
 un (.asg 5 (.c (.bool false)))])
 (.seq (.reg [un (.bsl 9 1 []),
 un (.asg 6 (.t 9))])
 (.drop [9] (.seq (.seq (.reg [un (.mov 10 (.t 0)),
 un (.len 11 (.t 10)),
 un (.mov 12 (.c (.int .i64 0)))])
 (.block 0 (.loop Jl)))
 (.drop [10, 11, 12, 13, 14, 15, 8, 16, 17, 18, 19, 20, 21, 22, 23, 24, 25, 26, 27, 28, 29, 30, 31, 32, 33, 34, 35, 36, 37] (.seq (.seq (.reg [un (.mov 38 (.t 6)),
 un (.len 39 (.t 38)),
 un (.bin 40 .gtr (.t 39) (.c (.int .i64 60)))])
 (.drop [38, 39] (.cond (.t 40) (.seq (.reg [un (.bsl 41 1 []),
 un (.asg 4 (.t 41)),
 un (.asg 5 (.c (.bool false)))])
 (.drop [41] .ret))
 .skip)))
 (.drop [38, 39, 40, 41] (.seq (.reg [un (.mov 42 (.t 6)),
 un (.asg 4 (.t 42)),
 un (.asg 5 (.c (.bool true)))])
 (.drop [42] .ret)))))))))
abbrev S5 : List RS := [.t 4, .t 5]
theorem Sj : Bd Try.prog Hr 43 Td S5 = true := by kernel_rfl
def H3 : ACode :=
 (.seq (.seq (.reg [un (.mov 9 (.t 7)),
 un (.mov 10 (.t 0)),
 un (.len 11 (.t 10)),
 un (.bin 12 .lss (.t 9) (.t 11))])
 (.drop [9, 10, 11] (.cond (.t 12) .skip
 (.exit 0))))
 (.drop [9, 10, 11, 12] (.seq (.block 1 (.seq (.seq (.reg [un (.mov 15 (.t 0)),
 un (.mov 16 (.t 7)),
 un (.iad 17 1 (.t 15) (.t 16)),
 un (.ld 18 1 false (.t 17)),
 un (.mov 19 (.t 1)),
 un (.len 20 (.t 19)),
 un (.bin 21 .geq (.t 18) (.t 20))])
 (.drop [15, 16, 17, 18, 19, 20] (.cond (.t 21) (.seq (.reg [un (.bsl 22 1 []),
 un (.asg 4 (.t 22)),
 un (.asg 5 (.c (.bool false)))])
 (.drop [22] .ret))
 .skip)))
 (.drop [15, 16, 17, 18, 19, 20, 21, 22] (.seq (.seq (.reg [un (.mov 23 (.t 0)),
 un (.mov 24 (.t 7)),
 un (.iad 25 1 (.t 23) (.t 24)),
 un (.ld 26 1 false (.t 25)),
 un (.bin 27 .lss (.t 26) (.c (.int .i64 0)))])
 (.drop [23, 24, 25, 26] (.cond (.t 27) (.reg [un (.mov 28 (.t 6)),
 un (.mov 29 (.t 0)),
 un (.mov 30 (.t 7)),
 un (.iad 31 1 (.t 29) (.t 30)),
 un (.ld 32 1 false (.t 31)),
 un (.bsl 33 1 [(.t 32)]),
 un (.app 34 1 (.t 28) (.t 33)),
 un (.asg 6 (.t 34))])
 (.reg [un (.mov 35 (.t 6)),
 un (.mov 36 (.t 1)),
 un (.mov 37 (.t 0)),
 un (.mov 38 (.t 7)),
 un (.iad 39 1 (.t 37) (.t 38)),
 un (.ld 40 1 false (.t 39)),
 un (.iad 41 1 (.t 36) (.t 40)),
 un (.ld 42 1 false (.t 41)),
 un (.app 43 1 (.t 35) (.t 42)),
 un (.asg 6 (.t 43))]))))
 (.drop [23, 24, 25, 26, 27, 28, 29, 30, 31, 32, 33, 34, 35, 36, 37, 38, 39, 40, 41, 42, 43] (.seq (.reg [un (.mov 44 (.t 6)),
 un (.len 45 (.t 44)),
 un (.bin 46 .gtr (.t 45) (.c (.int .i64 60)))])
 (.drop [44, 45] (.cond (.t 46) (.seq (.reg [un (.bsl 47 1 []),
 un (.asg 4 (.t 47)),
 un (.asg 5 (.c (.bool false)))])
 (.drop [47] .ret))
 .skip))))))))
 (.drop [15, 16, 17, 18, 19, 20, 21, 22, 23, 24, 25, 26, 27, 28, 29, 30, 31, 32, 33, 34, 35, 36, 37, 38, 39, 40, 41, 42, 43, 44, 45, 46, 47] (.reg [un (.mov 13 (.t 7)),
 un (.bin 14 .add (.t 13) (.c (.int .i64 1))),
 un (.asg 7 (.t 14))])))))
def Qt : ACode :=
 (.seq (.reg [un (.asg 4 (.c (.nilsl 1))),
 un (.asg 5 (.c (.bool false)))])
 (.seq (.reg [un (.bsl 8 1 []),
 un (.asg 6 (.t 8))])
 (.drop [8] (.seq (.seq (.reg [un (.asg 7 (.c (.int .i64 0)))])
 (.block 0 (.loop H3)))
 (.drop [7, 9, 10, 11, 12, 15, 16, 17, 18, 19, 20, 21, 22, 23, 24, 25, 26, 27, 28, 29, 30, 31, 32, 33, 34, 35, 36, 37, 38, 39, 40, 41, 42, 43, 44, 45, 46, 47, 13, 14] (.seq (.reg [un (.mov 48 (.t 6)),
 un (.asg 4 (.t 48)),
 un (.asg 5 (.c (.bool true)))])
 (.drop [48] .ret)))))))
abbrev Qs : List RS := [.t 4, .t 5]
theorem Qg : Bd Try.prog Gf 49 Qt Qs = true := by kernel_rfl
def Ahs : ACode :=
 (.seq (.reg [un (.asg 4 (.c (.int .i64 0)))])
 (.seq (.seq (.reg [un (.mov 5 (.t 1)),
 un (.mov 6 (.t 0)),
 un (.len 7 (.t 6)),
 un (.bin 8 .lss (.t 5) (.t 7))])
 (.drop [5, 6, 7] (.cond (.t 8) (.seq (.reg [un (.mov 9 (.t 0)),
 un (.mov 10 (.t 1)),
 un (.iad 11 1 (.t 9) (.t 10)),
 un (.ld 12 1 false (.t 11)),
 un (.cnv 13 .i64 (.t 12)),
 un (.asg 4 (.t 13))])
 (.drop [9, 10, 11, 12, 13] .ret))
 .skip)))
 (.drop [5, 6, 7, 8, 9, 10, 11, 12, 13] (.seq (.reg [un (.mov 14 (.t 1)),
 un (.bin 15 .mul (.t 14) (.c (.int .i64 7))),
 un (.mov 16 (.t 0)),
 un (.len 17 (.t 16)),
 un (.bin 18 .add (.t 15) (.t 17)),
 un (.bin 19 .rem (.t 18) (.c (.int .i64 256))),
 un (.asg 4 (.t 19))])
 (.drop [14, 15, 16, 17, 18, 19] .ret)))))
abbrev Ahp : List RS := [.t 4]
theorem Agv : Bd Try.prog Rd 20 Ahs Ahp = true := by kernel_rfl
def Mk : ACode :=
 (.seq (.reg [un (.bin 10 .lss (.t 9) (.t 8))])
 (.seq (.cond (.t 10) .skip
 (.exit 0))
 (.seq (.block 1 (.seq (.reg [un (.iad 11 1 (.t 7) (.t 9)),
 un (.ld 12 1 false (.t 11)),
 un (.asg 6 (.t 12))])
 (.drop [11, 12] (.seq (.reg [un (.mov 13 (.t 6)),
 un (.bin 14 .lss (.t 13) (.c (.int .i64 0))),
 un (.asg 15 (.t 14)),
 ⟨some (15, false), .mov 16 (.t 6)⟩,
 ⟨some (15, false), .mov 17 (.t 1)⟩,
 ⟨some (15, false), .bin 18 .geq (.t 16) (.t 17)⟩,
 un (.pick 19 (.t 15) (.c (.bool true)) (.t 18))])
 (.drop [13, 14, 15, 16, 17, 18] (.cond (.t 19) (.seq (.reg [un (.asg 4 (.c (.bool false)))])
 .ret)
 .skip))))))
 (.drop [11, 12, 6, 13, 14, 15, 16, 17, 18, 19] (.reg [un (.bin 20 .add (.t 9) (.c (.int .i64 1))),
 un (.asg 9 (.t 20))])))))
def Zy : ACode :=
 (.seq (.reg [un (.asg 4 (.c (.bool false)))])
 (.seq (.seq (.reg [un (.mov 7 (.t 0)),
 un (.len 8 (.t 7)),
 un (.mov 9 (.c (.int .i64 0)))])
 (.block 0 (.loop Mk)))
 (.drop [7, 8, 9, 10, 11, 12, 6, 13, 14, 15, 16, 17, 18, 19, 20] (.seq (.reg [un (.asg 4 (.c (.bool true)))])
 .ret))))
abbrev Aa0 : List RS := [.t 4]
theorem Aaf : Bd Try.prog I4 21 Zy Aa0 = true := by kernel_rfl
def J3 : ACode :=
 (.seq (.reg [un (.bin 10 .lss (.t 9) (.t 8))])
 (.seq (.cond (.t 10) .skip
 (.exit 0))
 (.seq (.block 1 (.seq (.reg [un (.iad 11 1 (.t 7) (.t 9)),
 un (.ld 12 1 false (.t 11)),
 un (.asg 6 (.t 12))])
 (.drop [11, 12] (.seq (.reg [un (.mov 13 (.t 6)),
 un (.mov 14 (.t 1)),
 un (.bin 15 .geq (.t 13) (.t 14))])
 (.drop [13, 14] (.cond (.t 15) (.seq (.reg [un (.asg 4 (.c (.bool false)))])
 .ret)
 .skip))))))
 (.drop [11, 12, 6, 13, 14, 15] (.reg [un (.bin 16 .add (.t 9) (.c (.int .i64 1))),
 un (.asg 9 (.t 16))])))))
def Uv : ACode :=
 (.seq (.reg [un (.asg 4 (.c (.bool false)))])
 (.seq (.seq (.reg [un (.mov 7 (.t 0)),
 un (.len 8 (.t 7)),
 un (.mov 9 (.c (.int .i64 0)))])
 (.block 0 (.loop J3)))
 (.drop [7, 8, 9, 10, 11, 12, 6, 13, 14, 15, 16] (.seq (.reg [un (.asg 4 (.c (.bool true)))])
 .ret))))
abbrev Uc : List RS := [.t 4]
theorem Tv : Bd Try.prog Im 17 Uv Uc = true := by kernel_rfl
def Ph : ACode :=
 (.seq (.seq (.reg [un (.mov 42 (.t 12)),
 un (.fadr 43 0 (.t 10)),
 un (.ld 44 1 false (.t 43)),
 un (.bin 45 .lss (.t 42) (.t 44))])
 (.drop [42, 43, 44] (.cond (.t 45) .skip
 (.exit 2))))
 (.drop [42, 43, 44, 45] (.seq (.block 3 (.dreg [(un (.mov 48 (.t 11)), []),
 (un (.fadr 49 0 (.t 3)), [48]),
 (un (.ld 50 1 false (.t 49)), [48]),
 (un (.bin 51 .mul (.t 48) (.t 50)), []),
 (un (.mov 52 (.t 7)), [48, 49, 50, 51]),
 (un (.mov 53 (.t 7)), [48, 49, 50, 51, 52]),
 (un (.len 54 (.t 53)), [48, 49, 50, 51, 52]),
 (un (.bin 55 .sub (.t 54) (.c (.int .i64 1))), [48, 49, 50, 51, 52]),
 (un (.mov 56 (.t 12)), [48, 49, 50, 51, 52, 53, 54, 55]),
 (un (.bin 57 .sub (.t 55) (.t 56)), [48, 49, 50, 51, 52]),
 (un (.iad 58 1 (.t 52) (.t 57)), [48, 49, 50, 51]),
 (un (.ld 59 1 false (.t 58)), [48, 49, 50, 51])]
 [un (.bin 60 .add (.t 51) (.t 59)),
 un (.asg 11 (.t 60))]))
 (.drop [48, 49, 50, 51, 52, 53, 54, 55, 56, 57, 58, 59, 60] (.reg [un (.mov 46 (.t 12)),
 un (.bin 47 .add (.t 46) (.c (.int .i64 1))),
 un (.asg 12 (.t 47))])))))
def Ot : ACode :=
 (.seq (.seq (.reg [un (.mov 19 (.t 8)),
 un (.bin 20 .geq (.t 19) (.c (.int .i64 0)))])
 (.drop [19] (.cond (.t 20) .skip
 (.exit 0))))
 (.drop [19, 20] (.seq (.block 1 (.seq (.reg [un (.mov 23 (.t 1)),
 un (.mov 24 (.t 8)),
 un (.iad 25 1 (.t 23) (.t 24)),
 un (.ld 26 1 false (.t 25)),
 un (.asg 9 (.t 26))])
 (.drop [23, 24, 25, 26] (.seq (.seq (.reg [un (.mov 27 (.t 9)),
 un (.bin 28 .geq (.t 27) (.c (.int .i64 0)))])
 (.drop [27] (.cond (.t 28) (.seq (.reg [un (.mov 29 (.t 7)),
 un (.mov 30 (.t 2)),
 un (.mov 31 (.t 9)),
 un (.iad 32 1 (.t 30) (.t 31)),
 un (.ld 33 1 false (.t 32)),
 un (.bsl 34 1 [(.t 33)]),
 un (.app 35 1 (.t 29) (.t 34)),
 un (.asg 7 (.t 35))])
 (.drop [29, 30, 31, 32, 33, 34, 35] (.exit 1)))
 .skip)))
 (.drop [27, 28, 29, 30, 31, 32, 33, 34, 35] (.seq (.reg [un (.fadr 36 1 (.t 3)),
 un (.ld 37 1 false (.t 36)),
 un (.mov 38 (.t 9)),
 un (.bin 39 .sub (.c (.int .i64 (-1))) (.t 38)),
 un (.iad 40 2 (.t 37) (.t 39)),
 un (.ld 41 2 true (.t 40)),
 un (.alc 10 (.agg [.int .i64 0, .nilsl 1])),
 un (.st 2 (.t 10) (.t 41))])
 (.drop [36, 37, 38, 39, 40, 41] (.seq (.reg [un (.asg 11 (.c (.int .i64 0)))])
 (.seq (.seq (.reg [un (.asg 12 (.c (.int .i64 0)))])
 (.block 2 (.loop Ph)))
 (.drop [12, 42, 43, 44, 45, 48, 49, 50, 51, 52, 53, 54, 55, 56, 57, 58, 59, 60, 46, 47] (.dregl [(0, .mov 61 (.t 7)),
 (1, .mov 62 (.t 7)),
 (3, .fadr 64 0 (.t 10)),
 (4, .ld 65 1 false (.t 64)),
 (7, .fadr 68 1 (.t 10)),
 (8, .ld 69 1 false (.t 68)),
 (9, .mov 70 (.t 11)),
 (10, .iad 71 1 (.t 69) (.t 70)),
 (11, .ld 72 1 false (.t 71))]
 (.alt 2 (.len 63 (.t 62)) [0, 1, 3, 4, 7, 8, 9, 10, 11] [] (.alt 5 (.bin 66 .sub (.t 63) (.t 65)) [0, 3, 4, 7, 8, 9, 10, 11] [] (.alt 6 (.slt 67 1 (.t 61) (.t 66)) [0, 7, 8, 9, 10, 11] [61] (.alt 12 (.bsl 73 1 [(.t 72)]) [7, 8, 9, 10, 11] [] (.alt 13 (.app 74 1 (.t 67) (.t 73)) [] [] (.alt 14 (.asg 7 (.t 74)) [] [] .nil .nil) .nil) .nil) (.alt 12 (.bsl 73 1 [(.t 72)]) [0, 7, 8, 9, 10, 11] [] (.alt 6 (.slt 67 1 (.t 61) (.t 66)) [0] [61] (.alt 13 (.app 74 1 (.t 67) (.t 73)) [] [] (.alt 14 (.asg 7 (.t 74)) [] [] .nil .nil) .nil) .nil) .nil)) (.alt 12 (.bsl 73 1 [(.t 72)]) [0, 3, 4, 7, 8, 9, 10, 11] [] (.alt 5 (.bin 66 .sub (.t 63) (.t 65)) [0, 3, 4] [] (.alt 6 (.slt 67 1 (.t 61) (.t 66)) [0] [61] (.alt 13 (.app 74 1 (.t 67) (.t 73)) [] [] (.alt 14 (.asg 7 (.t 74)) [] [] .nil .nil) .nil) .nil) .nil) .nil)) (.alt 12 (.bsl 73 1 [(.t 72)]) [0, 1, 3, 4, 7, 8, 9, 10, 11] [] (.alt 2 (.len 63 (.t 62)) [0, 1, 3, 4] [] (.alt 5 (.bin 66 .sub (.t 63) (.t 65)) [0, 3, 4] [] (.alt 6 (.slt 67 1 (.t 61) (.t 66)) [0] [61] (.alt 13 (.app 74 1 (.t 67) (.t 73)) [] [] (.alt 14 (.asg 7 (.t 74)) [] [] .nil .nil) .nil) .nil) .nil) .nil) .nil)))))))))))))
 (.drop [23, 24, 25, 26, 9, 27, 28, 29, 30, 31, 32, 33, 34, 35, 36, 37, 38, 39, 40, 41, 10, 11, 12, 42, 43, 44, 45, 48, 49, 50, 51, 52, 53, 54, 55, 56, 57, 58, 59, 60, 46, 47, 61, 62, 63, 64, 65, 66, 67, 68, 69, 70, 71, 72, 73, 74] (.reg [un (.mov 21 (.t 8)),
 un (.bin 22 .sub (.t 21) (.c (.int .i64 1))),
 un (.asg 8 (.t 22))])))))
def Aei : ACode :=
 (.seq (.reg [un (.box 3 (.t 0)),
 un (.asg 6 (.c (.int .i64 0)))])
 (.seq (.reg [un (.mov 13 (.t 1)),
 un (.len 14 (.t 13)),
 un (.mkc 15 1 (.int .i64 0) (.t 14)),
 un (.asg 7 (.t 15))])
 (.drop [13, 14, 15] (.seq (.seq (.reg [un (.mov 16 (.t 1)),
 un (.len 17 (.t 16)),
 un (.bin 18 .sub (.t 17) (.c (.int .i64 1))),
 un (.asg 8 (.t 18))])
 (.drop [16, 17, 18] (.block 0 (.loop Ot))))
 (.drop [16, 17, 18, 8, 19, 20, 23, 24, 25, 26, 9, 27, 28, 29, 30, 31, 32, 33, 34, 35, 36, 37, 38, 39, 40, 41, 10, 11, 12, 42, 43, 44, 45, 48, 49, 50, 51, 52, 53, 54, 55, 56, 57, 58, 59, 60, 46, 47, 61, 62, 63, 64, 65, 66, 67, 68, 69, 70, 71, 72, 73, 74, 21, 22] (.seq (.reg [un (.mov 75 (.t 7)),
 un (.iad 76 1 (.t 75) (.c (.int .i64 0))),
 un (.ld 77 1 false (.t 76)),
 un (.asg 6 (.t 77))])
 (.drop [75, 76, 77] .ret)))))))
abbrev Afm : List RS := [.t 6]
theorem Ael : Bd Try.prog Pr 78 Aei Afm = true := by kernel_rfl
def Aft : ACode :=
 (.seq (.reg [un (.asg 6 (.c (.bool false)))])
 (.seq (.reg [un (.mov 7 (.t 0)),
 un (.mov 8 (.t 1)),
 un (.bin 9 .geq (.t 7) (.t 8)),
 un (.asg 10 (.t 9)),
 ⟨some (10, true), .mov 11 (.t 0)⟩,
 ⟨some (10, true), .mov 12 (.t 2)⟩,
 ⟨some (10, true), .bin 13 .leq (.t 11) (.t 12)⟩,
 un (.pick 14 (.t 10) (.t 13) (.c (.bool false))),
 un (.asg 6 (.t 14))])
 (.drop [7, 8, 9, 10, 11, 12, 13, 14] .ret)))
abbrev Ad5 : List RS := [.t 6]
theorem Afk : Bd Try.prog Fa 15 Aft Ad5 = true := by kernel_rfl
def Ac5 : ACode :=
 (.seq (.reg [un (.asg 2 (.c (.nilsl 1)))])
 (.seq (.reg [un (.bsl 3 1 []),
 un (.mov 4 (.t 0)),
 un (.app 5 1 (.t 3) (.t 4)),
 un (.asg 2 (.t 5))])
 (.drop [3, 4, 5] .ret)))
abbrev Add : List RS := [.t 2]
theorem Adg : Bd Try.prog J5 6 Ac5 Add = true := by kernel_rfl
def Wq : ACode :=
 (.reg [un (.mov 30 (.t 8)),
 un (.bin 31 .geq (.t 30) (.c (.int .i64 6))),
 un (.asg 32 (.t 31)),
 ⟨some (32, false), .mov 33 (.t 8)⟩,
 ⟨some (32, false), .fadr 34 1 (.t 3)⟩,
 ⟨some (32, false), .ld 35 1 false (.t 34)⟩,
 ⟨some (32, false), .len 36 (.t 35)⟩,
 ⟨some (32, false), .un 37 .neg (.t 36)⟩,
 ⟨some (32, false), .bin 38 .lss (.t 33) (.t 37)⟩,
 un (.pick 39 (.t 32) (.c (.bool true)) (.t 38)),
 un (.asg 29 (.t 39))])
def Ob : ACode :=
 (.seq (.seq (.reg [un (.mov 9 (.t 7)),
 un (.bin 10 .gtr (.t 9) (.c (.int .i64 0)))])
 (.drop [9] (.cond (.t 10) .skip
 (.exit 0))))
 (.drop [9, 10] (.block 1 (.seq (.seq (.reg [un (.mov 11 (.t 2)),
 un (.mov 12 (.t 1)),
 un (.len 13 (.t 12)),
 un (.bin 14 .geq (.t 11) (.t 13))])
 (.drop [11, 12, 13] (.cond (.t 14) (.seq (.reg [un (.asg 6 (.c (.int .i64 (-1))))])
 .ret)
 .skip)))
 (.drop [11, 12, 13, 14] (.seq (.reg [un (.mov 15 (.t 1)),
 un (.mov 16 (.t 2)),
 un (.iad 17 1 (.t 15) (.t 16)),
 un (.ld 18 1 false (.t 17)),
 un (.asg 8 (.t 18))])
 (.drop [15, 16, 17, 18] (.seq (.block 2 (.seq (.cut Wq)
 (.drop [30, 31, 32, 33, 34, 35, 36, 37, 38, 39] (.cond (.t 29) (.seq (.reg [un (.asg 6 (.c (.int .i64 (-1))))])
 .ret)
 (.seq (.reg [un (.mov 41 (.t 8)),
 un (.bin 42 .geq (.t 41) (.c (.int .i64 0))),
 un (.asg 40 (.t 42))])
 (.drop [41, 42] (.cond (.t 40) (.reg [un (.mov 43 (.t 7)),
 un (.bin 44 .sub (.t 43) (.c (.int .i64 1))),
 un (.asg 7 (.t 44))])
 (.reg [un (.mov 19 (.t 7)),
 un (.fadr 20 1 (.t 3)),
 un (.ld 21 1 false (.t 20)),
 un (.mov 22 (.t 8)),
 un (.bin 23 .sub (.c (.int .i64 (-1))) (.t 22)),
 un (.iad 24 2 (.t 21) (.t 23)),
 un (.fadr 25 0 (.t 24)),
 un (.ld 26 1 false (.t 25)),
 un (.bin 27 .sub (.t 26) (.c (.int .i64 1))),
 un (.bin 28 .add (.t 19) (.t 27)),
 un (.asg 7 (.t 28))]))))))))
 (.drop [30, 31, 32, 33, 34, 35, 36, 37, 38, 39, 29, 41, 42, 40, 43, 44, 19, 20, 21, 22, 23, 24, 25, 26, 27, 28] (.reg [un (.mov 45 (.t 2)),
 un (.bin 46 .add (.t 45) (.c (.int .i64 1))),
 un (.asg 2 (.t 46))]))))))))))
def Adn : ACode :=
 (.seq (.reg [un (.box 3 (.t 0)),
 un (.asg 6 (.c (.int .i64 0)))])
 (.seq (.reg [un (.asg 7 (.c (.int .i64 1)))])
 (.seq (.block 0 (.loop Ob))
 (.drop [9, 10, 11, 12, 13, 14, 15, 16, 17, 18, 8, 30, 31, 32, 33, 34, 35, 36, 37, 38, 39, 29, 41, 42, 40, 43, 44, 19, 20, 21, 22, 23, 24, 25, 26, 27, 28, 45, 46] (.seq (.reg [un (.mov 47 (.t 2)),
 un (.asg 6 (.t 47))])
 (.drop [47] .ret))))))
abbrev Ac3 : List RS := [.t 6]
theorem Adv : Bd Try.prog Hp 48 Adn Ac3 = true := by kernel_rfl
def Acr : ACode :=
 (.seq (.reg [un (.asg 2 (.c (.nilsl 1)))])
 (.seq (.reg [un (.bsl 3 1 []),
 un (.mov 4 (.t 0)),
 un (.app 5 1 (.t 3) (.t 4)),
 un (.asg 2 (.t 5))])
 (.drop [3, 4, 5] .ret)))
abbrev Acj : List RS := [.t 2]
theorem Ab6 : Bd Try.prog Hl 6 Acr Acj = true := by kernel_rfl
def Lk : ACode :=
 (.seq (.seq (.reg [un (.mov 29 (.t 10)),
 un (.bin 30 .gtr (.t 29) (.c (.int .i64 0)))])
 (.drop [29] (.cond (.t 30) .skip
 (.exit 0))))
 (.drop [29, 30] (.seq (.block 1 (.seq (.reg [un (.ld 34 2 true (.t 3)),
 un (.mov 35 (.t 1)),
 un (.mov 36 (.t 2)),
 un (.call 37 Dd [((.t 34), false), ((.t 35), false), ((.t 36), false)]),
 un (.asg 33 (.t 37)),
 un (.ext 38 (.t 33) 0),
 un (.ext 39 (.t 33) 1),
 un (.asg 11 (.t 38)),
 un (.asg 12 (.t 39))])
 (.drop [34, 35, 36, 37, 33, 38, 39] (.reg [un (.mov 40 (.t 9)),
 un (.mov 41 (.t 11)),
 un (.max 42 (.t 40) (.t 41)),
 un (.mov 43 (.t 12)),
 un (.asg 9 (.t 42)),
 un (.asg 2 (.t 43))]))))
 (.drop [34, 35, 36, 37, 33, 38, 39, 11, 12, 40, 41, 42, 43] (.reg [un (.mov 31 (.t 10)),
 un (.bin 32 .sub (.t 31) (.c (.int .i64 1))),
 un (.asg 10 (.t 32))])))))
def Yy : ACode :=
 (.seq (.reg [un (.box 3 (.t 0)),
 un (.asg 6 (.c (.int .i64 0))),
 un (.asg 7 (.c (.int .i64 0)))])
 (.seq (.reg [un (.mov 13 (.t 1)),
 un (.mov 14 (.t 2)),
 un (.iad 15 1 (.t 13) (.t 14)),
 un (.ld 16 1 false (.t 15)),
 un (.asg 8 (.t 16))])
 (.drop [13, 14, 15, 16] (.seq (.reg [un (.mov 17 (.t 2)),
 un (.bin 18 .add (.t 17) (.c (.int .i64 1))),
 un (.asg 2 (.t 18))])
 (.drop [17, 18] (.seq (.seq (.reg [un (.mov 19 (.t 8)),
 un (.bin 20 .geq (.t 19) (.c (.int .i64 0)))])
 (.drop [19] (.cond (.t 20) (.seq (.reg [un (.mov 21 (.t 2)),
 un (.asg 6 (.c (.int .i64 0))),
 un (.asg 7 (.t 21))])
 (.drop [21] .ret))
 .skip)))
 (.drop [19, 20, 21] (.seq (.reg [un (.asg 9 (.c (.int .i64 0)))])
 (.seq (.seq (.reg [un (.fadr 22 1 (.t 3)),
 un (.ld 23 1 false (.t 22)),
 un (.mov 24 (.t 8)),
 un (.bin 25 .sub (.c (.int .i64 (-1))) (.t 24)),
 un (.iad 26 2 (.t 23) (.t 25)),
 un (.fadr 27 0 (.t 26)),
 un (.ld 28 1 false (.t 27)),
 un (.asg 10 (.t 28))])
 (.drop [22, 23, 24, 25, 26, 27, 28] (.block 0 (.loop Lk))))
 (.drop [22, 23, 24, 25, 26, 27, 28, 10, 29, 30, 34, 35, 36, 37, 33, 38, 39, 11, 12, 40, 41, 42, 43, 31, 32] (.seq (.reg [un (.mov 44 (.t 9)),
 un (.bin 45 .add (.t 44) (.c (.int .i64 1))),
 un (.mov 46 (.t 2)),
 un (.asg 6 (.t 45)),
 un (.asg 7 (.t 46))])
 (.drop [44, 45, 46] .ret))))))))))))
abbrev Yi : List RS := [.t 6, .t 7]
theorem Yb : Bd Try.prog Dd 47 Yy Yi = true := by kernel_rfl
def N3 : ACode :=
 (.seq (.seq (.reg [un (.mov 6 (.t 1)),
 un (.bin 7 .gtr (.t 6) (.c (.int .i64 0)))])
 (.drop [6] (.cond (.t 7) .skip
 (.exit 0))))
 (.drop [6, 7] (.seq (.block 1 (.reg [un (.mov 10 (.t 5)),
 un (.mov 11 (.t 0)),
 un (.bin 12 .mul (.t 10) (.t 11)),
 un (.asg 5 (.t 12))]))
 (.drop [10, 11, 12] (.reg [un (.mov 8 (.t 1)),
 un (.bin 9 .sub (.t 8) (.c (.int .i64 1))),
 un (.asg 1 (.t 9))])))))
def Acd : ACode :=
 (.seq (.reg [un (.asg 4 (.c (.int .i64 0)))])
 (.seq (.reg [un (.asg 5 (.c (.int .i64 1)))])
 (.seq (.block 0 (.loop N3))
 (.drop [6, 7, 10, 11, 12, 8, 9] (.seq (.reg [un (.mov 13 (.t 5)),
 un (.asg 4 (.t 13))])
 (.drop [13] .ret))))))
abbrev Acs : List RS := [.t 4]
theorem Ab7 : Bd Try.prog J4 14 Acd Acs = true := by kernel_rfl
def Pm : ACode :=
 (.seq (.dreg [(un (.mov 4 (.t 0)), []),
 (un (.nck 5 (.t 4)), []),
 (un (.fadr 6 1 (.t 5)), []),
 (un (.ld 7 1 false (.t 6)), []),
 (un (.mov 8 (.t 0)), [4, 5, 6, 7]),
 (un (.nck 9 (.t 8)), [4, 5, 6, 7]),
 (un (.fadr 10 0 (.t 9)), [4, 5, 6, 7]),
 (un (.ld 11 1 false (.t 10)), [4, 5, 6, 7]),
 (un (.len 12 (.t 11)), [4, 5, 6, 7])]
 [un (.bin 13 .lss (.t 7) (.t 12))])
 (.drop [4, 5, 6, 7, 8, 9, 10, 11, 12] (.cond (.t 13) (.dreg [(un (.mov 14 (.t 0)), []),
 (un (.nck 15 (.t 14)), []),
 (un (.fadr 16 0 (.t 15)), []),
 (un (.ld 17 1 false (.t 16)), []),
 (un (.mov 18 (.t 0)), [14, 15, 16, 17]),
 (un (.nck 19 (.t 18)), [14, 15, 16, 17]),
 (un (.fadr 20 1 (.t 19)), [14, 15, 16, 17]),
 (un (.ld 21 1 false (.t 20)), [14, 15, 16, 17])]
 [un (.iad 22 1 (.t 17) (.t 21)),
 un (.ld 23 1 false (.t 22)),
 un (.cnv 24 .i64 (.t 23)),
 un (.asg 3 (.t 24))])
 .skip)))
def S4 : ACode :=
 (.seq (.reg [un (.asg 2 (.c (.int .i64 0)))])
 (.seq (.reg [un (.asg 3 (.c (.int .i64 0)))])
 (.seq (.cut Pm)
 (.drop [4, 5, 6, 7, 8, 9, 10, 11, 12, 13, 14, 15, 16, 17, 18, 19, 20, 21, 22, 23, 24] (.seq (.reg [un (.mov 25 (.t 0)),
 un (.nck 26 (.t 25)),
 un (.fadr 27 1 (.t 26)),
 un (.ld 28 1 false (.t 27)),
 un (.bin 29 .add (.t 28) (.c (.int .i64 1))),
 un (.nck 30 (.t 25)),
 un (.fadr 31 1 (.t 30)),
 un (.st 1 (.t 31) (.t 29))])
 (.drop [25, 26, 27, 28, 29, 30, 31] (.seq (.reg [un (.mov 32 (.t 0)),
 un (.mov 33 (.t 0)),
 un (.nck 34 (.t 33)),
 un (.fadr 35 2 (.t 34)),
 un (.ld 36 1 false (.t 35)),
 un (.bin 37 .mul (.t 36) (.c (.int .u64 6364136223846793005))),
 un (.mov 38 (.t 3)),
 un (.cnv 39 .u64 (.t 38)),
 un (.bin 40 .add (.t 37) (.t 39)),
 un (.bin 41 .add (.t 40) (.c (.int .u64 550289))),
 un (.nck 42 (.t 32)),
 un (.fadr 43 2 (.t 42)),
 un (.st 1 (.t 43) (.t 41))])
 (.drop [32, 33, 34, 35, 36, 37, 38, 39, 40, 41, 42, 43] (.seq (.seq (.dreg [(un (.mov 44 (.t 0)), []),
 (un (.nck 45 (.t 44)), []),
 (un (.fadr 46 1 (.t 45)), []),
 (un (.ld 47 1 false (.t 46)), []),
 (un (.mov 48 (.t 0)), [44, 45, 46, 47]),
 (un (.nck 49 (.t 48)), [44, 45, 46, 47]),
 (un (.fadr 50 0 (.t 49)), [44, 45, 46, 47]),
 (un (.ld 51 1 false (.t 50)), [44, 45, 46, 47]),
 (un (.len 52 (.t 51)), [44, 45, 46, 47])]
 [un (.bin 53 .leq (.t 47) (.t 52))])
 (.drop [44, 45, 46, 47, 48, 49, 50, 51, 52] (.cond (.t 53) (.seq (.reg [un (.mov 54 (.t 3)),
 un (.asg 2 (.t 54))])
 (.drop [54] .ret))
 .skip)))
 (.drop [44, 45, 46, 47, 48, 49, 50, 51, 52, 53, 54] (.seq (.reg [un (.mov 55 (.t 0)),
 un (.nck 56 (.t 55)),
 un (.fadr 57 2 (.t 56)),
 un (.ld 58 1 false (.t 57)),
 un (.bin 59 .shr (.t 58) (.c (.int .u64 40))),
 un (.bin 60 .and (.t 59) (.c (.int .u64 255))),
 un (.cnv 61 .i64 (.t 60)),
 un (.asg 2 (.t 61))])
 (.drop [55, 56, 57, 58, 59, 60, 61] .ret))))))))))))
abbrev Tf : List RS := [.t 2]
theorem S9 : Bd Try.prog Fv 62 S4 Tf = true := by kernel_rfl
def Aay : ACode :=
 (.seq (.reg [un (.asg 4 (.c (.int .i64 0)))])
 (.seq (.seq (.reg [un (.mov 5 (.t 0)),
 un (.mov 6 (.t 1)),
 un (.bin 7 .gtr (.t 5) (.t 6))])
 (.drop [5, 6] (.cond (.t 7) (.seq (.reg [un (.mov 8 (.t 0)),
 un (.asg 4 (.t 8))])
 (.drop [8] .ret))
 .skip)))
 (.drop [5, 6, 7, 8] (.seq (.reg [un (.mov 9 (.t 1)),
 un (.asg 4 (.t 9))])
 (.drop [9] .ret)))))
abbrev Aac : List RS := [.t 4]
theorem Zp : Bd Try.prog Lx 10 Aay Aac = true := by kernel_rfl
def Mu : ACode :=
 (.seq (.reg [un (.bin 10 .lss (.t 9) (.t 8))])
 (.seq (.cond (.t 10) .skip
 (.exit 0))
 (.seq (.block 1 (.seq (.reg [un (.mov 11 (.t 9)),
 un (.iad 12 1 (.t 7) (.t 9)),
 un (.ld 13 1 false (.t 12)),
 un (.asg 4 (.t 11)),
 un (.asg 5 (.t 13))])
 (.drop [11, 12, 13] (.seq (.reg [un (.mov 14 (.t 5))])
 (.cond (.t 14) (.reg [un (.mov 15 (.t 3)),
 un (.mov 16 (.t 4)),
 un (.bsl 17 1 [(.t 16)]),
 un (.app 18 1 (.t 15) (.t 17)),
 un (.asg 3 (.t 18))])
 .skip)))))
 (.drop [11, 12, 13, 4, 5, 14, 15, 16, 17, 18] (.reg [un (.bin 19 .add (.t 9) (.c (.int .i64 1))),
 un (.asg 9 (.t 19))])))))
def Aak : ACode :=
 (.seq (.reg [un (.asg 2 (.c (.nilsl 1)))])
 (.seq (.reg [un (.bsl 6 1 []),
 un (.asg 3 (.t 6))])
 (.drop [6] (.seq (.seq (.reg [un (.mov 7 (.t 0)),
 un (.len 8 (.t 7)),
 un (.mov 9 (.c (.int .i64 0)))])
 (.block 0 (.loop Mu)))
 (.drop [7, 8, 9, 10, 11, 12, 13, 4, 5, 14, 15, 16, 17, 18, 19] (.seq (.reg [un (.mov 20 (.t 3)),
 un (.asg 2 (.t 20))])
 (.drop [20] .ret)))))))
abbrev Aat : List RS := [.t 2]
theorem Z9 : Bd Try.prog L8 21 Aak Aat = true := by kernel_rfl
def N7 : ACode :=
 (.seq (.seq (.reg [un (.mov 6 (.t 5)),
 un (.mov 7 (.t 0)),
 un (.len 8 (.t 7)),
 un (.bin 9 .lss (.t 6) (.t 8)),
 un (.asg 10 (.t 9)),
 ⟨some (10, true), .mov 11 (.t 0)⟩,
 ⟨some (10, true), .mov 12 (.t 5)⟩,
 ⟨some (10, true), .iad 13 1 (.t 11) (.t 12)⟩,
 ⟨some (10, true), .ld 14 1 false (.t 13)⟩,
 ⟨some (10, true), .mov 15 (.t 1)⟩,
 ⟨some (10, true), .bin 16 .lss (.t 14) (.t 15)⟩,
 un (.pick 17 (.t 10) (.t 16) (.c (.bool false)))])
 (.drop [6, 7, 8, 9, 10, 11, 12, 13, 14, 15, 16] (.cond (.t 17) .skip
 (.exit 0))))
 (.drop [6, 7, 8, 9, 10, 11, 12, 13, 14, 15, 16, 17] (.block 1 (.reg [un (.mov 18 (.t 5)),
 un (.bin 19 .add (.t 18) (.c (.int .i64 1))),
 un (.asg 5 (.t 19))]))))
def Wo : ACode :=
 (.seq (.reg [un (.mov 20 (.t 5)),
 un (.mov 21 (.t 0)),
 un (.len 22 (.t 21)),
 un (.bin 23 .lss (.t 20) (.t 22)),
 un (.asg 24 (.t 23)),
 ⟨some (24, true), .mov 25 (.t 0)⟩,
 ⟨some (24, true), .mov 26 (.t 5)⟩,
 ⟨some (24, true), .iad 27 1 (.t 25) (.t 26)⟩,
 ⟨some (24, true), .ld 28 1 false (.t 27)⟩,
 ⟨some (24, true), .mov 29 (.t 1)⟩,
 ⟨some (24, true), .bin 30 .eql (.t 28) (.t 29)⟩,
 un (.pick 31 (.t 24) (.t 30) (.c (.bool false)))])
 (.drop [20, 21, 22, 23, 24, 25, 26, 27, 28, 29, 30] (.cond (.t 31) (.seq (.reg [un (.mov 32 (.t 0)),
 un (.asg 4 (.t 32))])
 (.drop [32] .ret))
 .skip)))
def Ac2 : ACode :=
 (.seq (.reg [un (.asg 4 (.c (.nilsl 1)))])
 (.seq (.reg [un (.asg 5 (.c (.int .i64 0)))])
 (.seq (.block 0 (.loop N7))
 (.drop [6, 7, 8, 9, 10, 11, 12, 13, 14, 15, 16, 17, 18, 19] (.seq (.cut Wo)
 (.drop [20, 21, 22, 23, 24, 25, 26, 27, 28, 29, 30, 31, 32] (.seq (.dreg [(un (.bsl 33 1 []), [38]),
 (un (.mov 34 (.t 0)), [33, 38]),
 (un (.mov 35 (.t 5)), [33, 34, 38]),
 (un (.slc 36 1 (.t 34) none (some (.t 35))), [33, 38]),
 (un (.app 37 1 (.t 33) (.t 36)), [38]),
 (un (.mov 38 (.t 1)), [33, 34, 35, 36, 37, 33]),
 (un (.bsl 39 1 [(.t 38)]), [33, 34, 35, 36, 37, 33]),
 (un (.app 40 1 (.t 37) (.t 39)), [33, 38]),
 (un (.mov 41 (.t 0)), [33, 34, 35, 36, 37, 38, 39, 40, 33, 38, 37]),
 (un (.mov 42 (.t 5)), [33, 34, 35, 36, 37, 38, 39, 40, 41, 33, 38, 37]),
 (un (.slc 43 1 (.t 41) (some (.t 42)) none), [33, 34, 35, 36, 37, 38, 39, 40, 33, 38, 37])]
 [un (.app 44 1 (.t 40) (.t 43)),
 un (.asg 4 (.t 44))])
 (.drop [33, 34, 35, 36, 37, 38, 39, 40, 41, 42, 43, 44] .ret))))))))
abbrev Adi : List RS := [.t 4]
theorem Ac6 : Bd Try.prog M8 45 Ac2 Adi = true := by kernel_rfl
def N8 : ACode :=
 (.seq (.seq (.reg [un (.mov 6 (.t 1)),
 un (.bin 7 .gtr (.t 6) (.c (.int .i64 0)))])
 (.drop [6] (.cond (.t 7) .skip
 (.exit 0))))
 (.drop [6, 7] (.seq (.block 1 (.reg [un (.mov 10 (.t 5)),
 un (.mov 11 (.t 0)),
 un (.bin 12 .mul (.t 10) (.t 11)),
 un (.asg 5 (.t 12))]))
 (.drop [10, 11, 12] (.reg [un (.mov 8 (.t 1)),
 un (.bin 9 .sub (.t 8) (.c (.int .i64 1))),
 un (.asg 1 (.t 9))])))))
def Acf : ACode :=
 (.seq (.reg [un (.asg 4 (.c (.int .i64 0)))])
 (.seq (.reg [un (.asg 5 (.c (.int .i64 1)))])
 (.seq (.block 0 (.loop N8))
 (.drop [6, 7, 10, 11, 12, 8, 9] (.seq (.reg [un (.mov 13 (.t 5)),
 un (.asg 4 (.t 13))])
 (.drop [13] .ret))))))
abbrev Adw : List RS := [.t 4]
theorem Acb : Bd Try.prog Ns 14 Acf Adw = true := by kernel_rfl
def Ks : ACode :=
 (.seq (.seq (.reg [un (.mov 6 (.t 4)),
 un (.mov 7 (.t 0)),
 un (.slen 8 (.t 7)),
 un (.bin 9 .lss (.t 6) (.t 8))])
 (.drop [6, 7, 8] (.cond (.t 9) .skip
 (.exit 0))))
 (.drop [6, 7, 8, 9] (.seq (.block 1 (.dreg [(un (.fadr 12 1 (.t 3)), [18]),
 (un (.ld 13 1 false (.t 12)), [18]),
 (un (.mov 14 (.t 0)), [12, 13]),
 (un (.mov 15 (.t 4)), [12, 13, 14]),
 (un (.sidx 16 (.t 14) (.t 15)), [12, 13]),
 (un (.bin 17 .sub (.t 16) (.c (.int .u8 48))), [12, 13]),
 (un (.cnv 18 .i64 (.t 17)), [12, 13]),
 (un (.bsl 19 1 [(.t 18)]), [12, 13])]
 [un (.app 20 1 (.t 13) (.t 19)),
 un (.fadr 21 1 (.t 3)),
 un (.st 1 (.t 21) (.t 20))]))
 (.drop [12, 13, 14, 15, 16, 17, 18, 19, 20, 21] (.reg [un (.mov 10 (.t 4)),
 un (.bin 11 .add (.t 10) (.c (.int .i64 1))),
 un (.asg 4 (.t 11))])))))
def Wb : ACode :=
 (.seq (.reg [un (.alc 2 (.agg [.int .i64 0, .nilsl 1]))])
 (.seq (.reg [un (.bld 5 [.int .i64 0, .nilsl 1] [(0, 1, (.c (.int .i64 2)))]),
 un (.alc 3 (.agg [.int .i64 0, .nilsl 1])),
 un (.st 2 (.t 3) (.t 5))])
 (.drop [5] (.seq (.seq (.reg [un (.asg 4 (.c (.int .i64 0)))])
 (.block 0 (.loop Ks)))
 (.drop [4, 6, 7, 8, 9, 12, 13, 14, 15, 16, 17, 18, 19, 20, 21, 10, 11] (.seq (.reg [un (.ld 22 2 true (.t 3)),
 un (.st 2 (.t 2) (.t 22))])
 (.drop [22] .ret)))))))
abbrev Wg : List RS := [.c 2 2 true]
theorem Wm : Bd Try.prog A6 23 Wb Wg = true := by kernel_rfl
def Km : ACode :=
 (.seq (.seq (.reg [un (.mov 6 (.t 4)),
 un (.mov 7 (.t 0)),
 un (.mov 8 (.t 0)),
 un (.bin 9 .mul (.t 7) (.t 8)),
 un (.mov 10 (.t 0)),
 un (.bin 11 .mul (.t 9) (.t 10)),
 un (.bin 12 .lss (.t 6) (.t 11))])
 (.drop [6, 7, 8, 9, 10, 11] (.cond (.t 12) .skip
 (.exit 0))))
 (.drop [6, 7, 8, 9, 10, 11, 12] (.seq (.block 1 (.dreg [(un (.fadr 15 1 (.t 3)), [35]),
 (un (.ld 16 1 false (.t 15)), [35]),
 (un (.mov 17 (.t 4)), [15, 16]),
 (un (.mov 18 (.t 0)), [15, 16, 17]),
 (un (.mov 19 (.t 0)), [15, 16, 17, 18]),
 (un (.bin 20 .mul (.t 18) (.t 19)), [15, 16, 17]),
 (un (.bin 21 .quo (.t 17) (.t 20)), [15, 16]),
 (un (.mov 22 (.t 0)), [15, 16, 17, 18, 19, 20, 21]),
 (un (.bin 23 .add (.t 21) (.t 22)), [15, 16]),
 (un (.mov 24 (.t 4)), [15, 16, 17, 18, 19, 20, 21, 22, 23]),
 (un (.mov 25 (.t 0)), [15, 16, 17, 18, 19, 20, 21, 22, 23, 24]),
 (un (.bin 26 .quo (.t 24) (.t 25)), [15, 16, 17, 18, 19, 20, 21, 22, 23]),
 (un (.mov 27 (.t 0)), [15, 16, 17, 18, 19, 20, 21, 22, 23, 24, 25, 26]),
 (un (.bin 28 .rem (.t 26) (.t 27)), [15, 16, 17, 18, 19, 20, 21, 22, 23]),
 (un (.bin 29 .sub (.t 23) (.t 28)), [15, 16]),
 (un (.mov 30 (.t 4)), [15, 16, 17, 18, 19, 20, 21, 22, 23, 24, 25, 26, 27, 28, 29]),
 (un (.mov 31 (.t 0)), [15, 16, 17, 18, 19, 20, 21, 22, 23, 24, 25, 26, 27, 28, 29, 30]),
 (un (.bin 32 .rem (.t 30) (.t 31)), [15, 16, 17, 18, 19, 20, 21, 22, 23, 24, 25, 26, 27, 28, 29]),
 (un (.bin 33 .add (.t 29) (.t 32)), [15, 16]),
 (un (.mov 34 (.t 0)), [15, 16, 17, 18, 19, 20, 21, 22, 23, 24, 25, 26, 27, 28, 29, 30, 31, 32, 33]),
 (un (.bin 35 .rem (.t 33) (.t 34)), [15, 16]),
 (un (.bsl 36 1 [(.t 35)]), [15, 16])]
 [un (.app 37 1 (.t 16) (.t 36)),
 un (.fadr 38 1 (.t 3)),
 un (.st 1 (.t 38) (.t 37))]))
 (.drop [15, 16, 17, 18, 19, 20, 21, 22, 23, 24, 25, 26, 27, 28, 29, 30, 31, 32, 33, 34, 35, 36, 37, 38] (.reg [un (.mov 13 (.t 4)),
 un (.bin 14 .add (.t 13) (.c (.int .i64 1))),
 un (.asg 4 (.t 14))])))))
def Wh : ACode :=
 (.seq (.reg [un (.alc 2 (.agg [.int .i64 0, .nilsl 1]))])
 (.seq (.reg [un (.bld 5 [.int .i64 0, .nilsl 1] [(0, 1, (.c (.int .i64 3)))]),
 un (.alc 3 (.agg [.int .i64 0, .nilsl 1])),
 un (.st 2 (.t 3) (.t 5))])
 (.drop [5] (.seq (.seq (.reg [un (.asg 4 (.c (.int .i64 0)))])
 (.block 0 (.loop Km)))
 (.drop [4, 6, 7, 8, 9, 10, 11, 12, 15, 16, 17, 18, 19, 20, 21, 22, 23, 24, 25, 26, 27, 28, 29, 30, 31, 32, 33, 34, 35, 36, 37, 38, 13, 14] (.seq (.reg [un (.ld 39 2 true (.t 3)),
 un (.st 2 (.t 2) (.t 39))])
 (.drop [39] .ret)))))))
abbrev Wp : List RS := [.c 2 2 true]
theorem Wf : Bd Try.prog Gz 40 Wh Wp = true := by kernel_rfl
def S0 : ACode :=
 (.seq (.reg [un (.mov 7 (.t 1)),
 un (.bin 8 .lss (.t 7) (.c (.int .i64 1))),
 un (.asg 9 (.t 8)),
 ⟨some (9, false), .mov 10 (.t 1)⟩,
 ⟨some (9, false), .bin 11 .gtr (.t 10) (.c (.int .i64 8))⟩,
 un (.pick 12 (.t 9) (.c (.bool true)) (.t 11))])
 (.drop [7, 8, 9, 10, 11] (.cond (.t 12) (.reg [un (.asg 1 (.c (.int .i64 1)))])
 .skip)))
def Lg : ACode :=
 (.seq (.seq (.reg [un (.mov 14 (.t 6)),
 un (.bin 15 .lss (.t 14) (.c (.int .i64 6)))])
 (.drop [14] (.cond (.t 15) .skip
 (.exit 0))))
 (.drop [14, 15] (.seq (.block 1 (.reg [un (.mov 18 (.t 5)),
 un (.mov 19 (.t 0)),
 un (.mov 20 (.t 6)),
 un (.bin 21 .add (.t 20) (.c (.int .i64 2))),
 un (.call 22 Rd [((.t 19), false), ((.t 21), false)]),
 un (.mov 23 (.t 1)),
 un (.bin 24 .rem (.t 22) (.t 23)),
 un (.bsl 25 1 [(.t 24)]),
 un (.app 26 1 (.t 18) (.t 25)),
 un (.asg 5 (.t 26))]))
 (.drop [18, 19, 20, 21, 22, 23, 24, 25, 26] (.reg [un (.mov 16 (.t 6)),
 un (.bin 17 .add (.t 16) (.c (.int .i64 1))),
 un (.asg 6 (.t 17))])))))
def Xm : ACode :=
 (.seq (.reg [un (.asg 4 (.c (.nilsl 1)))])
 (.seq (.cut S0)
 (.drop [7, 8, 9, 10, 11, 12] (.seq (.reg [un (.bsl 13 1 []),
 un (.asg 5 (.t 13))])
 (.drop [13] (.seq (.seq (.reg [un (.asg 6 (.c (.int .i64 0)))])
 (.block 0 (.loop Lg)))
 (.drop [6, 14, 15, 18, 19, 20, 21, 22, 23, 24, 25, 26, 16, 17] (.seq (.reg [un (.mov 27 (.t 5)),
 un (.asg 4 (.t 27))])
 (.drop [27] .ret)))))))))
abbrev Y2 : List RS := [.t 4]
theorem Y4 : Bd Try.prog Hz 28 Xm Y2 = true := by kernel_rfl
def Tj : ACode :=
 (.seq (.reg [un (.asg 4 (.c (.int .i64 0)))])
 (.seq (.seq (.reg [un (.mov 6 (.t 1)),
 un (.bin 7 .leq (.t 6) (.c (.int .i64 1)))])
 (.drop [6] (.cond (.t 7) (.seq (.reg [un (.asg 4 (.c (.int .i64 0)))])
 .ret)
 .skip)))
 (.drop [6, 7] (.seq (.reg [un (.mov 8 (.t 0)),
 un (.call 9 Fv [((.t 8), true)]),
 un (.asg 5 (.t 9))])
 (.drop [8, 9] (.seq (.seq (.reg [un (.mov 10 (.t 1)),
 un (.bin 11 .gtr (.t 10) (.c (.int .i64 200)))])
 (.drop [10] (.cond (.t 11) (.reg [un (.mov 12 (.t 5)),
 un (.bin 13 .mul (.t 12) (.c (.int .i64 256))),
 un (.mov 14 (.t 0)),
 un (.call 15 Fv [((.t 14), true)]),
 un (.bin 16 .add (.t 13) (.t 15)),
 un (.asg 5 (.t 16))])
 .skip)))
 (.drop [10, 11, 12, 13, 14, 15, 16] (.seq (.reg [un (.mov 17 (.t 5)),
 un (.mov 18 (.t 1)),
 un (.bin 19 .rem (.t 17) (.t 18)),
 un (.asg 4 (.t 19))])
 (.drop [17, 18, 19] .ret)))))))))
abbrev Th : List RS := [.t 4]
theorem Sv : Bd Try.prog Ao 20 Tj Th = true := by kernel_rfl
def Aaw : ACode :=
 (.seq (.reg [un (.box 2 (.t 0)),
 un (.asg 4 (.c (.bool false)))])
 (.seq (.reg [un (.mov 5 (.t 1)),
 un (.len 6 (.t 5)),
 un (.bin 7 .leq (.t 6) (.c (.int .i64 60))),
 un (.asg 8 (.t 7)),
 ⟨some (8, true), .ld 9 2 true (.t 2)⟩,
 ⟨some (8, true), .mov 10 (.t 1)⟩,
 ⟨some (8, true), .call 11 Hp [((.t 9), false), ((.t 10), false), ((.c (.int .i64 0)), false)]⟩,
 ⟨some (8, true), .mov 12 (.t 1)⟩,
 ⟨some (8, true), .len 13 (.t 12)⟩,
 ⟨some (8, true), .bin 14 .eql (.t 11) (.t 13)⟩,
 un (.pick 15 (.t 8) (.t 14) (.c (.bool false))),
 un (.asg 4 (.t 15))])
 (.drop [5, 6, 7, 8, 9, 10, 11, 12, 13, 14, 15] .ret)))
abbrev Aas : List RS := [.t 4]
theorem Aah : Bd Try.prog Gy 16 Aaw Aas = true := by kernel_rfl
def T4 : ACode :=
 (.seq (.reg [un (.box 4 (.t 0)),
 un (.asg 8 (.c (.nilsl 1)))])
 (.seq (.reg [un (.mov 10 (.t 1)),
 un (.mov 11 (.t 2)),
 un (.slc 12 1 (.t 10) none (some (.t 11))),
 un (.call 13 J5 [((.t 12), false)]),
 un (.mov 14 (.t 3)),
 un (.app 15 1 (.t 13) (.t 14)),
 un (.asg 9 (.t 15))])
 (.drop [10, 11, 12, 13, 14, 15] (.seq (.reg [un (.mov 16 (.t 9)),
 un (.mov 17 (.t 1)),
 un (.ld 18 2 true (.t 4)),
 un (.mov 19 (.t 1)),
 un (.mov 20 (.t 2)),
 un (.call 21 Hp [((.t 18), false), ((.t 19), false), ((.t 20), false)]),
 un (.slc 22 1 (.t 17) (some (.t 21)) none),
 un (.app 23 1 (.t 16) (.t 22)),
 un (.asg 8 (.t 23))])
 (.drop [16, 17, 18, 19, 20, 21, 22, 23] .ret)))))
abbrev Tt : List RS := [.t 8]
theorem Tl : Bd Try.prog Iw 24 T4 Tt = true := by kernel_rfl
def N6 : ACode :=
 (.seq (.seq (.reg [un (.mov 10 (.t 8)),
 un (.mov 11 (.t 1)),
 un (.len 12 (.t 11)),
 un (.bin 13 .lss (.t 10) (.t 12))])
 (.drop [10, 11, 12] (.cond (.t 13) .skip
 (.exit 0))))
 (.drop [10, 11, 12, 13] (.seq (.block 1 (.seq (.reg [un (.mov 16 (.t 7)),
 un (.bin 17 .sub (.t 16) (.c (.int .i64 1))),
 un (.asg 7 (.t 17))])
 (.drop [16, 17] (.seq (.seq (.reg [un (.mov 18 (.t 1)),
 un (.mov 19 (.t 8)),
 un (.iad 20 1 (.t 18) (.t 19)),
 un (.ld 21 1 false (.t 20)),
 un (.bin 22 .lss (.t 21) (.c (.int .i64 0)))])
 (.drop [18, 19, 20, 21] (.cond (.t 22) (.seq (.seq (.dreg [(un (.mov 23 (.t 1)), []),
 (un (.mov 24 (.t 8)), [23]),
 (un (.iad 25 1 (.t 23) (.t 24)), []),
 (un (.ld 26 1 false (.t 25)), []),
 (un (.fadr 27 1 (.t 3)), [23, 24, 25, 26]),
 (un (.ld 28 1 false (.t 27)), [23, 24, 25, 26]),
 (un (.len 29 (.t 28)), [23, 24, 25, 26]),
 (un (.un 30 .neg (.t 29)), [23, 24, 25, 26])]
 [un (.call 31 Fa [((.t 26), false), ((.t 30), false), ((.c (.int .i64 (-1))), false)]),
 un (.un 32 .not (.t 31))])
 (.drop [23, 24, 25, 26, 27, 28, 29, 30, 31] (.cond (.t 32) (.seq (.reg [un (.asg 6 (.c (.int .i64 (-1))))])
 .ret)
 .skip)))
 (.drop [23, 24, 25, 26, 27, 28, 29, 30, 31, 32] (.dreg [(un (.mov 33 (.t 7)), []),
 (un (.fadr 34 1 (.t 3)), [33]),
 (un (.ld 35 1 false (.t 34)), [33]),
 (un (.mov 36 (.t 1)), [33, 34, 35]),
 (un (.mov 37 (.t 8)), [33, 34, 35, 36]),
 (un (.iad 38 1 (.t 36) (.t 37)), [33, 34, 35]),
 (un (.ld 39 1 false (.t 38)), [33, 34, 35]),
 (un (.bin 40 .sub (.c (.int .i64 (-1))) (.t 39)), [33, 34, 35]),
 (un (.iad 41 2 (.t 35) (.t 40)), [33]),
 (un (.fadr 42 0 (.t 41)), [33]),
 (un (.ld 43 1 false (.t 42)), [33])]
 [un (.bin 44 .add (.t 33) (.t 43)),
 un (.asg 7 (.t 44))])))
 (.seq (.reg [un (.mov 45 (.t 1)),
 un (.mov 46 (.t 8)),
 un (.iad 47 1 (.t 45) (.t 46)),
 un (.ld 48 1 false (.t 47)),
 un (.bin 49 .geq (.t 48) (.c (.int .i64 6)))])
 (.drop [45, 46, 47, 48] (.cond (.t 49) (.seq (.reg [un (.asg 6 (.c (.int .i64 (-1))))])
 .ret)
 .skip))))))
 (.drop [18, 19, 20, 21, 22, 23, 24, 25, 26, 27, 28, 29, 30, 31, 32, 33, 34, 35, 36, 37, 38, 39, 40, 41, 42, 43, 44, 45, 46, 47, 48, 49] (.seq (.reg [un (.mov 50 (.t 7)),
 un (.bin 51 .eql (.t 50) (.c (.int .i64 0)))])
 (.drop [50] (.cond (.t 51) (.seq (.reg [un (.mov 52 (.t 8)),
 un (.bin 53 .add (.t 52) (.c (.int .i64 1))),
 un (.asg 6 (.t 53))])
 (.drop [52, 53] .ret))
 .skip))))))))
 (.drop [16, 17, 18, 19, 20, 21, 22, 23, 24, 25, 26, 27, 28, 29, 30, 31, 32, 33, 34, 35, 36, 37, 38, 39, 40, 41, 42, 43, 44, 45, 46, 47, 48, 49, 50, 51, 52, 53] (.reg [un (.mov 14 (.t 8)),
 un (.bin 15 .add (.t 14) (.c (.int .i64 1))),
 un (.asg 8 (.t 15))])))))
def Adx : ACode :=
 (.seq (.reg [un (.box 3 (.t 0)),
 un (.asg 6 (.c (.int .i64 0)))])
 (.seq (.reg [un (.asg 7 (.c (.int .i64 1)))])
 (.seq (.seq (.reg [un (.mov 9 (.t 2)),
 un (.asg 8 (.t 9))])
 (.drop [9] (.block 0 (.loop N6))))
 (.drop [9, 8, 10, 11, 12, 13, 16, 17, 18, 19, 20, 21, 22, 23, 24, 25, 26, 27, 28, 29, 30, 31, 32, 33, 34, 35, 36, 37, 38, 39, 40, 41, 42, 43, 44, 45, 46, 47, 48, 49, 50, 51, 52, 53, 14, 15] (.seq (.reg [un (.asg 6 (.c (.int .i64 (-1))))])
 .ret)))))
abbrev Ab5 : List RS := [.t 6]
theorem Acc : Bd Try.prog Ff 54 Adx Ab5 = true := by kernel_rfl
def Mq : ACode :=
 (.seq (.reg [un (.bin 18 .lss (.t 17) (.t 16))])
 (.seq (.cond (.t 18) .skip
 (.exit 2))
 (.seq (.block 3 (.seq (.reg [un (.iad 19 1 (.t 15) (.t 17)),
 un (.ld 20 1 false (.t 19)),
 un (.asg 7 (.t 20))])
 (.drop [19, 20] (.seq (.reg [un (.mov 21 (.t 7)),
 un (.bin 22 .geq (.t 21) (.c (.int .i64 0)))])
 (.drop [21] (.cond (.t 22) (.reg [un (.mov 23 (.t 3)),
 un (.mov 24 (.t 7)),
 un (.iad 25 1 (.t 23) (.t 24)),
 un (.st 1 (.t 25) (.c (.bool true)))])
 .skip))))))
 (.drop [19, 20, 7, 21, 22, 23, 24, 25] (.reg [un (.bin 26 .add (.t 17) (.c (.int .i64 1))),
 un (.asg 17 (.t 26))])))))
def Me : ACode :=
 (.seq (.reg [un (.bin 12 .lss (.t 11) (.t 10))])
 (.seq (.cond (.t 12) .skip
 (.exit 0))
 (.seq (.block 1 (.seq (.reg [un (.iad 13 1 (.t 9) (.t 11)),
 un (.ld 14 1 false (.t 13)),
 un (.asg 5 (.t 14))])
 (.drop [13, 14] (.seq (.reg [un (.mov 15 (.t 5)),
 un (.len 16 (.t 15)),
 un (.mov 17 (.c (.int .i64 0)))])
 (.block 2 (.loop Mq))))))
 (.drop [13, 14, 5, 15, 16, 17, 18, 19, 20, 7, 21, 22, 23, 24, 25, 26] (.reg [un (.bin 27 .add (.t 11) (.c (.int .i64 1))),
 un (.asg 11 (.t 27))])))))
def Zr : ACode :=
 (.seq (.reg [un (.asg 2 (.c (.nilsl 1)))])
 (.seq (.reg [un (.mk 8 1 (.bool false) (.c (.int .i64 6))),
 un (.asg 3 (.t 8))])
 (.drop [8] (.seq (.seq (.reg [un (.mov 9 (.t 0)),
 un (.len 10 (.t 9)),
 un (.mov 11 (.c (.int .i64 0)))])
 (.block 0 (.loop Me)))
 (.drop [9, 10, 11, 12, 13, 14, 5, 15, 16, 17, 18, 19, 20, 7, 21, 22, 23, 24, 25, 26, 27] (.seq (.reg [un (.mov 28 (.t 3)),
 un (.call 29 L8 [((.t 28), false)]),
 un (.asg 2 (.t 29))])
 (.drop [28, 29] .ret)))))))
abbrev Z8 : List RS := [.t 2]
theorem Aa5 : Bd Try.prog L0 30 Zr Z8 = true := by kernel_rfl
def M2 : ACode :=
 (.seq (.seq (.reg [un (.mov 6 (.t 4)),
 un (.mov 7 (.t 0)),
 un (.len 8 (.t 7)),
 un (.bin 9 .lss (.t 6) (.t 8))])
 (.drop [6, 7, 8] (.cond (.t 9) .skip
 (.exit 0))))
 (.drop [6, 7, 8, 9] (.seq (.block 1 (.seq (.reg [un (.mov 12 (.t 0)),
 un (.mov 13 (.t 4)),
 un (.iad 14 1 (.t 12) (.t 13)),
 un (.ld 15 1 false (.t 14)),
 un (.bin 16 .geq (.t 15) (.c (.int .i64 0)))])
 (.drop [12, 13, 14, 15] (.cond (.t 16) (.reg [un (.mov 17 (.t 3)),
 un (.mov 18 (.t 0)),
 un (.mov 19 (.t 4)),
 un (.iad 20 1 (.t 18) (.t 19)),
 un (.ld 21 1 false (.t 20)),
 un (.call 22 M8 [((.t 17), false), ((.t 21), false)]),
 un (.asgf 3 (.t 22))])
 .skip))))
 (.drop [12, 13, 14, 15, 16, 17, 18, 19, 20, 21, 22] (.reg [un (.mov 10 (.t 4)),
 un (.bin 11 .add (.t 10) (.c (.int .i64 1))),
 un (.asg 4 (.t 11))])))))
def Z1 : ACode :=
 (.seq (.reg [un (.asg 2 (.c (.nilsl 1)))])
 (.seq (.reg [un (.bsl 5 1 []),
 un (.asgf 3 (.t 5))])
 (.drop [5] (.seq (.seq (.reg [un (.asg 4 (.c (.int .i64 0)))])
 (.block 0 (.loop M2)))
 (.drop [4, 6, 7, 8, 9, 12, 13, 14, 15, 16, 17, 18, 19, 20, 21, 22, 10, 11] (.seq (.reg [un (.mov 23 (.t 3)),
 un (.asg 2 (.t 23))])
 (.drop [23] .ret)))))))
abbrev Aaa : List RS := [.t 2]
theorem Zn : Bd Try.prog Lt 24 Z1 Aaa = true := by kernel_rfl
def Y9 : ACode :=
 (.seq (.reg [un (.alc 2 (.agg [.int .i64 0, .nilsl 2]))])
 (.seq (.seq (.reg [un (.mov 3 (.t 0))])
 (.block 0 (.seq (.reg [un (.bin 5 .eql (.t 3) (.c (.int .i64 0))),
 un (.asg 4 (.t 5))])
 (.drop [5] (.cond (.t 4) (.seq (.reg [⟨none, .call 6 A6 [((.c (.str ⟨#[48, 48, 48, 49]⟩)), false)]⟩,
 un (.bsl 7 2 [(.t 6)]),
 un (.bld 8 [.int .i64 0, .nilsl 2] [(0, 1, (.c (.int .i64 2))), (1, 1, (.t 7))]),
 un (.st 2 (.t 2) (.t 8))])
 (.drop [6, 7, 8] .ret))
 (.seq (.reg [un (.bin 10 .eql (.t 3) (.c (.int .i64 1))),
 un (.asg 9 (.t 10))])
 (.drop [10] (.cond (.t 9) (.seq (.reg [⟨none, .call 11 A6 [((.c (.str ⟨#[48, 48, 48, 49]⟩)), false)]⟩,
 ⟨none, .call 12 A6 [((.c (.str ⟨#[48, 49, 49, 49]⟩)), false)]⟩,
 un (.bsl 13 2 [(.t 11), (.t 12)]),
 un (.bld 14 [.int .i64 0, .nilsl 2] [(0, 1, (.c (.int .i64 2))), (1, 1, (.t 13))]),
 un (.st 2 (.t 2) (.t 14))])
 (.drop [11, 12, 13, 14] .ret))
 (.seq (.reg [un (.bin 16 .eql (.t 3) (.c (.int .i64 2))),
 un (.asg 15 (.t 16))])
 (.drop [16] (.cond (.t 15) (.seq (.reg [⟨none, .call 17 A6 [((.c (.str ⟨#[48, 48, 48, 49]⟩)), false)]⟩,
 ⟨none, .call 18 A6 [((.c (.str ⟨#[48, 49, 49, 49]⟩)), false)]⟩,
 un (.bsl 19 1 [(.c (.int .i64 1)), (.c (.int .i64 0))]),
 un (.bld 20 [.int .i64 0, .nilsl 1] [(0, 1, (.c (.int .i64 1))), (1, 1, (.t 19))]),
 un (.bsl 21 2 [(.t 17), (.t 18), (.t 20)]),
 un (.bld 22 [.int .i64 0, .nilsl 2] [(0, 1, (.c (.int .i64 2))), (1, 1, (.t 21))]),
 un (.st 2 (.t 2) (.t 22))])
 (.drop [17, 18, 19, 20, 21, 22] .ret))
 (.seq (.reg [un (.bin 24 .eql (.t 3) (.c (.int .i64 3))),
 un (.asg 23 (.t 24))])
 (.drop [24] (.cond (.t 23) (.seq (.reg [un (.call 25 Gz [((.c (.int .i64 2)), false)]),
 un (.bsl 26 2 [(.t 25)]),
 un (.bld 27 [.int .i64 0, .nilsl 2] [(0, 1, (.c (.int .i64 2))), (1, 1, (.t 26))]),
 un (.st 2 (.t 2) (.t 27))])
 (.drop [25, 26, 27] .ret))
 (.seq (.reg [un (.bin 29 .eql (.t 3) (.c (.int .i64 4))),
 un (.asg 28 (.t 29))])
 (.drop [29] (.cond (.t 28) (.seq (.reg [⟨none, .call 30 A6 [((.c (.str ⟨#[48, 49, 50, 49, 50, 48, 50, 48, 49]⟩)), false)]⟩,
 un (.bsl 31 2 [(.t 30)]),
 un (.bld 32 [.int .i64 0, .nilsl 2] [(0, 1, (.c (.int .i64 3))), (1, 1, (.t 31))]),
 un (.st 2 (.t 2) (.t 32))])
 (.drop [30, 31, 32] .ret))
 (.seq (.reg [un (.bin 34 .eql (.t 3) (.c (.int .i64 5))),
 un (.asg 33 (.t 34))])
 (.drop [34] (.cond (.t 33) (.seq (.reg [⟨none, .call 35 A6 [((.c (.str ⟨#[48, 49, 48, 49, 49, 50, 48, 50, 50]⟩)), false)]⟩,
 un (.bsl 36 2 [(.t 35)]),
 un (.bld 37 [.int .i64 0, .nilsl 2] [(0, 1, (.c (.int .i64 3))), (1, 1, (.t 36))]),
 un (.st 2 (.t 2) (.t 37))])
 (.drop [35, 36, 37] .ret))
 (.seq (.reg [un (.bin 39 .eql (.t 3) (.c (.int .i64 6))),
 un (.asg 38 (.t 39))])
 (.drop [39] (.cond (.t 38) (.seq (.reg [⟨none, .call 40 A6 [((.c (.str ⟨#[48, 49, 50, 51, 49, 48, 51, 50, 50, 51, 48, 49, 51, 50, 49, 48]⟩)), false)]⟩,
 un (.bsl 41 2 [(.t 40)]),
 un (.bld 42 [.int .i64 0, .nilsl 2] [(0, 1, (.c (.int .i64 4))), (1, 1, (.t 41))]),
 un (.st 2 (.t 2) (.t 42))])
 (.drop [40, 41, 42] .ret))
 (.seq (.reg [un (.bin 44 .eql (.t 3) (.c (.int .i64 7))),
 un (.asg 43 (.t 44))])
 (.drop [44] (.cond (.t 43) (.seq (.reg [⟨none, .call 45 A6 [((.c (.str ⟨#[48, 48, 48, 48, 49, 49, 48, 49, 50]⟩)), false)]⟩,
 ⟨none, .call 46 A6 [((.c (.str ⟨#[48, 49, 50, 49, 49, 50, 50, 50, 50]⟩)), false)]⟩,
 un (.bsl 47 2 [(.t 45), (.t 46)]),
 un (.bld 48 [.int .i64 0, .nilsl 2] [(0, 1, (.c (.int .i64 3))), (1, 1, (.t 47))]),
 un (.st 2 (.t 2) (.t 48))])
 (.drop [45, 46, 47, 48] .ret))
 (.seq (.reg [un (.bin 50 .eql (.t 3) (.c (.int .i64 8))),
 un (.asg 49 (.t 50))])
 (.drop [50] (.cond (.t 49) (.seq (.reg [un (.bsl 51 1 [(.c (.int .i64 1)), (.c (.int .i64 2)), (.c (.int .i64 3)), (.c (.int .i64 0))]),
 un (.bld 52 [.int .i64 0, .nilsl 1] [(0, 1, (.c (.int .i64 1))), (1, 1, (.t 51))]),
 un (.bsl 53 2 [(.t 52)]),
 un (.bld 54 [.int .i64 0, .nilsl 2] [(0, 1, (.c (.int .i64 4))), (1, 1, (.t 53))]),
 un (.st 2 (.t 2) (.t 54))])
 (.drop [51, 52, 53, 54] .ret))
 (.seq (.reg [un (.bin 56 .eql (.t 3) (.c (.int .i64 9))),
 un (.asg 55 (.t 56))])
 (.drop [56] (.cond (.t 55) (.seq (.reg [un (.bsl 57 1 [(.c (.int .i64 0)), (.c (.int .i64 0)), (.c (.int .i64 0)), (.c (.int .i64 1)), (.c (.int .i64 0)), (.c (.int .i64 1)), (.c (.int .i64 1)), (.c (.int .i64 1))]),
 un (.bld 58 [.int .i64 0, .nilsl 1] [(0, 1, (.c (.int .i64 3))), (1, 1, (.t 57))]),
 un (.bsl 59 2 [(.t 58)]),
 un (.bld 60 [.int .i64 0, .nilsl 2] [(0, 1, (.c (.int .i64 2))), (1, 1, (.t 59))]),
 un (.st 2 (.t 2) (.t 60))])
 (.drop [57, 58, 59, 60] .ret))
 (.seq (.reg [un (.bin 62 .eql (.t 3) (.c (.int .i64 10))),
 un (.asg 61 (.t 62))])
 (.drop [62] (.cond (.t 61) (.seq (.reg [⟨none, .call 63 A6 [((.c (.str ⟨#[48, 48, 48, 49, 49, 49, 50, 50, 50]⟩)), false)]⟩,
 un (.bsl 64 2 [(.t 63)]),
 un (.bld 65 [.int .i64 0, .nilsl 2] [(0, 1, (.c (.int .i64 3))), (1, 1, (.t 64))]),
 un (.st 2 (.t 2) (.t 65))])
 (.drop [63, 64, 65] .ret))
 (.seq (.reg [un (.bin 67 .eql (.t 3) (.c (.int .i64 11))),
 un (.asg 66 (.t 67))])
 (.drop [67] (.cond (.t 66) (.seq (.reg [⟨none, .call 68 A6 [((.c (.str ⟨#[48, 48, 48, 48, 48, 48, 49, 48, 48, 49, 48, 48, 50, 48, 50, 48, 48, 48, 51, 51, 48, 49, 50, 51, 52]⟩)), false)]⟩,
 ⟨none, .call 69 A6 [((.c (.str ⟨#[48, 49, 50, 51, 52, 49, 49, 52, 52, 52, 50, 52, 50, 52, 52, 51, 52, 52, 51, 52, 52, 52, 52, 52, 52]⟩)), false)]⟩,
 un (.bsl 70 2 [(.t 68), (.t 69)]),
 un (.bld 71 [.int .i64 0, .nilsl 2] [(0, 1, (.c (.int .i64 5))), (1, 1, (.t 70))]),
 un (.st 2 (.t 2) (.t 71))])
 (.drop [68, 69, 70, 71] .ret))
 (.seq (.reg [un (.bin 73 .eql (.t 3) (.c (.int .i64 12))),
 un (.asg 72 (.t 73))])
 (.drop [73] (.cond (.t 72) (.seq (.reg [⟨none, .call 74 A6 [((.c (.str ⟨#[48, 49, 50, 51, 49, 50, 51, 48, 50, 51, 48, 49, 51, 48, 49, 50]⟩)), false)]⟩,
 un (.bsl 75 2 [(.t 74)]),
 un (.bld 76 [.int .i64 0, .nilsl 2] [(0, 1, (.c (.int .i64 4))), (1, 1, (.t 75))]),
 un (.st 2 (.t 2) (.t 76))])
 (.drop [74, 75, 76] .ret))
 (.seq (.reg [un (.bin 78 .eql (.t 3) (.c (.int .i64 13))),
 un (.asg 77 (.t 78))])
 (.drop [78] (.cond (.t 77) (.seq (.reg [un (.bsl 79 1 [(.c (.int .i64 0)), (.c (.int .i64 0)), (.c (.int .i64 1))]),
 un (.bld 80 [.int .i64 0, .nilsl 1] [(0, 1, (.c (.int .i64 1))), (1, 1, (.t 79))]),
 un (.bsl 81 1 [(.c (.int .i64 2))]),
 un (.bld 82 [.int .i64 0, .nilsl 1] [(0, 1, (.c (.int .i64 0))), (1, 1, (.t 81))]),
 un (.bsl 83 2 [(.t 80), (.t 82)]),
 un (.bld 84 [.int .i64 0, .nilsl 2] [(0, 1, (.c (.int .i64 3))), (1, 1, (.t 83))]),
 un (.st 2 (.t 2) (.t 84))])
 (.drop [79, 80, 81, 82, 83, 84] .ret))
 (.seq (.reg [un (.bin 86 .eql (.t 3) (.c (.int .i64 14))),
 un (.asg 85 (.t 86))])
 (.drop [86] (.cond (.t 85) (.seq (.reg [⟨none, .call 87 A6 [((.c (.str ⟨#[48]⟩)), false)]⟩,
 un (.bsl 88 2 [(.t 87)]),
 un (.bld 89 [.int .i64 0, .nilsl 2] [(0, 1, (.c (.int .i64 1))), (1, 1, (.t 88))]),
 un (.st 2 (.t 2) (.t 89))])
 (.drop [87, 88, 89] .ret))
 (.seq (.reg [un (.bin 91 .eql (.t 3) (.c (.int .i64 15))),
 un (.asg 90 (.t 91))])
 (.drop [91] (.cond (.t 90) (.seq (.reg [un (.call 92 Gz [((.c (.int .i64 3)), false)]),
 un (.bsl 93 2 [(.t 92)]),
 un (.bld 94 [.int .i64 0, .nilsl 2] [(0, 1, (.c (.int .i64 3))), (1, 1, (.t 93))]),
 un (.st 2 (.t 2) (.t 94))])
 (.drop [92, 93, 94] .ret))
 .skip))))))))))))))))))))))))))))))))))))))))))))))))))
 (.drop [3, 5, 4, 6, 7, 8, 10, 9, 11, 12, 13, 14, 16, 15, 17, 18, 19, 20, 21, 22, 24, 23, 25, 26, 27, 29, 28, 30, 31, 32, 34, 33, 35, 36, 37, 39, 38, 40, 41, 42, 44, 43, 45, 46, 47, 48, 50, 49, 51, 52, 53, 54, 56, 55, 57, 58, 59, 60, 62, 61, 63, 64, 65, 67, 66, 68, 69, 70, 71, 73, 72, 74, 75, 76, 78, 77, 79, 80, 81, 82, 83, 84, 86, 85, 87, 88, 89, 91, 90, 92, 93, 94] (.seq (.reg [un (.bld 95 [.int .i64 0, .nilsl 2] [(0, 1, (.c (.int .i64 2)))]),
 un (.st 2 (.t 2) (.t 95))])
 (.drop [95] .ret)))))
abbrev Xg : List RS := [.c 2 2 true]
theorem Xu : Bd Try.prog Kv 96 Y9 Xg = true := by kernel_rfl
def Aeh : ACode :=
 (.seq (.reg [un (.box 2 (.t 0)),
 un (.asg 4 (.c (.bool false)))])
 (.seq (.dreg [(un (.fadr 5 0 (.t 2)), []),
 (un (.ld 6 1 false (.t 5)), []),
 (un (.bin 7 .geq (.t 6) (.c (.int .i64 0))), []),
 (un (.asg 8 (.t 7)), []),
 (⟨some (8, true), .fadr 9 0 (.t 2)⟩, [7]),
 (⟨some (8, true), .ld 10 1 false (.t 9)⟩, [7]),
 (⟨some (8, true), .bin 11 .leq (.t 10) (.c (.int .i64 3))⟩, [7]),
 (un (.pick 12 (.t 8) (.t 11) (.c (.bool false))), [7]),
 (un (.asg 13 (.t 12)), [7]),
 (⟨some (13, true), .fadr 14 1 (.t 2)⟩, [7, 12]),
 (⟨some (13, true), .ld 15 1 false (.t 14)⟩, [7, 12]),
 (⟨some (13, true), .len 16 (.t 15)⟩, [7, 12]),
 (⟨some (13, true), .mov 17 (.t 1)⟩, [14, 15, 16, 7, 12]),
 (⟨some (13, true), .fadr 18 0 (.t 2)⟩, [14, 15, 16, 17, 7, 12]),
 (⟨some (13, true), .ld 19 1 false (.t 18)⟩, [14, 15, 16, 17, 7, 12]),
 (⟨some (13, true), .call 20 Ns [((.t 17), false), ((.t 19), false)]⟩, [14, 15, 16, 7, 12]),
 (⟨some (13, true), .bin 21 .eql (.t 16) (.t 20)⟩, [7, 12]),
 (un (.pick 22 (.t 13) (.t 21) (.c (.bool false))), [7, 12]),
 (un (.asg 23 (.t 22)), [7, 12]),
 (⟨some (23, true), .fadr 24 1 (.t 2)⟩, [7, 12, 22]),
 (⟨some (23, true), .ld 25 1 false (.t 24)⟩, [7, 12, 22]),
 (⟨some (23, true), .mov 26 (.t 1)⟩, [24, 25, 7, 12, 22])]
 [⟨some (23, true), .call 27 I4 [((.t 25), false), ((.t 26), false)]⟩,
 un (.pick 28 (.t 23) (.t 27) (.c (.bool false))),
 un (.asg 4 (.t 28))])
 (.drop [5, 6, 7, 8, 9, 10, 11, 12, 13, 14, 15, 16, 17, 18, 19, 20, 21, 22, 23, 24, 25, 26, 27, 28] .ret)))
abbrev Ad2 : List RS := [.t 4]
theorem Afw : Bd Try.prog Pu 29 Aeh Ad2 = true := by kernel_rfl
def Ye : ACode :=
 (.seq (.dreg [(un (.fadr 6 0 (.t 3)), []),
 (un (.ld 7 1 false (.t 6)), []),
 (un (.call 8 Fa [((.t 7), false), ((.c (.int .i64 0)), false), ((.c (.int .i64 3)), false)]), []),
 (un (.un 9 .not (.t 8)), []),
 (un (.asg 10 (.t 9)), []),
 (⟨some (10, false), .fadr 11 1 (.t 3)⟩, [9]),
 (⟨some (10, false), .ld 12 1 false (.t 11)⟩, [9]),
 (⟨some (10, false), .len 13 (.t 12)⟩, [9]),
 (⟨some (10, false), .mov 14 (.t 0)⟩, [11, 12, 13, 9]),
 (⟨some (10, false), .fadr 15 0 (.t 3)⟩, [11, 12, 13, 14, 9]),
 (⟨some (10, false), .ld 16 1 false (.t 15)⟩, [11, 12, 13, 14, 9]),
 (⟨some (10, false), .call 17 J4 [((.t 14), false), ((.t 16), false)]⟩, [11, 12, 13, 9])]
 [⟨some (10, false), .bin 18 .neq (.t 13) (.t 17)⟩,
 un (.pick 19 (.t 10) (.c (.bool true)) (.t 18))])
 (.drop [6, 7, 8, 9, 10, 11, 12, 13, 14, 15, 16, 17, 18] (.cond (.t 19) (.seq (.reg [un (.asg 4 (.c (.bool false)))])
 .ret)
 .skip)))
def Po : ACode :=
 (.seq (.seq (.reg [un (.mov 20 (.t 5)),
 un (.fadr 21 1 (.t 3)),
 un (.ld 22 1 false (.t 21)),
 un (.len 23 (.t 22)),
 un (.bin 24 .lss (.t 20) (.t 23))])
 (.drop [20, 21, 22, 23] (.cond (.t 24) .skip
 (.exit 0))))
 (.drop [20, 21, 22, 23, 24] (.seq (.block 1 (.seq (.reg [un (.fadr 27 1 (.t 3)),
 un (.ld 28 1 false (.t 27)),
 un (.mov 29 (.t 5)),
 un (.iad 30 1 (.t 28) (.t 29)),
 un (.ld 31 1 false (.t 30)),
 un (.mov 32 (.t 0)),
 un (.bin 33 .sub (.t 32) (.c (.int .i64 1))),
 un (.call 34 Fa [((.t 31), false), ((.c (.int .i64 0)), false), ((.t 33), false)]),
 un (.un 35 .not (.t 34))])
 (.drop [27, 28, 29, 30, 31, 32, 33, 34] (.cond (.t 35) (.seq (.reg [un (.asg 4 (.c (.bool false)))])
 .ret)
 .skip))))
 (.drop [27, 28, 29, 30, 31, 32, 33, 34, 35] (.reg [un (.mov 25 (.t 5)),
 un (.bin 26 .add (.t 25) (.c (.int .i64 1))),
 un (.asg 5 (.t 26))])))))
def Af5 : ACode :=
 (.seq (.reg [un (.box 3 (.t 1)),
 un (.asg 4 (.c (.bool false)))])
 (.seq (.cut Ye)
 (.drop [6, 7, 8, 9, 10, 11, 12, 13, 14, 15, 16, 17, 18, 19] (.seq (.seq (.reg [un (.asg 5 (.c (.int .i64 0)))])
 (.block 0 (.loop Po)))
 (.drop [5, 20, 21, 22, 23, 24, 27, 28, 29, 30, 31, 32, 33, 34, 35, 25, 26] (.seq (.reg [un (.asg 4 (.c (.bool true)))])
 .ret))))))
abbrev Aed : List RS := [.t 4]
theorem Aeu : Bd Try.prog On 36 Af5 Aed = true := by kernel_rfl
def Kg : ACode :=
 (.seq (.reg [un (.bin 10 .lss (.t 9) (.t 8))])
 (.seq (.cond (.t 10) .skip
 (.exit 0))
 (.seq (.block 1 (.seq (.reg [un (.iad 11 1 (.t 7) (.t 9)),
 un (.ld 12 1 false (.t 11)),
 un (.asg 6 (.t 12))])
 (.drop [11, 12] (.seq (.reg [un (.ld 13 2 true (.t 2)),
 un (.mov 14 (.t 6)),
 un (.call 15 Gy [((.t 13), false), ((.t 14), false)]),
 un (.un 16 .not (.t 15))])
 (.drop [13, 14, 15] (.cond (.t 16) (.seq (.reg [un (.asg 4 (.c (.bool false)))])
 .ret)
 .skip))))))
 (.drop [11, 12, 6, 13, 14, 15, 16] (.reg [un (.bin 17 .add (.t 9) (.c (.int .i64 1))),
 un (.asg 9 (.t 17))])))))
def We : ACode :=
 (.seq (.reg [un (.box 2 (.t 0)),
 un (.asg 4 (.c (.bool false)))])
 (.seq (.seq (.reg [un (.mov 7 (.t 1)),
 un (.len 8 (.t 7)),
 un (.mov 9 (.c (.int .i64 0)))])
 (.block 0 (.loop Kg)))
 (.drop [7, 8, 9, 10, 11, 12, 6, 13, 14, 15, 16, 17] (.seq (.reg [un (.asg 4 (.c (.bool true)))])
 .ret))))
abbrev V4 : List RS := [.t 4]
theorem Wk : Bd Try.prog Jy 18 We V4 = true := by kernel_rfl
def Aad : ACode :=
 (.seq (.reg [un (.box 2 (.t 0)),
 un (.asg 4 (.c (.bool false)))])
 (.seq (.reg [un (.mov 5 (.t 1)),
 un (.len 6 (.t 5)),
 un (.bin 7 .gtr (.t 6) (.c (.int .i64 0))),
 un (.asg 8 (.t 7)),
 ⟨some (8, true), .mov 9 (.t 1)⟩,
 ⟨some (8, true), .len 10 (.t 9)⟩,
 ⟨some (8, true), .bin 11 .leq (.t 10) (.c (.int .i64 60))⟩,
 un (.pick 12 (.t 8) (.t 11) (.c (.bool false))),
 un (.asg 13 (.t 12)),
 ⟨some (13, true), .ld 14 2 true (.t 2)⟩,
 ⟨some (13, true), .mov 15 (.t 1)⟩,
 ⟨some (13, true), .call 16 Ff [((.t 14), false), ((.t 15), false), ((.c (.int .i64 0)), false)]⟩,
 ⟨some (13, true), .mov 17 (.t 1)⟩,
 ⟨some (13, true), .len 18 (.t 17)⟩,
 ⟨some (13, true), .bin 19 .eql (.t 16) (.t 18)⟩,
 un (.pick 20 (.t 13) (.t 19) (.c (.bool false))),
 un (.asg 4 (.t 20))])
 (.drop [5, 6, 7, 8, 9, 10, 11, 12, 13, 14, 15, 16, 17, 18, 19, 20] .ret)))
abbrev Aag : List RS := [.t 4]
theorem Aaz : Bd Try.prog Gn 21 Aad Aag = true := by kernel_rfl
def Aaq : ACode :=
 (.seq (.reg [un (.box 4 (.t 0)),
 un (.asg 8 (.c (.nilsl 1)))])
 (.seq (.dreg [(un (.mov 9 (.t 1)), []),
 (un (.mov 10 (.t 2)), [9]),
 (un (.slc 11 1 (.t 9) none (some (.t 10))), []),
 (un (.call 12 Hl [((.t 11), false)]), []),
 (un (.mov 13 (.t 3)), [9, 10, 11, 12]),
 (un (.app 14 1 (.t 12) (.t 13)), []),
 (un (.mov 15 (.t 1)), [9, 10, 11, 12, 13, 14, 12]),
 (un (.ld 16 2 true (.t 4)), [9, 10, 11, 12, 13, 14, 15, 12]),
 (un (.mov 17 (.t 1)), [9, 10, 11, 12, 13, 14, 15, 16, 12]),
 (un (.mov 18 (.t 2)), [9, 10, 11, 12, 13, 14, 15, 16, 17, 12]),
 (un (.call 19 Ff [((.t 16), false), ((.t 17), false), ((.t 18), false)]), [15, 12])]
 [un (.slc 20 1 (.t 15) (some (.t 19)) none),
 un (.app 21 1 (.t 14) (.t 20)),
 un (.asg 8 (.t 21))])
 (.drop [9, 10, 11, 12, 13, 14, 15, 16, 17, 18, 19, 20, 21] .ret)))
abbrev Aa6 : List RS := [.t 8]
theorem Aau : Bd Try.prog Lu 22 Aaq Aa6 = true := by kernel_rfl
def Qi : ACode :=
 (.seq (.reg [un (.fadr 5 0 (.t 1)),
 un (.ld 6 1 false (.t 5)),
 un (.bin 7 .lss (.t 6) (.c (.int .i64 1))),
 un (.asg 8 (.t 7)),
 ⟨some (8, false), .fadr 9 0 (.t 1)⟩,
 ⟨some (8, false), .ld 10 1 false (.t 9)⟩,
 ⟨some (8, false), .bin 11 .gtr (.t 10) (.c (.int .i64 8))⟩,
 un (.pick 12 (.t 8) (.c (.bool true)) (.t 11)),
 un (.asg 13 (.t 12)),
 ⟨some (13, false), .fadr 14 1 (.t 1)⟩,
 ⟨some (13, false), .ld 15 1 false (.t 14)⟩,
 ⟨some (13, false), .len 16 (.t 15)⟩,
 ⟨some (13, false), .bin 17 .gtr (.t 16) (.c (.int .i64 4))⟩,
 un (.pick 18 (.t 13) (.c (.bool true)) (.t 17))])
 (.drop [5, 6, 7, 8, 9, 10, 11, 12, 13, 14, 15, 16, 17] (.cond (.t 18) (.seq (.reg [un (.asg 2 (.c (.bool false)))])
 .ret)
 .skip)))
def Jz : ACode :=
 (.seq (.reg [un (.bin 23 .lss (.t 22) (.t 21))])
 (.seq (.cond (.t 23) .skip
 (.exit 0))
 (.seq (.block 1 (.seq (.reg [un (.iad 24 2 (.t 20) (.t 22)),
 un (.ld 25 2 true (.t 24)),
 un (.alc 4 (.agg [.int .i64 0, .nilsl 1])),
 un (.st 2 (.t 4) (.t 25))])
 (.drop [24, 25] (.seq (.reg [un (.ld 26 2 true (.t 4)),
 un (.fadr 27 0 (.t 1)),
 un (.ld 28 1 false (.t 27)),
 un (.call 29 Pu [((.t 26), false), ((.t 28), false)]),
 un (.un 30 .not (.t 29))])
 (.drop [26, 27, 28, 29] (.cond (.t 30) (.seq (.reg [un (.asg 2 (.c (.bool false)))])
 .ret)
 .skip))))))
 (.drop [24, 25, 4, 26, 27, 28, 29, 30] (.reg [un (.bin 31 .add (.t 22) (.c (.int .i64 1))),
 un (.asg 22 (.t 31))])))))
def Uu : ACode :=
 (.seq (.reg [un (.box 1 (.t 0)),
 un (.asg 2 (.c (.bool false)))])
 (.seq (.cut Qi)
 (.drop [5, 6, 7, 8, 9, 10, 11, 12, 13, 14, 15, 16, 17, 18] (.seq (.seq (.reg [un (.fadr 19 1 (.t 1)),
 un (.ld 20 1 false (.t 19)),
 un (.len 21 (.t 20)),
 un (.mov 22 (.c (.int .i64 0)))])
 (.drop [19] (.block 0 (.loop Jz))))
 (.drop [19, 20, 21, 22, 23, 24, 25, 4, 26, 27, 28, 29, 30, 31] (.seq (.reg [un (.asg 2 (.c (.bool true)))])
 .ret))))))
abbrev T6 : List RS := [.t 2]
theorem Tz : Bd Try.prog Il 32 Uu T6 = true := by kernel_rfl
def Uk : ACode :=
 (.seq (.reg [un (.fadr 4 0 (.t 1)),
 un (.ld 5 1 false (.t 4)),
 un (.call 6 Fa [((.t 5), false), ((.c (.int .i64 1)), false), ((.c (.int .i64 8)), false)]),
 un (.un 7 .not (.t 6)),
 un (.asg 8 (.t 7)),
 ⟨some (8, false), .fadr 9 1 (.t 1)⟩,
 ⟨some (8, false), .ld 10 1 false (.t 9)⟩,
 ⟨some (8, false), .len 11 (.t 10)⟩,
 ⟨some (8, false), .bin 12 .gtr (.t 11) (.c (.int .i64 4))⟩,
 un (.pick 13 (.t 8) (.c (.bool true)) (.t 12))])
 (.drop [4, 5, 6, 7, 8, 9, 10, 11, 12] (.cond (.t 13) (.seq (.reg [un (.asg 2 (.c (.bool false)))])
 .ret)
 .skip)))
def Mc : ACode :=
 (.seq (.seq (.reg [un (.mov 14 (.t 3)),
 un (.fadr 15 1 (.t 1)),
 un (.ld 16 1 false (.t 15)),
 un (.len 17 (.t 16)),
 un (.bin 18 .lss (.t 14) (.t 17))])
 (.drop [14, 15, 16, 17] (.cond (.t 18) .skip
 (.exit 0))))
 (.drop [14, 15, 16, 17, 18] (.seq (.block 1 (.seq (.dreg [(un (.fadr 21 0 (.t 1)), []),
 (un (.ld 22 1 false (.t 21)), []),
 (un (.fadr 23 1 (.t 1)), [21, 22]),
 (un (.ld 24 1 false (.t 23)), [21, 22]),
 (un (.mov 25 (.t 3)), [21, 22, 23, 24]),
 (un (.iad 26 2 (.t 24) (.t 25)), [21, 22]),
 (un (.ld 27 2 true (.t 26)), [21, 22])]
 [un (.call 28 On [((.t 22), false), ((.t 27), false)]),
 un (.un 29 .not (.t 28))])
 (.drop [21, 22, 23, 24, 25, 26, 27, 28] (.cond (.t 29) (.seq (.reg [un (.asg 2 (.c (.bool false)))])
 .ret)
 .skip))))
 (.drop [21, 22, 23, 24, 25, 26, 27, 28, 29] (.reg [un (.mov 19 (.t 3)),
 un (.bin 20 .add (.t 19) (.c (.int .i64 1))),
 un (.asg 3 (.t 20))])))))
def Aa7 : ACode :=
 (.seq (.reg [un (.box 1 (.t 0)),
 un (.asg 2 (.c (.bool false)))])
 (.seq (.cut Uk)
 (.drop [4, 5, 6, 7, 8, 9, 10, 11, 12, 13] (.seq (.seq (.reg [un (.asg 3 (.c (.int .i64 0)))])
 (.block 0 (.loop Mc)))
 (.drop [3, 14, 15, 16, 17, 18, 21, 22, 23, 24, 25, 26, 27, 28, 29, 19, 20] (.seq (.reg [un (.asg 2 (.c (.bool true)))])
 .ret))))))
abbrev Zm : List RS := [.t 2]
theorem Z4 : Bd Try.prog I8 30 Aa7 Zm = true := by kernel_rfl
def U9 : ACode :=
 (.seq (.reg [un (.asg 4 (.c (.bool false)))])
 (.seq (.reg [un (.mov 5 (.t 0)),
 un (.mov 6 (.t 1)),
 un (.call 7 Ao [((.t 5), true), ((.t 6), false)]),
 un (.bin 8 .eql (.t 7) (.c (.int .i64 0))),
 un (.asg 4 (.t 8))])
 (.drop [5, 6, 7, 8] .ret)))
abbrev T1 : List RS := [.t 4]
theorem Um : Bd Try.prog Er 9 U9 T1 = true := by kernel_rfl
def Rl : ACode :=
 (.seq (.reg [un (.asg 4 (.c (.int .i64 0)))])
 (.seq (.reg [un (.mov 5 (.t 1)),
 un (.mov 6 (.t 0)),
 un (.mov 7 (.t 1)),
 un (.len 8 (.t 7)),
 un (.call 9 Ao [((.t 6), true), ((.t 8), false)]),
 un (.iad 10 1 (.t 5) (.t 9)),
 un (.ld 11 1 false (.t 10)),
 un (.asg 4 (.t 11))])
 (.drop [5, 6, 7, 8, 9, 10, 11] .ret)))
abbrev Rr : List RS := [.t 4]
theorem Rn : Bd Try.prog Am 12 Rl Rr = true := by kernel_rfl
def Lp : ACode :=
 (.seq (.seq (.reg [un (.mov 8 (.t 6)),
 un (.mov 9 (.t 1)),
 un (.len 10 (.t 9)),
 un (.bin 11 .lss (.t 8) (.t 10))])
 (.drop [8, 9, 10] (.cond (.t 11) .skip
 (.exit 0))))
 (.drop [8, 9, 10, 11] (.seq (.block 1 (.reg [un (.mov 16 (.t 5)),
 un (.mov 17 (.t 1)),
 un (.mov 18 (.t 6)),
 un (.ld 19 2 true (.t 2)),
 un (.mov 20 (.t 1)),
 un (.mov 21 (.t 6)),
 un (.call 22 Ff [((.t 19), false), ((.t 20), false), ((.t 21), false)]),
 un (.slc 23 1 (.t 17) (some (.t 18)) (some (.t 22))),
 un (.call 24 Hl [((.t 23), false)]),
 un (.bsl 25 1 [(.t 24)]),
 un (.app 26 1 (.t 16) (.t 25)),
 un (.asg 5 (.t 26))]))
 (.drop [16, 17, 18, 19, 20, 21, 22, 23, 24, 25, 26] (.reg [un (.ld 12 2 true (.t 2)),
 un (.mov 13 (.t 1)),
 un (.mov 14 (.t 6)),
 un (.call 15 Ff [((.t 12), false), ((.t 13), false), ((.t 14), false)]),
 un (.asg 6 (.t 15))])))))
def Xc : ACode :=
 (.seq (.reg [un (.box 2 (.t 0)),
 un (.asg 4 (.c (.nilsl 1)))])
 (.seq (.reg [un (.bsl 7 1 []),
 un (.asg 5 (.t 7))])
 (.drop [7] (.seq (.seq (.reg [un (.asg 6 (.c (.int .i64 1)))])
 (.block 0 (.loop Lp)))
 (.drop [6, 8, 9, 10, 11, 16, 17, 18, 19, 20, 21, 22, 23, 24, 25, 26, 12, 13, 14, 15] (.seq (.reg [un (.mov 27 (.t 5)),
 un (.asg 4 (.t 27))])
 (.drop [27] .ret)))))))
abbrev Wy : List RS := [.t 4]
theorem Xe : Bd Try.prog Ku 28 Xc Wy = true := by kernel_rfl
def Z6 : ACode :=
 (.seq (.reg [un (.box 2 (.t 0)),
 un (.asg 4 (.c (.bool false)))])
 (.seq (.reg [un (.ld 5 2 true (.t 2)),
 un (.call 6 Il [((.t 5), false)]),
 un (.asg 7 (.t 6)),
 ⟨some (7, true), .ld 8 2 true (.t 2)⟩,
 ⟨some (7, true), .mov 9 (.t 1)⟩,
 ⟨some (7, true), .call 10 Gy [((.t 8), false), ((.t 9), false)]⟩,
 un (.pick 11 (.t 7) (.t 10) (.c (.bool false))),
 un (.asg 4 (.t 11))])
 (.drop [5, 6, 7, 8, 9, 10, 11] .ret)))
abbrev Aap : List RS := [.t 4]
theorem Z0 : Bd Try.prog C8 12 Z6 Aap = true := by kernel_rfl
def Mm : ACode :=
 (.seq (.reg [un (.mov 32 (.t 4)),
 un (.bin 33 .eql (.t 32) (.c (.int .i64 4))),
 un (.asg 34 (.t 33)),
 ⟨some (34, true), .fadr 35 0 (.t 7)⟩,
 ⟨some (34, true), .ld 36 1 false (.t 35)⟩,
 ⟨some (34, true), .bin 37 .eql (.t 36) (.c (.int .i64 3))⟩,
 un (.pick 38 (.t 34) (.t 37) (.c (.bool false)))])
 (.drop [32, 33, 34, 35, 36, 37] (.cond (.t 38) (.reg [un (.fadr 39 0 (.t 7)),
 un (.st 1 (.t 39) (.c (.int .i64 2)))])
 .skip)))
def Hd : ACode :=
 (.seq (.seq (.reg [un (.mov 44 (.t 8)),
 un (.bin 45 .gtr (.t 44) (.c (.int .i64 0)))])
 (.drop [44] (.cond (.t 45) .skip
 (.exit 2))))
 (.drop [44, 45] (.seq (.block 3 (.dreg [(un (.fadr 48 1 (.t 7)), [132, 52]),
 (un (.ld 49 1 false (.t 48)), [132, 52]),
 (un (.mov 50 (.t 0)), [48, 49]),
 (un (.mov 51 (.t 4)), [48, 49, 50]),
 (un (.call 52 Ao [((.t 50), true), ((.t 51), false)]), [132, 48, 49]),
 (un (.bsl 53 1 [(.t 52)]), [48, 49])]
 [un (.app 54 1 (.t 49) (.t 53)),
 un (.fadr 55 1 (.t 7)),
 un (.st 1 (.t 55) (.t 54))]))
 (.drop [48, 49, 50, 51, 52, 53, 54, 55] (.reg [un (.mov 46 (.t 8)),
 un (.bin 47 .sub (.t 46) (.c (.int .i64 1))),
 un (.asg 8 (.t 47))])))))
def Ha : ACode :=
 (.seq (.seq (.reg [un (.mov 24 (.t 6)),
 un (.bin 25 .gtr (.t 24) (.c (.int .i64 0)))])
 (.drop [24] (.cond (.t 25) .skip
 (.exit 0))))
 (.drop [24, 25] (.seq (.block 1 (.seq (.reg [un (.mov 28 (.t 0)),
 un (.bsl 29 1 [(.c (.int .i64 0)), (.c (.int .i64 1)), (.c (.int .i64 2)), (.c (.int .i64 2)), (.c (.int .i64 3))]),
 un (.call 30 Am [((.t 28), true), ((.t 29), false)]),
 un (.bld 31 [.int .i64 0, .nilsl 1] [(0, 1, (.t 30))]),
 un (.alc 7 (.agg [.int .i64 0, .nilsl 1])),
 un (.st 2 (.t 7) (.t 31))])
 (.drop [28, 29, 30, 31] (.seq (.cut Mm)
 (.drop [32, 33, 34, 35, 36, 37, 38, 39] (.seq (.seq (.reg [un (.mov 40 (.t 4)),
 un (.fadr 41 0 (.t 7)),
 un (.ld 42 1 false (.t 41)),
 un (.call 43 J4 [((.t 40), false), ((.t 42), false)]),
 un (.asg 8 (.t 43))])
 (.drop [40, 41, 42, 43] (.block 2 (.loop Hd))))
 (.drop [40, 41, 42, 43, 8, 44, 45, 48, 49, 50, 51, 52, 53, 54, 55, 46, 47] (.reg [un (.fadr 56 1 (.t 5)),
 un (.ld 57 1 false (.t 56)),
 un (.ld 58 2 true (.t 7)),
 un (.bsl 59 2 [(.t 58)]),
 un (.app 60 2 (.t 57) (.t 59)),
 un (.fadr 61 1 (.t 5)),
 un (.st 1 (.t 61) (.t 60))]))))))))
 (.drop [28, 29, 30, 31, 7, 32, 33, 34, 35, 36, 37, 38, 39, 40, 41, 42, 43, 8, 44, 45, 48, 49, 50, 51, 52, 53, 54, 55, 46, 47, 56, 57, 58, 59, 60, 61] (.reg [un (.mov 26 (.t 6)),
 un (.bin 27 .sub (.t 26) (.c (.int .i64 1))),
 un (.asg 6 (.t 27))])))))
def Hb : ACode :=
 (.seq (.seq (.dreg [(un (.fadr 116 1 (.t 5)), [132]),
 (un (.ld 117 1 false (.t 116)), [132]),
 (un (.len 118 (.t 117)), [132]),
 (un (.mov 119 (.t 0)), [116, 117, 118]),
 (un (.call 120 Ao [((.t 119), true), ((.c (.int .i64 2)), false)]), [132, 116, 117, 118]),
 (un (.bin 121 .add (.c (.int .i64 4)) (.t 120)), [116, 117, 118])]
 [un (.bin 122 .lss (.t 118) (.t 121))])
 (.drop [116, 117, 118, 119, 120, 121] (.cond (.t 122) .skip
 (.exit 5))))
 (.drop [116, 117, 118, 119, 120, 121, 122] (.block 6 (.dregl [(0, .fadr 123 1 (.t 5)),
 (1, .ld 124 1 false (.t 123)),
 (2, .mov 125 (.t 4))]
 (.alt 3 (.mk 126 1 (.int .i64 0) (.t 125)) [0, 1, 2] [] (.alt 4 (.bld 127 [.int .i64 0, .nilsl 1] [(0, 1, (.c (.int .i64 1))), (1, 1, (.t 126))]) [0, 1] [] (.alt 5 (.bsl 128 2 [(.t 127)]) [0, 1] [] (.alt 6 (.app 129 2 (.t 124) (.t 128)) [0, 1] [124] (.alt 7 (.fadr 130 1 (.t 5)) [] [] (.alt 8 (.st 1 (.t 130) (.t 129)) [] [] .nil .nil) .nil) .nil) .nil) .nil) .nil)))))
def Om : ACode :=
 (.seq (.reg [un (.alc 2 (.agg [.int .i64 0, .nilsl 2]))])
 (.seq (.seq (.reg [un (.mov 9 (.t 0)),
 un (.call 10 Er [((.t 9), true), ((.c (.int .i64 4)), false)]),
 un (.un 11 .not (.t 10))])
 (.drop [9, 10] (.cond (.t 11) (.seq (.reg [un (.mov 12 (.t 0)),
 un (.call 13 Ao [((.t 12), true), ((.c (.int .i64 17)), false)]),
 un (.call 14 Kv [((.t 13), false)]),
 un (.alc 3 (.agg [.int .i64 0, .nilsl 2])),
 un (.st 2 (.t 3) (.t 14))])
 (.drop [12, 13, 14] (.seq (.reg [un (.ld 15 2 true (.t 3)),
 un (.st 2 (.t 2) (.t 15))])
 (.drop [15] .ret))))
 .skip)))
 (.drop [9, 10, 11, 12, 13, 14, 3, 15] (.seq (.reg [un (.mov 16 (.t 0)),
 un (.bsl 17 1 [(.c (.int .i64 2)), (.c (.int .i64 2)), (.c (.int .i64 3)), (.c (.int .i64 3)), (.c (.int .i64 4))]),
 un (.call 18 Am [((.t 16), true), ((.t 17), false)]),
 un (.asg 4 (.t 18))])
 (.drop [16, 17, 18] (.seq (.reg [un (.mov 19 (.t 4)),
 un (.bld 20 [.int .i64 0, .nilsl 2] [(0, 1, (.t 19))]),
 un (.alc 5 (.agg [.int .i64 0, .nilsl 2])),
 un (.st 2 (.t 5) (.t 20))])
 (.drop [19, 20] (.seq (.seq (.reg [un (.mov 21 (.t 0)),
 un (.bsl 22 1 [(.c (.int .i64 1)), (.c (.int .i64 1)), (.c (.int .i64 2))]),
 un (.call 23 Am [((.t 21), true), ((.t 22), false)]),
 un (.asg 6 (.t 23))])
 (.drop [21, 22, 23] (.block 0 (.loop Ha))))
 (.drop [21, 22, 23, 6, 24, 25, 28, 29, 30, 31, 7, 32, 33, 34, 35, 36, 37, 38, 39, 40, 41, 42, 43, 8, 44, 45, 48, 49, 50, 51, 52, 53, 54, 55, 46, 47, 56, 57, 58, 59, 60, 61, 26, 27] (.seq (.seq (.reg [un (.mov 62 (.t 0)),
 un (.call 63 Ao [((.t 62), true), ((.c (.int .i64 16)), false)])])
 (.drop [62] (.block 4 (.seq (.reg [un (.bin 65 .eql (.t 63) (.c (.int .i64 0))),
 un (.asg 64 (.t 65))])
 (.drop [65] (.cond (.t 64) (.reg [un (.mov 66 (.t 0)),
 un (.mov 67 (.t 4)),
 un (.bin 68 .add (.t 67) (.c (.int .i64 1))),
 un (.bsl 69 1 [(.c (.int .i64 0)), (.c (.int .i64 9)), (.t 68)]),
 un (.call 70 Am [((.t 66), true), ((.t 69), false)]),
 un (.fadr 71 0 (.t 5)),
 un (.st 1 (.t 71) (.t 70))])
 (.seq (.reg [un (.bin 73 .eql (.t 63) (.c (.int .i64 1))),
 un (.asg 72 (.t 73))])
 (.drop [73] (.cond (.t 72) (.dregl [(0, .fadr 74 1 (.t 5)),
 (1, .ld 75 1 false (.t 74)),
 (2, .fadr 76 1 (.t 5)),
 (3, .ld 77 1 false (.t 76)),
 (4, .iad 78 2 (.t 77) (.c (.int .i64 0))),
 (5, .fadr 79 1 (.t 78)),
 (6, .ld 80 1 false (.t 79))]
 (.alt 7 (.bsl 81 1 [(.c (.int .i64 0))]) [0, 1, 2, 3, 4, 5, 6] [] (.alt 8 (.app 82 1 (.t 80) (.t 81)) [0, 1, 2, 3, 4, 5, 6] [80] (.alt 9 (.iad 83 2 (.t 75) (.c (.int .i64 0))) [0, 1] [] (.alt 10 (.fadr 84 1 (.t 83)) [] [] (.alt 11 (.st 1 (.t 84) (.t 82)) [] [] .nil .nil) .nil) .nil) .nil) .nil))
 (.seq (.reg [un (.bin 86 .eql (.t 63) (.c (.int .i64 2))),
 un (.asg 85 (.t 86))])
 (.drop [86] (.cond (.t 85) (.dregl [(0, .fadr 87 1 (.t 5)),
 (1, .ld 88 1 false (.t 87)),
 (2, .iad 89 2 (.t 88) (.c (.int .i64 0))),
 (3, .fadr 90 1 (.t 89)),
 (4, .ld 91 1 false (.t 90)),
 (5, .mov 92 (.t 0)),
 (6, .fadr 93 1 (.t 5)),
 (7, .ld 94 1 false (.t 93)),
 (8, .iad 95 2 (.t 94) (.c (.int .i64 0))),
 (9, .fadr 96 1 (.t 95)),
 (10, .ld 97 1 false (.t 96)),
 (13, .mov 100 (.t 0)),
 (14, .mov 101 (.t 4))]
 (.alt 11 (.len 98 (.t 97)) [0, 1, 2, 3, 4, 5, 6, 7, 8, 9, 10, 13, 14] [] (.alt 12 (.call 99 Ao [((.t 92), true), ((.t 98), false)]) [0, 1, 2, 3, 4, 5, 13, 14] [] (.alt 15 (.bsl 102 1 [(.c (.int .i64 (-1))), (.t 101)]) [0, 1, 2, 3, 4, 13, 14] [] (.alt 16 (.call 103 Am [((.t 100), true), ((.t 102), false)]) [0, 1, 2, 3, 4, 13] [] (.alt 17 (.iad 104 1 (.t 91) (.t 99)) [0, 1, 2, 3, 4] [] (.alt 18 (.st 1 (.t 104) (.t 103)) [] [] .nil .nil) .nil) .nil) .nil) (.alt 15 (.bsl 102 1 [(.c (.int .i64 (-1))), (.t 101)]) [0, 1, 2, 3, 4, 5, 13, 14] [] (.alt 12 (.call 99 Ao [((.t 92), true), ((.t 98), false)]) [0, 1, 2, 3, 4, 5, 13] [] (.alt 16 (.call 103 Am [((.t 100), true), ((.t 102), false)]) [0, 1, 2, 3, 4, 13] [] (.alt 17 (.iad 104 1 (.t 91) (.t 99)) [0, 1, 2, 3, 4] [] (.alt 18 (.st 1 (.t 104) (.t 103)) [] [] .nil .nil) .nil) .nil) .nil) .nil)) (.alt 15 (.bsl 102 1 [(.c (.int .i64 (-1))), (.t 101)]) [0, 1, 2, 3, 4, 5, 6, 7, 8, 9, 10, 13, 14] [] (.alt 11 (.len 98 (.t 97)) [0, 1, 2, 3, 4, 5, 6, 7, 8, 9, 10, 13] [] (.alt 12 (.call 99 Ao [((.t 92), true), ((.t 98), false)]) [0, 1, 2, 3, 4, 5, 13] [] (.alt 16 (.call 103 Am [((.t 100), true), ((.t 102), false)]) [0, 1, 2, 3, 4, 13] [] (.alt 17 (.iad 104 1 (.t 91) (.t 99)) [0, 1, 2, 3, 4] [] (.alt 18 (.st 1 (.t 104) (.t 103)) [] [] .nil .nil) .nil) .nil) .nil) .nil) .nil)))
 (.seq (.reg [un (.bin 106 .eql (.t 63) (.c (.int .i64 3))),
 un (.asg 105 (.t 106))])
 (.drop [106] (.cond (.t 105) (.dregl [(0, .fadr 107 1 (.t 5)),
 (1, .ld 108 1 false (.t 107)),
 (2, .mov 109 (.t 0))]
 (.alt 3 (.bsl 110 1 [(.c (.int .i64 (-1))), (.c (.int .i64 4))]) [0, 1, 2] [] (.alt 4 (.call 111 Am [((.t 109), true), ((.t 110), false)]) [0, 1, 2] [] (.alt 5 (.iad 112 2 (.t 108) (.c (.int .i64 0))) [0, 1] [] (.alt 6 (.fadr 113 0 (.t 112)) [] [] (.alt 7 (.st 1 (.t 113) (.t 111)) [] [] .nil .nil) .nil) .nil) .nil) .nil))
 (.seq (.reg [un (.bin 115 .eql (.t 63) (.c (.int .i64 4))),
 un (.asg 114 (.t 115))])
 (.drop [115] (.cond (.t 114) (.block 5 (.loop Hb))
 .skip))))))))))))))))))
 (.drop [62, 63, 65, 64, 66, 67, 68, 69, 70, 71, 73, 72, 74, 75, 76, 77, 78, 79, 80, 81, 82, 83, 84, 86, 85, 87, 88, 89, 90, 91, 92, 93, 94, 95, 96, 97, 98, 99, 100, 101, 102, 103, 104, 106, 105, 107, 108, 109, 110, 111, 112, 113, 115, 114, 116, 117, 118, 119, 120, 121, 122, 123, 124, 125, 126, 127, 128, 129, 130] (.seq (.reg [un (.ld 131 2 true (.t 5)),
 un (.st 2 (.t 2) (.t 131))])
 (.drop [131] .ret)))))))))))))
abbrev Pt : List RS := [.c 2 2 true]
theorem Oo : Bd Try.prog Ef 132 Om Pt = true := by kernel_rfl
def X7 : ACode :=
 (.seq (.reg [un (.box 2 (.t 0)),
 un (.asg 4 (.c (.bool false)))])
 (.seq (.reg [un (.ld 5 2 true (.t 2)),
 un (.call 6 I8 [((.t 5), false)]),
 un (.asg 7 (.t 6)),
 ⟨some (7, true), .ld 8 2 true (.t 2)⟩,
 ⟨some (7, true), .mov 9 (.t 1)⟩,
 ⟨some (7, true), .call 10 Gn [((.t 8), false), ((.t 9), false)]⟩,
 un (.pick 11 (.t 7) (.t 10) (.c (.bool false))),
 un (.asg 4 (.t 11))])
 (.drop [5, 6, 7, 8, 9, 10, 11] .ret)))
abbrev Xf : List RS := [.t 4]
theorem Zg : Bd Try.prog D6 12 X7 Xf = true := by kernel_rfl
def Mi : ACode :=
 (.seq (.seq (.reg [un (.mov 6 (.t 5)),
 un (.mov 7 (.t 1)),
 un (.len 8 (.t 7)),
 un (.bin 9 .lss (.t 6) (.t 8))])
 (.drop [6, 7, 8] (.cond (.t 9) .skip
 (.exit 0))))
 (.drop [6, 7, 8, 9] (.seq (.block 1 (.seq (.dreg [(un (.ld 12 2 true (.t 2)), []),
 (un (.mov 13 (.t 1)), [12]),
 (un (.mov 14 (.t 5)), [12, 13]),
 (un (.iad 15 1 (.t 13) (.t 14)), [12]),
 (un (.ld 16 1 false (.t 15)), [12])]
 [un (.call 17 Gn [((.t 12), false), ((.t 16), false)]),
 un (.un 18 .not (.t 17))])
 (.drop [12, 13, 14, 15, 16, 17] (.cond (.t 18) (.seq (.reg [un (.asg 4 (.c (.bool false)))])
 .ret)
 .skip))))
 (.drop [12, 13, 14, 15, 16, 17, 18] (.reg [un (.mov 10 (.t 5)),
 un (.bin 11 .add (.t 10) (.c (.int .i64 1))),
 un (.asg 5 (.t 11))])))))
def Zs : ACode :=
 (.seq (.reg [un (.box 2 (.t 0)),
 un (.asg 4 (.c (.bool false)))])
 (.seq (.seq (.reg [un (.asg 5 (.c (.int .i64 0)))])
 (.block 0 (.loop Mi)))
 (.drop [5, 6, 7, 8, 9, 12, 13, 14, 15, 16, 17, 18, 10, 11] (.seq (.reg [un (.asg 4 (.c (.bool true)))])
 .ret))))
abbrev Z3 : List RS := [.t 4]
theorem Aa2 : Bd Try.prog Lq 19 Zs Z3 = true := by kernel_rfl
def Ld : ACode :=
 (.seq (.seq (.reg [un (.mov 15 (.t 7)),
 un (.mov 16 (.t 5)),
 un (.len 17 (.t 16)),
 un (.bin 18 .lss (.t 15) (.t 17))])
 (.drop [15, 16, 17] (.cond (.t 18) .skip
 (.exit 0))))
 (.drop [15, 16, 17, 18] (.seq (.block 1 (.dreg [(un (.mov 21 (.t 6)), []),
 (un (.ld 22 2 true (.t 2)), [21]),
 (un (.mov 23 (.t 5)), [21, 22]),
 (un (.mov 24 (.t 7)), [21, 22, 23]),
 (un (.iad 25 1 (.t 23) (.t 24)), [21, 22]),
 (un (.ld 26 1 false (.t 25)), [21, 22]),
 (un (.call 27 Da [((.t 22), false), ((.t 26), false)]), [21])]
 [un (.call 28 Lx [((.t 21), false), ((.t 27), false)]),
 un (.asg 6 (.t 28))]))
 (.drop [21, 22, 23, 24, 25, 26, 27, 28] (.reg [un (.mov 19 (.t 7)),
 un (.bin 20 .add (.t 19) (.c (.int .i64 1))),
 un (.asg 7 (.t 20))])))))
def X2 : ACode :=
 (.seq (.reg [un (.box 2 (.t 0)),
 un (.asg 4 (.c (.int .i64 0)))])
 (.seq (.seq (.reg [un (.mov 8 (.t 1)),
 un (.iad 9 1 (.t 8) (.c (.int .i64 0))),
 un (.ld 10 1 false (.t 9)),
 un (.bin 11 .geq (.t 10) (.c (.int .i64 0)))])
 (.drop [8, 9, 10] (.cond (.t 11) (.seq (.reg [un (.asg 4 (.c (.int .i64 0)))])
 .ret)
 .skip)))
 (.drop [8, 9, 10, 11] (.seq (.reg [un (.ld 12 2 true (.t 2)),
 un (.mov 13 (.t 1)),
 un (.call 14 Ku [((.t 12), false), ((.t 13), false)]),
 un (.asg 5 (.t 14)),
 un (.asg 6 (.c (.int .i64 0)))])
 (.drop [12, 13, 14] (.seq (.seq (.reg [un (.asg 7 (.c (.int .i64 0)))])
 (.block 0 (.loop Ld)))
 (.drop [7, 15, 16, 17, 18, 21, 22, 23, 24, 25, 26, 27, 28, 19, 20] (.seq (.reg [un (.mov 29 (.t 6)),
 un (.bin 30 .add (.t 29) (.c (.int .i64 1))),
 un (.asg 4 (.t 30))])
 (.drop [29, 30] .ret)))))))))
abbrev Yv : List RS := [.t 4]
theorem Yx : Bd Try.prog Da 31 X2 Yv = true := by kernel_rfl
def Hv : ACode :=
 (.seq (.seq (.reg [un (.mov 15 (.t 10)),
 un (.fadr 16 1 (.t 5)),
 un (.ld 17 1 false (.t 16)),
 un (.len 18 (.t 17)),
 un (.bin 19 .lss (.t 15) (.t 18))])
 (.drop [15, 16, 17, 18] (.cond (.t 19) .skip
 (.exit 0))))
 (.drop [15, 16, 17, 18, 19] (.seq (.block 1 (.seq (.reg [un (.fadr 22 1 (.t 5)),
 un (.ld 23 1 false (.t 22)),
 un (.mov 24 (.t 10)),
 un (.iad 25 2 (.t 23) (.t 24)),
 un (.fadr 26 0 (.t 25)),
 un (.ld 27 1 false (.t 26)),
 un (.bin 28 .eql (.t 27) (.c (.int .i64 0)))])
 (.drop [22, 23, 24, 25, 26, 27] (.cond (.t 28) (.reg [un (.mov 29 (.t 9)),
 un (.mov 30 (.t 10)),
 un (.bin 31 .sub (.c (.int .i64 (-1))) (.t 30)),
 un (.bsl 32 1 [(.t 31)]),
 un (.app 33 1 (.t 29) (.t 32)),
 un (.asg 9 (.t 33))])
 .skip))))
 (.drop [22, 23, 24, 25, 26, 27, 28, 29, 30, 31, 32, 33] (.reg [un (.mov 20 (.t 10)),
 un (.bin 21 .add (.t 20) (.c (.int .i64 1))),
 un (.asg 10 (.t 21))])))))
def M7 : ACode :=
 (.reg [un (.mov 34 (.t 2)),
 un (.bin 35 .eql (.t 34) (.c (.int .i64 0))),
 un (.asg 36 (.t 35)),
 ⟨some (36, false), .fadr 37 1 (.t 5)⟩,
 ⟨some (36, false), .ld 38 1 false (.t 37)⟩,
 ⟨some (36, false), .len 39 (.t 38)⟩,
 ⟨some (36, false), .bin 40 .eql (.t 39) (.c (.int .i64 0))⟩,
 un (.pick 41 (.t 36) (.c (.bool true)) (.t 40)),
 un (.asg 42 (.t 41)),
 ⟨some (42, false), .mov 43 (.t 0)⟩,
 ⟨some (42, false), .call 44 Er [((.t 43), true), ((.c (.int .i64 4)), false)]⟩,
 un (.pick 45 (.t 42) (.c (.bool true)) (.t 44))])
def Nj : ACode :=
 (.reg [un (.mov 46 (.t 3)),
 un (.bin 47 .eql (.t 46) (.c (.int .i64 0))),
 un (.asg 48 (.t 47)),
 ⟨some (48, false), .mov 49 (.t 9)⟩,
 ⟨some (48, false), .len 50 (.t 49)⟩,
 ⟨some (48, false), .bin 51 .gtr (.t 50) (.c (.int .i64 0))⟩,
 ⟨some (48, false), .asg 52 (.t 51)⟩,
 ⟨some (52, true), .mov 53 (.t 0)⟩,
 ⟨some (52, true), .call 54 Er [((.t 53), true), ((.c (.int .i64 4)), false)]⟩,
 ⟨some (48, false), .pick 55 (.t 52) (.t 54) (.c (.bool false))⟩,
 un (.pick 56 (.t 48) (.c (.bool true)) (.t 55))])
def Nf : ACode :=
 (.seq (.cut M7)
 (.drop [34, 35, 36, 37, 38, 39, 40, 41, 42, 43, 44] (.cond (.t 45) (.seq (.seq (.cut Nj)
 (.drop [46, 47, 48, 49, 50, 51, 52, 53, 54, 55] (.cond (.t 56) (.seq (.seq (.reg [un (.mov 57 (.t 9)),
 un (.len 58 (.t 57)),
 un (.bin 59 .eql (.t 58) (.c (.int .i64 0)))])
 (.drop [57, 58] (.cond (.t 59) (.seq (.reg [un (.bsl 60 1 [(.c (.int .i64 0))]),
 un (.asg 8 (.t 60))])
 (.drop [60] .ret))
 .skip)))
 (.drop [57, 58, 59, 60] (.seq (.frz [9] (.reg [un (.mov 61 (.t 0)),
 un (.mov 62 (.t 9)),
 un (.call 63 Am [((.t 61), true), ((.t 62), false)]),
 un (.bsl 64 1 [(.t 63)]),
 un (.asg 8 (.t 64))]))
 (.drop [61, 62, 63, 64] .ret))))
 .skip)))
 (.drop [46, 47, 48, 49, 50, 51, 52, 53, 54, 55, 56, 57, 58, 59, 60, 61, 62, 63, 64] (.seq (.reg [un (.mov 65 (.t 0)),
 un (.mov 66 (.t 3)),
 un (.call 67 Ao [((.t 65), true), ((.t 66), false)]),
 un (.bsl 68 1 [(.t 67)]),
 un (.asg 8 (.t 68))])
 (.drop [65, 66, 67, 68] .ret))))
 .skip)))
def Hj : ACode :=
 (.seq (.seq (.reg [un (.mov 77 (.t 13)),
 un (.fadr 78 1 (.t 5)),
 un (.ld 79 1 false (.t 78)),
 un (.mov 80 (.t 11)),
 un (.iad 81 2 (.t 79) (.t 80)),
 un (.fadr 82 0 (.t 81)),
 un (.ld 83 1 false (.t 82)),
 un (.bin 84 .lss (.t 77) (.t 83))])
 (.drop [77, 78, 79, 80, 81, 82, 83] (.cond (.t 84) .skip
 (.exit 2))))
 (.drop [77, 78, 79, 80, 81, 82, 83, 84] (.seq (.block 3 (.reg [un (.mov 87 (.t 12)),
 un (.mov 88 (.t 0)),
 un (.ld 89 2 true (.t 5)),
 un (.mov 90 (.t 2)),
 un (.bin 91 .sub (.t 90) (.c (.int .i64 1))),
 un (.mov 92 (.t 3)),
 un (.call 93 A8 [((.t 88), true), ((.t 89), false), ((.t 91), false), ((.t 92), false)]),
 un (.app 94 1 (.t 87) (.t 93)),
 un (.asg 12 (.t 94))]))
 (.drop [87, 88, 89, 90, 91, 92, 93, 94] (.reg [un (.mov 85 (.t 13)),
 un (.bin 86 .add (.t 85) (.c (.int .i64 1))),
 un (.asg 13 (.t 86))])))))
def Qa : ACode :=
 (.seq (.reg [un (.box 5 (.t 1)),
 un (.asg 8 (.c (.nilsl 1)))])
 (.seq (.reg [un (.bsl 14 1 []),
 un (.asg 9 (.t 14))])
 (.drop [14] (.seq (.seq (.reg [un (.asg 10 (.c (.int .i64 0)))])
 (.block 0 (.loop Hv)))
 (.drop [10, 15, 16, 17, 18, 19, 22, 23, 24, 25, 26, 27, 28, 29, 30, 31, 32, 33, 20, 21] (.seq (.cut Nf)
 (.drop [34, 35, 36, 37, 38, 39, 40, 41, 42, 43, 44, 45, 46, 47, 48, 49, 50, 51, 52, 53, 54, 55, 56, 57, 58, 59, 60, 61, 62, 63, 64, 65, 66, 67, 68] (.seq (.reg [un (.mov 69 (.t 0)),
 un (.fadr 70 1 (.t 5)),
 un (.ld 71 1 false (.t 70)),
 un (.len 72 (.t 71)),
 un (.call 73 Ao [((.t 69), true), ((.t 72), false)]),
 un (.asg 11 (.t 73))])
 (.drop [69, 70, 71, 72, 73] (.seq (.reg [un (.mov 74 (.t 11)),
 un (.bin 75 .sub (.c (.int .i64 (-1))) (.t 74)),
 un (.bsl 76 1 [(.t 75)]),
 un (.asg 12 (.t 76))])
 (.drop [74, 75, 76] (.seq (.seq (.reg [un (.asg 13 (.c (.int .i64 0)))])
 (.block 2 (.loop Hj)))
 (.drop [13, 77, 78, 79, 80, 81, 82, 83, 84, 87, 88, 89, 90, 91, 92, 93, 94, 85, 86] (.seq (.reg [un (.mov 95 (.t 12)),
 un (.asg 8 (.t 95))])
 (.drop [95] .ret)))))))))))))))
abbrev Qb : List RS := [.t 8]
theorem Qv : Bd Try.prog A8 96 Qa Qb = true := by kernel_rfl
def Qr : ACode :=
 (.seq (.reg [un (.box 3 (.t 0)),
 un (.asg 6 (.c (.nilsl 1))),
 un (.asg 7 (.c (.bool false)))])
 (.seq (.seq (.reg [un (.ld 8 2 true (.t 3)),
 un (.mov 9 (.t 1)),
 un (.call 10 C8 [((.t 8), false), ((.t 9), false)]),
 un (.un 11 .not (.t 10)),
 un (.asg 12 (.t 11)),
 ⟨some (12, false), .mov 13 (.t 2)⟩,
 ⟨some (12, false), .len 14 (.t 13)⟩,
 ⟨some (12, false), .bin 15 .gtr (.t 14) (.c (.int .i64 6))⟩,
 un (.pick 16 (.t 12) (.c (.bool true)) (.t 15)),
 un (.asg 17 (.t 16)),
 ⟨some (17, false), .ld 18 2 true (.t 3)⟩,
 ⟨some (17, false), .mov 19 (.t 2)⟩,
 ⟨some (17, false), .call 20 Jy [((.t 18), false), ((.t 19), false)]⟩,
 ⟨some (17, false), .un 21 .not (.t 20)⟩,
 un (.pick 22 (.t 17) (.c (.bool true)) (.t 21))])
 (.drop [8, 9, 10, 11, 12, 13, 14, 15, 16, 17, 18, 19, 20, 21] (.cond (.t 22) (.seq (.reg [un (.bsl 23 1 []),
 un (.asg 6 (.t 23)),
 un (.asg 7 (.c (.bool false)))])
 (.drop [23] .ret))
 .skip)))
 (.drop [8, 9, 10, 11, 12, 13, 14, 15, 16, 17, 18, 19, 20, 21, 22, 23] (.seq (.reg [un (.mov 24 (.t 1)),
 un (.mov 25 (.t 2)),
 un (.call 26 Hr [((.t 24), false), ((.t 25), false)]),
 un (.ext 27 (.t 26) 0),
 un (.ext 28 (.t 26) 1),
 un (.asg 6 (.t 27)),
 un (.asg 7 (.t 28))])
 (.drop [24, 25, 26, 27, 28] .ret)))))
abbrev Qk : List RS := [.t 6, .t 7]
theorem Qx : Bd Try.prog Gm 29 Qr Qk = true := by kernel_rfl
def Qe : ACode :=
 (.seq (.reg [un (.box 3 (.t 0)),
 un (.asg 6 (.c (.nilsl 1))),
 un (.asg 7 (.c (.bool false)))])
 (.seq (.seq (.reg [un (.ld 8 2 true (.t 3)),
 un (.mov 9 (.t 1)),
 un (.call 10 D6 [((.t 8), false), ((.t 9), false)]),
 un (.un 11 .not (.t 10)),
 un (.asg 12 (.t 11)),
 ⟨some (12, false), .mov 13 (.t 2)⟩,
 ⟨some (12, false), .len 14 (.t 13)⟩,
 ⟨some (12, false), .bin 15 .gtr (.t 14) (.c (.int .i64 6))⟩,
 un (.pick 16 (.t 12) (.c (.bool true)) (.t 15)),
 un (.asg 17 (.t 16)),
 ⟨some (17, false), .ld 18 2 true (.t 3)⟩,
 ⟨some (17, false), .mov 19 (.t 2)⟩,
 ⟨some (17, false), .call 20 Lq [((.t 18), false), ((.t 19), false)]⟩,
 ⟨some (17, false), .un 21 .not (.t 20)⟩,
 un (.pick 22 (.t 17) (.c (.bool true)) (.t 21))])
 (.drop [8, 9, 10, 11, 12, 13, 14, 15, 16, 17, 18, 19, 20, 21] (.cond (.t 22) (.seq (.reg [un (.bsl 23 1 []),
 un (.asg 6 (.t 23)),
 un (.asg 7 (.c (.bool false)))])
 (.drop [23] .ret))
 .skip)))
 (.drop [8, 9, 10, 11, 12, 13, 14, 15, 16, 17, 18, 19, 20, 21, 22, 23] (.seq (.reg [un (.mov 24 (.t 1)),
 un (.mov 25 (.t 2)),
 un (.call 26 Gf [((.t 24), false), ((.t 25), false)]),
 un (.ext 27 (.t 26) 0),
 un (.ext 28 (.t 26) 1),
 un (.asg 6 (.t 27)),
 un (.asg 7 (.t 28))])
 (.drop [24, 25, 26, 27, 28] .ret)))))
abbrev Qn : List RS := [.t 6, .t 7]
theorem Qf : Bd Try.prog Gi 29 Qe Qn = true := by kernel_rfl
def V7 : ACode :=
 (.seq (.reg [un (.box 3 (.t 0)),
 un (.asg 6 (.c (.int .i64 0))),
 un (.asg 7 (.c (.bool false)))])
 (.seq (.seq (.reg [un (.ld 8 2 true (.t 3)),
 un (.mov 9 (.t 1)),
 un (.call 10 C8 [((.t 8), false), ((.t 9), false)]),
 un (.un 11 .not (.t 10)),
 un (.asg 12 (.t 11)),
 ⟨some (12, false), .mov 13 (.t 2)⟩,
 ⟨some (12, false), .len 14 (.t 13)⟩,
 ⟨some (12, false), .bin 15 .gtr (.t 14) (.c (.int .i64 6))⟩,
 un (.pick 16 (.t 12) (.c (.bool true)) (.t 15)),
 un (.asg 17 (.t 16)),
 ⟨some (17, false), .mov 18 (.t 2)⟩,
 ⟨some (17, false), .fadr 19 0 (.t 3)⟩,
 ⟨some (17, false), .ld 20 1 false (.t 19)⟩,
 ⟨some (17, false), .call 21 I4 [((.t 18), false), ((.t 20), false)]⟩,
 ⟨some (17, false), .un 22 .not (.t 21)⟩,
 un (.pick 23 (.t 17) (.c (.bool true)) (.t 22)),
 un (.asg 24 (.t 23)),
 ⟨some (24, false), .mov 25 (.t 1)⟩,
 ⟨some (24, false), .mov 26 (.t 2)⟩,
 ⟨some (24, false), .len 27 (.t 26)⟩,
 ⟨some (24, false), .call 28 Im [((.t 25), false), ((.t 27), false)]⟩,
 ⟨some (24, false), .un 29 .not (.t 28)⟩,
 un (.pick 30 (.t 24) (.c (.bool true)) (.t 29))])
 (.drop [8, 9, 10, 11, 12, 13, 14, 15, 16, 17, 18, 19, 20, 21, 22, 23, 24, 25, 26, 27, 28, 29] (.cond (.t 30) (.seq (.reg [un (.asg 6 (.c (.int .i64 0))),
 un (.asg 7 (.c (.bool false)))])
 .ret)
 .skip)))
 (.drop [8, 9, 10, 11, 12, 13, 14, 15, 16, 17, 18, 19, 20, 21, 22, 23, 24, 25, 26, 27, 28, 29, 30] (.seq (.reg [un (.ld 31 2 true (.t 3)),
 un (.mov 32 (.t 1)),
 un (.mov 33 (.t 2)),
 un (.call 34 Pr [((.t 31), false), ((.t 32), false), ((.t 33), false)]),
 un (.asg 6 (.t 34)),
 un (.asg 7 (.c (.bool true)))])
 (.drop [31, 32, 33, 34] .ret)))))
abbrev Wa : List RS := [.t 6, .t 7]
theorem Wn : Bd Try.prog B9 35 V7 Wa = true := by kernel_rfl
def Qd : ACode :=
 (.seq (.reg [un (.ld 11 2 true (.t 4)),
 un (.mov 12 (.t 1)),
 un (.call 13 C8 [((.t 11), false), ((.t 12), false)]),
 un (.un 14 .not (.t 13)),
 un (.asg 15 (.t 14)),
 ⟨some (15, false), .ld 16 2 true (.t 4)⟩,
 ⟨some (15, false), .mov 17 (.t 3)⟩,
 ⟨some (15, false), .call 18 Gy [((.t 16), false), ((.t 17), false)]⟩,
 ⟨some (15, false), .un 19 .not (.t 18)⟩,
 un (.pick 20 (.t 15) (.c (.bool true)) (.t 19)),
 un (.asg 21 (.t 20)),
 ⟨some (21, false), .mov 22 (.t 2)⟩,
 ⟨some (21, false), .bin 23 .lss (.t 22) (.c (.int .i64 0))⟩,
 un (.pick 24 (.t 21) (.c (.bool true)) (.t 23)),
 un (.asg 25 (.t 24)),
 ⟨some (25, false), .mov 26 (.t 2)⟩,
 ⟨some (25, false), .mov 27 (.t 1)⟩,
 ⟨some (25, false), .len 28 (.t 27)⟩,
 ⟨some (25, false), .bin 29 .geq (.t 26) (.t 28)⟩,
 un (.pick 30 (.t 25) (.c (.bool true)) (.t 29))])
 (.drop [11, 12, 13, 14, 15, 16, 17, 18, 19, 20, 21, 22, 23, 24, 25, 26, 27, 28, 29] (.cond (.t 30) (.seq (.reg [un (.bsl 31 1 []),
 un (.asg 8 (.t 31)),
 un (.asg 9 (.c (.bool false)))])
 (.drop [31] .ret))
 .skip)))
def Tm : ACode :=
 (.seq (.reg [un (.box 4 (.t 0)),
 un (.asg 8 (.c (.nilsl 1))),
 un (.asg 9 (.c (.bool false)))])
 (.seq (.cut Qd)
 (.drop [11, 12, 13, 14, 15, 16, 17, 18, 19, 20, 21, 22, 23, 24, 25, 26, 27, 28, 29, 30, 31] (.seq (.reg [un (.ld 32 2 true (.t 4)),
 un (.mov 33 (.t 1)),
 un (.mov 34 (.t 2)),
 un (.mov 35 (.t 3)),
 un (.call 36 Iw [((.t 32), false), ((.t 33), false), ((.t 34), false), ((.t 35), false)]),
 un (.asg 10 (.t 36))])
 (.drop [32, 33, 34, 35, 36] (.seq (.seq (.reg [un (.mov 37 (.t 10)),
 un (.len 38 (.t 37)),
 un (.bin 39 .gtr (.t 38) (.c (.int .i64 60)))])
 (.drop [37, 38] (.cond (.t 39) (.seq (.reg [un (.bsl 40 1 []),
 un (.asg 8 (.t 40)),
 un (.asg 9 (.c (.bool false)))])
 (.drop [40] .ret))
 .skip)))
 (.drop [37, 38, 39, 40] (.seq (.reg [un (.mov 41 (.t 10)),
 un (.asg 8 (.t 41)),
 un (.asg 9 (.c (.bool true)))])
 (.drop [41] .ret)))))))))
abbrev Uw : List RS := [.t 8, .t 9]
theorem Ur : Bd Try.prog Gb 42 Tm Uw = true := by kernel_rfl
def P8 : ACode :=
 (.seq (.reg [un (.ld 11 2 true (.t 4)),
 un (.mov 12 (.t 1)),
 un (.call 13 D6 [((.t 11), false), ((.t 12), false)]),
 un (.un 14 .not (.t 13)),
 un (.asg 15 (.t 14)),
 ⟨some (15, false), .ld 16 2 true (.t 4)⟩,
 ⟨some (15, false), .mov 17 (.t 3)⟩,
 ⟨some (15, false), .call 18 Gn [((.t 16), false), ((.t 17), false)]⟩,
 ⟨some (15, false), .un 19 .not (.t 18)⟩,
 un (.pick 20 (.t 15) (.c (.bool true)) (.t 19)),
 un (.asg 21 (.t 20)),
 ⟨some (21, false), .mov 22 (.t 2)⟩,
 ⟨some (21, false), .mov 23 (.t 1)⟩,
 ⟨some (21, false), .len 24 (.t 23)⟩,
 ⟨some (21, false), .bin 25 .sub (.t 24) (.c (.int .i64 1))⟩,
 ⟨some (21, false), .call 26 Fa [((.t 22), false), ((.c (.int .i64 0)), false), ((.t 25), false)]⟩,
 ⟨some (21, false), .un 27 .not (.t 26)⟩,
 un (.pick 28 (.t 21) (.c (.bool true)) (.t 27))])
 (.drop [11, 12, 13, 14, 15, 16, 17, 18, 19, 20, 21, 22, 23, 24, 25, 26, 27] (.cond (.t 28) (.seq (.reg [un (.bsl 29 1 []),
 un (.asg 8 (.t 29)),
 un (.asg 9 (.c (.bool false)))])
 (.drop [29] .ret))
 .skip)))
def Ui : ACode :=
 (.seq (.reg [un (.box 4 (.t 0)),
 un (.asg 8 (.c (.nilsl 1))),
 un (.asg 9 (.c (.bool false)))])
 (.seq (.cut P8)
 (.drop [11, 12, 13, 14, 15, 16, 17, 18, 19, 20, 21, 22, 23, 24, 25, 26, 27, 28, 29] (.seq (.reg [un (.ld 30 2 true (.t 4)),
 un (.mov 31 (.t 1)),
 un (.mov 32 (.t 2)),
 un (.mov 33 (.t 3)),
 un (.call 34 Lu [((.t 30), false), ((.t 31), false), ((.t 32), false), ((.t 33), false)]),
 un (.asg 10 (.t 34))])
 (.drop [30, 31, 32, 33, 34] (.seq (.seq (.reg [un (.mov 35 (.t 10)),
 un (.len 36 (.t 35)),
 un (.bin 37 .gtr (.t 36) (.c (.int .i64 60)))])
 (.drop [35, 36] (.cond (.t 37) (.seq (.reg [un (.bsl 38 1 []),
 un (.asg 8 (.t 38)),
 un (.asg 9 (.c (.bool false)))])
 (.drop [38] .ret))
 .skip)))
 (.drop [35, 36, 37, 38] (.seq (.reg [un (.mov 39 (.t 10)),
 un (.asg 8 (.t 39)),
 un (.asg 9 (.c (.bool true)))])
 (.drop [39] .ret)))))))))
abbrev Ud : List RS := [.t 8, .t 9]
theorem U4 : Bd Try.prog I3 40 Ui Ud = true := by kernel_rfl
def P7 : ACode :=
 (.seq (.reg [un (.ld 8 2 true (.t 3)),
 un (.mov 9 (.t 1)),
 un (.call 10 C8 [((.t 8), false), ((.t 9), false)]),
 un (.un 11 .not (.t 10)),
 un (.asg 12 (.t 11)),
 ⟨some (12, false), .mov 13 (.t 2)⟩,
 ⟨some (12, false), .bin 14 .lss (.t 13) (.c (.int .i64 0))⟩,
 un (.pick 15 (.t 12) (.c (.bool true)) (.t 14)),
 un (.asg 16 (.t 15)),
 ⟨some (16, false), .mov 17 (.t 2)⟩,
 ⟨some (16, false), .mov 18 (.t 1)⟩,
 ⟨some (16, false), .len 19 (.t 18)⟩,
 ⟨some (16, false), .bin 20 .geq (.t 17) (.t 19)⟩,
 un (.pick 21 (.t 16) (.c (.bool true)) (.t 20))])
 (.drop [8, 9, 10, 11, 12, 13, 14, 15, 16, 17, 18, 19, 20] (.cond (.t 21) (.seq (.reg [un (.bsl 22 1 []),
 un (.asg 6 (.t 22)),
 un (.asg 7 (.c (.bool false)))])
 (.drop [22] .ret))
 .skip)))
def Tw : ACode :=
 (.seq (.reg [un (.box 3 (.t 0)),
 un (.asg 6 (.c (.nilsl 1))),
 un (.asg 7 (.c (.bool false)))])
 (.seq (.cut P7)
 (.drop [8, 9, 10, 11, 12, 13, 14, 15, 16, 17, 18, 19, 20, 21, 22] (.seq (.reg [un (.mov 23 (.t 1)),
 un (.mov 24 (.t 2)),
 un (.ld 25 2 true (.t 3)),
 un (.mov 26 (.t 1)),
 un (.mov 27 (.t 2)),
 un (.call 28 Hp [((.t 25), false), ((.t 26), false), ((.t 27), false)]),
 un (.slc 29 1 (.t 23) (some (.t 24)) (some (.t 28))),
 un (.call 30 J5 [((.t 29), false)]),
 un (.asg 6 (.t 30)),
 un (.asg 7 (.c (.bool true)))])
 (.drop [23, 24, 25, 26, 27, 28, 29, 30] .ret)))))
abbrev Uf : List RS := [.t 6, .t 7]
theorem U5 : Bd Try.prog Iz 31 Tw Uf = true := by kernel_rfl
def Qq : ACode :=
 (.seq (.reg [un (.ld 8 2 true (.t 3)),
 un (.mov 9 (.t 1)),
 un (.call 10 D6 [((.t 8), false), ((.t 9), false)]),
 un (.un 11 .not (.t 10)),
 un (.asg 12 (.t 11)),
 ⟨some (12, false), .mov 13 (.t 2)⟩,
 ⟨some (12, false), .mov 14 (.t 1)⟩,
 ⟨some (12, false), .len 15 (.t 14)⟩,
 ⟨some (12, false), .bin 16 .sub (.t 15) (.c (.int .i64 1))⟩,
 ⟨some (12, false), .call 17 Fa [((.t 13), false), ((.c (.int .i64 0)), false), ((.t 16), false)]⟩,
 ⟨some (12, false), .un 18 .not (.t 17)⟩,
 un (.pick 19 (.t 12) (.c (.bool true)) (.t 18))])
 (.drop [8, 9, 10, 11, 12, 13, 14, 15, 16, 17, 18] (.cond (.t 19) (.seq (.reg [un (.bsl 20 1 []),
 un (.asg 6 (.t 20)),
 un (.asg 7 (.c (.bool false)))])
 (.drop [20] .ret))
 .skip)))
def Tn : ACode :=
 (.seq (.reg [un (.box 3 (.t 0)),
 un (.asg 6 (.c (.nilsl 1))),
 un (.asg 7 (.c (.bool false)))])
 (.seq (.cut Qq)
 (.drop [8, 9, 10, 11, 12, 13, 14, 15, 16, 17, 18, 19, 20] (.seq (.reg [un (.mov 21 (.t 1)),
 un (.mov 22 (.t 2)),
 un (.ld 23 2 true (.t 3)),
 un (.mov 24 (.t 1)),
 un (.mov 25 (.t 2)),
 un (.call 26 Ff [((.t 23), false), ((.t 24), false), ((.t 25), false)]),
 un (.slc 27 1 (.t 21) (some (.t 22)) (some (.t 26))),
 un (.call 28 Hl [((.t 27), false)]),
 un (.asg 6 (.t 28)),
 un (.asg 7 (.c (.bool true)))])
 (.drop [21, 22, 23, 24, 25, 26, 27, 28] .ret)))))
abbrev Ty : List RS := [.t 6, .t 7]
theorem Uo : Bd Try.prog Iy 29 Tn Ty = true := by kernel_rfl
def Xk : ACode :=
 (.seq (.reg [un (.box 2 (.t 0)),
 un (.asg 4 (.c (.int .i64 0))),
 un (.asg 5 (.c (.bool false)))])
 (.seq (.seq (.reg [un (.ld 8 2 true (.t 2)),
 un (.mov 9 (.t 1)),
 un (.call 10 C8 [((.t 8), false), ((.t 9), false)]),
 un (.un 11 .not (.t 10))])
 (.drop [8, 9, 10] (.cond (.t 11) (.seq (.reg [un (.asg 4 (.c (.int .i64 0))),
 un (.asg 5 (.c (.bool false)))])
 .ret)
 .skip)))
 (.drop [8, 9, 10, 11] (.seq (.reg [un (.ld 13 2 true (.t 2)),
 un (.mov 14 (.t 1)),
 un (.call 15 Dd [((.t 13), false), ((.t 14), false), ((.c (.int .i64 0)), false)]),
 un (.asg 12 (.t 15)),
 un (.ext 16 (.t 12) 0),
 un (.ext 17 (.t 12) 1),
 un (.asg 6 (.t 16)),
 un (.asg 7 (.t 17))])
 (.drop [13, 14, 15, 12, 16, 17, 7] (.seq (.reg [un (.mov 18 (.t 6)),
 un (.asg 4 (.t 18)),
 un (.asg 5 (.c (.bool true)))])
 (.drop [18] .ret)))))))
abbrev Yg : List RS := [.t 4, .t 5]
theorem Xq : Bd Try.prog Ko 19 Xk Yg = true := by kernel_rfl
def X8 : ACode :=
 (.seq (.reg [un (.box 2 (.t 0)),
 un (.asg 4 (.c (.int .i64 0))),
 un (.asg 5 (.c (.bool false)))])
 (.seq (.seq (.reg [un (.ld 6 2 true (.t 2)),
 un (.mov 7 (.t 1)),
 un (.call 8 D6 [((.t 6), false), ((.t 7), false)]),
 un (.un 9 .not (.t 8))])
 (.drop [6, 7, 8] (.cond (.t 9) (.seq (.reg [un (.asg 4 (.c (.int .i64 0))),
 un (.asg 5 (.c (.bool false)))])
 .ret)
 .skip)))
 (.drop [6, 7, 8, 9] (.seq (.reg [un (.ld 10 2 true (.t 2)),
 un (.mov 11 (.t 1)),
 un (.call 12 Da [((.t 10), false), ((.t 11), false)]),
 un (.asg 4 (.t 12)),
 un (.asg 5 (.c (.bool true)))])
 (.drop [10, 11, 12] .ret)))))
abbrev W4 : List RS := [.t 4, .t 5]
theorem W8 : Bd Try.prog Kj 13 X8 W4 = true := by kernel_rfl
def Aai : ACode :=
 (.seq (.reg [un (.box 2 (.t 0)),
 un (.asg 4 (.c (.nilsl 1))),
 un (.asg 5 (.c (.bool false)))])
 (.seq (.seq (.reg [un (.ld 6 2 true (.t 2)),
 un (.mov 7 (.t 1)),
 un (.call 8 C8 [((.t 6), false), ((.t 7), false)]),
 un (.un 9 .not (.t 8))])
 (.drop [6, 7, 8] (.cond (.t 9) (.seq (.reg [un (.bsl 10 1 []),
 un (.asg 4 (.t 10)),
 un (.asg 5 (.c (.bool false)))])
 (.drop [10] .ret))
 .skip)))
 (.drop [6, 7, 8, 9, 10] (.seq (.reg [un (.mov 11 (.t 1)),
 un (.bsl 12 1 [(.t 11)]),
 un (.call 13 L0 [((.t 12), false)]),
 un (.asg 4 (.t 13)),
 un (.asg 5 (.c (.bool true)))])
 (.drop [11, 12, 13] .ret)))))
abbrev Aan : List RS := [.t 4, .t 5]
theorem Z7 : Bd Try.prog L6 14 Aai Aan = true := by kernel_rfl
def Aa1 : ACode :=
 (.seq (.reg [un (.box 2 (.t 0)),
 un (.asg 4 (.c (.nilsl 1))),
 un (.asg 5 (.c (.bool false)))])
 (.seq (.seq (.reg [un (.ld 6 2 true (.t 2)),
 un (.mov 7 (.t 1)),
 un (.call 8 D6 [((.t 6), false), ((.t 7), false)]),
 un (.un 9 .not (.t 8))])
 (.drop [6, 7, 8] (.cond (.t 9) (.seq (.reg [un (.bsl 10 1 []),
 un (.asg 4 (.t 10)),
 un (.asg 5 (.c (.bool false)))])
 (.drop [10] .ret))
 .skip)))
 (.drop [6, 7, 8, 9, 10] (.seq (.reg [un (.mov 11 (.t 1)),
 un (.call 12 Lt [((.t 11), false)]),
 un (.asg 4 (.t 12)),
 un (.asg 5 (.c (.bool true)))])
 (.drop [11, 12] .ret)))))
abbrev Aar : List RS := [.t 4, .t 5]
theorem Aab : Bd Try.prog Ly 13 Aa1 Aar = true := by kernel_rfl
end Go.Proofs.Ytjinhobffbppbaa.Ax
