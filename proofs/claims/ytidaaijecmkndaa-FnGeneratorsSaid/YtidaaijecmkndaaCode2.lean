/-
  The small code of the functions, written by program; that the program's code is this one, the kernel looks at.
-/
import Derived.Test.YtidaaijecmkndaaAx3
import Derived.Test.YtidaaijecmkndaaProg
import Derived.KernelRfl
import Derived.Test.YtidaaijecmkndaaNum
namespace Go.Proofs.Ytidaaijecmkndaa.Ax
open Go
set_option maxRecDepth 100000
def Wx : ACode :=
 (.seq (.reg [un (.box 2 (.t 0)),
 un (.asg 4 (.c (.bool false))),
 un (.asg 5 (.c (.bool false)))])
 (.seq (.seq (.reg [un (.ld 6 2 true (.t 2)),
 un (.mov 7 (.t 1)),
 un (.call 8 E2 [((.t 6), false), ((.t 7), false)]),
 un (.un 9 .not (.t 8))])
 (.drop [6, 7, 8] (.cond (.t 9) (.seq (.reg [un (.asg 4 (.c (.bool false))),
 un (.asg 5 (.c (.bool false)))])
 .ret)
 .skip)))
 (.drop [6, 7, 8, 9] (.seq (.dreg [(un (.ld 10 2 true (.t 2)), []),
 (un (.mov 11 (.t 1)), [10]),
 (un (.call 12 Db [((.t 10), false), ((.t 11), false)]), []),
 (un (.len 13 (.t 12)), []),
 (un (.fadr 14 0 (.t 2)), [10, 11, 12, 13]),
 (un (.ld 15 1 false (.t 14)), [10, 11, 12, 13])]
 [un (.bin 16 .eql (.t 13) (.t 15)),
 un (.asg 4 (.t 16)),
 un (.asg 5 (.c (.bool true)))])
 (.drop [10, 11, 12, 13, 14, 15, 16] .ret)))))
abbrev Wq : List RS := [.t 4, .t 5]
theorem Ww : A4 Try.prog Ii 17 Wx Wq = true := by kernel_rfl
def Jn : ACode :=
 (.seq (.reg [un (.bin 15 .lss (.t 14) (.t 13))])
 (.seq (.cond (.t 15) .skip
 (.exit 0))
 (.seq (.block 1 (.seq (.reg [un (.mov 16 (.t 14)),
 un (.iad 17 1 (.t 12) (.t 14)),
 un (.ld 18 1 false (.t 17)),
 un (.asg 6 (.t 16)),
 un (.asg 7 (.t 18))])
 (.drop [16, 17, 18] (.seq (.dreg [(un (.ld 19 2 true (.t 2)), []),
 (un (.mov 20 (.t 1)), [19]),
 (un (.mov 21 (.t 6)), [19, 20]),
 (un (.call 22 Ow [((.t 20), false), ((.t 21), false)]), [19]),
 (un (.call 23 Db [((.t 19), false), ((.t 22), false)]), []),
 (un (.mov 24 (.t 7)), [19, 20, 21, 22, 23])]
 [un (.call 25 L2 [((.t 23), false), ((.t 24), false)]),
 un (.un 26 .not (.t 25))])
 (.drop [19, 20, 21, 22, 23, 24, 25] (.cond (.t 26) (.seq (.reg [un (.asg 4 (.c (.bool false))),
 un (.asg 5 (.c (.bool true)))])
 .ret)
 .skip))))))
 (.drop [16, 17, 18, 6, 7, 19, 20, 21, 22, 23, 24, 25, 26] (.reg [un (.bin 27 .add (.t 14) (.c (.int .i64 1))),
 un (.asg 14 (.t 27))])))))
def Ug : ACode :=
 (.seq (.reg [un (.box 2 (.t 0)),
 un (.asg 4 (.c (.bool false))),
 un (.asg 5 (.c (.bool false)))])
 (.seq (.seq (.reg [un (.ld 8 2 true (.t 2)),
 un (.mov 9 (.t 1)),
 un (.call 10 E2 [((.t 8), false), ((.t 9), false)]),
 un (.un 11 .not (.t 10))])
 (.drop [8, 9, 10] (.cond (.t 11) (.seq (.reg [un (.asg 4 (.c (.bool false))),
 un (.asg 5 (.c (.bool false)))])
 .ret)
 .skip)))
 (.drop [8, 9, 10, 11] (.seq (.seq (.reg [un (.mov 12 (.t 1)),
 un (.len 13 (.t 12)),
 un (.mov 14 (.c (.int .i64 0)))])
 (.block 0 (.loop Jn)))
 (.drop [12, 13, 14, 15, 16, 17, 18, 6, 7, 19, 20, 21, 22, 23, 24, 25, 26, 27] (.seq (.reg [un (.asg 4 (.c (.bool true))),
 un (.asg 5 (.c (.bool true)))])
 .ret))))))
abbrev Vd : List RS := [.t 4, .t 5]
theorem Vg : A4 Try.prog Hm 28 Ug Vd = true := by kernel_rfl
def Pm : ACode :=
 (.seq (.seq (.reg [un (.mov 7 (.t 4)),
 un (.fadr 8 0 (.t 1)),
 un (.ld 9 1 false (.t 8)),
 un (.bin 10 .shl (.c (.int .i64 1)) (.t 9)),
 un (.bin 11 .lss (.t 7) (.t 10))])
 (.drop [7, 8, 9, 10] (.cond (.t 11) .skip
 (.exit 0))))
 (.drop [7, 8, 9, 10, 11] (.seq (.block 1 (.seq (.reg [un (.mov 14 (.t 4)),
 un (.call 15 Iv [((.t 14), false)]),
 un (.asg 5 (.t 15))])
 (.drop [14, 15] (.seq (.reg [un (.ld 16 2 true (.t 1)),
 un (.mov 17 (.t 5)),
 un (.call 18 Sa [((.t 16), false), ((.t 17), false)])])
 (.drop [16, 17] (.cond (.t 18) (.reg [un (.mov 19 (.t 3)),
 un (.mov 20 (.t 5)),
 un (.bsl 21 1 [(.t 20)]),
 un (.app 22 1 (.t 19) (.t 21)),
 un (.asg 3 (.t 22))])
 .skip))))))
 (.drop [14, 15, 5, 16, 17, 18, 19, 20, 21, 22] (.reg [un (.mov 12 (.t 4)),
 un (.bin 13 .add (.t 12) (.c (.int .i64 1))),
 un (.asg 4 (.t 13))])))))
def Afw : ACode :=
 (.seq (.reg [un (.box 1 (.t 0)),
 un (.asg 2 (.c (.nilsl 1)))])
 (.seq (.reg [un (.bsl 6 1 []),
 un (.asg 3 (.t 6))])
 (.drop [6] (.seq (.seq (.reg [un (.asg 4 (.c (.int .i64 0)))])
 (.block 0 (.loop Pm)))
 (.drop [4, 7, 8, 9, 10, 11, 14, 15, 5, 16, 17, 18, 19, 20, 21, 22, 12, 13] (.seq (.reg [un (.mov 23 (.t 3)),
 un (.call 24 M9 [((.t 23), true), ((.c (.clo C6 [])), false)])])
 (.drop [23, 24] (.seq (.reg [un (.mov 25 (.t 3)),
 un (.asg 2 (.t 25))])
 (.drop [25] .ret)))))))))
abbrev Afx : List RS := [.t 2]
theorem Adj : A4 Try.prog Kq 26 Afw Afx = true := by kernel_rfl
def Tu : ACode :=
 (.seq (.seq (.reg [un (.mov 7 (.t 4)),
 un (.fadr 8 0 (.t 1)),
 un (.ld 9 1 false (.t 8)),
 un (.bin 10 .shl (.c (.int .i64 1)) (.t 9)),
 un (.bin 11 .lss (.t 7) (.t 10))])
 (.drop [7, 8, 9, 10] (.cond (.t 11) .skip
 (.exit 0))))
 (.drop [7, 8, 9, 10, 11] (.seq (.block 1 (.seq (.reg [un (.mov 14 (.t 4)),
 un (.call 15 Io [((.t 14), false)]),
 un (.asg 5 (.t 15))])
 (.drop [14, 15] (.seq (.reg [un (.ld 16 2 true (.t 1)),
 un (.mov 17 (.t 5)),
 un (.call 18 Ua [((.t 16), false), ((.t 17), false)])])
 (.drop [16, 17] (.cond (.t 18) (.frz [3, 5] (.reg [un (.mov 19 (.t 3)),
 un (.mov 20 (.t 5)),
 un (.call 21 Qd [((.t 19), false), ((.t 20), false)]),
 un (.asg 3 (.t 21))]))
 .skip))))))
 (.drop [14, 15, 5, 16, 17, 18, 19, 20, 21] (.reg [un (.mov 12 (.t 4)),
 un (.bin 13 .add (.t 12) (.c (.int .i64 1))),
 un (.asg 4 (.t 13))])))))
def Ake : ACode :=
 (.seq (.reg [un (.box 1 (.t 0)),
 un (.asg 2 (.c (.nilsl 1)))])
 (.seq (.reg [un (.bsl 6 1 []),
 un (.asg 3 (.t 6))])
 (.drop [6] (.seq (.seq (.reg [un (.asg 4 (.c (.int .i64 0)))])
 (.block 0 (.loop Tu)))
 (.drop [4, 7, 8, 9, 10, 11, 14, 15, 5, 16, 17, 18, 19, 20, 21, 12, 13] (.seq (.reg [un (.mov 22 (.t 3)),
 un (.asg 2 (.t 22))])
 (.drop [22] .ret)))))))
abbrev Ait : List RS := [.t 2]
theorem Ajn : A4 Try.prog Nm 23 Ake Ait = true := by kernel_rfl
def Vn : ACode :=
 (.seq (.reg [un (.alc 2 (.agg [.int .i64 0, .nilsl 2]))])
 (.seq (.reg [un (.mov 4 (.t 0)),
 un (.bld 5 [.nilsl 1, .int .i64 0, .int .u64 0] [(0, 1, (.t 4))]),
 un (.box 6 (.t 5)),
 un (.asg 3 (.t 6))])
 (.drop [4, 5, 6] (.seq (.reg [un (.mov 7 (.t 3)),
 un (.call 8 Hs [((.t 7), true)]),
 un (.st 2 (.t 2) (.t 8))])
 (.drop [7, 8] .ret)))))
abbrev Vz : List RS := [.c 2 2 true]
theorem Ut : A4 Try.prog Hf 9 Vn Vz = true := by kernel_rfl
def Qe : ACode :=
 (.seq (.reg [un (.alc 2 (.agg [.int .i64 0, .nilsl 2]))])
 (.seq (.reg [un (.mov 3 (.t 0)),
 un (.call 4 Hf [((.t 3), false)]),
 un (.st 2 (.t 2) (.t 4))])
 (.drop [3, 4] .ret)))
abbrev Qj : List RS := [.c 2 2 true]
theorem P4 : A4 Try.prog Fs 5 Qe Qj = true := by kernel_rfl
def X2 : ACode :=
 (.seq (.reg [un (.box 1 (.t 0)),
 un (.asg 2 (.c (.nilsl 1))),
 un (.asg 3 (.c (.bool false)))])
 (.seq (.seq (.reg [un (.ld 5 2 true (.t 1)),
 un (.call 6 Di [((.t 5), false)]),
 un (.un 7 .not (.t 6))])
 (.drop [5, 6] (.cond (.t 7) (.seq (.reg [un (.bsl 8 1 []),
 un (.asg 2 (.t 8)),
 un (.asg 3 (.c (.bool false)))])
 (.drop [8] .ret))
 .skip)))
 (.drop [5, 6, 7, 8] (.seq (.reg [un (.ld 9 2 true (.t 1)),
 un (.call 10 Kq [((.t 9), false)]),
 un (.asg 4 (.t 10))])
 (.drop [9, 10] (.seq (.seq (.frz [4] (.reg [un (.mov 11 (.t 4)),
 un (.iad 12 1 (.t 11) (.c (.int .i64 0))),
 un (.ld 13 1 false (.t 12)),
 un (.len 14 (.t 13)),
 un (.bin 15 .eql (.t 14) (.c (.int .i64 0)))]))
 (.drop [11, 12, 13, 14] (.cond (.t 15) (.reg [un (.mov 16 (.t 4)),
 un (.slc 17 1 (.t 16) (some (.c (.int .i64 1))) none),
 un (.asg 4 (.t 17))])
 .skip)))
 (.drop [11, 12, 13, 14, 15, 16, 17] (.seq (.reg [un (.mov 18 (.t 4)),
 un (.call 19 I0 [((.t 18), false), ((.c (.clo Dx [])), false)]),
 un (.asg 2 (.t 19)),
 un (.asg 3 (.c (.bool true)))])
 (.drop [18, 19] .ret)))))))))
abbrev Xs : List RS := [.t 2, .t 3]
theorem Yh : A4 Try.prog Jf 20 X2 Xs = true := by kernel_rfl
def Kx : ACode :=
 (.seq (.seq (.reg [un (.mov 28 (.t 8)),
 un (.mov 29 (.t 5)),
 un (.len 30 (.t 29)),
 un (.bin 31 .lss (.t 28) (.t 30))])
 (.drop [28, 29, 30] (.cond (.t 31) .skip
 (.exit 2))))
 (.drop [28, 29, 30, 31] (.seq (.block 3 (.seq (.dreg [(un (.mov 34 (.t 5)), []),
 (un (.mov 35 (.t 8)), [34]),
 (un (.iad 36 1 (.t 34) (.t 35)), []),
 (un (.ld 37 1 false (.t 36)), []),
 (un (.len 38 (.t 37)), []),
 (un (.bin 39 .gtr (.t 38) (.c (.int .i64 0))), []),
 (un (.asg 40 (.t 39)), []),
 (⟨some (40, true), .mov 41 (.t 5)⟩, [39]),
 (⟨some (40, true), .mov 42 (.t 8)⟩, [41, 39]),
 (⟨some (40, true), .iad 43 1 (.t 41) (.t 42)⟩, [39]),
 (⟨some (40, true), .ld 44 1 false (.t 43)⟩, [39]),
 (⟨some (40, true), .len 45 (.t 44)⟩, [39]),
 (⟨some (40, true), .mov 46 (.t 5)⟩, [41, 42, 43, 44, 45, 39]),
 (⟨some (40, true), .mov 47 (.t 6)⟩, [41, 42, 43, 44, 45, 46, 39]),
 (⟨some (40, true), .iad 48 1 (.t 46) (.t 47)⟩, [41, 42, 43, 44, 45, 39]),
 (⟨some (40, true), .ld 49 1 false (.t 48)⟩, [41, 42, 43, 44, 45, 39]),
 (⟨some (40, true), .len 50 (.t 49)⟩, [41, 42, 43, 44, 45, 39]),
 (⟨some (40, true), .bin 51 .lss (.t 45) (.t 50)⟩, [39]),
 (un (.pick 52 (.t 40) (.t 51) (.c (.bool false))), [39]),
 (un (.asg 53 (.t 52)), [39]),
 (⟨some (53, true), .mov 54 (.t 5)⟩, [39, 52]),
 (⟨some (53, true), .mov 55 (.t 8)⟩, [54, 39, 52]),
 (⟨some (53, true), .iad 56 1 (.t 54) (.t 55)⟩, [39, 52]),
 (⟨some (53, true), .ld 57 1 false (.t 56)⟩, [39, 52]),
 (⟨some (53, true), .mov 58 (.t 5)⟩, [54, 55, 56, 57, 39, 52]),
 (⟨some (53, true), .mov 59 (.t 6)⟩, [54, 55, 56, 57, 58, 39, 52]),
 (⟨some (53, true), .iad 60 1 (.t 58) (.t 59)⟩, [54, 55, 56, 57, 39, 52]),
 (⟨some (53, true), .ld 61 1 false (.t 60)⟩, [54, 55, 56, 57, 39, 52])]
 [⟨some (53, true), .call 62 I2 [((.t 57), false), ((.t 61), false)]⟩,
 un (.pick 63 (.t 53) (.t 62) (.c (.bool false)))])
 (.drop [34, 35, 36, 37, 38, 39, 40, 41, 42, 43, 44, 45, 46, 47, 48, 49, 50, 51, 52, 53, 54, 55, 56, 57, 58, 59, 60, 61, 62] (.cond (.t 63) (.reg [un (.asg 7 (.c (.bool false)))])
 .skip))))
 (.drop [34, 35, 36, 37, 38, 39, 40, 41, 42, 43, 44, 45, 46, 47, 48, 49, 50, 51, 52, 53, 54, 55, 56, 57, 58, 59, 60, 61, 62, 63] (.reg [un (.mov 32 (.t 8)),
 un (.bin 33 .add (.t 32) (.c (.int .i64 1))),
 un (.asg 8 (.t 33))])))))
def K0 : ACode :=
 (.seq (.seq (.reg [un (.mov 16 (.t 6)),
 un (.mov 17 (.t 5)),
 un (.len 18 (.t 17)),
 un (.bin 19 .lss (.t 16) (.t 18))])
 (.drop [16, 17, 18] (.cond (.t 19) .skip
 (.exit 0))))
 (.drop [16, 17, 18, 19] (.seq (.block 1 (.seq (.reg [un (.mov 22 (.t 5)),
 un (.mov 23 (.t 6)),
 un (.iad 24 1 (.t 22) (.t 23)),
 un (.ld 25 1 false (.t 24)),
 un (.len 26 (.t 25)),
 un (.bin 27 .gtr (.t 26) (.c (.int .i64 0))),
 un (.asg 7 (.t 27))])
 (.drop [22, 23, 24, 25, 26, 27] (.seq (.seq (.reg [un (.asg 8 (.c (.int .i64 0)))])
 (.block 2 (.loop Kx)))
 (.drop [8, 28, 29, 30, 31, 34, 35, 36, 37, 38, 39, 40, 41, 42, 43, 44, 45, 46, 47, 48, 49, 50, 51, 52, 53, 54, 55, 56, 57, 58, 59, 60, 61, 62, 63, 32, 33] (.seq (.reg [un (.mov 64 (.t 7))])
 (.cond (.t 64) (.reg [un (.mov 65 (.t 4)),
 un (.mov 66 (.t 5)),
 un (.mov 67 (.t 6)),
 un (.iad 68 1 (.t 66) (.t 67)),
 un (.ld 69 1 false (.t 68)),
 un (.bsl 70 1 [(.t 69)]),
 un (.app 71 1 (.t 65) (.t 70)),
 un (.asg 4 (.t 71))])
 .skip)))))))
 (.drop [22, 23, 24, 25, 26, 27, 7, 8, 28, 29, 30, 31, 34, 35, 36, 37, 38, 39, 40, 41, 42, 43, 44, 45, 46, 47, 48, 49, 50, 51, 52, 53, 54, 55, 56, 57, 58, 59, 60, 61, 62, 63, 32, 33, 64, 65, 66, 67, 68, 69, 70, 71] (.reg [un (.mov 20 (.t 6)),
 un (.bin 21 .add (.t 20) (.c (.int .i64 1))),
 un (.asg 6 (.t 21))])))))
def Xw : ACode :=
 (.seq (.reg [un (.box 1 (.t 0)),
 un (.asg 2 (.c (.nilsl 1))),
 un (.asg 3 (.c (.bool false)))])
 (.seq (.reg [un (.bsl 9 1 []),
 un (.asg 4 (.t 9))])
 (.drop [9] (.seq (.seq (.reg [un (.ld 10 2 true (.t 1)),
 un (.call 11 G5 [((.t 10), false)]),
 un (.un 12 .not (.t 11))])
 (.drop [10, 11] (.cond (.t 12) (.seq (.reg [un (.mov 13 (.t 4)),
 un (.asg 2 (.t 13)),
 un (.asg 3 (.c (.bool false)))])
 (.drop [13] .ret))
 .skip)))
 (.drop [10, 11, 12, 13] (.seq (.reg [un (.ld 14 2 true (.t 1)),
 un (.call 15 Nm [((.t 14), false)]),
 un (.asg 5 (.t 15))])
 (.drop [14, 15] (.seq (.seq (.reg [un (.asg 6 (.c (.int .i64 0)))])
 (.block 0 (.loop K0)))
 (.drop [6, 16, 17, 18, 19, 22, 23, 24, 25, 26, 27, 7, 8, 28, 29, 30, 31, 34, 35, 36, 37, 38, 39, 40, 41, 42, 43, 44, 45, 46, 47, 48, 49, 50, 51, 52, 53, 54, 55, 56, 57, 58, 59, 60, 61, 62, 63, 32, 33, 64, 65, 66, 67, 68, 69, 70, 71, 20, 21] (.seq (.reg [un (.mov 72 (.t 4)),
 un (.asg 2 (.t 72)),
 un (.asg 3 (.c (.bool true)))])
 (.drop [72] .ret)))))))))))
abbrev X0 : List RS := [.t 2, .t 3]
theorem Xt : A4 Try.prog I5 73 Xw X0 = true := by kernel_rfl
def Yl : ACode :=
 (.seq (.reg [un (.box 1 (.t 0)),
 un (.asg 2 (.c (.nilsl 1)))])
 (.seq (.reg [un (.ld 4 2 true (.t 1)),
 un (.call 5 Kq [((.t 4), false)]),
 un (.asg 3 (.t 5))])
 (.drop [4, 5] (.seq (.frz [3] (.reg [un (.mov 6 (.t 3)),
 un (.mov 7 (.t 3)),
 un (.len 8 (.t 7)),
 un (.bin 9 .sub (.t 8) (.c (.int .i64 1))),
 un (.slc 10 1 (.t 6) none (some (.t 9))),
 un (.call 11 I0 [((.t 10), false), ((.c (.clo Iq [])), false)]),
 un (.asg 2 (.t 11))]))
 (.drop [6, 7, 8, 9, 10, 11] .ret)))))
abbrev Xk : List RS := [.t 2]
theorem Yu : A4 Try.prog Jh 12 Yl Xk = true := by kernel_rfl
def Nd : ACode :=
 (.seq (.seq (.reg [un (.mov 25 (.t 7)),
 un (.mov 26 (.t 4)),
 un (.len 27 (.t 26)),
 un (.bin 28 .lss (.t 25) (.t 27))])
 (.drop [25, 26, 27] (.cond (.t 28) .skip
 (.exit 2))))
 (.drop [25, 26, 27, 28] (.seq (.block 3 (.seq (.dreg [(un (.mov 31 (.t 4)), []),
 (un (.mov 32 (.t 7)), [31]),
 (un (.iad 33 1 (.t 31) (.t 32)), []),
 (un (.ld 34 1 false (.t 33)), []),
 (un (.len 35 (.t 34)), []),
 (un (.fadr 36 0 (.t 1)), [31, 32, 33, 34, 35]),
 (un (.ld 37 1 false (.t 36)), [31, 32, 33, 34, 35]),
 (un (.bin 38 .lss (.t 35) (.t 37)), []),
 (un (.asg 39 (.t 38)), []),
 (⟨some (39, true), .mov 40 (.t 4)⟩, [38]),
 (⟨some (39, true), .mov 41 (.t 7)⟩, [40, 38]),
 (⟨some (39, true), .iad 42 1 (.t 40) (.t 41)⟩, [38]),
 (⟨some (39, true), .ld 43 1 false (.t 42)⟩, [38]),
 (⟨some (39, true), .len 44 (.t 43)⟩, [38]),
 (⟨some (39, true), .mov 45 (.t 4)⟩, [40, 41, 42, 43, 44, 38]),
 (⟨some (39, true), .mov 46 (.t 5)⟩, [40, 41, 42, 43, 44, 45, 38]),
 (⟨some (39, true), .iad 47 1 (.t 45) (.t 46)⟩, [40, 41, 42, 43, 44, 38]),
 (⟨some (39, true), .ld 48 1 false (.t 47)⟩, [40, 41, 42, 43, 44, 38]),
 (⟨some (39, true), .len 49 (.t 48)⟩, [40, 41, 42, 43, 44, 38]),
 (⟨some (39, true), .bin 50 .gtr (.t 44) (.t 49)⟩, [38]),
 (un (.pick 51 (.t 39) (.t 50) (.c (.bool false))), [38]),
 (un (.asg 52 (.t 51)), [38]),
 (⟨some (52, true), .mov 53 (.t 4)⟩, [38, 51]),
 (⟨some (52, true), .mov 54 (.t 5)⟩, [53, 38, 51]),
 (⟨some (52, true), .iad 55 1 (.t 53) (.t 54)⟩, [38, 51]),
 (⟨some (52, true), .ld 56 1 false (.t 55)⟩, [38, 51]),
 (⟨some (52, true), .mov 57 (.t 4)⟩, [53, 54, 55, 56, 38, 51]),
 (⟨some (52, true), .mov 58 (.t 7)⟩, [53, 54, 55, 56, 57, 38, 51]),
 (⟨some (52, true), .iad 59 1 (.t 57) (.t 58)⟩, [53, 54, 55, 56, 38, 51]),
 (⟨some (52, true), .ld 60 1 false (.t 59)⟩, [53, 54, 55, 56, 38, 51])]
 [⟨some (52, true), .call 61 I2 [((.t 56), false), ((.t 60), false)]⟩,
 un (.pick 62 (.t 52) (.t 61) (.c (.bool false)))])
 (.drop [31, 32, 33, 34, 35, 36, 37, 38, 39, 40, 41, 42, 43, 44, 45, 46, 47, 48, 49, 50, 51, 52, 53, 54, 55, 56, 57, 58, 59, 60, 61] (.cond (.t 62) (.reg [un (.asg 6 (.c (.bool false)))])
 .skip))))
 (.drop [31, 32, 33, 34, 35, 36, 37, 38, 39, 40, 41, 42, 43, 44, 45, 46, 47, 48, 49, 50, 51, 52, 53, 54, 55, 56, 57, 58, 59, 60, 61, 62] (.reg [un (.mov 29 (.t 7)),
 un (.bin 30 .add (.t 29) (.c (.int .i64 1))),
 un (.asg 7 (.t 30))])))))
def Nj : ACode :=
 (.seq (.seq (.reg [un (.mov 11 (.t 5)),
 un (.mov 12 (.t 4)),
 un (.len 13 (.t 12)),
 un (.bin 14 .lss (.t 11) (.t 13))])
 (.drop [11, 12, 13] (.cond (.t 14) .skip
 (.exit 0))))
 (.drop [11, 12, 13, 14] (.seq (.block 1 (.seq (.dreg [(un (.mov 17 (.t 4)), []),
 (un (.mov 18 (.t 5)), [17]),
 (un (.iad 19 1 (.t 17) (.t 18)), []),
 (un (.ld 20 1 false (.t 19)), []),
 (un (.len 21 (.t 20)), []),
 (un (.fadr 22 0 (.t 1)), [17, 18, 19, 20, 21]),
 (un (.ld 23 1 false (.t 22)), [17, 18, 19, 20, 21])]
 [un (.bin 24 .lss (.t 21) (.t 23)),
 un (.asg 6 (.t 24))])
 (.drop [17, 18, 19, 20, 21, 22, 23, 24] (.seq (.seq (.reg [un (.asg 7 (.c (.int .i64 0)))])
 (.block 2 (.loop Nd)))
 (.drop [7, 25, 26, 27, 28, 31, 32, 33, 34, 35, 36, 37, 38, 39, 40, 41, 42, 43, 44, 45, 46, 47, 48, 49, 50, 51, 52, 53, 54, 55, 56, 57, 58, 59, 60, 61, 62, 29, 30] (.seq (.reg [un (.mov 63 (.t 6))])
 (.cond (.t 63) (.reg [un (.mov 64 (.t 3)),
 un (.mov 65 (.t 4)),
 un (.mov 66 (.t 5)),
 un (.iad 67 1 (.t 65) (.t 66)),
 un (.ld 68 1 false (.t 67)),
 un (.bsl 69 1 [(.t 68)]),
 un (.app 70 1 (.t 64) (.t 69)),
 un (.asg 3 (.t 70))])
 .skip)))))))
 (.drop [17, 18, 19, 20, 21, 22, 23, 24, 6, 7, 25, 26, 27, 28, 31, 32, 33, 34, 35, 36, 37, 38, 39, 40, 41, 42, 43, 44, 45, 46, 47, 48, 49, 50, 51, 52, 53, 54, 55, 56, 57, 58, 59, 60, 61, 62, 29, 30, 63, 64, 65, 66, 67, 68, 69, 70] (.reg [un (.mov 15 (.t 5)),
 un (.bin 16 .add (.t 15) (.c (.int .i64 1))),
 un (.asg 5 (.t 16))])))))
def Abg : ACode :=
 (.seq (.reg [un (.box 1 (.t 0)),
 un (.asg 2 (.c (.nilsl 1)))])
 (.seq (.reg [un (.bsl 8 1 []),
 un (.asg 3 (.t 8))])
 (.drop [8] (.seq (.reg [un (.ld 9 2 true (.t 1)),
 un (.call 10 Nm [((.t 9), false)]),
 un (.asg 4 (.t 10))])
 (.drop [9, 10] (.seq (.seq (.reg [un (.asg 5 (.c (.int .i64 0)))])
 (.block 0 (.loop Nj)))
 (.drop [5, 11, 12, 13, 14, 17, 18, 19, 20, 21, 22, 23, 24, 6, 7, 25, 26, 27, 28, 31, 32, 33, 34, 35, 36, 37, 38, 39, 40, 41, 42, 43, 44, 45, 46, 47, 48, 49, 50, 51, 52, 53, 54, 55, 56, 57, 58, 59, 60, 61, 62, 29, 30, 63, 64, 65, 66, 67, 68, 69, 70, 15, 16] (.seq (.reg [un (.mov 71 (.t 3)),
 un (.asg 2 (.t 71))])
 (.drop [71] .ret)))))))))
abbrev Abh : List RS := [.t 2]
theorem Abm : A4 Try.prog Lq 72 Abg Abh = true := by kernel_rfl
def Xv : ACode :=
 (.seq (.reg [un (.box 1 (.t 0)),
 un (.asg 2 (.c (.nilsl 1))),
 un (.asg 3 (.c (.bool false)))])
 (.seq (.seq (.reg [un (.ld 4 2 true (.t 1)),
 un (.call 5 Di [((.t 4), false)]),
 un (.un 6 .not (.t 5))])
 (.drop [4, 5] (.cond (.t 6) (.seq (.reg [un (.bsl 7 1 []),
 un (.asg 2 (.t 7)),
 un (.asg 3 (.c (.bool false)))])
 (.drop [7] .ret))
 .skip)))
 (.drop [4, 5, 6, 7] (.seq (.reg [un (.ld 8 2 true (.t 1)),
 un (.call 9 Jh [((.t 8), false)]),
 un (.asg 2 (.t 9)),
 un (.asg 3 (.c (.bool true)))])
 (.drop [8, 9] .ret)))))
abbrev Ys : List RS := [.t 2, .t 3]
theorem Yg : A4 Try.prog Jb 10 Xv Ys = true := by kernel_rfl
def Ya : ACode :=
 (.seq (.reg [un (.box 1 (.t 0)),
 un (.asg 2 (.c (.nilsl 1))),
 un (.asg 3 (.c (.bool false)))])
 (.seq (.seq (.reg [un (.ld 4 2 true (.t 1)),
 un (.call 5 G5 [((.t 4), false)]),
 un (.un 6 .not (.t 5))])
 (.drop [4, 5] (.cond (.t 6) (.seq (.reg [un (.bsl 7 1 []),
 un (.asg 2 (.t 7)),
 un (.asg 3 (.c (.bool false)))])
 (.drop [7] .ret))
 .skip)))
 (.drop [4, 5, 6, 7] (.seq (.reg [un (.ld 8 2 true (.t 1)),
 un (.call 9 Lq [((.t 8), false)]),
 un (.asg 2 (.t 9)),
 un (.asg 3 (.c (.bool true)))])
 (.drop [8, 9] .ret)))))
abbrev Xr : List RS := [.t 2, .t 3]
theorem Yj : A4 Try.prog Je 10 Ya Xr = true := by kernel_rfl
def R9 : ACode :=
 (.seq (.reg [un (.ld 41 2 true (.t 3)),
 un (.call 42 Hr [((.t 41), false)]),
 un (.asg 40 (.t 42)),
 un (.ext 43 (.t 40) 0),
 un (.ext 44 (.t 40) 1),
 un (.asg 6 (.t 43)),
 un (.asg 7 (.t 44))])
 (.drop [41, 42, 40, 43, 44] (.seq (.reg [un (.mov 45 (.t 5)),
 un (.mov 46 (.t 7)),
 un (.binb 47 .neq (.t 45) (.t 46)),
 un (.asg 48 (.t 47)),
 ⟨some (48, false), .mov 49 (.t 4)⟩,
 ⟨some (48, false), .mov 50 (.t 6)⟩,
 ⟨some (48, false), .call 51 Hy [((.t 49), false), ((.t 50), false)]⟩,
 ⟨some (48, false), .un 52 .not (.t 51)⟩,
 un (.pick 53 (.t 48) (.c (.bool true)) (.t 52))])
 (.drop [45, 46, 47, 48, 49, 50, 51, 52] (.cond (.t 53) (.seq (.reg [un (.asg 2 (.c (.bool false)))])
 .ret)
 .skip)))))
def S9 : ACode :=
 (.seq (.reg [un (.ld 60 2 true (.t 3)),
 un (.call 61 Je [((.t 60), false)]),
 un (.asg 59 (.t 61)),
 un (.ext 62 (.t 59) 0),
 un (.ext 63 (.t 59) 1),
 un (.asg 10 (.t 62)),
 un (.asg 11 (.t 63))])
 (.drop [60, 61, 59, 62, 63] (.seq (.reg [un (.mov 64 (.t 9)),
 un (.mov 65 (.t 11)),
 un (.binb 66 .neq (.t 64) (.t 65)),
 un (.asg 67 (.t 66)),
 ⟨some (67, false), .mov 68 (.t 9)⟩,
 ⟨some (67, false), .mov 69 (.t 5)⟩,
 ⟨some (67, false), .binb 70 .neq (.t 68) (.t 69)⟩,
 un (.pick 71 (.t 67) (.c (.bool true)) (.t 70)),
 un (.asg 72 (.t 71)),
 ⟨some (72, false), .mov 73 (.t 8)⟩,
 ⟨some (72, false), .mov 74 (.t 10)⟩,
 ⟨some (72, false), .call 75 L7 [((.t 73), false), ((.t 74), false)]⟩,
 ⟨some (72, false), .un 76 .not (.t 75)⟩,
 un (.pick 77 (.t 72) (.c (.bool true)) (.t 76))])
 (.drop [64, 65, 66, 67, 68, 69, 70, 71, 72, 73, 74, 75, 76] (.cond (.t 77) (.seq (.reg [un (.asg 2 (.c (.bool false)))])
 .ret)
 .skip)))))
def S0 : ACode :=
 (.seq (.reg [un (.ld 84 2 true (.t 3)),
 un (.call 85 Gn [((.t 84), false)]),
 un (.asg 83 (.t 85)),
 un (.ext 86 (.t 83) 0),
 un (.ext 87 (.t 83) 1),
 un (.asg 14 (.t 86)),
 un (.asg 15 (.t 87))])
 (.drop [84, 85, 83, 86, 87] (.seq (.reg [un (.mov 88 (.t 13)),
 un (.mov 89 (.t 15)),
 un (.binb 90 .neq (.t 88) (.t 89)),
 un (.asg 91 (.t 90)),
 ⟨some (91, false), .mov 92 (.t 13)⟩,
 ⟨some (91, false), .mov 93 (.t 5)⟩,
 ⟨some (91, false), .binb 94 .neq (.t 92) (.t 93)⟩,
 un (.pick 95 (.t 91) (.c (.bool true)) (.t 94)),
 un (.asg 96 (.t 95)),
 ⟨some (96, false), .mov 97 (.t 12)⟩,
 ⟨some (96, false), .mov 98 (.t 14)⟩,
 ⟨some (96, false), .call 99 Hy [((.t 97), false), ((.t 98), false)]⟩,
 ⟨some (96, false), .un 100 .not (.t 99)⟩,
 un (.pick 101 (.t 96) (.c (.bool true)) (.t 100))])
 (.drop [88, 89, 90, 91, 92, 93, 94, 95, 96, 97, 98, 99, 100] (.cond (.t 101) (.seq (.reg [un (.asg 2 (.c (.bool false)))])
 .ret)
 .skip)))))
def Kj : ACode :=
 (.seq (.seq (.reg [un (.mov 110 (.t 18)),
 un (.mov 111 (.t 8)),
 un (.len 112 (.t 111)),
 un (.bin 113 .lss (.t 110) (.t 112))])
 (.drop [110, 111, 112] (.cond (.t 113) .skip
 (.exit 2))))
 (.drop [110, 111, 112, 113] (.seq (.block 3 (.reg [un (.mov 116 (.t 17)),
 un (.asg 117 (.t 116)),
 ⟨some (117, true), .mov 118 (.t 8)⟩,
 ⟨some (117, true), .mov 119 (.t 18)⟩,
 ⟨some (117, true), .iad 120 1 (.t 118) (.t 119)⟩,
 ⟨some (117, true), .ld 121 1 false (.t 120)⟩,
 ⟨some (117, true), .mov 122 (.t 16)⟩,
 ⟨some (117, true), .call 123 Pa [((.t 121), false), ((.t 122), false)]⟩,
 un (.pick 124 (.t 117) (.t 123) (.c (.bool false))),
 un (.asg 17 (.t 124))]))
 (.drop [116, 117, 118, 119, 120, 121, 122, 123, 124] (.reg [un (.mov 114 (.t 18)),
 un (.bin 115 .add (.t 114) (.c (.int .i64 1))),
 un (.asg 18 (.t 115))])))))
def Ki : ACode :=
 (.seq (.seq (.reg [un (.mov 104 (.t 16)),
 un (.fadr 105 0 (.t 3)),
 un (.ld 106 1 false (.t 105)),
 un (.bin 107 .lss (.t 104) (.t 106))])
 (.drop [104, 105, 106] (.cond (.t 107) .skip
 (.exit 0))))
 (.drop [104, 105, 106, 107] (.seq (.block 1 (.seq (.reg [un (.asg 17 (.c (.bool true)))])
 (.seq (.seq (.reg [un (.asg 18 (.c (.int .i64 0)))])
 (.block 2 (.loop Kj)))
 (.drop [18, 110, 111, 112, 113, 116, 117, 118, 119, 120, 121, 122, 123, 124, 114, 115] (.seq (.reg [un (.mov 125 (.t 17)),
 un (.mov 126 (.t 4)),
 un (.mov 127 (.t 16)),
 un (.call 128 Pa [((.t 126), false), ((.t 127), false)]),
 un (.binb 129 .neq (.t 125) (.t 128))])
 (.drop [125, 126, 127, 128] (.cond (.t 129) (.seq (.reg [un (.asg 2 (.c (.bool false)))])
 .ret)
 .skip)))))))
 (.drop [17, 18, 110, 111, 112, 113, 116, 117, 118, 119, 120, 121, 122, 123, 124, 114, 115, 125, 126, 127, 128, 129] (.reg [un (.mov 108 (.t 16)),
 un (.bin 109 .add (.t 108) (.c (.int .i64 1))),
 un (.asg 16 (.t 109))])))))
def Sk : ACode :=
 (.seq (.reg [un (.mov 142 (.t 20)),
 un (.un 143 .not (.t 142)),
 un (.asg 144 (.t 143)),
 ⟨some (144, false), .mov 145 (.t 22)⟩,
 ⟨some (144, false), .un 146 .not (.t 145)⟩,
 un (.pick 147 (.t 144) (.c (.bool true)) (.t 146)),
 un (.asg 148 (.t 147)),
 ⟨some (148, false), .mov 149 (.t 19)⟩,
 ⟨some (148, false), .un 150 .not (.t 149)⟩,
 un (.pick 151 (.t 148) (.c (.bool true)) (.t 150)),
 un (.asg 152 (.t 151)),
 ⟨some (152, false), .mov 153 (.t 21)⟩,
 ⟨some (152, false), .un 154 .not (.t 153)⟩,
 un (.pick 155 (.t 152) (.c (.bool true)) (.t 154))])
 (.drop [142, 143, 144, 145, 146, 147, 148, 149, 150, 151, 152, 153, 154] (.cond (.t 155) (.seq (.reg [un (.asg 2 (.c (.bool false)))])
 .ret)
 .skip)))
def Sf : ACode :=
 (.seq (.reg [un (.ld 162 2 true (.t 3)),
 un (.call 163 I5 [((.t 162), false)]),
 un (.asg 161 (.t 163)),
 un (.ext 164 (.t 161) 0),
 un (.ext 165 (.t 161) 1),
 un (.asg 25 (.t 164)),
 un (.asg 26 (.t 165))])
 (.drop [162, 163, 161, 164, 165] (.seq (.reg [un (.mov 166 (.t 24)),
 un (.mov 167 (.t 26)),
 un (.binb 168 .neq (.t 166) (.t 167)),
 un (.asg 169 (.t 168)),
 ⟨some (169, false), .mov 170 (.t 24)⟩,
 ⟨some (169, false), .un 171 .not (.t 170)⟩,
 un (.pick 172 (.t 169) (.c (.bool true)) (.t 171)),
 un (.asg 173 (.t 172)),
 ⟨some (173, false), .mov 174 (.t 23)⟩,
 ⟨some (173, false), .mov 175 (.t 25)⟩,
 ⟨some (173, false), .call 176 L7 [((.t 174), false), ((.t 175), false)]⟩,
 ⟨some (173, false), .un 177 .not (.t 176)⟩,
 un (.pick 178 (.t 173) (.c (.bool true)) (.t 177))])
 (.drop [166, 167, 168, 169, 170, 171, 172, 173, 174, 175, 176, 177] (.cond (.t 178) (.seq (.reg [un (.asg 2 (.c (.bool false)))])
 .ret)
 .skip)))))
def J7 : ACode :=
 (.seq (.seq (.reg [un (.mov 185 (.t 28)),
 un (.mov 186 (.t 23)),
 un (.mov 187 (.t 27)),
 un (.iad 188 1 (.t 186) (.t 187)),
 un (.ld 189 1 false (.t 188)),
 un (.len 190 (.t 189)),
 un (.bin 191 .lss (.t 185) (.t 190))])
 (.drop [185, 186, 187, 188, 189, 190] (.cond (.t 191) .skip
 (.exit 6))))
 (.drop [185, 186, 187, 188, 189, 190, 191] (.seq (.block 7 (.seq (.dreg [(un (.ld 195 2 true (.t 3)), []),
 (un (.mov 196 (.t 23)), [195]),
 (un (.mov 197 (.t 27)), [195, 196]),
 (un (.iad 198 1 (.t 196) (.t 197)), [195]),
 (un (.ld 199 1 false (.t 198)), [195]),
 (un (.mov 200 (.t 28)), [195, 196, 197, 198, 199]),
 (un (.mov 201 (.t 28)), [195, 196, 197, 198, 199, 200]),
 (un (.bin 202 .add (.t 201) (.c (.int .i64 1))), [195, 196, 197, 198, 199, 200]),
 (un (.slc 203 1 (.t 199) (some (.t 200)) (some (.t 202))), [195]),
 (un (.call 204 I7 [((.t 195), false), ((.t 203), false)]), []),
 (un (.asg 194 (.t 204)), []),
 (un (.ext 205 (.t 194) 0), [204]),
 (un (.ext 206 (.t 194) 1), [205, 204, 205])]
 [un (.asg 29 (.t 205)),
 un (.asg 30 (.t 206))])
 (.drop [195, 196, 197, 198, 199, 200, 201, 202, 203, 204, 194, 205, 206] (.seq (.reg [un (.mov 207 (.t 30)),
 un (.un 208 .not (.t 207)),
 un (.asg 209 (.t 208)),
 ⟨some (209, false), .mov 210 (.t 29)⟩,
 ⟨some (209, false), .mov 211 (.t 23)⟩,
 ⟨some (209, false), .mov 212 (.t 27)⟩,
 ⟨some (209, false), .iad 213 1 (.t 211) (.t 212)⟩,
 ⟨some (209, false), .ld 214 1 false (.t 213)⟩,
 ⟨some (209, false), .call 215 Hy [((.t 210), false), ((.t 214), false)]⟩,
 ⟨some (209, false), .un 216 .not (.t 215)⟩,
 un (.pick 217 (.t 209) (.c (.bool true)) (.t 216))])
 (.drop [207, 208, 209, 210, 211, 212, 213, 214, 215, 216] (.cond (.t 217) (.seq (.reg [un (.asg 2 (.c (.bool false)))])
 .ret)
 .skip))))))
 (.drop [195, 196, 197, 198, 199, 200, 201, 202, 203, 204, 194, 205, 206, 29, 30, 207, 208, 209, 210, 211, 212, 213, 214, 215, 216, 217] (.reg [un (.mov 192 (.t 28)),
 un (.bin 193 .add (.t 192) (.c (.int .i64 1))),
 un (.asg 28 (.t 193))])))))
def Ks : ACode :=
 (.seq (.seq (.reg [un (.mov 179 (.t 27)),
 un (.mov 180 (.t 23)),
 un (.len 181 (.t 180)),
 un (.bin 182 .lss (.t 179) (.t 181))])
 (.drop [179, 180, 181] (.cond (.t 182) .skip
 (.exit 4))))
 (.drop [179, 180, 181, 182] (.seq (.block 5 (.seq (.reg [un (.asg 28 (.c (.int .i64 0)))])
 (.block 6 (.loop J7))))
 (.drop [28, 185, 186, 187, 188, 189, 190, 191, 195, 196, 197, 198, 199, 200, 201, 202, 203, 204, 194, 205, 206, 29, 30, 207, 208, 209, 210, 211, 212, 213, 214, 215, 216, 217, 192, 193] (.reg [un (.mov 183 (.t 27)),
 un (.bin 184 .add (.t 183) (.c (.int .i64 1))),
 un (.asg 27 (.t 184))])))))
def W0 : ACode :=
 (.seq (.reg [un (.asg 2 (.c (.bool false)))])
 (.seq (.seq (.reg [un (.mov 31 (.t 0)),
 un (.call 32 Vy [((.t 31), false)])])
 (.drop [31] (.cond (.t 32) (.seq (.reg [un (.asg 2 (.c (.bool true)))])
 .ret)
 .skip)))
 (.drop [31, 32] (.seq (.reg [un (.mov 33 (.t 0)),
 un (.call 34 Fs [((.t 33), false)]),
 un (.alc 3 (.agg [.int .i64 0, .nilsl 2])),
 un (.st 2 (.t 3) (.t 34))])
 (.drop [33, 34] (.seq (.reg [un (.ld 36 2 true (.t 3)),
 un (.call 37 Ho [((.t 36), false)]),
 un (.asg 35 (.t 37)),
 un (.ext 38 (.t 35) 0),
 un (.ext 39 (.t 35) 1),
 un (.asg 4 (.t 38)),
 un (.asg 5 (.t 39))])
 (.drop [36, 37, 35, 38, 39] (.seq (.cut R9)
 (.drop [41, 42, 40, 43, 44, 6, 7, 45, 46, 47, 48, 49, 50, 51, 52, 53] (.seq (.reg [un (.ld 55 2 true (.t 3)),
 un (.call 56 Jb [((.t 55), false)]),
 un (.asg 54 (.t 56)),
 un (.ext 57 (.t 54) 0),
 un (.ext 58 (.t 54) 1),
 un (.asg 8 (.t 57)),
 un (.asg 9 (.t 58))])
 (.drop [55, 56, 54, 57, 58] (.seq (.cut S9)
 (.drop [60, 61, 59, 62, 63, 10, 11, 64, 65, 66, 67, 68, 69, 70, 71, 72, 73, 74, 75, 76, 77] (.seq (.reg [un (.ld 79 2 true (.t 3)),
 un (.call 80 Gx [((.t 79), false)]),
 un (.asg 78 (.t 80)),
 un (.ext 81 (.t 78) 0),
 un (.ext 82 (.t 78) 1),
 un (.asg 12 (.t 81)),
 un (.asg 13 (.t 82))])
 (.drop [79, 80, 78, 81, 82] (.seq (.cut S0)
 (.drop [84, 85, 83, 86, 87, 14, 15, 88, 89, 90, 91, 92, 93, 94, 95, 96, 97, 98, 99, 100, 101] (.seq (.seq (.reg [un (.mov 102 (.t 5)),
 un (.un 103 .not (.t 102))])
 (.drop [102] (.cond (.t 103) (.seq (.reg [un (.asg 2 (.c (.bool true)))])
 .ret)
 .skip)))
 (.drop [102, 103] (.seq (.seq (.reg [un (.asg 16 (.c (.int .i64 0)))])
 (.block 0 (.loop Ki)))
 (.drop [16, 104, 105, 106, 107, 17, 18, 110, 111, 112, 113, 116, 117, 118, 119, 120, 121, 122, 123, 124, 114, 115, 125, 126, 127, 128, 129, 108, 109] (.seq (.reg [un (.ld 131 2 true (.t 3)),
 un (.mov 132 (.t 12)),
 un (.call 133 Ii [((.t 131), false), ((.t 132), false)]),
 un (.asg 130 (.t 133)),
 un (.ext 134 (.t 130) 0),
 un (.ext 135 (.t 130) 1),
 un (.asg 19 (.t 134)),
 un (.asg 20 (.t 135))])
 (.drop [131, 132, 133, 130, 134, 135] (.seq (.reg [un (.ld 137 2 true (.t 3)),
 un (.mov 138 (.t 12)),
 un (.call 139 Hm [((.t 137), false), ((.t 138), false)]),
 un (.asg 136 (.t 139)),
 un (.ext 140 (.t 136) 0),
 un (.ext 141 (.t 136) 1),
 un (.asg 21 (.t 140)),
 un (.asg 22 (.t 141))])
 (.drop [137, 138, 139, 136, 140, 141] (.seq (.cut Sk)
 (.drop [142, 143, 144, 145, 146, 147, 148, 149, 150, 151, 152, 153, 154, 155] (.seq (.reg [un (.ld 157 2 true (.t 3)),
 un (.call 158 Jf [((.t 157), false)]),
 un (.asg 156 (.t 158)),
 un (.ext 159 (.t 156) 0),
 un (.ext 160 (.t 156) 1),
 un (.asg 23 (.t 159)),
 un (.asg 24 (.t 160))])
 (.drop [157, 158, 156, 159, 160] (.seq (.cut Sf)
 (.drop [162, 163, 161, 164, 165, 25, 26, 166, 167, 168, 169, 170, 171, 172, 173, 174, 175, 176, 177, 178] (.seq (.seq (.reg [un (.asg 27 (.c (.int .i64 0)))])
 (.block 4 (.loop Ks)))
 (.drop [27, 179, 180, 181, 182, 28, 185, 186, 187, 188, 189, 190, 191, 195, 196, 197, 198, 199, 200, 201, 202, 203, 204, 194, 205, 206, 29, 30, 207, 208, 209, 210, 211, 212, 213, 214, 215, 216, 217, 192, 193, 183, 184] (.seq (.reg [un (.asg 2 (.c (.bool true)))])
 .ret))))))))))))))))))))))))))))))))))
abbrev Wn : List RS := [.t 2]
theorem W3 : A4 Try.prog Nh 218 W0 Wn = true := by kernel_rfl
end Go.Proofs.Ytidaaijecmkndaa.Ax
