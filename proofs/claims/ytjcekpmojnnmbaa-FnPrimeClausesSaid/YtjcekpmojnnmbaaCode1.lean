/-
  The small code of the functions, written by program; that the program's code is this one, the kernel looks at.
-/
import Derived.Test.YtjcekpmojnnmbaaAx3
import Derived.Test.YtjcekpmojnnmbaaProg
import Derived.KernelRfl
import Derived.Test.YtjcekpmojnnmbaaNum
namespace Go.Proofs.Ytjcekpmojnnmbaa.Ax
open Go
set_option maxRecDepth 100000
def Ard : ACode :=
 (.seq (.reg [un (.asg 2 (.c (.bool false)))])
 (.seq (.reg [un (.mov 3 (.t 0)),
 un (.len 4 (.t 3)),
 un (.bin 5 .gtr (.t 4) (.c (.int .i64 65536))),
 un (.asg 2 (.t 5))])
 (.drop [3, 4, 5] .ret)))
abbrev Apk : List RS := [.t 2]
theorem Apx : A9 Try.prog Yc 6 Ard Apk = true := by kernel_rfl
def U7 : ACode :=
 (.seq (.seq (.reg [un (.mov 11 (.t 5)),
 un (.mov 12 (.t 0)),
 un (.len 13 (.t 12)),
 un (.bin 14 .lss (.t 11) (.t 13))])
 (.drop [11, 12, 13] (.cond (.t 14) .skip
 (.exit 0))))
 (.drop [11, 12, 13, 14] (.seq (.block 1 (.seq (.dreg [(un (.mov 17 (.t 0)), []),
 (un (.mov 18 (.t 5)), [17]),
 (un (.iad 19 1 (.t 17) (.t 18)), []),
 (un (.ld 20 1 false (.t 19)), []),
 (un (.mov 21 (.t 1)), [17, 18, 19, 20]),
 (un (.mov 22 (.t 5)), [17, 18, 19, 20, 21]),
 (un (.iad 23 1 (.t 21) (.t 22)), [17, 18, 19, 20]),
 (un (.ld 24 1 false (.t 23)), [17, 18, 19, 20])]
 [un (.binb 25 .neq (.t 20) (.t 24))])
 (.drop [17, 18, 19, 20, 21, 22, 23, 24] (.cond (.t 25) (.seq (.reg [un (.asg 4 (.c (.bool false)))])
 .ret)
 .skip))))
 (.drop [17, 18, 19, 20, 21, 22, 23, 24, 25] (.reg [un (.mov 15 (.t 5)),
 un (.bin 16 .add (.t 15) (.c (.int .i64 1))),
 un (.asg 5 (.t 16))])))))
def Alb : ACode :=
 (.seq (.reg [un (.asg 4 (.c (.bool false)))])
 (.seq (.seq (.reg [un (.mov 6 (.t 0)),
 un (.len 7 (.t 6)),
 un (.mov 8 (.t 1)),
 un (.len 9 (.t 8)),
 un (.bin 10 .neq (.t 7) (.t 9))])
 (.drop [6, 7, 8, 9] (.cond (.t 10) (.seq (.reg [un (.asg 4 (.c (.bool false)))])
 .ret)
 .skip)))
 (.drop [6, 7, 8, 9, 10] (.seq (.seq (.reg [un (.asg 5 (.c (.int .i64 0)))])
 (.block 0 (.loop U7)))
 (.drop [5, 11, 12, 13, 14, 17, 18, 19, 20, 21, 22, 23, 24, 25, 15, 16] (.seq (.reg [un (.asg 4 (.c (.bool true)))])
 .ret))))))
abbrev Akb : List RS := [.t 4]
theorem Alh : A9 Try.prog Ns 26 Alb Akb = true := by kernel_rfl
def Wk : ACode :=
 (.seq (.seq (.reg [un (.mov 11 (.t 5)),
 un (.mov 12 (.t 0)),
 un (.len 13 (.t 12)),
 un (.bin 14 .lss (.t 11) (.t 13))])
 (.drop [11, 12, 13] (.cond (.t 14) .skip
 (.exit 0))))
 (.drop [11, 12, 13, 14] (.seq (.block 1 (.seq (.dreg [(un (.mov 17 (.t 0)), []),
 (un (.mov 18 (.t 5)), [17]),
 (un (.iad 19 1 (.t 17) (.t 18)), []),
 (un (.ld 20 1 false (.t 19)), []),
 (un (.mov 21 (.t 1)), [17, 18, 19, 20]),
 (un (.mov 22 (.t 5)), [17, 18, 19, 20, 21]),
 (un (.iad 23 1 (.t 21) (.t 22)), [17, 18, 19, 20]),
 (un (.ld 24 1 false (.t 23)), [17, 18, 19, 20])]
 [un (.bin 25 .neq (.t 20) (.t 24))])
 (.drop [17, 18, 19, 20, 21, 22, 23, 24] (.cond (.t 25) (.seq (.reg [un (.asg 4 (.c (.bool false)))])
 .ret)
 .skip))))
 (.drop [17, 18, 19, 20, 21, 22, 23, 24, 25] (.reg [un (.mov 15 (.t 5)),
 un (.bin 16 .add (.t 15) (.c (.int .i64 1))),
 un (.asg 5 (.t 16))])))))
def Aok : ACode :=
 (.seq (.reg [un (.asg 4 (.c (.bool false)))])
 (.seq (.seq (.reg [un (.mov 6 (.t 0)),
 un (.len 7 (.t 6)),
 un (.mov 8 (.t 1)),
 un (.len 9 (.t 8)),
 un (.bin 10 .neq (.t 7) (.t 9))])
 (.drop [6, 7, 8, 9] (.cond (.t 10) (.seq (.reg [un (.asg 4 (.c (.bool false)))])
 .ret)
 .skip)))
 (.drop [6, 7, 8, 9, 10] (.seq (.seq (.reg [un (.asg 5 (.c (.int .i64 0)))])
 (.block 0 (.loop Wk)))
 (.drop [5, 11, 12, 13, 14, 17, 18, 19, 20, 21, 22, 23, 24, 25, 15, 16] (.seq (.reg [un (.asg 4 (.c (.bool true)))])
 .ret))))))
abbrev Aoy : List RS := [.t 4]
theorem Aox : A9 Try.prog Vb 26 Aok Aoy = true := by kernel_rfl
def Ql : ACode :=
 (.seq (.reg [un (.bin 12 .lss (.t 11) (.t 10))])
 (.seq (.cond (.t 12) .skip
 (.exit 0))
 (.seq (.block 1 (.seq (.reg [un (.iad 13 1 (.t 9) (.t 11)),
 un (.ld 14 1 false (.t 13)),
 un (.asg 7 (.t 14))])
 (.drop [13, 14] (.seq (.reg [un (.mov 15 (.t 7)),
 un (.mov 16 (.t 7)),
 un (.un 17 .neg (.t 16)),
 un (.max 18 (.t 15) (.t 17)),
 un (.asg 8 (.t 18))])
 (.drop [15, 16, 17, 18] (.seq (.seq (.reg [un (.mov 19 (.t 8)),
 un (.mov 20 (.t 5)),
 un (.bin 21 .leq (.t 19) (.t 20)),
 un (.asg 22 (.t 21)),
 ⟨some (22, false), .mov 23 (.t 8)⟩,
 ⟨some (22, false), .mov 24 (.t 0)⟩,
 ⟨some (22, false), .bin 25 .gtr (.t 23) (.t 24)⟩,
 un (.pick 26 (.t 22) (.c (.bool true)) (.t 25))])
 (.drop [19, 20, 21, 22, 23, 24, 25] (.cond (.t 26) (.seq (.reg [un (.asg 4 (.c (.bool false)))])
 .ret)
 .skip)))
 (.drop [19, 20, 21, 22, 23, 24, 25, 26] (.reg [un (.mov 27 (.t 8)),
 un (.asg 5 (.t 27))]))))))))
 (.drop [13, 14, 7, 15, 16, 17, 18, 8, 19, 20, 21, 22, 23, 24, 25, 26, 27] (.reg [un (.bin 28 .add (.t 11) (.c (.int .i64 1))),
 un (.asg 11 (.t 28))])))))
def Agq : ACode :=
 (.seq (.reg [un (.asg 4 (.c (.bool false)))])
 (.seq (.reg [un (.asg 5 (.c (.int .i64 0)))])
 (.seq (.seq (.reg [un (.mov 9 (.t 1)),
 un (.len 10 (.t 9)),
 un (.mov 11 (.c (.int .i64 0)))])
 (.block 0 (.loop Ql)))
 (.drop [9, 10, 11, 12, 13, 14, 7, 15, 16, 17, 18, 8, 19, 20, 21, 22, 23, 24, 25, 26, 27, 28] (.seq (.reg [un (.asg 4 (.c (.bool true)))])
 .ret)))))
abbrev Agv : List RS := [.t 4]
theorem Af0 : A9 Try.prog O9 29 Agq Agv = true := by kernel_rfl
def Mq : ACode :=
 (.seq (.reg [un (.bin 10 .lss (.t 9) (.t 8))])
 (.seq (.cond (.t 10) .skip
 (.exit 0))
 (.seq (.block 1 (.seq (.reg [un (.iad 11 1 (.t 7) (.t 9)),
 un (.ld 12 1 false (.t 11)),
 un (.asg 6 (.t 12))])
 (.drop [11, 12] (.seq (.reg [un (.mov 13 (.t 6)),
 un (.bin 14 .gtr (.t 13) (.c (.int .i64 0))),
 un (.asg 15 (.t 14)),
 ⟨some (15, true), .mov 16 (.t 0)⟩,
 ⟨some (15, true), .mov 17 (.t 6)⟩,
 ⟨some (15, true), .bin 18 .sub (.t 17) (.c (.int .i64 1))⟩,
 ⟨some (15, true), .iad 19 1 (.t 16) (.t 18)⟩,
 ⟨some (15, true), .ld 20 1 false (.t 19)⟩,
 ⟨some (15, true), .bin 21 .eql (.t 20) (.c (.int .i64 1))⟩,
 un (.pick 22 (.t 15) (.t 21) (.c (.bool false))),
 un (.asg 23 (.t 22)),
 ⟨some (23, false), .mov 24 (.t 6)⟩,
 ⟨some (23, false), .bin 25 .lss (.t 24) (.c (.int .i64 0))⟩,
 ⟨some (23, false), .asg 26 (.t 25)⟩,
 ⟨some (26, true), .mov 27 (.t 0)⟩,
 ⟨some (26, true), .mov 28 (.t 6)⟩,
 ⟨some (26, true), .un 29 .neg (.t 28)⟩,
 ⟨some (26, true), .bin 30 .sub (.t 29) (.c (.int .i64 1))⟩,
 ⟨some (26, true), .iad 31 1 (.t 27) (.t 30)⟩,
 ⟨some (26, true), .ld 32 1 false (.t 31)⟩,
 ⟨some (26, true), .bin 33 .eql (.t 32) (.c (.int .i64 0))⟩,
 ⟨some (23, false), .pick 34 (.t 26) (.t 33) (.c (.bool false))⟩,
 un (.pick 35 (.t 23) (.c (.bool true)) (.t 34))])
 (.drop [13, 14, 15, 16, 17, 18, 19, 20, 21, 22, 23, 24, 25, 26, 27, 28, 29, 30, 31, 32, 33, 34] (.cond (.t 35) (.seq (.reg [un (.asg 4 (.c (.bool true)))])
 .ret)
 .skip))))))
 (.drop [11, 12, 6, 13, 14, 15, 16, 17, 18, 19, 20, 21, 22, 23, 24, 25, 26, 27, 28, 29, 30, 31, 32, 33, 34, 35] (.reg [un (.bin 36 .add (.t 9) (.c (.int .i64 1))),
 un (.asg 9 (.t 36))])))))
def Abb : ACode :=
 (.seq (.reg [un (.asg 4 (.c (.bool false)))])
 (.seq (.seq (.reg [un (.mov 7 (.t 1)),
 un (.len 8 (.t 7)),
 un (.mov 9 (.c (.int .i64 0)))])
 (.block 0 (.loop Mq)))
 (.drop [7, 8, 9, 10, 11, 12, 6, 13, 14, 15, 16, 17, 18, 19, 20, 21, 22, 23, 24, 25, 26, 27, 28, 29, 30, 31, 32, 33, 34, 35, 36] (.seq (.reg [un (.asg 4 (.c (.bool false)))])
 .ret))))
abbrev Aak : List RS := [.t 4]
theorem Abe : A9 Try.prog Hl 37 Abb Aak = true := by kernel_rfl
def Alx : ACode :=
 (.seq (.reg [un (.asg 4 (.c (.int .i64 0)))])
 (.seq (.seq (.reg [un (.mov 5 (.t 0)),
 un (.mov 6 (.t 1)),
 un (.bin 7 .gtr (.t 5) (.t 6))])
 (.drop [5, 6] (.cond (.t 7) (.seq (.reg [un (.mov 8 (.t 0)),
 un (.asg 4 (.t 8))])
 (.drop [8] .ret))
 .skip)))
 (.drop [5, 6, 7, 8] (.seq (.reg [un (.mov 9 (.t 1)),
 un (.asg 4 (.t 9))])
 (.drop [9] .ret)))))
abbrev Aky : List RS := [.t 4]
theorem Akp : A9 Try.prog H3 10 Alx Aky = true := by kernel_rfl
def Aj0 : ACode :=
 (.seq (.reg [un (.asg 4 (.c (.int .i64 0)))])
 (.seq (.seq (.reg [un (.mov 5 (.t 0)),
 un (.mov 6 (.t 1)),
 un (.bin 7 .lss (.t 5) (.t 6))])
 (.drop [5, 6] (.cond (.t 7) (.seq (.reg [un (.mov 8 (.t 0)),
 un (.asg 4 (.t 8))])
 (.drop [8] .ret))
 .skip)))
 (.drop [5, 6, 7, 8] (.seq (.reg [un (.mov 9 (.t 1)),
 un (.asg 4 (.t 9))])
 (.drop [9] .ret)))))
abbrev Ahd : List RS := [.t 4]
theorem Aiy : A9 Try.prog Re 10 Aj0 Ahd = true := by kernel_rfl
def Anj : ACode :=
 (.seq (.reg [un (.asg 2 (.c (.nilsl 1)))])
 (.seq (.reg [un (.bsl 3 1 []),
 un (.mov 4 (.t 0)),
 un (.app 5 1 (.t 3) (.t 4)),
 un (.asg 2 (.t 5))])
 (.drop [3, 4, 5] .ret)))
abbrev Ao0 : List RS := [.t 2]
theorem Anu : A9 Try.prog Jv 6 Anj Ao0 = true := by kernel_rfl
def Ap6 : ACode :=
 (.seq (.reg [un (.asg 6 (.c (.bool false)))])
 (.seq (.reg [un (.mov 7 (.t 0)),
 un (.mov 8 (.t 1)),
 un (.bin 9 .geq (.t 7) (.t 8)),
 un (.asg 10 (.t 9)),
 ⟨some (10, true), .mov 11 (.t 0)⟩,
 ⟨some (10, true), .mov 12 (.t 2)⟩,
 ⟨some (10, true), .bin 13 .leq (.t 11) (.t 12)⟩,
 un (.pick 14 (.t 10) (.t 13) (.c (.bool false))),
 un (.asg 6 (.t 14))])
 (.drop [7, 8, 9, 10, 11, 12, 13, 14] .ret)))
abbrev Apr : List RS := [.t 6]
theorem Ap2 : A9 Try.prog Hd 15 Ap6 Apr = true := by kernel_rfl
def Wg : ACode :=
 (.seq (.seq (.reg [un (.mov 6 (.t 1)),
 un (.bin 7 .gtr (.t 6) (.c (.int .i64 0)))])
 (.drop [6] (.cond (.t 7) .skip
 (.exit 0))))
 (.drop [6, 7] (.seq (.block 1 (.reg [un (.mov 10 (.t 5)),
 un (.mov 11 (.t 0)),
 un (.bin 12 .mul (.t 10) (.t 11)),
 un (.asg 5 (.t 12))]))
 (.drop [10, 11, 12] (.reg [un (.mov 8 (.t 1)),
 un (.bin 9 .sub (.t 8) (.c (.int .i64 1))),
 un (.asg 1 (.t 9))])))))
def An6 : ACode :=
 (.seq (.reg [un (.asg 4 (.c (.int .i64 0)))])
 (.seq (.reg [un (.asg 5 (.c (.int .i64 1)))])
 (.seq (.block 0 (.loop Wg))
 (.drop [6, 7, 10, 11, 12, 8, 9] (.seq (.reg [un (.mov 13 (.t 5)),
 un (.asg 4 (.t 13))])
 (.drop [13] .ret))))))
abbrev Anq : List RS := [.t 4]
theorem Aou : A9 Try.prog Jo 14 An6 Anq = true := by kernel_rfl
def Ue : ACode :=
 (.seq (.seq (.reg [un (.mov 13 (.t 8)),
 un (.bin 14 .geq (.t 13) (.c (.int .i64 0)))])
 (.drop [13] (.cond (.t 14) .skip
 (.exit 0))))
 (.drop [13, 14] (.seq (.block 1 (.seq (.reg [un (.mov 17 (.t 7)),
 un (.mov 18 (.t 8)),
 un (.mov 19 (.t 2)),
 un (.mov 20 (.t 0)),
 un (.bin 21 .rem (.t 19) (.t 20)),
 un (.iad 22 1 (.t 17) (.t 18)),
 un (.st 1 (.t 22) (.t 21))])
 (.drop [17, 18, 19, 20, 21, 22] (.reg [un (.mov 23 (.t 2)),
 un (.mov 24 (.t 0)),
 un (.bin 25 .quo (.t 23) (.t 24)),
 un (.asg 2 (.t 25))]))))
 (.drop [17, 18, 19, 20, 21, 22, 23, 24, 25] (.reg [un (.mov 15 (.t 8)),
 un (.bin 16 .sub (.t 15) (.c (.int .i64 1))),
 un (.asg 8 (.t 16))])))))
def Alp : ACode :=
 (.seq (.reg [un (.asg 6 (.c (.nilsl 1)))])
 (.seq (.reg [un (.mov 9 (.t 1)),
 un (.mk 10 1 (.int .i64 0) (.t 9)),
 un (.asg 7 (.t 10))])
 (.drop [9, 10] (.seq (.seq (.reg [un (.mov 11 (.t 1)),
 un (.bin 12 .sub (.t 11) (.c (.int .i64 1))),
 un (.asg 8 (.t 12))])
 (.drop [11, 12] (.block 0 (.loop Ue))))
 (.drop [11, 12, 8, 13, 14, 17, 18, 19, 20, 21, 22, 23, 24, 25, 15, 16] (.seq (.reg [un (.mov 26 (.t 7)),
 un (.asg 6 (.t 26))])
 (.drop [26] .ret)))))))
abbrev Ak8 : List RS := [.t 6]
theorem Ake : A9 Try.prog Kh 27 Alp Ak8 = true := by kernel_rfl
def Ra : ACode :=
 (.seq (.seq (.reg [un (.mov 6 (.t 5)),
 un (.mov 7 (.t 1)),
 un (.len 8 (.t 7)),
 un (.bin 9 .lss (.t 6) (.t 8))])
 (.drop [6, 7, 8] (.cond (.t 9) .skip
 (.exit 0))))
 (.drop [6, 7, 8, 9] (.seq (.block 1 (.seq (.reg [un (.mov 12 (.t 1)),
 un (.mov 13 (.t 5)),
 un (.iad 14 1 (.t 12) (.t 13)),
 un (.ld 15 1 false (.t 14)),
 un (.bin 16 .gtr (.t 15) (.c (.int .i64 0))),
 un (.asg 17 (.t 16)),
 ⟨some (17, true), .mov 18 (.t 0)⟩,
 ⟨some (17, true), .mov 19 (.t 1)⟩,
 ⟨some (17, true), .mov 20 (.t 5)⟩,
 ⟨some (17, true), .iad 21 1 (.t 19) (.t 20)⟩,
 ⟨some (17, true), .ld 22 1 false (.t 21)⟩,
 ⟨some (17, true), .bin 23 .sub (.t 22) (.c (.int .i64 1))⟩,
 ⟨some (17, true), .iad 24 1 (.t 18) (.t 23)⟩,
 ⟨some (17, true), .ld 25 1 false (.t 24)⟩,
 ⟨some (17, true), .bin 26 .eql (.t 25) (.c (.int .i64 1))⟩,
 un (.pick 27 (.t 17) (.t 26) (.c (.bool false))),
 un (.asg 28 (.t 27)),
 ⟨some (28, false), .mov 29 (.t 1)⟩,
 ⟨some (28, false), .mov 30 (.t 5)⟩,
 ⟨some (28, false), .iad 31 1 (.t 29) (.t 30)⟩,
 ⟨some (28, false), .ld 32 1 false (.t 31)⟩,
 ⟨some (28, false), .bin 33 .lss (.t 32) (.c (.int .i64 0))⟩,
 ⟨some (28, false), .asg 34 (.t 33)⟩,
 ⟨some (34, true), .mov 35 (.t 0)⟩,
 ⟨some (34, true), .mov 36 (.t 1)⟩,
 ⟨some (34, true), .mov 37 (.t 5)⟩,
 ⟨some (34, true), .iad 38 1 (.t 36) (.t 37)⟩,
 ⟨some (34, true), .ld 39 1 false (.t 38)⟩,
 ⟨some (34, true), .un 40 .neg (.t 39)⟩,
 ⟨some (34, true), .bin 41 .sub (.t 40) (.c (.int .i64 1))⟩,
 ⟨some (34, true), .iad 42 1 (.t 35) (.t 41)⟩,
 ⟨some (34, true), .ld 43 1 false (.t 42)⟩,
 ⟨some (34, true), .bin 44 .eql (.t 43) (.c (.int .i64 0))⟩,
 ⟨some (28, false), .pick 45 (.t 34) (.t 44) (.c (.bool false))⟩,
 un (.pick 46 (.t 28) (.c (.bool true)) (.t 45))])
 (.drop [12, 13, 14, 15, 16, 17, 18, 19, 20, 21, 22, 23, 24, 25, 26, 27, 28, 29, 30, 31, 32, 33, 34, 35, 36, 37, 38, 39, 40, 41, 42, 43, 44, 45] (.cond (.t 46) (.seq (.reg [un (.asg 4 (.c (.bool true)))])
 .ret)
 .skip))))
 (.drop [12, 13, 14, 15, 16, 17, 18, 19, 20, 21, 22, 23, 24, 25, 26, 27, 28, 29, 30, 31, 32, 33, 34, 35, 36, 37, 38, 39, 40, 41, 42, 43, 44, 45, 46] (.reg [un (.mov 10 (.t 5)),
 un (.bin 11 .add (.t 10) (.c (.int .i64 1))),
 un (.asg 5 (.t 11))])))))
def Agd : ACode :=
 (.seq (.reg [un (.asg 4 (.c (.bool false)))])
 (.seq (.seq (.reg [un (.asg 5 (.c (.int .i64 0)))])
 (.block 0 (.loop Ra)))
 (.drop [5, 6, 7, 8, 9, 12, 13, 14, 15, 16, 17, 18, 19, 20, 21, 22, 23, 24, 25, 26, 27, 28, 29, 30, 31, 32, 33, 34, 35, 36, 37, 38, 39, 40, 41, 42, 43, 44, 45, 46, 10, 11] (.seq (.reg [un (.asg 4 (.c (.bool false)))])
 .ret))))
abbrev Agg : List RS := [.t 4]
theorem Af6 : A9 Try.prog Kj 47 Agd Agg = true := by kernel_rfl
def J4 : ACode :=
 (.seq (.seq (.reg [un (.mov 14 (.t 5)),
 un (.mov 15 (.t 0)),
 un (.len 16 (.t 15)),
 un (.bin 17 .lss (.t 14) (.t 16))])
 (.drop [14, 15, 16] (.cond (.t 17) .skip
 (.exit 2))))
 (.drop [14, 15, 16, 17] (.seq (.block 3 (.seq (.dreg [(un (.mov 20 (.t 0)), []),
 (un (.mov 21 (.t 4)), [20]),
 (un (.iad 22 1 (.t 20) (.t 21)), []),
 (un (.ld 23 1 false (.t 22)), []),
 (un (.mov 24 (.t 0)), [20, 21, 22, 23]),
 (un (.mov 25 (.t 5)), [20, 21, 22, 23, 24]),
 (un (.iad 26 1 (.t 24) (.t 25)), [20, 21, 22, 23]),
 (un (.ld 27 1 false (.t 26)), [20, 21, 22, 23])]
 [un (.bin 28 .eql (.t 23) (.t 27))])
 (.drop [20, 21, 22, 23, 24, 25, 26, 27] (.cond (.t 28) (.reg [un (.fadr 29 1 (.t 3)),
 un (.ld 30 1 false (.t 29)),
 un (.mov 31 (.t 4)),
 un (.mov 32 (.t 5)),
 un (.bslr 33 1 [(.t 31), (.t 32)]),
 un (.bsl 34 1 [(.t 33)]),
 un (.app 35 1 (.t 30) (.t 34)),
 un (.fadr 36 1 (.t 3)),
 un (.st 1 (.t 36) (.t 35))])
 .skip))))
 (.drop [20, 21, 22, 23, 24, 25, 26, 27, 28, 29, 30, 31, 32, 33, 34, 35, 36] (.reg [un (.mov 18 (.t 5)),
 un (.bin 19 .add (.t 18) (.c (.int .i64 1))),
 un (.asg 5 (.t 19))])))))
def Kb : ACode :=
 (.seq (.seq (.reg [un (.mov 8 (.t 4)),
 un (.mov 9 (.t 0)),
 un (.len 10 (.t 9)),
 un (.bin 11 .lss (.t 8) (.t 10))])
 (.drop [8, 9, 10] (.cond (.t 11) .skip
 (.exit 0))))
 (.drop [8, 9, 10, 11] (.seq (.block 1 (.seq (.reg [un (.asg 5 (.c (.int .i64 0)))])
 (.block 2 (.loop J4))))
 (.drop [5, 14, 15, 16, 17, 20, 21, 22, 23, 24, 25, 26, 27, 28, 29, 30, 31, 32, 33, 34, 35, 36, 18, 19] (.reg [un (.mov 12 (.t 4)),
 un (.bin 13 .add (.t 12) (.c (.int .i64 1))),
 un (.asg 4 (.t 13))])))))
def W6 : ACode :=
 (.seq (.reg [un (.alc 2 (.agg [.int .i64 0, .nilsl 1]))])
 (.seq (.reg [un (.bsl 6 1 []),
 un (.bld 7 [.int .i64 0, .nilsl 1] [(0, 1, (.c (.int .i64 2))), (1, 1, (.t 6))]),
 un (.alc 3 (.agg [.int .i64 0, .nilsl 1])),
 un (.st 2 (.t 3) (.t 7))])
 (.drop [6, 7] (.seq (.seq (.reg [un (.asg 4 (.c (.int .i64 0)))])
 (.block 0 (.loop Kb)))
 (.drop [4, 8, 9, 10, 11, 5, 14, 15, 16, 17, 20, 21, 22, 23, 24, 25, 26, 27, 28, 29, 30, 31, 32, 33, 34, 35, 36, 18, 19, 12, 13] (.seq (.reg [un (.ld 37 2 true (.t 3)),
 un (.st 2 (.t 2) (.t 37))])
 (.drop [37] .ret)))))))
abbrev W1 : List RS := [.c 2 2 true]
theorem W8 : A9 Try.prog H7 38 W6 W1 = true := by kernel_rfl
def Mn : ACode :=
 (.seq (.seq (.reg [un (.mov 8 (.t 6)),
 un (.mov 9 (.t 0)),
 un (.bin 10 .lss (.t 8) (.t 9))])
 (.drop [8, 9] (.cond (.t 10) .skip
 (.exit 0))))
 (.drop [8, 9, 10] (.seq (.block 1 (.reg [un (.mov 13 (.t 5)),
 un (.mov 14 (.t 1)),
 un (.bsl 15 1 [(.t 14)]),
 un (.app 16 1 (.t 13) (.t 15)),
 un (.asg 5 (.t 16))]))
 (.drop [13, 14, 15, 16] (.reg [un (.mov 11 (.t 6)),
 un (.bin 12 .add (.t 11) (.c (.int .i64 1))),
 un (.asg 6 (.t 12))])))))
def Abk : ACode :=
 (.seq (.reg [un (.asg 4 (.c (.nilsl 1)))])
 (.seq (.reg [un (.bsl 7 1 []),
 un (.asg 5 (.t 7))])
 (.drop [7] (.seq (.seq (.reg [un (.asg 6 (.c (.int .i64 0)))])
 (.block 0 (.loop Mn)))
 (.drop [6, 8, 9, 10, 13, 14, 15, 16, 11, 12] (.seq (.reg [un (.mov 17 (.t 5)),
 un (.asg 4 (.t 17))])
 (.drop [17] .ret)))))))
abbrev Abd : List RS := [.t 4]
theorem Aan : A9 Try.prog Ko 18 Abk Abd = true := by kernel_rfl
def Akc : ACode :=
 (.seq (.reg [un (.asg 0 (.c (.nilsl 2)))])
 (.seq (.reg [un (.bsl 1 1 [(.c (.int .i64 0)), (.c (.int .i64 0)), (.c (.int .i64 0)), (.c (.int .i64 1))]),
 un (.bld 2 [.int .i64 0, .nilsl 1] [(0, 1, (.c (.int .i64 2))), (1, 1, (.t 1))]),
 un (.bsl 3 1 [(.c (.int .i64 0)), (.c (.int .i64 1)), (.c (.int .i64 1)), (.c (.int .i64 1))]),
 un (.bld 4 [.int .i64 0, .nilsl 1] [(0, 1, (.c (.int .i64 2))), (1, 1, (.t 3))]),
 un (.bsl 5 1 [(.c (.int .i64 0)), (.c (.int .i64 1)), (.c (.int .i64 1)), (.c (.int .i64 0)), (.c (.int .i64 1)), (.c (.int .i64 0)), (.c (.int .i64 0)), (.c (.int .i64 1))]),
 un (.bld 6 [.int .i64 0, .nilsl 1] [(0, 1, (.c (.int .i64 3))), (1, 1, (.t 5))]),
 un (.bsl 7 1 [(.c (.int .i64 0)), (.c (.int .i64 0)), (.c (.int .i64 0)), (.c (.int .i64 1)), (.c (.int .i64 0)), (.c (.int .i64 1)), (.c (.int .i64 1)), (.c (.int .i64 1))]),
 un (.bld 8 [.int .i64 0, .nilsl 1] [(0, 1, (.c (.int .i64 3))), (1, 1, (.t 7))]),
 un (.bsl 9 2 [(.t 2), (.t 4), (.t 6), (.t 8)]),
 un (.asg 0 (.t 9))])
 (.drop [1, 2, 3, 4, 5, 6, 7, 8, 9] .ret)))
abbrev Ak1 : List RS := [.t 0]
theorem Akf : A9 Try.prog S6 10 Akc Ak1 = true := by kernel_rfl
def X2 : ACode :=
 (.seq (.dreg [(un (.mov 4 (.t 0)), []),
 (un (.nck 5 (.t 4)), []),
 (un (.fadr 6 1 (.t 5)), []),
 (un (.ld 7 1 false (.t 6)), []),
 (un (.mov 8 (.t 0)), [4, 5, 6, 7]),
 (un (.nck 9 (.t 8)), [4, 5, 6, 7]),
 (un (.fadr 10 0 (.t 9)), [4, 5, 6, 7]),
 (un (.ld 11 1 false (.t 10)), [4, 5, 6, 7]),
 (un (.len 12 (.t 11)), [4, 5, 6, 7])]
 [un (.bin 13 .lss (.t 7) (.t 12))])
 (.drop [4, 5, 6, 7, 8, 9, 10, 11, 12] (.cond (.t 13) (.dreg [(un (.mov 14 (.t 0)), []),
 (un (.nck 15 (.t 14)), []),
 (un (.fadr 16 0 (.t 15)), []),
 (un (.ld 17 1 false (.t 16)), []),
 (un (.mov 18 (.t 0)), [14, 15, 16, 17]),
 (un (.nck 19 (.t 18)), [14, 15, 16, 17]),
 (un (.fadr 20 1 (.t 19)), [14, 15, 16, 17]),
 (un (.ld 21 1 false (.t 20)), [14, 15, 16, 17])]
 [un (.iad 22 1 (.t 17) (.t 21)),
 un (.ld 23 1 false (.t 22)),
 un (.cnv 24 .i64 (.t 23)),
 un (.asg 3 (.t 24))])
 .skip)))
def Acw : ACode :=
 (.seq (.reg [un (.asg 2 (.c (.int .i64 0)))])
 (.seq (.reg [un (.asg 3 (.c (.int .i64 0)))])
 (.seq (.cut X2)
 (.drop [4, 5, 6, 7, 8, 9, 10, 11, 12, 13, 14, 15, 16, 17, 18, 19, 20, 21, 22, 23, 24] (.seq (.reg [un (.mov 25 (.t 0)),
 un (.nck 26 (.t 25)),
 un (.fadr 27 1 (.t 26)),
 un (.ld 28 1 false (.t 27)),
 un (.bin 29 .add (.t 28) (.c (.int .i64 1))),
 un (.nck 30 (.t 25)),
 un (.fadr 31 1 (.t 30)),
 un (.st 1 (.t 31) (.t 29))])
 (.drop [25, 26, 27, 28, 29, 30, 31] (.seq (.reg [un (.mov 32 (.t 0)),
 un (.mov 33 (.t 0)),
 un (.nck 34 (.t 33)),
 un (.fadr 35 2 (.t 34)),
 un (.ld 36 1 false (.t 35)),
 un (.bin 37 .mul (.t 36) (.c (.int .u64 6364136223846793005))),
 un (.mov 38 (.t 3)),
 un (.cnv 39 .u64 (.t 38)),
 un (.bin 40 .add (.t 37) (.t 39)),
 un (.bin 41 .add (.t 40) (.c (.int .u64 550289))),
 un (.nck 42 (.t 32)),
 un (.fadr 43 2 (.t 42)),
 un (.st 1 (.t 43) (.t 41))])
 (.drop [32, 33, 34, 35, 36, 37, 38, 39, 40, 41, 42, 43] (.seq (.seq (.dreg [(un (.mov 44 (.t 0)), []),
 (un (.nck 45 (.t 44)), []),
 (un (.fadr 46 1 (.t 45)), []),
 (un (.ld 47 1 false (.t 46)), []),
 (un (.mov 48 (.t 0)), [44, 45, 46, 47]),
 (un (.nck 49 (.t 48)), [44, 45, 46, 47]),
 (un (.fadr 50 0 (.t 49)), [44, 45, 46, 47]),
 (un (.ld 51 1 false (.t 50)), [44, 45, 46, 47]),
 (un (.len 52 (.t 51)), [44, 45, 46, 47])]
 [un (.bin 53 .leq (.t 47) (.t 52))])
 (.drop [44, 45, 46, 47, 48, 49, 50, 51, 52] (.cond (.t 53) (.seq (.reg [un (.mov 54 (.t 3)),
 un (.asg 2 (.t 54))])
 (.drop [54] .ret))
 .skip)))
 (.drop [44, 45, 46, 47, 48, 49, 50, 51, 52, 53, 54] (.seq (.reg [un (.mov 55 (.t 0)),
 un (.nck 56 (.t 55)),
 un (.fadr 57 2 (.t 56)),
 un (.ld 58 1 false (.t 57)),
 un (.bin 59 .shr (.t 58) (.c (.int .u64 40))),
 un (.bin 60 .and (.t 59) (.c (.int .u64 255))),
 un (.cnv 61 .i64 (.t 60)),
 un (.asg 2 (.t 61))])
 (.drop [55, 56, 57, 58, 59, 60, 61] .ret))))))))))))
abbrev Abv : List RS := [.t 2]
theorem Ach : A9 Try.prog Ig 62 Acw Abv = true := by kernel_rfl
def T0 : ACode :=
 (.seq (.reg [un (.bin 10 .lss (.t 9) (.t 8))])
 (.seq (.cond (.t 10) .skip
 (.exit 0))
 (.seq (.block 1 (.seq (.reg [un (.iad 11 1 (.t 7) (.t 9)),
 un (.ld 12 1 false (.t 11)),
 un (.asg 6 (.t 12))])
 (.drop [11, 12] (.seq (.reg [un (.mov 13 (.t 6)),
 un (.bin 14 .lss (.t 13) (.c (.int .i64 0))),
 un (.asg 15 (.t 14)),
 ⟨some (15, false), .mov 16 (.t 6)⟩,
 ⟨some (15, false), .mov 17 (.t 1)⟩,
 ⟨some (15, false), .bin 18 .geq (.t 16) (.t 17)⟩,
 un (.pick 19 (.t 15) (.c (.bool true)) (.t 18))])
 (.drop [13, 14, 15, 16, 17, 18] (.cond (.t 19) (.seq (.reg [un (.asg 4 (.c (.bool false)))])
 .ret)
 .skip))))))
 (.drop [11, 12, 6, 13, 14, 15, 16, 17, 18, 19] (.reg [un (.bin 20 .add (.t 9) (.c (.int .i64 1))),
 un (.asg 9 (.t 20))])))))
def Alu : ACode :=
 (.seq (.reg [un (.asg 4 (.c (.bool false)))])
 (.seq (.seq (.reg [un (.mov 7 (.t 0)),
 un (.len 8 (.t 7)),
 un (.mov 9 (.c (.int .i64 0)))])
 (.block 0 (.loop T0)))
 (.drop [7, 8, 9, 10, 11, 12, 6, 13, 14, 15, 16, 17, 18, 19, 20] (.seq (.reg [un (.asg 4 (.c (.bool true)))])
 .ret))))
abbrev Ale : List RS := [.t 4]
theorem Akx : A9 Try.prog Nt 21 Alu Ale = true := by kernel_rfl
def Vn : ACode :=
 (.seq (.reg [un (.mov 6 (.t 5)),
 un (.mov 7 (.t 0)),
 un (.len 8 (.t 7)),
 un (.bin 9 .lss (.t 6) (.t 8)),
 un (.asg 10 (.t 9)),
 ⟨some (10, true), .mov 11 (.t 5)⟩,
 ⟨some (10, true), .mov 12 (.t 1)⟩,
 ⟨some (10, true), .len 13 (.t 12)⟩,
 ⟨some (10, true), .bin 14 .lss (.t 11) (.t 13)⟩,
 un (.pick 15 (.t 10) (.t 14) (.c (.bool false)))])
 (.drop [6, 7, 8, 9, 10, 11, 12, 13, 14] (.cond (.t 15) .skip
 (.exit 0))))
def Mb : ACode :=
 (.seq (.cut Vn)
 (.drop [6, 7, 8, 9, 10, 11, 12, 13, 14, 15] (.seq (.block 1 (.seq (.dreg [(un (.mov 18 (.t 0)), []),
 (un (.mov 19 (.t 5)), [18]),
 (un (.iad 20 1 (.t 18) (.t 19)), []),
 (un (.ld 21 1 false (.t 20)), []),
 (un (.mov 22 (.t 1)), [18, 19, 20, 21]),
 (un (.mov 23 (.t 5)), [18, 19, 20, 21, 22]),
 (un (.iad 24 1 (.t 22) (.t 23)), [18, 19, 20, 21]),
 (un (.ld 25 1 false (.t 24)), [18, 19, 20, 21])]
 [un (.bin 26 .neq (.t 21) (.t 25))])
 (.drop [18, 19, 20, 21, 22, 23, 24, 25] (.cond (.t 26) (.seq (.seq (.dreg [(un (.mov 27 (.t 0)), []),
 (un (.mov 28 (.t 5)), [27]),
 (un (.iad 29 1 (.t 27) (.t 28)), []),
 (un (.ld 30 1 false (.t 29)), []),
 (un (.mov 31 (.t 1)), [27, 28, 29, 30]),
 (un (.mov 32 (.t 5)), [27, 28, 29, 30, 31]),
 (un (.iad 33 1 (.t 31) (.t 32)), [27, 28, 29, 30]),
 (un (.ld 34 1 false (.t 33)), [27, 28, 29, 30])]
 [un (.bin 35 .lss (.t 30) (.t 34))])
 (.drop [27, 28, 29, 30, 31, 32, 33, 34] (.cond (.t 35) (.seq (.reg [un (.asg 4 (.c (.int .i64 (-1))))])
 .ret)
 .skip)))
 (.drop [27, 28, 29, 30, 31, 32, 33, 34, 35] (.seq (.reg [un (.asg 4 (.c (.int .i64 1)))])
 .ret)))
 .skip))))
 (.drop [18, 19, 20, 21, 22, 23, 24, 25, 26, 27, 28, 29, 30, 31, 32, 33, 34, 35] (.reg [un (.mov 16 (.t 5)),
 un (.bin 17 .add (.t 16) (.c (.int .i64 1))),
 un (.asg 5 (.t 17))])))))
def Y3 : ACode :=
 (.seq (.reg [un (.asg 4 (.c (.int .i64 0)))])
 (.seq (.seq (.reg [un (.asg 5 (.c (.int .i64 0)))])
 (.block 0 (.loop Mb)))
 (.drop [5, 6, 7, 8, 9, 10, 11, 12, 13, 14, 15, 18, 19, 20, 21, 22, 23, 24, 25, 26, 27, 28, 29, 30, 31, 32, 33, 34, 35, 16, 17] (.seq (.block 2 (.seq (.reg [un (.mov 37 (.t 0)),
 un (.len 38 (.t 37)),
 un (.mov 39 (.t 1)),
 un (.len 40 (.t 39)),
 un (.bin 41 .lss (.t 38) (.t 40)),
 un (.asg 36 (.t 41))])
 (.drop [37, 38, 39, 40, 41] (.cond (.t 36) (.seq (.reg [un (.asg 4 (.c (.int .i64 (-1))))])
 .ret)
 (.seq (.reg [un (.mov 43 (.t 0)),
 un (.len 44 (.t 43)),
 un (.mov 45 (.t 1)),
 un (.len 46 (.t 45)),
 un (.bin 47 .gtr (.t 44) (.t 46)),
 un (.asg 42 (.t 47))])
 (.drop [43, 44, 45, 46, 47] (.cond (.t 42) (.seq (.reg [un (.asg 4 (.c (.int .i64 1)))])
 .ret)
 .skip)))))))
 (.drop [37, 38, 39, 40, 41, 36, 43, 44, 45, 46, 47, 42] (.seq (.reg [un (.asg 4 (.c (.int .i64 0)))])
 .ret))))))
abbrev Zh : List RS := [.t 4]
theorem Yz : A9 Try.prog Gy 48 Y3 Zh = true := by kernel_rfl
def U1 : ACode :=
 (.seq (.seq (.reg [un (.mov 6 (.t 5)),
 un (.mov 7 (.t 0)),
 un (.len 8 (.t 7)),
 un (.bin 9 .lss (.t 6) (.t 8))])
 (.drop [6, 7, 8] (.cond (.t 9) .skip
 (.exit 0))))
 (.drop [6, 7, 8, 9] (.seq (.block 1 (.seq (.dreg [(un (.mov 12 (.t 0)), []),
 (un (.mov 13 (.t 5)), [12]),
 (un (.iad 14 1 (.t 12) (.t 13)), []),
 (un (.ld 15 1 false (.t 14)), []),
 (un (.mov 16 (.t 1)), [12, 13, 14, 15]),
 (un (.mov 17 (.t 5)), [12, 13, 14, 15, 16]),
 (un (.iad 18 1 (.t 16) (.t 17)), [12, 13, 14, 15]),
 (un (.ld 19 1 false (.t 18)), [12, 13, 14, 15])]
 [un (.bin 20 .neq (.t 15) (.t 19))])
 (.drop [12, 13, 14, 15, 16, 17, 18, 19] (.cond (.t 20) (.seq (.dreg [(un (.mov 21 (.t 0)), []),
 (un (.mov 22 (.t 5)), [21]),
 (un (.iad 23 1 (.t 21) (.t 22)), []),
 (un (.ld 24 1 false (.t 23)), []),
 (un (.mov 25 (.t 1)), [21, 22, 23, 24]),
 (un (.mov 26 (.t 5)), [21, 22, 23, 24, 25]),
 (un (.iad 27 1 (.t 25) (.t 26)), [21, 22, 23, 24]),
 (un (.ld 28 1 false (.t 27)), [21, 22, 23, 24])]
 [un (.bin 29 .lss (.t 24) (.t 28)),
 un (.asg 4 (.t 29))])
 (.drop [21, 22, 23, 24, 25, 26, 27, 28, 29] .ret))
 .skip))))
 (.drop [12, 13, 14, 15, 16, 17, 18, 19, 20, 21, 22, 23, 24, 25, 26, 27, 28, 29] (.reg [un (.mov 10 (.t 5)),
 un (.bin 11 .add (.t 10) (.c (.int .i64 1))),
 un (.asg 5 (.t 11))])))))
def Akh : ACode :=
 (.seq (.reg [un (.asg 4 (.c (.bool false)))])
 (.seq (.seq (.reg [un (.asg 5 (.c (.int .i64 0)))])
 (.block 0 (.loop U1)))
 (.drop [5, 6, 7, 8, 9, 12, 13, 14, 15, 16, 17, 18, 19, 20, 21, 22, 23, 24, 25, 26, 27, 28, 29, 10, 11] (.seq (.reg [un (.asg 4 (.c (.bool false)))])
 .ret))))
abbrev Alq : List RS := [.t 4]
theorem Aj8 : A9 Try.prog J5 30 Akh Alq = true := by kernel_rfl
def Alr : ACode :=
 (.seq (.reg [un (.asg 2 (.c (.bool false)))])
 (.seq (.reg [un (.mov 3 (.t 0)),
 un (.bin 4 .geq (.t 3) (.c (.int .i64 1))),
 un (.asg 5 (.t 4)),
 ⟨some (5, true), .mov 6 (.t 0)⟩,
 ⟨some (5, true), .bin 7 .leq (.t 6) (.c (.int .i64 8))⟩,
 un (.pick 8 (.t 5) (.t 7) (.c (.bool false))),
 un (.asg 2 (.t 8))])
 (.drop [3, 4, 5, 6, 7, 8] .ret)))
abbrev Ak5 : List RS := [.t 2]
theorem Alk : A9 Try.prog Nx 9 Alr Ak5 = true := by kernel_rfl
def Wh : ACode :=
 (.seq (.seq (.reg [un (.mov 6 (.t 1)),
 un (.bin 7 .gtr (.t 6) (.c (.int .i64 0)))])
 (.drop [6] (.cond (.t 7) .skip
 (.exit 0))))
 (.drop [6, 7] (.seq (.block 1 (.reg [un (.mov 10 (.t 5)),
 un (.mov 11 (.t 0)),
 un (.bin 12 .mul (.t 10) (.t 11)),
 un (.asg 5 (.t 12))]))
 (.drop [10, 11, 12] (.reg [un (.mov 8 (.t 1)),
 un (.bin 9 .sub (.t 8) (.c (.int .i64 1))),
 un (.asg 1 (.t 9))])))))
def Ane : ACode :=
 (.seq (.reg [un (.asg 4 (.c (.int .i64 0)))])
 (.seq (.reg [un (.asg 5 (.c (.int .i64 1)))])
 (.seq (.block 0 (.loop Wh))
 (.drop [6, 7, 10, 11, 12, 8, 9] (.seq (.reg [un (.mov 13 (.t 5)),
 un (.asg 4 (.t 13))])
 (.drop [13] .ret))))))
abbrev Aog : List RS := [.t 4]
theorem Aol : A9 Try.prog Hn 14 Ane Aog = true := by kernel_rfl
def Uz : ACode :=
 (.seq (.seq (.reg [un (.mov 13 (.t 8)),
 un (.bin 14 .geq (.t 13) (.c (.int .i64 0)))])
 (.drop [13] (.cond (.t 14) .skip
 (.exit 0))))
 (.drop [13, 14] (.seq (.block 1 (.seq (.reg [un (.mov 17 (.t 7)),
 un (.mov 18 (.t 8)),
 un (.mov 19 (.t 0)),
 un (.mov 20 (.t 2)),
 un (.bin 21 .rem (.t 19) (.t 20)),
 un (.iad 22 1 (.t 17) (.t 18)),
 un (.st 1 (.t 22) (.t 21))])
 (.drop [17, 18, 19, 20, 21, 22] (.reg [un (.mov 23 (.t 0)),
 un (.mov 24 (.t 2)),
 un (.bin 25 .quo (.t 23) (.t 24)),
 un (.asg 0 (.t 25))]))))
 (.drop [17, 18, 19, 20, 21, 22, 23, 24, 25] (.reg [un (.mov 15 (.t 8)),
 un (.bin 16 .sub (.t 15) (.c (.int .i64 1))),
 un (.asg 8 (.t 16))])))))
def Akz : ACode :=
 (.seq (.reg [un (.asg 6 (.c (.nilsl 1)))])
 (.seq (.reg [un (.mov 9 (.t 1)),
 un (.mk 10 1 (.int .i64 0) (.t 9)),
 un (.asg 7 (.t 10))])
 (.drop [9, 10] (.seq (.seq (.reg [un (.mov 11 (.t 1)),
 un (.bin 12 .sub (.t 11) (.c (.int .i64 1))),
 un (.asg 8 (.t 12))])
 (.drop [11, 12] (.block 0 (.loop Uz))))
 (.drop [11, 12, 8, 13, 14, 17, 18, 19, 20, 21, 22, 23, 24, 25, 15, 16] (.seq (.reg [un (.mov 26 (.t 7)),
 un (.asg 6 (.t 26))])
 (.drop [26] .ret)))))))
abbrev Alg : List RS := [.t 6]
theorem Aks : A9 Try.prog Nv 27 Akz Alg = true := by kernel_rfl
def V9 : ACode :=
 (.seq (.reg [un (.bin 13 .lss (.t 12) (.t 11))])
 (.seq (.cond (.t 13) .skip
 (.exit 0))
 (.seq (.block 1 (.seq (.reg [un (.iad 14 1 (.t 10) (.t 12)),
 un (.ld 15 1 false (.t 14)),
 un (.asg 5 (.t 15))])
 (.drop [14, 15] (.reg [un (.mov 16 (.t 3)),
 un (.mov 17 (.t 5)),
 un (.bin 18 .shr (.t 17) (.c (.int .u64 8))),
 un (.cnv 19 .u8 (.t 18)),
 un (.mov 20 (.t 5)),
 un (.cnv 21 .u8 (.t 20)),
 un (.bsl 22 1 [(.t 19), (.t 21)]),
 un (.app 23 1 (.t 16) (.t 22)),
 un (.asg 3 (.t 23))]))))
 (.drop [14, 15, 5, 16, 17, 18, 19, 20, 21, 22, 23] (.reg [un (.bin 24 .add (.t 12) (.c (.int .i64 1))),
 un (.asg 12 (.t 24))])))))
def Anm : ACode :=
 (.seq (.reg [⟨none, .asg 2 (.c (.str ⟨#[]⟩))⟩])
 (.seq (.reg [un (.mov 6 (.t 0)),
 un (.len 7 (.t 6)),
 un (.bin 8 .mul (.c (.int .i64 2)) (.t 7)),
 un (.mkc 9 1 (.int .u8 0) (.t 8)),
 un (.asg 3 (.t 9))])
 (.drop [6, 7, 8, 9] (.seq (.seq (.reg [un (.mov 10 (.t 0)),
 un (.len 11 (.t 10)),
 un (.mov 12 (.c (.int .i64 0)))])
 (.block 0 (.loop V9)))
 (.drop [10, 11, 12, 13, 14, 15, 5, 16, 17, 18, 19, 20, 21, 22, 23, 24] (.seq (.reg [un (.mov 25 (.t 3)),
 un (.bstr 26 (.t 25)),
 un (.asg 2 (.t 26))])
 (.drop [25, 26] .ret)))))))
abbrev Aoe : List RS := [.t 2]
theorem Aov : A9 Try.prog P9 27 Anm Aoe = true := by kernel_rfl
def Ro : ACode :=
 (.seq (.seq (.reg [un (.mov 19 (.t 12)),
 un (.mov 20 (.t 2)),
 un (.len 21 (.t 20)),
 un (.bin 22 .lss (.t 19) (.t 21))])
 (.drop [19, 20, 21] (.cond (.t 22) .skip
 (.exit 2))))
 (.drop [19, 20, 21, 22] (.seq (.block 3 (.dreg [(un (.mov 25 (.t 11)), []),
 (un (.fadr 26 0 (.t 4)), [25]),
 (un (.ld 27 1 false (.t 26)), [25]),
 (un (.bin 28 .mul (.t 25) (.t 27)), []),
 (un (.mov 29 (.t 2)), [25, 26, 27, 28]),
 (un (.mov 30 (.t 12)), [25, 26, 27, 28, 29]),
 (un (.iad 31 1 (.t 29) (.t 30)), [25, 26, 27, 28]),
 (un (.ld 32 1 false (.t 31)), [25, 26, 27, 28]),
 (un (.mov 33 (.t 10)), [25, 26, 27, 28, 29, 30, 31, 32]),
 (un (.iad 34 1 (.t 32) (.t 33)), [25, 26, 27, 28]),
 (un (.ld 35 1 false (.t 34)), [25, 26, 27, 28])]
 [un (.bin 36 .add (.t 28) (.t 35)),
 un (.asg 11 (.t 36))]))
 (.drop [25, 26, 27, 28, 29, 30, 31, 32, 33, 34, 35, 36] (.reg [un (.mov 23 (.t 12)),
 un (.bin 24 .add (.t 23) (.c (.int .i64 1))),
 un (.asg 12 (.t 24))])))))
def Se : ACode :=
 (.seq (.seq (.reg [un (.mov 14 (.t 10)),
 un (.mov 15 (.t 3)),
 un (.bin 16 .lss (.t 14) (.t 15))])
 (.drop [14, 15] (.cond (.t 16) .skip
 (.exit 0))))
 (.drop [14, 15, 16] (.seq (.block 1 (.seq (.reg [un (.asg 11 (.c (.int .i64 0)))])
 (.seq (.seq (.reg [un (.asg 12 (.c (.int .i64 0)))])
 (.block 2 (.loop Ro)))
 (.drop [12, 19, 20, 21, 22, 25, 26, 27, 28, 29, 30, 31, 32, 33, 34, 35, 36, 23, 24] (.reg [un (.mov 37 (.t 9)),
 un (.fadr 38 1 (.t 4)),
 un (.ld 39 1 false (.t 38)),
 un (.mov 40 (.t 1)),
 un (.iad 41 2 (.t 39) (.t 40)),
 un (.fadr 42 1 (.t 41)),
 un (.ld 43 1 false (.t 42)),
 un (.mov 44 (.t 11)),
 un (.iad 45 1 (.t 43) (.t 44)),
 un (.ld 46 1 false (.t 45)),
 un (.bsl 47 1 [(.t 46)]),
 un (.app 48 1 (.t 37) (.t 47)),
 un (.asg 9 (.t 48))])))))
 (.drop [11, 12, 19, 20, 21, 22, 25, 26, 27, 28, 29, 30, 31, 32, 33, 34, 35, 36, 23, 24, 37, 38, 39, 40, 41, 42, 43, 44, 45, 46, 47, 48] (.reg [un (.mov 17 (.t 10)),
 un (.bin 18 .add (.t 17) (.c (.int .i64 1))),
 un (.asg 10 (.t 18))])))))
def Ahy : ACode :=
 (.seq (.reg [un (.box 4 (.t 0)),
 un (.asg 8 (.c (.nilsl 1)))])
 (.seq (.reg [un (.bsl 13 1 []),
 un (.asg 9 (.t 13))])
 (.drop [13] (.seq (.seq (.reg [un (.asg 10 (.c (.int .i64 0)))])
 (.block 0 (.loop Se)))
 (.drop [10, 14, 15, 16, 11, 12, 19, 20, 21, 22, 25, 26, 27, 28, 29, 30, 31, 32, 33, 34, 35, 36, 23, 24, 37, 38, 39, 40, 41, 42, 43, 44, 45, 46, 47, 48, 17, 18] (.seq (.reg [un (.mov 49 (.t 9)),
 un (.asg 8 (.t 49))])
 (.drop [49] .ret)))))))
abbrev Aho : List RS := [.t 8]
theorem Ai2 : A9 Try.prog Lx 50 Ahy Aho = true := by kernel_rfl
def Wf : ACode :=
 (.seq (.seq (.reg [un (.mov 6 (.t 5)),
 un (.mov 7 (.t 0)),
 un (.len 8 (.t 7)),
 un (.bin 9 .lss (.t 6) (.t 8))])
 (.drop [6, 7, 8] (.cond (.t 9) .skip
 (.exit 0))))
 (.drop [6, 7, 8, 9] (.seq (.block 1 (.seq (.reg [un (.mov 12 (.t 0)),
 un (.mov 13 (.t 5)),
 un (.iad 14 1 (.t 12) (.t 13)),
 un (.ld 15 1 false (.t 14)),
 un (.mov 16 (.t 1)),
 un (.bin 17 .eql (.t 15) (.t 16))])
 (.drop [12, 13, 14, 15, 16] (.cond (.t 17) (.seq (.reg [un (.asg 4 (.c (.bool true)))])
 .ret)
 .skip))))
 (.drop [12, 13, 14, 15, 16, 17] (.reg [un (.mov 10 (.t 5)),
 un (.bin 11 .add (.t 10) (.c (.int .i64 1))),
 un (.asg 5 (.t 11))])))))
def Ano : ACode :=
 (.seq (.reg [un (.asg 4 (.c (.bool false)))])
 (.seq (.seq (.reg [un (.asg 5 (.c (.int .i64 0)))])
 (.block 0 (.loop Wf)))
 (.drop [5, 6, 7, 8, 9, 12, 13, 14, 15, 16, 17, 10, 11] (.seq (.reg [un (.asg 4 (.c (.bool false)))])
 .ret))))
abbrev An8 : List RS := [.t 4]
theorem Anz : A9 Try.prog Vi 18 Ano An8 = true := by kernel_rfl
def Q2 : ACode :=
 (.seq (.seq (.reg [un (.mov 8 (.t 6)),
 un (.mov 9 (.t 1)),
 un (.len 10 (.t 9)),
 un (.bin 11 .lss (.t 8) (.t 10))])
 (.drop [8, 9, 10] (.cond (.t 11) .skip
 (.exit 0))))
 (.drop [8, 9, 10, 11] (.seq (.block 1 (.reg [un (.mov 14 (.t 5)),
 un (.mov 15 (.t 0)),
 un (.mov 16 (.t 1)),
 un (.mov 17 (.t 6)),
 un (.iad 18 1 (.t 16) (.t 17)),
 un (.ld 19 1 false (.t 18)),
 un (.iad 20 1 (.t 15) (.t 19)),
 un (.ld 21 1 false (.t 20)),
 un (.bsl 22 1 [(.t 21)]),
 un (.app 23 1 (.t 14) (.t 22)),
 un (.asg 5 (.t 23))]))
 (.drop [14, 15, 16, 17, 18, 19, 20, 21, 22, 23] (.reg [un (.mov 12 (.t 6)),
 un (.bin 13 .add (.t 12) (.c (.int .i64 1))),
 un (.asg 6 (.t 13))])))))
def Agp : ACode :=
 (.seq (.reg [un (.asg 4 (.c (.nilsl 1)))])
 (.seq (.reg [un (.bsl 7 1 []),
 un (.asg 5 (.t 7))])
 (.drop [7] (.seq (.seq (.reg [un (.asg 6 (.c (.int .i64 0)))])
 (.block 0 (.loop Q2)))
 (.drop [6, 8, 9, 10, 11, 14, 15, 16, 17, 18, 19, 20, 21, 22, 23, 12, 13] (.seq (.reg [un (.mov 24 (.t 5)),
 un (.asg 4 (.t 24))])
 (.drop [24] .ret)))))))
abbrev Afw : List RS := [.t 4]
theorem Agf : A9 Try.prog Pa 25 Agp Afw = true := by kernel_rfl
def Aob : ACode :=
 (.seq (.reg [un (.asg 2 (.c (.nilsl 1)))])
 (.seq (.reg [un (.bsl 3 1 []),
 un (.mov 4 (.t 0)),
 un (.app 5 1 (.t 3) (.t 4)),
 un (.asg 2 (.t 5))])
 (.drop [3, 4, 5] .ret)))
abbrev Ang : List RS := [.t 2]
theorem Anf : A9 Try.prog Vd 6 Aob Ang = true := by kernel_rfl
def U5 : ACode :=
 (.seq (.seq (.reg [un (.mov 11 (.t 5)),
 un (.mov 12 (.t 0)),
 un (.len 13 (.t 12)),
 un (.bin 14 .lss (.t 11) (.t 13))])
 (.drop [11, 12, 13] (.cond (.t 14) .skip
 (.exit 0))))
 (.drop [11, 12, 13, 14] (.seq (.block 1 (.seq (.dreg [(un (.mov 17 (.t 0)), []),
 (un (.mov 18 (.t 5)), [17]),
 (un (.iad 19 1 (.t 17) (.t 18)), []),
 (un (.ld 20 1 false (.t 19)), []),
 (un (.mov 21 (.t 1)), [17, 18, 19, 20]),
 (un (.mov 22 (.t 5)), [17, 18, 19, 20, 21]),
 (un (.iad 23 1 (.t 21) (.t 22)), [17, 18, 19, 20]),
 (un (.ld 24 1 false (.t 23)), [17, 18, 19, 20])]
 [un (.bin 25 .neq (.t 20) (.t 24))])
 (.drop [17, 18, 19, 20, 21, 22, 23, 24] (.cond (.t 25) (.seq (.reg [un (.asg 4 (.c (.bool false)))])
 .ret)
 .skip))))
 (.drop [17, 18, 19, 20, 21, 22, 23, 24, 25] (.reg [un (.mov 15 (.t 5)),
 un (.bin 16 .add (.t 15) (.c (.int .i64 1))),
 un (.asg 5 (.t 16))])))))
def Akn : ACode :=
 (.seq (.reg [un (.asg 4 (.c (.bool false)))])
 (.seq (.seq (.reg [un (.mov 6 (.t 0)),
 un (.len 7 (.t 6)),
 un (.mov 8 (.t 1)),
 un (.len 9 (.t 8)),
 un (.bin 10 .neq (.t 7) (.t 9))])
 (.drop [6, 7, 8, 9] (.cond (.t 10) (.seq (.reg [un (.asg 4 (.c (.bool false)))])
 .ret)
 .skip)))
 (.drop [6, 7, 8, 9, 10] (.seq (.seq (.reg [un (.asg 5 (.c (.int .i64 0)))])
 (.block 0 (.loop U5)))
 (.drop [5, 11, 12, 13, 14, 17, 18, 19, 20, 21, 22, 23, 24, 25, 15, 16] (.seq (.reg [un (.asg 4 (.c (.bool true)))])
 .ret))))))
abbrev Ak4 : List RS := [.t 4]
theorem Aln : A9 Try.prog Td 26 Akn Ak4 = true := by kernel_rfl
def Acn : ACode :=
 (.seq (.reg [un (.asg 6 (.c (.bool false)))])
 (.seq (.dreg [(un (.ld 7 1 false (.t 2)), []),
 (un (.ld 8 1 false (.t 3)), [7]),
 (un (.mov 9 (.t 0)), [7, 8]),
 (un (.iad 10 1 (.t 8) (.t 9)), [7]),
 (un (.ld 11 1 false (.t 10)), [7]),
 (un (.ld 12 1 false (.t 3)), [7, 8, 9, 10, 11]),
 (un (.mov 13 (.t 1)), [7, 8, 9, 10, 11, 12]),
 (un (.iad 14 1 (.t 12) (.t 13)), [7, 8, 9, 10, 11]),
 (un (.ld 15 1 false (.t 14)), [7, 8, 9, 10, 11])]
 [un (.cally 16 (.t 7) [(.t 11), (.t 15)] []),
 un (.bin 17 .lss (.t 16) (.c (.int .i64 0))),
 un (.asg 6 (.t 17))])
 (.drop [7, 8, 9, 10, 11, 12, 13, 14, 15, 16, 17] .ret)))
abbrev Ab3 : List RS := [.t 6]
theorem Ab9 : A9 Try.prog R6 18 Acn Ab3 = true := by kernel_rfl
def Up : ACode :=
 (.seq (.seq (.reg [un (.mov 11 (.t 5)),
 un (.mov 12 (.t 0)),
 un (.len 13 (.t 12)),
 un (.bin 14 .lss (.t 11) (.t 13))])
 (.drop [11, 12, 13] (.cond (.t 14) .skip
 (.exit 0))))
 (.drop [11, 12, 13, 14] (.seq (.block 1 (.seq (.dreg [(un (.mov 17 (.t 0)), []),
 (un (.mov 18 (.t 5)), [17]),
 (un (.iad 19 1 (.t 17) (.t 18)), []),
 (un (.ld 20 1 false (.t 19)), []),
 (un (.mov 21 (.t 1)), [17, 18, 19, 20]),
 (un (.mov 22 (.t 5)), [17, 18, 19, 20, 21]),
 (un (.iad 23 1 (.t 21) (.t 22)), [17, 18, 19, 20]),
 (un (.ld 24 1 false (.t 23)), [17, 18, 19, 20])]
 [un (.call 25 Vb [((.t 20), false), ((.t 24), false)]),
 un (.un 26 .not (.t 25))])
 (.drop [17, 18, 19, 20, 21, 22, 23, 24, 25] (.cond (.t 26) (.seq (.reg [un (.asg 4 (.c (.bool false)))])
 .ret)
 .skip))))
 (.drop [17, 18, 19, 20, 21, 22, 23, 24, 25, 26] (.reg [un (.mov 15 (.t 5)),
 un (.bin 16 .add (.t 15) (.c (.int .i64 1))),
 un (.asg 5 (.t 16))])))))
def Ako : ACode :=
 (.seq (.reg [un (.asg 4 (.c (.bool false)))])
 (.seq (.seq (.reg [un (.mov 6 (.t 0)),
 un (.len 7 (.t 6)),
 un (.mov 8 (.t 1)),
 un (.len 9 (.t 8)),
 un (.bin 10 .neq (.t 7) (.t 9))])
 (.drop [6, 7, 8, 9] (.cond (.t 10) (.seq (.reg [un (.asg 4 (.c (.bool false)))])
 .ret)
 .skip)))
 (.drop [6, 7, 8, 9, 10] (.seq (.seq (.reg [un (.asg 5 (.c (.int .i64 0)))])
 (.block 0 (.loop Up)))
 (.drop [5, 11, 12, 13, 14, 17, 18, 19, 20, 21, 22, 23, 24, 25, 26, 15, 16] (.seq (.reg [un (.asg 4 (.c (.bool true)))])
 .ret))))))
abbrev Ak7 : List RS := [.t 4]
theorem Akr : A9 Try.prog N2 27 Ako Ak7 = true := by kernel_rfl
def Ade : ACode :=
 (.seq (.reg [un (.asg 4 (.c (.int .i64 0)))])
 (.seq (.seq (.reg [un (.mov 6 (.t 1)),
 un (.bin 7 .leq (.t 6) (.c (.int .i64 1)))])
 (.drop [6] (.cond (.t 7) (.seq (.reg [un (.asg 4 (.c (.int .i64 0)))])
 .ret)
 .skip)))
 (.drop [6, 7] (.seq (.reg [un (.mov 8 (.t 0)),
 un (.call 9 Ig [((.t 8), true)]),
 un (.asg 5 (.t 9))])
 (.drop [8, 9] (.seq (.seq (.reg [un (.mov 10 (.t 1)),
 un (.bin 11 .gtr (.t 10) (.c (.int .i64 200)))])
 (.drop [10] (.cond (.t 11) (.reg [un (.mov 12 (.t 5)),
 un (.bin 13 .mul (.t 12) (.c (.int .i64 256))),
 un (.mov 14 (.t 0)),
 un (.call 15 Ig [((.t 14), true)]),
 un (.bin 16 .add (.t 13) (.t 15)),
 un (.asg 5 (.t 16))])
 .skip)))
 (.drop [10, 11, 12, 13, 14, 15, 16] (.seq (.reg [un (.mov 17 (.t 5)),
 un (.mov 18 (.t 1)),
 un (.bin 19 .rem (.t 17) (.t 18)),
 un (.asg 4 (.t 19))])
 (.drop [17, 18, 19] .ret)))))))))
abbrev Abx : List RS := [.t 4]
theorem Acz : A9 Try.prog Bi 20 Ade Abx = true := by kernel_rfl
def Xd : ACode :=
 (.seq (.reg [un (.fadr 7 0 (.t 3)),
 un (.ld 8 1 false (.t 7)),
 un (.bin 9 .lss (.t 8) (.c (.int .i64 1))),
 un (.asg 10 (.t 9)),
 ⟨some (10, false), .fadr 11 0 (.t 3)⟩,
 ⟨some (10, false), .ld 12 1 false (.t 11)⟩,
 ⟨some (10, false), .bin 13 .gtr (.t 12) (.c (.int .i64 3))⟩,
 un (.pick 14 (.t 10) (.c (.bool true)) (.t 13))])
 (.drop [7, 8, 9, 10, 11, 12, 13] (.cond (.t 14) (.seq (.reg [un (.asg 4 (.c (.bool false)))])
 .ret)
 .skip)))
def Od : ACode :=
 (.seq (.reg [un (.bin 19 .lss (.t 18) (.t 17))])
 (.seq (.cond (.t 19) .skip
 (.exit 0))
 (.seq (.block 1 (.seq (.reg [un (.mov 20 (.t 18)),
 un (.iad 21 1 (.t 16) (.t 18)),
 un (.ld 22 1 false (.t 21)),
 un (.asg 5 (.t 20)),
 un (.asg 6 (.t 22))])
 (.drop [20, 21, 22] (.seq (.reg [un (.mov 23 (.t 6)),
 un (.len 24 (.t 23)),
 un (.fadr 25 0 (.t 3)),
 un (.ld 26 1 false (.t 25)),
 un (.bin 27 .neq (.t 24) (.t 26)),
 un (.asg 28 (.t 27)),
 ⟨some (28, false), .mov 29 (.t 6)⟩,
 ⟨some (28, false), .mov 30 (.t 0)⟩,
 ⟨some (28, false), .call 31 Nt [((.t 29), false), ((.t 30), false)]⟩,
 ⟨some (28, false), .un 32 .not (.t 31)⟩,
 un (.pick 33 (.t 28) (.c (.bool true)) (.t 32)),
 un (.asg 34 (.t 33)),
 ⟨some (34, false), .mov 35 (.t 5)⟩,
 ⟨some (34, false), .bin 36 .gtr (.t 35) (.c (.int .i64 0))⟩,
 ⟨some (34, false), .asg 37 (.t 36)⟩,
 ⟨some (37, true), .fadr 38 1 (.t 3)⟩,
 ⟨some (37, true), .ld 39 1 false (.t 38)⟩,
 ⟨some (37, true), .mov 40 (.t 5)⟩,
 ⟨some (37, true), .bin 41 .sub (.t 40) (.c (.int .i64 1))⟩,
 ⟨some (37, true), .iad 42 1 (.t 39) (.t 41)⟩,
 ⟨some (37, true), .ld 43 1 false (.t 42)⟩,
 ⟨some (37, true), .mov 44 (.t 6)⟩,
 ⟨some (37, true), .call 45 Gy [((.t 43), false), ((.t 44), false)]⟩,
 ⟨some (37, true), .bin 46 .geq (.t 45) (.c (.int .i64 0))⟩,
 ⟨some (34, false), .pick 47 (.t 37) (.t 46) (.c (.bool false))⟩,
 un (.pick 48 (.t 34) (.c (.bool true)) (.t 47))])
 (.drop [23, 24, 25, 26, 27, 28, 29, 30, 31, 32, 33, 34, 35, 36, 37, 38, 39, 40, 41, 42, 43, 44, 45, 46, 47] (.cond (.t 48) (.seq (.reg [un (.asg 4 (.c (.bool false)))])
 .ret)
 .skip))))))
 (.drop [20, 21, 22, 5, 6, 23, 24, 25, 26, 27, 28, 29, 30, 31, 32, 33, 34, 35, 36, 37, 38, 39, 40, 41, 42, 43, 44, 45, 46, 47, 48] (.reg [un (.bin 49 .add (.t 18) (.c (.int .i64 1))),
 un (.asg 18 (.t 49))])))))
def Add : ACode :=
 (.seq (.reg [un (.box 3 (.t 1)),
 un (.asg 4 (.c (.bool false)))])
 (.seq (.cut Xd)
 (.drop [7, 8, 9, 10, 11, 12, 13, 14] (.seq (.seq (.reg [un (.fadr 15 1 (.t 3)),
 un (.ld 16 1 false (.t 15)),
 un (.len 17 (.t 16)),
 un (.mov 18 (.c (.int .i64 0)))])
 (.drop [15] (.block 0 (.loop Od))))
 (.drop [15, 16, 17, 18, 19, 20, 21, 22, 5, 6, 23, 24, 25, 26, 27, 28, 29, 30, 31, 32, 33, 34, 35, 36, 37, 38, 39, 40, 41, 42, 43, 44, 45, 46, 47, 48, 49] (.seq (.reg [un (.asg 4 (.c (.bool true)))])
 .ret))))))
abbrev Ado : List RS := [.t 4]
theorem Ac9 : A9 Try.prog Ga 50 Add Ado = true := by kernel_rfl
def Va : ACode :=
 (.seq (.reg [un (.mov 8 (.t 0)),
 un (.call 9 Nx [((.t 8), false)]),
 un (.un 10 .not (.t 9)),
 un (.asg 11 (.t 10)),
 ⟨some (11, false), .mov 12 (.t 1)⟩,
 ⟨some (11, false), .bin 13 .lss (.t 12) (.c (.int .i64 1))⟩,
 un (.pick 14 (.t 11) (.c (.bool true)) (.t 13)),
 un (.asg 15 (.t 14)),
 ⟨some (15, false), .mov 16 (.t 1)⟩,
 ⟨some (15, false), .bin 17 .gtr (.t 16) (.c (.int .i64 3))⟩,
 un (.pick 18 (.t 15) (.c (.bool true)) (.t 17))])
 (.drop [8, 9, 10, 11, 12, 13, 14, 15, 16, 17] (.cond (.t 18) (.seq (.reg [un (.bld 19 [.int .i64 0, .nilsl 1] []),
 un (.st 2 (.t 4) (.t 19)),
 un (.asg 5 (.c (.bool false)))])
 (.drop [19] .ret))
 .skip)))
def Ly : ACode :=
 (.seq (.seq (.reg [un (.mov 22 (.t 7)),
 un (.mov 23 (.t 0)),
 un (.mov 24 (.t 1)),
 un (.call 25 Hn [((.t 23), false), ((.t 24), false)]),
 un (.bin 26 .lss (.t 22) (.t 25))])
 (.drop [22, 23, 24, 25] (.cond (.t 26) .skip
 (.exit 0))))
 (.drop [22, 23, 24, 25, 26] (.seq (.block 1 (.dreg [(un (.fadr 29 1 (.t 6)), [34]),
 (un (.ld 30 1 false (.t 29)), [34]),
 (un (.mov 31 (.t 7)), [29, 30]),
 (un (.mov 32 (.t 1)), [29, 30, 31]),
 (un (.mov 33 (.t 0)), [29, 30, 31, 32]),
 (un (.call 34 Nv [((.t 31), false), ((.t 32), false), ((.t 33), false)]), [29, 30]),
 (un (.bsl 35 1 [(.t 34)]), [29, 30])]
 [un (.app 36 1 (.t 30) (.t 35)),
 un (.fadr 37 1 (.t 6)),
 un (.st 1 (.t 37) (.t 36))]))
 (.drop [29, 30, 31, 32, 33, 34, 35, 36, 37] (.reg [un (.mov 27 (.t 7)),
 un (.bin 28 .add (.t 27) (.c (.int .i64 1))),
 un (.asg 7 (.t 28))])))))
def Y8 : ACode :=
 (.seq (.reg [un (.alc 4 (.agg [.int .i64 0, .nilsl 1])),
 un (.asg 5 (.c (.bool false)))])
 (.seq (.cut Va)
 (.drop [8, 9, 10, 11, 12, 13, 14, 15, 16, 17, 18, 19] (.seq (.reg [un (.mov 20 (.t 1)),
 un (.bld 21 [.int .i64 0, .nilsl 1] [(0, 1, (.t 20))]),
 un (.alc 6 (.agg [.int .i64 0, .nilsl 1])),
 un (.st 2 (.t 6) (.t 21))])
 (.drop [20, 21] (.seq (.seq (.reg [un (.asg 7 (.c (.int .i64 0)))])
 (.block 0 (.loop Ly)))
 (.drop [7, 22, 23, 24, 25, 26, 29, 30, 31, 32, 33, 34, 35, 36, 37, 27, 28] (.seq (.reg [un (.ld 38 2 true (.t 6)),
 un (.st 2 (.t 4) (.t 38)),
 un (.asg 5 (.c (.bool true)))])
 (.drop [38] .ret)))))))))
abbrev Zb : List RS := [.c 4 2 true, .t 5]
theorem Zd : A9 Try.prog J0 39 Y8 Zb = true := by kernel_rfl
def Zj : ACode :=
 (.seq (.dreg [(un (.mov 13 (.t 1)), []),
 (un (.mov 14 (.t 6)), [13]),
 (un (.iad 15 1 (.t 13) (.t 14)), []),
 (un (.ld 16 1 false (.t 15)), []),
 (un (.mov 17 (.t 0)), [13, 14, 15, 16]),
 (un (.un 18 .neg (.t 17)), [13, 14, 15, 16]),
 (un (.mov 19 (.t 0)), [13, 14, 15, 16, 17, 18]),
 (un (.call 20 Hd [((.t 16), false), ((.t 18), false), ((.t 19), false)]), []),
 (un (.un 21 .not (.t 20)), []),
 (un (.asg 22 (.t 21)), []),
 (⟨some (22, false), .mov 23 (.t 1)⟩, [21]),
 (⟨some (22, false), .mov 24 (.t 6)⟩, [23, 21]),
 (⟨some (22, false), .iad 25 1 (.t 23) (.t 24)⟩, [21]),
 (⟨some (22, false), .ld 26 1 false (.t 25)⟩, [21]),
 (⟨some (22, false), .bin 27 .eql (.t 26) (.c (.int .i64 0))⟩, [21]),
 (un (.pick 28 (.t 22) (.c (.bool true)) (.t 27)), [21]),
 (un (.asg 29 (.t 28)), [21]),
 (⟨some (29, false), .mov 30 (.t 1)⟩, [21, 28]),
 (⟨some (29, false), .mov 31 (.t 6)⟩, [30, 21, 28]),
 (⟨some (29, false), .iad 32 1 (.t 30) (.t 31)⟩, [21, 28]),
 (⟨some (29, false), .ld 33 1 false (.t 32)⟩, [21, 28]),
 (⟨some (29, false), .mov 34 (.t 1)⟩, [30, 31, 32, 33, 21, 28]),
 (⟨some (29, false), .mov 35 (.t 6)⟩, [30, 31, 32, 33, 34, 21, 28]),
 (⟨some (29, false), .iad 36 1 (.t 34) (.t 35)⟩, [30, 31, 32, 33, 21, 28]),
 (⟨some (29, false), .ld 37 1 false (.t 36)⟩, [30, 31, 32, 33, 21, 28]),
 (⟨some (29, false), .un 38 .neg (.t 37)⟩, [30, 31, 32, 33, 21, 28]),
 (⟨some (29, false), .call 39 H3 [((.t 33), false), ((.t 38), false)]⟩, [21, 28]),
 (⟨some (29, false), .mov 40 (.t 5)⟩, [30, 31, 32, 33, 34, 35, 36, 37, 38, 39, 21, 28])]
 [⟨some (29, false), .bin 41 .leq (.t 39) (.t 40)⟩,
 un (.pick 42 (.t 29) (.c (.bool true)) (.t 41))])
 (.drop [13, 14, 15, 16, 17, 18, 19, 20, 21, 22, 23, 24, 25, 26, 27, 28, 29, 30, 31, 32, 33, 34, 35, 36, 37, 38, 39, 40, 41] (.cond (.t 42) (.seq (.reg [un (.asg 4 (.c (.bool false)))])
 .ret)
 .skip)))
def Pv : ACode :=
 (.seq (.seq (.reg [un (.mov 7 (.t 6)),
 un (.mov 8 (.t 1)),
 un (.len 9 (.t 8)),
 un (.bin 10 .lss (.t 7) (.t 9))])
 (.drop [7, 8, 9] (.cond (.t 10) .skip
 (.exit 0))))
 (.drop [7, 8, 9, 10] (.seq (.block 1 (.seq (.cut Zj)
 (.drop [13, 14, 15, 16, 17, 18, 19, 20, 21, 22, 23, 24, 25, 26, 27, 28, 29, 30, 31, 32, 33, 34, 35, 36, 37, 38, 39, 40, 41, 42] (.dreg [(un (.mov 43 (.t 1)), []),
 (un (.mov 44 (.t 6)), [43]),
 (un (.iad 45 1 (.t 43) (.t 44)), []),
 (un (.ld 46 1 false (.t 45)), []),
 (un (.mov 47 (.t 1)), [43, 44, 45, 46]),
 (un (.mov 48 (.t 6)), [43, 44, 45, 46, 47]),
 (un (.iad 49 1 (.t 47) (.t 48)), [43, 44, 45, 46]),
 (un (.ld 50 1 false (.t 49)), [43, 44, 45, 46]),
 (un (.un 51 .neg (.t 50)), [43, 44, 45, 46])]
 [un (.call 52 H3 [((.t 46), false), ((.t 51), false)]),
 un (.asg 5 (.t 52))]))))
 (.drop [13, 14, 15, 16, 17, 18, 19, 20, 21, 22, 23, 24, 25, 26, 27, 28, 29, 30, 31, 32, 33, 34, 35, 36, 37, 38, 39, 40, 41, 42, 43, 44, 45, 46, 47, 48, 49, 50, 51, 52] (.reg [un (.mov 11 (.t 6)),
 un (.bin 12 .add (.t 11) (.c (.int .i64 1))),
 un (.asg 6 (.t 12))])))))
def Aes : ACode :=
 (.seq (.reg [un (.asg 4 (.c (.bool false)))])
 (.seq (.reg [un (.asg 5 (.c (.int .i64 0)))])
 (.seq (.seq (.reg [un (.asg 6 (.c (.int .i64 0)))])
 (.block 0 (.loop Pv)))
 (.drop [6, 7, 8, 9, 10, 13, 14, 15, 16, 17, 18, 19, 20, 21, 22, 23, 24, 25, 26, 27, 28, 29, 30, 31, 32, 33, 34, 35, 36, 37, 38, 39, 40, 41, 42, 43, 44, 45, 46, 47, 48, 49, 50, 51, 52, 11, 12] (.seq (.reg [un (.asg 4 (.c (.bool true)))])
 .ret)))))
abbrev Aeg : List RS := [.t 4]
theorem Aee : A9 Try.prog Nn 53 Aes Aeg = true := by kernel_rfl
def Ak6 : ACode :=
 (.seq (.reg [un (.asg 2 (.c (.bool false)))])
 (.seq (.reg [un (.mov 3 (.t 0)),
 un (.call 4 Hd [((.t 3), false), ((.c (.int .i64 1)), false), ((.c (.int .i64 8)), false)]),
 un (.asg 2 (.t 4))])
 (.drop [3, 4] .ret)))
abbrev Akd : List RS := [.t 2]
theorem Alw : A9 Try.prog Tw 5 Ak6 Akd = true := by kernel_rfl
def R5 : ACode :=
 (.seq (.seq (.reg [un (.mov 10 (.t 6)),
 un (.mov 11 (.t 0)),
 un (.mov 12 (.t 1)),
 un (.call 13 Jo [((.t 11), false), ((.t 12), false)]),
 un (.bin 14 .lss (.t 10) (.t 13))])
 (.drop [10, 11, 12, 13] (.cond (.t 14) .skip
 (.exit 0))))
 (.drop [10, 11, 12, 13, 14] (.seq (.block 1 (.dreg [(un (.fadr 17 1 (.t 5)), [22]),
 (un (.ld 18 1 false (.t 17)), [22]),
 (un (.mov 19 (.t 0)), [17, 18]),
 (un (.mov 20 (.t 1)), [17, 18, 19]),
 (un (.mov 21 (.t 6)), [17, 18, 19, 20]),
 (un (.call 22 Kh [((.t 19), false), ((.t 20), false), ((.t 21), false)]), [17, 18]),
 (un (.bsl 23 1 [(.t 22)]), [17, 18])]
 [un (.app 24 1 (.t 18) (.t 23)),
 un (.fadr 25 1 (.t 5)),
 un (.st 1 (.t 25) (.t 24))]))
 (.drop [17, 18, 19, 20, 21, 22, 23, 24, 25] (.reg [un (.mov 15 (.t 6)),
 un (.bin 16 .add (.t 15) (.c (.int .i64 1))),
 un (.asg 6 (.t 16))])))))
def Ag4 : ACode :=
 (.seq (.reg [un (.alc 4 (.agg [.int .i64 0, .nilsl 1]))])
 (.seq (.reg [un (.mov 7 (.t 1)),
 un (.bsl 8 1 []),
 un (.bld 9 [.int .i64 0, .nilsl 1] [(0, 1, (.t 7)), (1, 1, (.t 8))]),
 un (.alc 5 (.agg [.int .i64 0, .nilsl 1])),
 un (.st 2 (.t 5) (.t 9))])
 (.drop [7, 8, 9] (.seq (.seq (.reg [un (.asg 6 (.c (.int .i64 0)))])
 (.block 0 (.loop R5)))
 (.drop [6, 10, 11, 12, 13, 14, 17, 18, 19, 20, 21, 22, 23, 24, 25, 15, 16] (.seq (.reg [un (.ld 26 2 true (.t 5)),
 un (.st 2 (.t 4) (.t 26))])
 (.drop [26] .ret)))))))
abbrev Aj1 : List RS := [.c 4 2 true]
theorem Ah5 : A9 Try.prog Lb 27 Ag4 Aj1 = true := by kernel_rfl
def Sd : ACode :=
 (.seq (.reg [un (.bin 10 .lss (.t 9) (.t 8))])
 (.seq (.cond (.t 10) .skip
 (.exit 0))
 (.seq (.block 1 (.seq (.reg [un (.iad 11 1 (.t 7) (.t 9)),
 un (.ld 12 1 false (.t 11)),
 un (.asg 6 (.t 12))])
 (.drop [11, 12] (.seq (.reg [un (.mov 13 (.t 6)),
 un (.mov 14 (.t 1)),
 un (.call 15 Hl [((.t 13), false), ((.t 14), false)]),
 un (.un 16 .not (.t 15))])
 (.drop [13, 14, 15] (.cond (.t 16) (.seq (.reg [un (.asg 4 (.c (.bool false)))])
 .ret)
 .skip))))))
 (.drop [11, 12, 6, 13, 14, 15, 16] (.reg [un (.bin 17 .add (.t 9) (.c (.int .i64 1))),
 un (.asg 9 (.t 17))])))))
def Aht : ACode :=
 (.seq (.reg [un (.asg 4 (.c (.bool false)))])
 (.seq (.seq (.reg [un (.mov 7 (.t 0)),
 un (.len 8 (.t 7)),
 un (.mov 9 (.c (.int .i64 0)))])
 (.block 0 (.loop Sd)))
 (.drop [7, 8, 9, 10, 11, 12, 6, 13, 14, 15, 16, 17] (.seq (.reg [un (.asg 4 (.c (.bool true)))])
 .ret))))
abbrev Air : List RS := [.t 4]
theorem Ajz : A9 Try.prog L0 18 Aht Air = true := by kernel_rfl
def Ajo : ACode :=
 (.seq (.reg [un (.asg 4 (.c (.nilsl 1)))])
 (.seq (.dreg [(un (.mov 5 (.t 0)), []),
 (un (.mov 6 (.t 1)), [5]),
 (un (.slc 7 1 (.t 5) none (some (.t 6))), []),
 (un (.call 8 Vd [((.t 7), false)]), []),
 (un (.mov 9 (.t 0)), [5, 6, 7, 8]),
 (un (.mov 10 (.t 1)), [5, 6, 7, 8, 9]),
 (un (.bin 11 .add (.t 10) (.c (.int .i64 1))), [5, 6, 7, 8, 9]),
 (un (.slc 12 1 (.t 9) (some (.t 11)) none), [5, 6, 7, 8])]
 [un (.app 13 1 (.t 8) (.t 12)),
 un (.asg 4 (.t 13))])
 (.drop [5, 6, 7, 8, 9, 10, 11, 12, 13] .ret)))
abbrev Ajs : List RS := [.t 4]
theorem Ah3 : A9 Try.prog Q3 14 Ajo Ajs = true := by kernel_rfl
def Uc : ACode :=
 (.seq (.seq (.reg [un (.mov 6 (.t 5)),
 un (.fadr 7 1 (.t 2)),
 un (.ld 8 1 false (.t 7)),
 un (.len 9 (.t 8)),
 un (.bin 10 .lss (.t 6) (.t 9))])
 (.drop [6, 7, 8, 9] (.cond (.t 10) .skip
 (.exit 0))))
 (.drop [6, 7, 8, 9, 10] (.seq (.block 1 (.seq (.reg [un (.fadr 13 1 (.t 2)),
 un (.ld 14 1 false (.t 13)),
 un (.mov 15 (.t 5)),
 un (.iad 16 1 (.t 14) (.t 15)),
 un (.ld 17 1 false (.t 16)),
 un (.mov 18 (.t 1)),
 un (.call 19 Kj [((.t 17), false), ((.t 18), false)]),
 un (.un 20 .not (.t 19))])
 (.drop [13, 14, 15, 16, 17, 18, 19] (.cond (.t 20) (.seq (.reg [un (.asg 4 (.c (.bool false)))])
 .ret)
 .skip))))
 (.drop [13, 14, 15, 16, 17, 18, 19, 20] (.reg [un (.mov 11 (.t 5)),
 un (.bin 12 .add (.t 11) (.c (.int .i64 1))),
 un (.asg 5 (.t 12))])))))
def Ak0 : ACode :=
 (.seq (.reg [un (.box 2 (.t 0)),
 un (.asg 4 (.c (.bool false)))])
 (.seq (.seq (.reg [un (.asg 5 (.c (.int .i64 0)))])
 (.block 0 (.loop Uc)))
 (.drop [5, 6, 7, 8, 9, 10, 13, 14, 15, 16, 17, 18, 19, 20, 11, 12] (.seq (.reg [un (.asg 4 (.c (.bool true)))])
 .ret))))
abbrev Akg : List RS := [.t 4]
theorem Alo : A9 Try.prog Nw 21 Ak0 Akg = true := by kernel_rfl
def Aqv : ACode :=
 (.seq (.reg [un (.box 2 (.t 0)),
 un (.asg 4 (.c (.bool false)))])
 (.seq (.dreg [(un (.fadr 5 0 (.t 2)), []),
 (un (.ld 6 1 false (.t 5)), []),
 (un (.bin 7 .geq (.t 6) (.c (.int .i64 0))), []),
 (un (.asg 8 (.t 7)), []),
 (⟨some (8, true), .fadr 9 0 (.t 2)⟩, [7]),
 (⟨some (8, true), .ld 10 1 false (.t 9)⟩, [7]),
 (⟨some (8, true), .bin 11 .leq (.t 10) (.c (.int .i64 3))⟩, [7]),
 (un (.pick 12 (.t 8) (.t 11) (.c (.bool false))), [7]),
 (un (.asg 13 (.t 12)), [7]),
 (⟨some (13, true), .fadr 14 1 (.t 2)⟩, [7, 12]),
 (⟨some (13, true), .ld 15 1 false (.t 14)⟩, [7, 12]),
 (⟨some (13, true), .len 16 (.t 15)⟩, [7, 12]),
 (⟨some (13, true), .mov 17 (.t 1)⟩, [14, 15, 16, 7, 12]),
 (⟨some (13, true), .fadr 18 0 (.t 2)⟩, [14, 15, 16, 17, 7, 12]),
 (⟨some (13, true), .ld 19 1 false (.t 18)⟩, [14, 15, 16, 17, 7, 12]),
 (⟨some (13, true), .call 20 Hn [((.t 17), false), ((.t 19), false)]⟩, [14, 15, 16, 7, 12]),
 (⟨some (13, true), .bin 21 .eql (.t 16) (.t 20)⟩, [7, 12]),
 (un (.pick 22 (.t 13) (.t 21) (.c (.bool false))), [7, 12]),
 (un (.asg 23 (.t 22)), [7, 12]),
 (⟨some (23, true), .fadr 24 1 (.t 2)⟩, [7, 12, 22]),
 (⟨some (23, true), .ld 25 1 false (.t 24)⟩, [7, 12, 22]),
 (⟨some (23, true), .mov 26 (.t 1)⟩, [24, 25, 7, 12, 22])]
 [⟨some (23, true), .call 27 Nt [((.t 25), false), ((.t 26), false)]⟩,
 un (.pick 28 (.t 23) (.t 27) (.c (.bool false))),
 un (.asg 4 (.t 28))])
 (.drop [5, 6, 7, 8, 9, 10, 11, 12, 13, 14, 15, 16, 17, 18, 19, 20, 21, 22, 23, 24, 25, 26, 27, 28] .ret)))
abbrev Aq4 : List RS := [.t 4]
theorem Ap7 : A9 Try.prog Xm 29 Aqv Aq4 = true := by kernel_rfl
def Rf : ACode :=
 (.seq (.reg [un (.bin 11 .lss (.t 10) (.t 9))])
 (.seq (.cond (.t 11) .skip
 (.exit 0))
 (.seq (.block 1 (.seq (.reg [un (.iad 12 1 (.t 8) (.t 10)),
 un (.ld 13 1 false (.t 12)),
 un (.asg 5 (.t 13))])
 (.drop [12, 13] (.reg [un (.mov 14 (.t 3)),
 un (.mov 15 (.t 5)),
 un (.call 16 P9 [((.t 15), false)]),
 un (.mup (.t 14) (.t 16) (.c (.bool true)))]))))
 (.drop [12, 13, 5, 14, 15, 16] (.reg [un (.bin 17 .add (.t 10) (.c (.int .i64 1))),
 un (.asg 10 (.t 17))])))))
def Agh : ACode :=
 (.seq (.reg [un (.box 1 (.t 0)),
 un (.asg 2 (.c (.dead)))])
 (.seq (.reg [un (.mkm 6),
 un (.asg 3 (.t 6))])
 (.drop [6] (.seq (.seq (.reg [un (.fadr 7 1 (.t 1)),
 un (.ld 8 1 false (.t 7)),
 un (.len 9 (.t 8)),
 un (.mov 10 (.c (.int .i64 0)))])
 (.drop [7] (.block 0 (.loop Rf))))
 (.drop [7, 8, 9, 10, 11, 12, 13, 5, 14, 15, 16, 17] (.seq (.reg [un (.mov 18 (.t 3)),
 un (.asg 2 (.t 18))])
 (.drop [18] .ret)))))))
abbrev Agr : List RS := [.t 2]
theorem Agc : A9 Try.prog Po 19 Agh Agr = true := by kernel_rfl
def Af2 : ACode :=
 (.seq (.reg [un (.asg 4 (.c (.bool false)))])
 (.seq (.seq (.reg [un (.mov 5 (.t 0)),
 un (.len 6 (.t 5)),
 un (.mov 7 (.t 1)),
 un (.len 8 (.t 7)),
 un (.bin 9 .neq (.t 6) (.t 8))])
 (.drop [5, 6, 7, 8] (.cond (.t 9) (.seq (.reg [un (.mov 10 (.t 0)),
 un (.len 11 (.t 10)),
 un (.mov 12 (.t 1)),
 un (.len 13 (.t 12)),
 un (.bin 14 .lss (.t 11) (.t 13)),
 un (.asg 4 (.t 14))])
 (.drop [10, 11, 12, 13, 14] .ret))
 .skip)))
 (.drop [5, 6, 7, 8, 9, 10, 11, 12, 13, 14] (.seq (.reg [un (.mov 15 (.t 0)),
 un (.mov 16 (.t 1)),
 un (.call 17 J5 [((.t 15), false), ((.t 16), false)]),
 un (.asg 4 (.t 17))])
 (.drop [15, 16, 17] .ret)))))
abbrev Af5 : List RS := [.t 4]
theorem Af1 : A9 Try.prog Pq 18 Af2 Af5 = true := by kernel_rfl
def Ud : ACode :=
 (.seq (.seq (.reg [un (.mov 11 (.t 6)),
 un (.mov 12 (.t 7)),
 un (.bin 13 .lss (.t 11) (.t 12))])
 (.drop [11, 12] (.cond (.t 13) .skip
 (.exit 0))))
 (.drop [11, 12, 13] (.block 1 (.seq (.reg [un (.mov 14 (.t 6)),
 un (.mov 15 (.t 7)),
 un (.bin 16 .add (.t 14) (.t 15)),
 un (.bin 17 .quo (.t 16) (.c (.int .i64 2))),
 un (.asg 8 (.t 17))])
 (.drop [14, 15, 16, 17] (.seq (.reg [un (.mov 18 (.t 0)),
 un (.mov 19 (.t 8)),
 un (.iad 20 1 (.t 18) (.t 19)),
 un (.ld 21 1 false (.t 20)),
 un (.mov 22 (.t 1)),
 un (.call 23 J5 [((.t 21), false), ((.t 22), false)])])
 (.drop [18, 19, 20, 21, 22] (.cond (.t 23) (.reg [un (.mov 24 (.t 8)),
 un (.bin 25 .add (.t 24) (.c (.int .i64 1))),
 un (.asg 6 (.t 25))])
 (.reg [un (.mov 26 (.t 8)),
 un (.asg 7 (.t 26))])))))))))
def Alm : ACode :=
 (.seq (.reg [un (.asg 4 (.c (.int .i64 0))),
 un (.asg 5 (.c (.bool false)))])
 (.seq (.reg [un (.mov 9 (.t 0)),
 un (.len 10 (.t 9)),
 un (.asg 6 (.c (.int .i64 0))),
 un (.asg 7 (.t 10))])
 (.drop [9, 10] (.seq (.block 0 (.loop Ud))
 (.drop [11, 12, 13, 14, 15, 16, 17, 8, 18, 19, 20, 21, 22, 23, 24, 25, 26] (.seq (.reg [un (.mov 27 (.t 6)),
 un (.mov 28 (.t 6)),
 un (.mov 29 (.t 0)),
 un (.len 30 (.t 29)),
 un (.bin 31 .lss (.t 28) (.t 30)),
 un (.asg 32 (.t 31)),
 ⟨some (32, true), .mov 33 (.t 0)⟩,
 ⟨some (32, true), .mov 34 (.t 6)⟩,
 ⟨some (32, true), .iad 35 1 (.t 33) (.t 34)⟩,
 ⟨some (32, true), .ld 36 1 false (.t 35)⟩,
 ⟨some (32, true), .mov 37 (.t 1)⟩,
 ⟨some (32, true), .call 38 Td [((.t 36), false), ((.t 37), false)]⟩,
 un (.pick 39 (.t 32) (.t 38) (.c (.bool false))),
 un (.asg 4 (.t 27)),
 un (.asg 5 (.t 39))])
 (.drop [27, 28, 29, 30, 31, 32, 33, 34, 35, 36, 37, 38, 39] .ret)))))))
abbrev Aj6 : List RS := [.t 4, .t 5]
theorem Aj9 : A9 Try.prog Kg 40 Alm Aj6 = true := by kernel_rfl
def U8 : ACode :=
 (.seq (.seq (.reg [un (.mov 5 (.t 4)),
 un (.fadr 6 1 (.t 1)),
 un (.ld 7 1 false (.t 6)),
 un (.len 8 (.t 7)),
 un (.bin 9 .lss (.t 5) (.t 8))])
 (.drop [5, 6, 7, 8] (.cond (.t 9) .skip
 (.exit 0))))
 (.drop [5, 6, 7, 8, 9] (.seq (.block 1 (.reg [un (.mov 12 (.t 3)),
 un (.fadr 13 1 (.t 1)),
 un (.ld 14 1 false (.t 13)),
 un (.mov 15 (.t 4)),
 un (.iad 16 2 (.t 14) (.t 15)),
 un (.fadr 17 0 (.t 16)),
 un (.ld 18 1 false (.t 17)),
 un (.call 19 H3 [((.t 12), false), ((.t 18), false)]),
 un (.asg 3 (.t 19))]))
 (.drop [12, 13, 14, 15, 16, 17, 18, 19] (.reg [un (.mov 10 (.t 4)),
 un (.bin 11 .add (.t 10) (.c (.int .i64 1))),
 un (.asg 4 (.t 11))])))))
def Akw : ACode :=
 (.seq (.reg [un (.box 1 (.t 0)),
 un (.asg 2 (.c (.int .i64 0)))])
 (.seq (.reg [un (.asg 3 (.c (.int .i64 0)))])
 (.seq (.seq (.reg [un (.asg 4 (.c (.int .i64 0)))])
 (.block 0 (.loop U8)))
 (.drop [4, 5, 6, 7, 8, 9, 12, 13, 14, 15, 16, 17, 18, 19, 10, 11] (.seq (.seq (.reg [un (.mov 20 (.t 3))])
 (.block 2 (.seq (.reg [un (.bin 22 .eql (.t 20) (.c (.int .i64 3))),
 un (.asg 21 (.t 22))])
 (.drop [22] (.cond (.t 21) (.seq (.reg [un (.asg 2 (.c (.int .i64 40)))])
 .ret)
 (.seq (.reg [un (.bin 24 .eql (.t 20) (.c (.int .i64 2))),
 un (.asg 23 (.t 24))])
 (.drop [24] (.cond (.t 23) (.seq (.reg [un (.asg 2 (.c (.int .i64 200)))])
 .ret)
 .skip))))))))
 (.drop [20, 22, 21, 24, 23] (.seq (.reg [un (.asg 2 (.c (.int .i64 300)))])
 .ret)))))))
abbrev Aly : List RS := [.t 2]
theorem Akq : A9 Try.prog Sy 25 Akw Aly = true := by kernel_rfl
def Ug : ACode :=
 (.seq (.seq (.reg [un (.mov 13 (.t 7)),
 un (.bin 14 .geq (.t 13) (.c (.int .i64 0)))])
 (.drop [13] (.cond (.t 14) .skip
 (.exit 0))))
 (.drop [13, 14] (.seq (.block 1 (.seq (.seq (.reg [un (.mov 17 (.t 6)),
 un (.mov 18 (.t 7)),
 un (.iad 19 1 (.t 17) (.t 18)),
 un (.ld 20 1 false (.t 19)),
 un (.mov 21 (.t 1)),
 un (.bin 22 .sub (.t 21) (.c (.int .i64 1))),
 un (.bin 23 .lss (.t 20) (.t 22))])
 (.drop [17, 18, 19, 20, 21, 22] (.cond (.t 23) (.seq (.reg [un (.mov 24 (.t 6)),
 un (.mov 25 (.t 7)),
 un (.mov 26 (.t 6)),
 un (.mov 27 (.t 7)),
 un (.iad 28 1 (.t 26) (.t 27)),
 un (.ld 29 1 false (.t 28)),
 un (.bin 30 .add (.t 29) (.c (.int .i64 1))),
 un (.iad 31 1 (.t 24) (.t 25)),
 un (.st 1 (.t 31) (.t 30))])
 (.drop [24, 25, 26, 27, 28, 29, 30, 31] (.seq (.reg [un (.mov 32 (.t 6)),
 un (.asg 4 (.t 32)),
 un (.asg 5 (.c (.bool true)))])
 (.drop [32] .ret))))
 .skip)))
 (.drop [17, 18, 19, 20, 21, 22, 23, 24, 25, 26, 27, 28, 29, 30, 31, 32] (.reg [un (.mov 33 (.t 6)),
 un (.mov 34 (.t 7)),
 un (.iad 35 1 (.t 33) (.t 34)),
 un (.st 1 (.t 35) (.c (.int .i64 0)))]))))
 (.drop [17, 18, 19, 20, 21, 22, 23, 24, 25, 26, 27, 28, 29, 30, 31, 32, 33, 34, 35] (.reg [un (.mov 15 (.t 7)),
 un (.bin 16 .sub (.t 15) (.c (.int .i64 1))),
 un (.asg 7 (.t 16))])))))
def Alt : ACode :=
 (.seq (.reg [un (.asg 4 (.c (.nilsl 1))),
 un (.asg 5 (.c (.bool false)))])
 (.seq (.reg [un (.mov 8 (.t 0)),
 un (.call 9 Jv [((.t 8), false)]),
 un (.asg 6 (.t 9))])
 (.drop [8, 9] (.seq (.seq (.reg [un (.mov 10 (.t 6)),
 un (.len 11 (.t 10)),
 un (.bin 12 .sub (.t 11) (.c (.int .i64 1))),
 un (.asg 7 (.t 12))])
 (.drop [10, 11, 12] (.block 0 (.loop Ug))))
 (.drop [10, 11, 12, 7, 13, 14, 17, 18, 19, 20, 21, 22, 23, 24, 25, 26, 27, 28, 29, 30, 31, 32, 33, 34, 35, 15, 16] (.seq (.reg [un (.mov 36 (.t 6)),
 un (.asg 4 (.t 36)),
 un (.asg 5 (.c (.bool false)))])
 (.drop [36] .ret)))))))
abbrev Akt : List RS := [.t 4, .t 5]
theorem Als : A9 Try.prog Ts 37 Alt Akt = true := by kernel_rfl
def Zg : ACode :=
 (.seq (.reg [un (.asg 4 (.c (.int .i64 0)))])
 (.seq (.block 0 (.seq (.reg [un (.mov 6 (.t 0)),
 un (.len 7 (.t 6)),
 un (.mov 8 (.t 1)),
 un (.len 9 (.t 8)),
 un (.bin 10 .lss (.t 7) (.t 9)),
 un (.asg 5 (.t 10))])
 (.drop [6, 7, 8, 9, 10] (.cond (.t 5) (.seq (.reg [un (.asg 4 (.c (.int .i64 (-1))))])
 .ret)
 (.seq (.reg [un (.mov 12 (.t 0)),
 un (.len 13 (.t 12)),
 un (.mov 14 (.t 1)),
 un (.len 15 (.t 14)),
 un (.bin 16 .gtr (.t 13) (.t 15)),
 un (.asg 11 (.t 16))])
 (.drop [12, 13, 14, 15, 16] (.cond (.t 11) (.seq (.reg [un (.asg 4 (.c (.int .i64 1)))])
 .ret)
 .skip)))))))
 (.drop [6, 7, 8, 9, 10, 5, 12, 13, 14, 15, 16, 11] (.seq (.reg [un (.mov 17 (.t 0)),
 un (.mov 18 (.t 1)),
 un (.call 19 Gy [((.t 17), false), ((.t 18), false)]),
 un (.asg 4 (.t 19))])
 (.drop [17, 18, 19] .ret)))))
abbrev Y7 : List RS := [.t 4]
theorem Y2 : A9 Try.prog Gw 20 Zg Y7 = true := by kernel_rfl
def N8 : ACode :=
 (.seq (.seq (.reg [un (.mov 6 (.t 5)),
 un (.mov 7 (.t 1)),
 un (.len 8 (.t 7)),
 un (.bin 9 .lss (.t 6) (.t 8))])
 (.drop [6, 7, 8] (.cond (.t 9) .skip
 (.exit 0))))
 (.drop [6, 7, 8, 9] (.seq (.block 1 (.seq (.reg [un (.mov 12 (.t 1)),
 un (.mov 13 (.t 5)),
 un (.iad 14 1 (.t 12) (.t 13)),
 un (.ld 15 1 false (.t 14)),
 un (.mov 16 (.t 0)),
 un (.bin 17 .sub (.t 16) (.c (.int .i64 1))),
 un (.call 18 Hd [((.t 15), false), ((.c (.int .i64 0)), false), ((.t 17), false)]),
 un (.un 19 .not (.t 18))])
 (.drop [12, 13, 14, 15, 16, 17, 18] (.cond (.t 19) (.seq (.reg [un (.asg 4 (.c (.bool false)))])
 .ret)
 .skip))))
 (.drop [12, 13, 14, 15, 16, 17, 18, 19] (.reg [un (.mov 10 (.t 5)),
 un (.bin 11 .add (.t 10) (.c (.int .i64 1))),
 un (.asg 5 (.t 11))])))))
def Abq : ACode :=
 (.seq (.reg [un (.asg 4 (.c (.bool false)))])
 (.seq (.seq (.reg [un (.asg 5 (.c (.int .i64 0)))])
 (.block 0 (.loop N8)))
 (.drop [5, 6, 7, 8, 9, 12, 13, 14, 15, 16, 17, 18, 19, 10, 11] (.seq (.reg [un (.asg 4 (.c (.bool true)))])
 .ret))))
abbrev Acb : List RS := [.t 4]
theorem Acd : A9 Try.prog K9 20 Abq Acb = true := by kernel_rfl
def Px : ACode :=
 (.seq (.reg [un (.mov 21 (.t 7)),
 un (.un 22 .not (.t 21)),
 un (.asg 23 (.t 22)),
 ⟨some (23, false), .mov 24 (.t 1)⟩,
 ⟨some (23, false), .len 25 (.t 24)⟩,
 ⟨some (23, false), .bin 26 .gtr (.t 25) (.c (.int .i64 30))⟩,
 un (.pick 27 (.t 23) (.c (.bool true)) (.t 26))])
 (.drop [21, 22, 23, 24, 25, 26] (.cond (.t 27) (.seq (.reg [un (.bld 28 [.int .i64 0, .nilsl 1] []),
 un (.st 2 (.t 4) (.t 28)),
 un (.asg 5 (.c (.bool false)))])
 (.drop [28] .ret))
 .skip)))
def Iu : ACode :=
 (.seq (.reg [un (.bin 34 .lss (.t 33) (.t 32))])
 (.seq (.cond (.t 34) .skip
 (.exit 0))
 (.seq (.block 1 (.seq (.reg [un (.iad 35 1 (.t 31) (.t 33)),
 un (.ld 36 1 false (.t 35)),
 un (.asg 10 (.t 36))])
 (.drop [35, 36] (.seq (.reg [un (.mov 37 (.t 0)),
 un (.mov 38 (.t 10)),
 un (.call 39 O9 [((.t 37), false), ((.t 38), false)]),
 un (.un 40 .not (.t 39))])
 (.drop [37, 38, 39] (.cond (.t 40) (.seq (.reg [un (.bld 41 [.int .i64 0, .nilsl 1] []),
 un (.st 2 (.t 4) (.t 41)),
 un (.asg 5 (.c (.bool false)))])
 (.drop [41] .ret))
 .skip))))))
 (.drop [35, 36, 10, 37, 38, 39, 40, 41] (.reg [un (.bin 42 .add (.t 33) (.c (.int .i64 1))),
 un (.asg 33 (.t 42))])))))
def Is : ACode :=
 (.seq (.reg [un (.bin 53 .lss (.t 52) (.t 51))])
 (.seq (.cond (.t 53) .skip
 (.exit 4))
 (.seq (.block 5 (.seq (.reg [un (.iad 54 1 (.t 50) (.t 52)),
 un (.ld 55 1 false (.t 54)),
 un (.asg 15 (.t 55))])
 (.drop [54, 55] (.reg [un (.mov 56 (.t 13)),
 un (.asg 57 (.t 56)),
 ⟨some (57, true), .mov 58 (.t 12)⟩,
 ⟨some (57, true), .mov 59 (.t 15)⟩,
 ⟨some (57, true), .call 60 Hl [((.t 58), false), ((.t 59), false)]⟩,
 un (.pick 61 (.t 57) (.t 60) (.c (.bool false))),
 un (.asg 13 (.t 61))]))))
 (.drop [54, 55, 15, 56, 57, 58, 59, 60, 61] (.reg [un (.bin 62 .add (.t 52) (.c (.int .i64 1))),
 un (.asg 52 (.t 62))])))))
def Ik : ACode :=
 (.seq (.reg [un (.bin 47 .lss (.t 46) (.t 45))])
 (.seq (.cond (.t 47) .skip
 (.exit 2))
 (.seq (.block 3 (.seq (.reg [un (.iad 48 1 (.t 44) (.t 46)),
 un (.ld 49 1 false (.t 48)),
 un (.asg 12 (.t 49))])
 (.drop [48, 49] (.seq (.reg [un (.asg 13 (.c (.bool true)))])
 (.seq (.seq (.reg [un (.mov 50 (.t 1)),
 un (.len 51 (.t 50)),
 un (.mov 52 (.c (.int .i64 0)))])
 (.block 4 (.loop Is)))
 (.drop [50, 51, 52, 53, 54, 55, 15, 56, 57, 58, 59, 60, 61, 62] (.seq (.reg [un (.mov 63 (.t 13))])
 (.cond (.t 63) (.reg [un (.fadr 64 1 (.t 8)),
 un (.ld 65 1 false (.t 64)),
 un (.mov 66 (.t 12)),
 un (.bsl 67 1 [(.t 66)]),
 un (.app 68 1 (.t 65) (.t 67)),
 un (.fadr 69 1 (.t 8)),
 un (.st 1 (.t 69) (.t 68))])
 .skip))))))))
 (.drop [48, 49, 12, 13, 50, 51, 52, 53, 54, 55, 15, 56, 57, 58, 59, 60, 61, 62, 63, 64, 65, 66, 67, 68, 69] (.reg [un (.bin 70 .add (.t 46) (.c (.int .i64 1))),
 un (.asg 46 (.t 70))])))))
def Tj : ACode :=
 (.seq (.reg [un (.alc 4 (.agg [.int .i64 0, .nilsl 1])),
 un (.asg 5 (.c (.bool false)))])
 (.seq (.reg [un (.mov 17 (.t 0)),
 un (.call 18 J0 [((.c (.int .i64 2)), false), ((.t 17), false)]),
 un (.asg 16 (.t 18)),
 un (.ext 19 (.t 16) 0),
 un (.ext 20 (.t 16) 1),
 un (.alc 6 (.agg [.int .i64 0, .nilsl 1])),
 un (.st 2 (.t 6) (.t 19)),
 un (.asg 7 (.t 20))])
 (.drop [17, 18, 16, 19, 20] (.seq (.cut Px)
 (.drop [21, 22, 23, 24, 25, 26, 27, 28] (.seq (.reg [un (.mov 29 (.t 0)),
 un (.bld 30 [.int .i64 0, .nilsl 1] [(0, 1, (.t 29))]),
 un (.alc 8 (.agg [.int .i64 0, .nilsl 1])),
 un (.st 2 (.t 8) (.t 30))])
 (.drop [29, 30] (.seq (.seq (.reg [un (.mov 31 (.t 1)),
 un (.len 32 (.t 31)),
 un (.mov 33 (.c (.int .i64 0)))])
 (.block 0 (.loop Iu)))
 (.drop [31, 32, 33, 34, 35, 36, 10, 37, 38, 39, 40, 41, 42] (.seq (.seq (.reg [un (.fadr 43 1 (.t 6)),
 un (.ld 44 1 false (.t 43)),
 un (.len 45 (.t 44)),
 un (.mov 46 (.c (.int .i64 0)))])
 (.drop [43] (.block 2 (.loop Ik))))
 (.drop [43, 44, 45, 46, 47, 48, 49, 12, 13, 50, 51, 52, 53, 54, 55, 15, 56, 57, 58, 59, 60, 61, 62, 63, 64, 65, 66, 67, 68, 69, 70] (.seq (.reg [un (.ld 71 2 true (.t 8)),
 un (.st 2 (.t 4) (.t 71)),
 un (.asg 5 (.c (.bool true)))])
 (.drop [71] .ret)))))))))))))
abbrev Tf : List RS := [.c 4 2 true, .t 5]
theorem Tr : A9 Try.prog De 72 Tj Tf = true := by kernel_rfl
def Aec : ACode :=
 (.seq (.reg [un (.box 2 (.t 0)),
 un (.box 3 (.t 1)),
 un (.asg 4 (.c (.bool false)))])
 (.seq (.reg [un (.fadr 5 0 (.t 2)),
 un (.ld 6 1 false (.t 5)),
 un (.fadr 7 0 (.t 3)),
 un (.ld 8 1 false (.t 7)),
 un (.bin 9 .eql (.t 6) (.t 8)),
 un (.asg 10 (.t 9)),
 ⟨some (10, true), .fadr 11 1 (.t 2)⟩,
 ⟨some (10, true), .ld 12 1 false (.t 11)⟩,
 ⟨some (10, true), .fadr 13 1 (.t 3)⟩,
 ⟨some (10, true), .ld 14 1 false (.t 13)⟩,
 ⟨some (10, true), .call 15 N2 [((.t 12), false), ((.t 14), false)]⟩,
 un (.pick 16 (.t 10) (.t 15) (.c (.bool false))),
 un (.asg 4 (.t 16))])
 (.drop [5, 6, 7, 8, 9, 10, 11, 12, 13, 14, 15, 16] .ret)))
abbrev Aea : List RS := [.t 4]
theorem Aeb : A9 Try.prog Jr 17 Aec Aea = true := by kernel_rfl
def Qd : ACode :=
 (.seq (.reg [un (.mov 12 (.t 0)),
 un (.call 13 Hd [((.t 12), false), ((.c (.int .i64 1)), false), ((.c (.int .i64 3)), false)]),
 un (.un 14 .not (.t 13)),
 un (.asg 15 (.t 14)),
 ⟨some (15, false), .mov 16 (.t 1)⟩,
 ⟨some (15, false), .len 17 (.t 16)⟩,
 ⟨some (15, false), .bin 18 .gtr (.t 17) (.c (.int .i64 30))⟩,
 un (.pick 19 (.t 15) (.c (.bool true)) (.t 18))])
 (.drop [12, 13, 14, 15, 16, 17, 18] (.cond (.t 19) (.seq (.reg [un (.bld 20 [.int .i64 0, .nilsl 1] []),
 un (.st 2 (.t 4) (.t 20)),
 un (.asg 5 (.c (.bool false)))])
 (.drop [20] .ret))
 .skip)))
def It : ACode :=
 (.seq (.seq (.reg [un (.mov 21 (.t 6)),
 un (.mov 22 (.t 1)),
 un (.len 23 (.t 22)),
 un (.bin 24 .lss (.t 21) (.t 23))])
 (.drop [21, 22, 23] (.cond (.t 24) .skip
 (.exit 0))))
 (.drop [21, 22, 23, 24] (.seq (.block 1 (.seq (.reg [un (.mov 27 (.t 0)),
 un (.mov 28 (.t 1)),
 un (.mov 29 (.t 6)),
 un (.iad 30 1 (.t 28) (.t 29)),
 un (.ld 31 1 false (.t 30)),
 un (.call 32 Nn [((.t 27), false), ((.t 31), false)]),
 un (.un 33 .not (.t 32))])
 (.drop [27, 28, 29, 30, 31, 32] (.cond (.t 33) (.seq (.reg [un (.bld 34 [.int .i64 0, .nilsl 1] []),
 un (.st 2 (.t 4) (.t 34)),
 un (.asg 5 (.c (.bool false)))])
 (.drop [34] .ret))
 .skip))))
 (.drop [27, 28, 29, 30, 31, 32, 33, 34] (.reg [un (.mov 25 (.t 6)),
 un (.bin 26 .add (.t 25) (.c (.int .i64 1))),
 un (.asg 6 (.t 26))])))))
def Iz : ACode :=
 (.seq (.seq (.reg [un (.mov 47 (.t 11)),
 un (.mov 48 (.t 1)),
 un (.len 49 (.t 48)),
 un (.bin 50 .lss (.t 47) (.t 49))])
 (.drop [47, 48, 49] (.cond (.t 50) .skip
 (.exit 4))))
 (.drop [47, 48, 49, 50] (.seq (.block 5 (.reg [un (.mov 53 (.t 10)),
 un (.asg 54 (.t 53)),
 ⟨some (54, true), .mov 55 (.t 9)⟩,
 ⟨some (54, true), .mov 56 (.t 1)⟩,
 ⟨some (54, true), .mov 57 (.t 11)⟩,
 ⟨some (54, true), .iad 58 1 (.t 56) (.t 57)⟩,
 ⟨some (54, true), .ld 59 1 false (.t 58)⟩,
 ⟨some (54, true), .call 60 Kj [((.t 55), false), ((.t 59), false)]⟩,
 un (.pick 61 (.t 54) (.t 60) (.c (.bool false))),
 un (.asg 10 (.t 61))]))
 (.drop [53, 54, 55, 56, 57, 58, 59, 60, 61] (.reg [un (.mov 51 (.t 11)),
 un (.bin 52 .add (.t 51) (.c (.int .i64 1))),
 un (.asg 11 (.t 52))])))))
def In : ACode :=
 (.seq (.seq (.reg [un (.mov 38 (.t 8)),
 un (.mov 39 (.t 0)),
 un (.call 40 Jo [((.c (.int .i64 2)), false), ((.t 39), false)]),
 un (.bin 41 .lss (.t 38) (.t 40))])
 (.drop [38, 39, 40] (.cond (.t 41) .skip
 (.exit 2))))
 (.drop [38, 39, 40, 41] (.seq (.block 3 (.seq (.reg [un (.mov 44 (.t 0)),
 un (.mov 45 (.t 8)),
 un (.call 46 Kh [((.c (.int .i64 2)), false), ((.t 44), false), ((.t 45), false)]),
 un (.asg 9 (.t 46)),
 un (.asg 10 (.c (.bool true)))])
 (.drop [44, 45, 46] (.seq (.seq (.reg [un (.asg 11 (.c (.int .i64 0)))])
 (.block 4 (.loop Iz)))
 (.drop [11, 47, 48, 49, 50, 53, 54, 55, 56, 57, 58, 59, 60, 61, 51, 52] (.seq (.reg [un (.mov 62 (.t 10))])
 (.cond (.t 62) (.reg [un (.fadr 63 1 (.t 7)),
 un (.ld 64 1 false (.t 63)),
 un (.mov 65 (.t 9)),
 un (.bsl 66 1 [(.t 65)]),
 un (.app 67 1 (.t 64) (.t 66)),
 un (.fadr 68 1 (.t 7)),
 un (.st 1 (.t 68) (.t 67))])
 .skip)))))))
 (.drop [44, 45, 46, 9, 10, 11, 47, 48, 49, 50, 53, 54, 55, 56, 57, 58, 59, 60, 61, 51, 52, 62, 63, 64, 65, 66, 67, 68] (.reg [un (.mov 42 (.t 8)),
 un (.bin 43 .add (.t 42) (.c (.int .i64 1))),
 un (.asg 8 (.t 43))])))))
def Tx : ACode :=
 (.seq (.reg [un (.alc 4 (.agg [.int .i64 0, .nilsl 1])),
 un (.asg 5 (.c (.bool false)))])
 (.seq (.cut Qd)
 (.drop [12, 13, 14, 15, 16, 17, 18, 19, 20] (.seq (.seq (.reg [un (.asg 6 (.c (.int .i64 0)))])
 (.block 0 (.loop It)))
 (.drop [6, 21, 22, 23, 24, 27, 28, 29, 30, 31, 32, 33, 34, 25, 26] (.seq (.reg [un (.mov 35 (.t 0)),
 un (.bsl 36 1 []),
 un (.bld 37 [.int .i64 0, .nilsl 1] [(0, 1, (.t 35)), (1, 1, (.t 36))]),
 un (.alc 7 (.agg [.int .i64 0, .nilsl 1])),
 un (.st 2 (.t 7) (.t 37))])
 (.drop [35, 36, 37] (.seq (.seq (.reg [un (.asg 8 (.c (.int .i64 0)))])
 (.block 2 (.loop In)))
 (.drop [8, 38, 39, 40, 41, 44, 45, 46, 9, 10, 11, 47, 48, 49, 50, 53, 54, 55, 56, 57, 58, 59, 60, 61, 51, 52, 62, 63, 64, 65, 66, 67, 68, 42, 43] (.seq (.reg [un (.ld 69 2 true (.t 7)),
 un (.st 2 (.t 4) (.t 69)),
 un (.asg 5 (.c (.bool true)))])
 (.drop [69] .ret)))))))))))
abbrev S9 : List RS := [.c 4 2 true, .t 5]
theorem Tk : A9 Try.prog Gr 70 Tx S9 = true := by kernel_rfl
def Ae5 : ACode :=
 (.seq (.reg [un (.asg 4 (.c (.bool false)))])
 (.seq (.reg [un (.mov 5 (.t 0)),
 un (.mov 6 (.t 1)),
 un (.call 7 Bi [((.t 5), true), ((.t 6), false)]),
 un (.bin 8 .eql (.t 7) (.c (.int .i64 0))),
 un (.asg 4 (.t 8))])
 (.drop [5, 6, 7, 8] .ret)))
abbrev Aep : List RS := [.t 4]
theorem Afc : A9 Try.prog Hb 9 Ae5 Aep = true := by kernel_rfl
def Aax : ACode :=
 (.seq (.reg [un (.asg 4 (.c (.int .i64 0)))])
 (.seq (.reg [un (.mov 5 (.t 1)),
 un (.mov 6 (.t 0)),
 un (.mov 7 (.t 1)),
 un (.len 8 (.t 7)),
 un (.call 9 Bi [((.t 6), true), ((.t 8), false)]),
 un (.iad 10 1 (.t 5) (.t 9)),
 un (.ld 11 1 false (.t 10)),
 un (.asg 4 (.t 11))])
 (.drop [5, 6, 7, 8, 9, 10, 11] .ret)))
abbrev Abi : List RS := [.t 4]
theorem Aa2 : A9 Try.prog B0 12 Aax Abi = true := by kernel_rfl
def N6 : ACode :=
 (.seq (.seq (.reg [un (.mov 43 (.t 15)),
 un (.bin 44 .geq (.t 43) (.c (.int .i64 0)))])
 (.drop [43] (.cond (.t 44) .skip
 (.exit 2))))
 (.drop [43, 44] (.seq (.block 3 (.seq (.reg [un (.mov 47 (.t 11)),
 un (.mov 48 (.t 15)),
 un (.mov 49 (.t 14)),
 un (.mov 50 (.t 10)),
 un (.bin 51 .rem (.t 49) (.t 50)),
 un (.iad 52 1 (.t 47) (.t 48)),
 un (.st 1 (.t 52) (.t 51))])
 (.drop [47, 48, 49, 50, 51, 52] (.reg [un (.mov 53 (.t 14)),
 un (.mov 54 (.t 10)),
 un (.bin 55 .quo (.t 53) (.t 54)),
 un (.asg 14 (.t 55))]))))
 (.drop [47, 48, 49, 50, 51, 52, 53, 54, 55] (.reg [un (.mov 45 (.t 15)),
 un (.bin 46 .sub (.t 45) (.c (.int .i64 1))),
 un (.asg 15 (.t 46))])))))
def Oe : ACode :=
 (.seq (.reg [un (.bin 64 .lss (.t 63) (.t 62))])
 (.seq (.cond (.t 64) .skip
 (.exit 6))
 (.seq (.block 7 (.seq (.reg [un (.iad 65 1 (.t 61) (.t 63)),
 un (.ld 66 1 false (.t 65)),
 un (.asg 19 (.t 66))])
 (.drop [65, 66] (.reg [un (.mov 67 (.t 17)),
 un (.mov 68 (.t 0)),
 un (.bin 69 .mul (.t 67) (.t 68)),
 un (.fadr 70 1 (.t 5)),
 un (.ld 71 1 false (.t 70)),
 un (.mov 72 (.t 19)),
 un (.iad 73 1 (.t 71) (.t 72)),
 un (.ld 74 1 false (.t 73)),
 un (.mov 75 (.t 16)),
 un (.iad 76 1 (.t 74) (.t 75)),
 un (.ld 77 1 false (.t 76)),
 un (.bin 78 .add (.t 69) (.t 77)),
 un (.asg 17 (.t 78))]))))
 (.drop [65, 66, 19, 67, 68, 69, 70, 71, 72, 73, 74, 75, 76, 77, 78] (.reg [un (.bin 79 .add (.t 63) (.c (.int .i64 1))),
 un (.asg 63 (.t 79))])))))
def Ow : ACode :=
 (.seq (.reg [un (.bin 59 .lss (.t 58) (.t 57))])
 (.seq (.cond (.t 59) .skip
 (.exit 4))
 (.seq (.block 5 (.seq (.reg [un (.mov 60 (.t 58)),
 un (.asg 16 (.t 60))])
 (.drop [60] (.seq (.reg [un (.asg 17 (.c (.int .i64 0)))])
 (.seq (.seq (.reg [un (.mov 61 (.t 11)),
 un (.len 62 (.t 61)),
 un (.mov 63 (.c (.int .i64 0)))])
 (.block 6 (.loop Oe)))
 (.drop [61, 62, 63, 64, 65, 66, 19, 67, 68, 69, 70, 71, 72, 73, 74, 75, 76, 77, 78, 79] (.reg [un (.mov 80 (.t 12)),
 un (.mov 81 (.t 16)),
 un (.fadr 82 1 (.t 4)),
 un (.ld 83 1 false (.t 82)),
 un (.mov 84 (.t 17)),
 un (.iad 85 1 (.t 83) (.t 84)),
 un (.ld 86 1 false (.t 85)),
 un (.iad 87 1 (.t 80) (.t 81)),
 un (.st 1 (.t 87) (.t 86))])))))))
 (.drop [60, 16, 17, 61, 62, 63, 64, 65, 66, 19, 67, 68, 69, 70, 71, 72, 73, 74, 75, 76, 77, 78, 79, 80, 81, 82, 83, 84, 85, 86, 87] (.reg [un (.bin 88 .add (.t 58) (.c (.int .i64 1))),
 un (.asg 58 (.t 88))])))))
def Oi : ACode :=
 (.seq (.seq (.reg [un (.mov 31 (.t 13)),
 un (.mov 32 (.t 10)),
 un (.fadr 33 0 (.t 4)),
 un (.ld 34 1 false (.t 33)),
 un (.call 35 Hn [((.t 32), false), ((.t 34), false)]),
 un (.bin 36 .lss (.t 31) (.t 35))])
 (.drop [31, 32, 33, 34, 35] (.cond (.t 36) .skip
 (.exit 0))))
 (.drop [31, 32, 33, 34, 35, 36] (.seq (.block 1 (.seq (.reg [un (.mov 39 (.t 13)),
 un (.asg 14 (.t 39))])
 (.drop [39] (.seq (.seq (.reg [un (.fadr 40 0 (.t 4)),
 un (.ld 41 1 false (.t 40)),
 un (.bin 42 .sub (.t 41) (.c (.int .i64 1))),
 un (.asg 15 (.t 42))])
 (.drop [40, 41, 42] (.block 2 (.loop N6))))
 (.drop [40, 41, 42, 15, 43, 44, 47, 48, 49, 50, 51, 52, 53, 54, 55, 45, 46] (.seq (.seq (.reg [un (.mov 56 (.t 12)),
 un (.len 57 (.t 56)),
 un (.mov 58 (.c (.int .i64 0)))])
 (.drop [56] (.block 4 (.loop Ow))))
 (.drop [56, 57, 58, 59, 60, 16, 17, 61, 62, 63, 64, 65, 66, 19, 67, 68, 69, 70, 71, 72, 73, 74, 75, 76, 77, 78, 79, 80, 81, 82, 83, 84, 85, 86, 87, 88] (.seq (.reg [un (.mov 89 (.t 9)),
 un (.mov 90 (.t 12)),
 un (.call 91 P9 [((.t 90), false)]),
 un (.mlk 92 (.t 89) (.t 91) (.bool false) false),
 un (.un 93 .not (.t 92))])
 (.drop [89, 90, 91, 92] (.cond (.t 93) (.seq (.reg [un (.mov 94 (.t 11)),
 un (.mov 95 (.t 12)),
 un (.asg 6 (.t 94)),
 un (.asg 7 (.t 95)),
 un (.asg 8 (.c (.bool true)))])
 (.drop [94, 95] .ret))
 .skip))))))))))
 (.drop [39, 14, 40, 41, 42, 15, 43, 44, 47, 48, 49, 50, 51, 52, 53, 54, 55, 45, 46, 56, 57, 58, 59, 60, 16, 17, 61, 62, 63, 64, 65, 66, 19, 67, 68, 69, 70, 71, 72, 73, 74, 75, 76, 77, 78, 79, 80, 81, 82, 83, 84, 85, 86, 87, 88, 89, 90, 91, 92, 93, 94, 95] (.reg [un (.mov 37 (.t 13)),
 un (.bin 38 .add (.t 37) (.c (.int .i64 1))),
 un (.asg 13 (.t 38))])))))
def Adj : ACode :=
 (.seq (.reg [un (.box 4 (.t 1)),
 un (.box 5 (.t 2)),
 un (.asg 6 (.c (.nilsl 1))),
 un (.asg 7 (.c (.nilsl 1))),
 un (.asg 8 (.c (.bool false)))])
 (.seq (.reg [un (.ld 20 2 true (.t 5)),
 un (.call 21 Po [((.t 20), false)]),
 un (.asg 9 (.t 21))])
 (.drop [20, 21] (.seq (.reg [un (.fadr 22 1 (.t 5)),
 un (.ld 23 1 false (.t 22)),
 un (.len 24 (.t 23)),
 un (.asg 10 (.t 24))])
 (.drop [22, 23, 24] (.seq (.reg [un (.fadr 25 0 (.t 4)),
 un (.ld 26 1 false (.t 25)),
 un (.mk 27 1 (.int .i64 0) (.t 26)),
 un (.asg 11 (.t 27))])
 (.drop [25, 26, 27] (.seq (.reg [un (.fadr 28 0 (.t 5)),
 un (.ld 29 1 false (.t 28)),
 un (.mk 30 1 (.int .i64 0) (.t 29)),
 un (.asg 12 (.t 30))])
 (.drop [28, 29, 30] (.seq (.seq (.reg [un (.asg 13 (.c (.int .i64 0)))])
 (.block 0 (.loop Oi)))
 (.drop [13, 31, 32, 33, 34, 35, 36, 39, 14, 40, 41, 42, 15, 43, 44, 47, 48, 49, 50, 51, 52, 53, 54, 55, 45, 46, 56, 57, 58, 59, 60, 16, 17, 61, 62, 63, 64, 65, 66, 19, 67, 68, 69, 70, 71, 72, 73, 74, 75, 76, 77, 78, 79, 80, 81, 82, 83, 84, 85, 86, 87, 88, 89, 90, 91, 92, 93, 94, 95, 37, 38] (.seq (.reg [un (.asg 6 (.c (.nilsl 1))),
 un (.asg 7 (.c (.nilsl 1))),
 un (.asg 8 (.c (.bool false)))])
 .ret))))))))))))
abbrev Ab4 : List RS := [.t 6, .t 7, .t 8]
theorem Ab7 : A9 Try.prog Lh 96 Adj Ab4 = true := by kernel_rfl
def Xq : ACode :=
 (.seq (.reg [un (.mov 25 (.t 5)),
 un (.mov 26 (.t 7)),
 un (.iad 27 1 (.t 25) (.t 26)),
 un (.ld 28 1 false (.t 27)),
 un (.bin 29 .eql (.t 28) (.c (.int .i64 1)))])
 (.drop [25, 26, 27, 28] (.cond (.t 29) (.reg [un (.mov 30 (.t 6)),
 un (.mov 31 (.t 7)),
 un (.bin 32 .add (.t 31) (.c (.int .i64 1))),
 un (.bsl 33 1 [(.t 32)]),
 un (.app 34 1 (.t 30) (.t 33)),
 un (.asg 6 (.t 34))])
 .skip)))
def O5 : ACode :=
 (.seq (.seq (.reg [un (.mov 20 (.t 7)),
 un (.mov 21 (.t 0)),
 un (.bin 22 .lss (.t 20) (.t 21))])
 (.drop [20, 21] (.cond (.t 22) .skip
 (.exit 2))))
 (.drop [20, 21, 22] (.seq (.block 3 (.seq (.cut Xq)
 (.drop [25, 26, 27, 28, 29, 30, 31, 32, 33, 34] (.seq (.reg [un (.mov 35 (.t 5)),
 un (.mov 36 (.t 7)),
 un (.iad 37 1 (.t 35) (.t 36)),
 un (.ld 38 1 false (.t 37)),
 un (.bin 39 .eql (.t 38) (.c (.int .i64 2)))])
 (.drop [35, 36, 37, 38] (.cond (.t 39) (.reg [un (.mov 40 (.t 6)),
 un (.mov 41 (.t 7)),
 un (.un 42 .neg (.t 41)),
 un (.bin 43 .sub (.t 42) (.c (.int .i64 1))),
 un (.bsl 44 1 [(.t 43)]),
 un (.app 45 1 (.t 40) (.t 44)),
 un (.asg 6 (.t 45))])
 .skip))))))
 (.drop [25, 26, 27, 28, 29, 30, 31, 32, 33, 34, 35, 36, 37, 38, 39, 40, 41, 42, 43, 44, 45] (.reg [un (.mov 23 (.t 7)),
 un (.bin 24 .add (.t 23) (.c (.int .i64 1))),
 un (.asg 7 (.t 24))])))))
def Oo : ACode :=
 (.seq (.seq (.reg [un (.mov 46 (.t 8)),
 un (.mov 47 (.t 3)),
 un (.len 48 (.t 47)),
 un (.bin 49 .lss (.t 46) (.t 48)),
 un (.asg 50 (.t 49)),
 ⟨some (50, true), .mov 51 (.t 3)⟩,
 ⟨some (50, true), .mov 52 (.t 8)⟩,
 ⟨some (50, true), .iad 53 1 (.t 51) (.t 52)⟩,
 ⟨some (50, true), .ld 54 1 false (.t 53)⟩,
 ⟨some (50, true), .mov 55 (.t 6)⟩,
 ⟨some (50, true), .call 56 Pq [((.t 54), false), ((.t 55), false)]⟩,
 un (.pick 57 (.t 50) (.t 56) (.c (.bool false)))])
 (.drop [46, 47, 48, 49, 50, 51, 52, 53, 54, 55, 56] (.cond (.t 57) .skip
 (.exit 4))))
 (.drop [46, 47, 48, 49, 50, 51, 52, 53, 54, 55, 56, 57] (.block 5 (.reg [un (.mov 58 (.t 8)),
 un (.bin 59 .add (.t 58) (.c (.int .i64 1))),
 un (.asg 8 (.t 59))]))))
def N4 : ACode :=
 (.seq (.seq (.reg [un (.mov 10 (.t 4)),
 un (.mov 11 (.t 0)),
 un (.call 12 Jo [((.c (.int .i64 3)), false), ((.t 11), false)]),
 un (.bin 13 .lss (.t 10) (.t 12))])
 (.drop [10, 11, 12] (.cond (.t 13) .skip
 (.exit 0))))
 (.drop [10, 11, 12, 13] (.seq (.block 1 (.seq (.reg [un (.mov 16 (.t 0)),
 un (.mov 17 (.t 4)),
 un (.call 18 Kh [((.c (.int .i64 3)), false), ((.t 16), false), ((.t 17), false)]),
 un (.bsl 19 1 []),
 un (.asg 5 (.t 18)),
 un (.asg 6 (.t 19))])
 (.drop [16, 17, 18, 19] (.seq (.seq (.reg [un (.asg 7 (.c (.int .i64 0)))])
 (.block 2 (.loop O5)))
 (.drop [7, 20, 21, 22, 25, 26, 27, 28, 29, 30, 31, 32, 33, 34, 35, 36, 37, 38, 39, 40, 41, 42, 43, 44, 45, 23, 24] (.seq (.reg [un (.asg 8 (.c (.int .i64 0)))])
 (.seq (.block 4 (.loop Oo))
 (.drop [46, 47, 48, 49, 50, 51, 52, 53, 54, 55, 56, 57, 58, 59] (.frz [3, 6] (.dreg [(un (.bsl 60 1 []), [65]),
 (un (.mov 61 (.t 3)), [60, 65]),
 (un (.mov 62 (.t 8)), [60, 61, 65]),
 (un (.slc 63 1 (.t 61) none (some (.t 62))), [60, 65]),
 (un (.app 64 1 (.t 60) (.t 63)), [65]),
 (un (.mov 65 (.t 6)), [60, 61, 62, 63, 64, 60]),
 (un (.bsl 66 1 [(.t 65)]), [60, 61, 62, 63, 64, 60]),
 (un (.app 67 1 (.t 64) (.t 66)), [60, 65]),
 (un (.mov 68 (.t 3)), [60, 61, 62, 63, 64, 65, 66, 67, 60, 65, 64]),
 (un (.mov 69 (.t 8)), [60, 61, 62, 63, 64, 65, 66, 67, 68, 60, 65, 64]),
 (un (.slc 70 1 (.t 68) (some (.t 69)) none), [60, 61, 62, 63, 64, 65, 66, 67, 60, 65, 64])]
 [un (.app 71 1 (.t 67) (.t 70)),
 un (.asg 3 (.t 71))]))))))))))
 (.drop [16, 17, 18, 19, 5, 6, 7, 20, 21, 22, 25, 26, 27, 28, 29, 30, 31, 32, 33, 34, 35, 36, 37, 38, 39, 40, 41, 42, 43, 44, 45, 23, 24, 8, 46, 47, 48, 49, 50, 51, 52, 53, 54, 55, 56, 57, 58, 59, 60, 61, 62, 63, 64, 65, 66, 67, 68, 69, 70, 71] (.reg [un (.mov 14 (.t 4)),
 un (.bin 15 .add (.t 14) (.c (.int .i64 1))),
 un (.asg 4 (.t 15))])))))
def Acf : ACode :=
 (.seq (.reg [un (.asg 2 (.c (.nilsl 1)))])
 (.seq (.reg [un (.bsl 9 1 []),
 un (.asg 3 (.t 9))])
 (.drop [9] (.seq (.seq (.reg [un (.asg 4 (.c (.int .i64 0)))])
 (.block 0 (.loop N4)))
 (.drop [4, 10, 11, 12, 13, 16, 17, 18, 19, 5, 6, 7, 20, 21, 22, 25, 26, 27, 28, 29, 30, 31, 32, 33, 34, 35, 36, 37, 38, 39, 40, 41, 42, 43, 44, 45, 23, 24, 8, 46, 47, 48, 49, 50, 51, 52, 53, 54, 55, 56, 57, 58, 59, 60, 61, 62, 63, 64, 65, 66, 67, 68, 69, 70, 71, 14, 15] (.seq (.reg [un (.mov 72 (.t 3)),
 un (.asg 2 (.t 72))])
 (.drop [72] .ret)))))))
abbrev Abm : List RS := [.t 2]
theorem Aco : A9 Try.prog Im 73 Acf Abm = true := by kernel_rfl
def Aor : ACode :=
 (.seq (.reg [un (.asg 4 (.c (.nilsl 1)))])
 (.seq (.reg [un (.mov 8 (.t 0)),
 un (.mov 9 (.t 1)),
 un (.call 10 Kg [((.t 8), false), ((.t 9), false)]),
 un (.asg 7 (.t 10)),
 un (.ext 11 (.t 7) 0),
 un (.ext 12 (.t 7) 1),
 un (.asg 5 (.t 11)),
 un (.asg 6 (.t 12))])
 (.drop [8, 9, 10, 7, 11, 12] (.seq (.seq (.reg [un (.mov 13 (.t 6))])
 (.cond (.t 13) (.seq (.reg [un (.mov 14 (.t 0)),
 un (.asg 4 (.t 14))])
 (.drop [14] .ret))
 .skip))
 (.drop [13, 14] (.seq (.frz [0] (.dreg [(un (.bsl 15 1 []), [20]),
 (un (.mov 16 (.t 0)), [15, 20]),
 (un (.mov 17 (.t 5)), [15, 16, 20]),
 (un (.slc 18 1 (.t 16) none (some (.t 17))), [15, 20]),
 (un (.app 19 1 (.t 15) (.t 18)), [20]),
 (un (.mov 20 (.t 1)), [15, 16, 17, 18, 19, 15]),
 (un (.bsl 21 1 [(.t 20)]), [15, 16, 17, 18, 19, 15]),
 (un (.app 22 1 (.t 19) (.t 21)), [15, 20]),
 (un (.mov 23 (.t 0)), [15, 16, 17, 18, 19, 20, 21, 22, 15, 20, 19]),
 (un (.mov 24 (.t 5)), [15, 16, 17, 18, 19, 20, 21, 22, 23, 15, 20, 19]),
 (un (.slc 25 1 (.t 23) (some (.t 24)) none), [15, 16, 17, 18, 19, 20, 21, 22, 15, 20, 19])]
 [un (.app 26 1 (.t 22) (.t 25)),
 un (.asg 4 (.t 26))]))
 (.drop [15, 16, 17, 18, 19, 20, 21, 22, 23, 24, 25, 26] .ret)))))))
abbrev Ans : List RS := [.t 4]
theorem An3 : A9 Try.prog Jp 27 Aor Ans = true := by kernel_rfl
def Io : ACode :=
 (.seq (.seq (.reg [un (.mov 9 (.t 6)),
 un (.mov 10 (.t 1)),
 un (.bin 11 .lss (.t 9) (.t 10))])
 (.drop [9, 10] (.cond (.t 11) .skip
 (.exit 0))))
 (.drop [9, 10, 11] (.seq (.block 1 (.seq (.reg [un (.mov 14 (.t 0)),
 un (.mov 15 (.t 6)),
 un (.bin 16 .add (.t 15) (.c (.int .i64 1))),
 un (.call 17 Bi [((.t 14), true), ((.t 16), false)]),
 un (.asg 7 (.t 17))])
 (.drop [14, 15, 16, 17] (.seq (.seq (.reg [un (.mov 18 (.t 7)),
 un (.mov 19 (.t 6)),
 un (.bin 20 .lss (.t 18) (.t 19))])
 (.drop [18, 19] (.cond (.t 20) (.reg [un (.mov 21 (.t 5)),
 un (.mov 22 (.t 7)),
 un (.iad 23 1 (.t 21) (.t 22)),
 un (.ld 24 1 false (.t 23)),
 un (.asg 7 (.t 24))])
 .skip)))
 (.drop [18, 19, 20, 21, 22, 23, 24] (.reg [un (.mov 25 (.t 5)),
 un (.mov 26 (.t 7)),
 un (.bsl 27 1 [(.t 26)]),
 un (.app 28 1 (.t 25) (.t 27)),
 un (.asg 5 (.t 28))]))))))
 (.drop [14, 15, 16, 17, 7, 18, 19, 20, 21, 22, 23, 24, 25, 26, 27, 28] (.reg [un (.mov 12 (.t 6)),
 un (.bin 13 .add (.t 12) (.c (.int .i64 1))),
 un (.asg 6 (.t 13))])))))
def Te : ACode :=
 (.seq (.reg [un (.asg 4 (.c (.nilsl 1)))])
 (.seq (.reg [un (.bsl 8 1 []),
 un (.asg 5 (.t 8))])
 (.drop [8] (.seq (.seq (.reg [un (.asg 6 (.c (.int .i64 0)))])
 (.block 0 (.loop Io)))
 (.drop [6, 9, 10, 11, 14, 15, 16, 17, 7, 18, 19, 20, 21, 22, 23, 24, 25, 26, 27, 28, 12, 13] (.seq (.reg [un (.mov 29 (.t 5)),
 un (.asg 4 (.t 29))])
 (.drop [29] .ret)))))))
abbrev Tn : List RS := [.t 4]
theorem S5 : A9 Try.prog Gj 30 Te Tn = true := by kernel_rfl
def Ot : ACode :=
 (.seq (.reg [un (.bin 21 .lss (.t 20) (.t 19))])
 (.seq (.cond (.t 21) .skip
 (.exit 2))
 (.seq (.block 3 (.seq (.reg [un (.mov 22 (.t 20)),
 un (.iad 23 1 (.t 18) (.t 20)),
 un (.ld 24 1 false (.t 23)),
 un (.asg 6 (.t 22)),
 un (.asg 7 (.t 24))])
 (.drop [22, 23, 24] (.seq (.reg [un (.mov 25 (.t 7)),
 un (.bin 26 .gtr (.t 25) (.c (.int .i64 0)))])
 (.drop [25] (.cond (.t 26) (.reg [un (.mov 27 (.t 5)),
 un (.mov 28 (.t 6)),
 un (.bin 29 .add (.t 28) (.c (.int .i64 1))),
 un (.mov 30 (.t 7)),
 un (.bin 31 .mul (.c (.int .i64 2)) (.t 30)),
 un (.bin 32 .sub (.t 31) (.c (.int .i64 3))),
 un (.bin 33 .mul (.t 29) (.t 32)),
 un (.bsl 34 1 [(.t 33)]),
 un (.app 35 1 (.t 27) (.t 34)),
 un (.asg 5 (.t 35))])
 .skip))))))
 (.drop [22, 23, 24, 6, 7, 25, 26, 27, 28, 29, 30, 31, 32, 33, 34, 35] (.reg [un (.bin 36 .add (.t 20) (.c (.int .i64 1))),
 un (.asg 20 (.t 36))])))))
def O3 : ACode :=
 (.seq (.seq (.reg [un (.mov 9 (.t 4)),
 un (.mov 10 (.t 0)),
 un (.call 11 Hn [((.c (.int .i64 3)), false), ((.t 10), false)]),
 un (.bin 12 .lss (.t 9) (.t 11))])
 (.drop [9, 10, 11] (.cond (.t 12) .skip
 (.exit 0))))
 (.drop [9, 10, 11, 12] (.seq (.block 1 (.seq (.reg [un (.bsl 15 1 []),
 un (.asg 5 (.t 15))])
 (.drop [15] (.seq (.seq (.reg [un (.mov 16 (.t 4)),
 un (.mov 17 (.t 0)),
 un (.call 18 Nv [((.t 16), false), ((.t 17), false), ((.c (.int .i64 3)), false)]),
 un (.len 19 (.t 18)),
 un (.mov 20 (.c (.int .i64 0)))])
 (.drop [16, 17] (.block 2 (.loop Ot))))
 (.drop [16, 17, 18, 19, 20, 21, 22, 23, 24, 6, 7, 25, 26, 27, 28, 29, 30, 31, 32, 33, 34, 35, 36] (.reg [un (.mov 37 (.t 3)),
 un (.mov 38 (.t 5)),
 un (.bsl 39 1 [(.t 38)]),
 un (.app 40 1 (.t 37) (.t 39)),
 un (.asg 3 (.t 40))]))))))
 (.drop [15, 5, 16, 17, 18, 19, 20, 21, 22, 23, 24, 6, 7, 25, 26, 27, 28, 29, 30, 31, 32, 33, 34, 35, 36, 37, 38, 39, 40] (.reg [un (.mov 13 (.t 4)),
 un (.bin 14 .add (.t 13) (.c (.int .i64 1))),
 un (.asg 4 (.t 14))])))))
def Abo : ACode :=
 (.seq (.reg [un (.asg 2 (.c (.nilsl 1)))])
 (.seq (.reg [un (.bsl 8 1 []),
 un (.asg 3 (.t 8))])
 (.drop [8] (.seq (.seq (.reg [un (.asg 4 (.c (.int .i64 0)))])
 (.block 0 (.loop O3)))
 (.drop [4, 9, 10, 11, 12, 15, 5, 16, 17, 18, 19, 20, 21, 22, 23, 24, 6, 7, 25, 26, 27, 28, 29, 30, 31, 32, 33, 34, 35, 36, 37, 38, 39, 40, 13, 14] (.seq (.reg [un (.mov 41 (.t 3)),
 un (.call 42 V7 [((.t 41), true), ((.c (.clo Gw [])), false)])])
 (.drop [41, 42] (.seq (.reg [un (.mov 43 (.t 3)),
 un (.asg 2 (.t 43))])
 (.drop [43] .ret)))))))))
abbrev Ac4 : List RS := [.t 2]
theorem Acj : A9 Try.prog Li 44 Abo Ac4 = true := by kernel_rfl
def Ai7 : ACode :=
 (.seq (.reg [un (.asg 6 (.c (.bool false)))])
 (.seq (.reg [un (.mov 7 (.t 2)),
 un (.len 8 (.t 7)),
 un (.mov 9 (.t 1)),
 un (.bin 10 .eql (.t 8) (.t 9)),
 un (.asg 11 (.t 10)),
 ⟨some (11, true), .mov 12 (.t 0)⟩,
 ⟨some (11, true), .mov 13 (.t 2)⟩,
 ⟨some (11, true), .call 14 K9 [((.t 12), false), ((.t 13), false)]⟩,
 un (.pick 15 (.t 11) (.t 14) (.c (.bool false))),
 un (.asg 6 (.t 15))])
 (.drop [7, 8, 9, 10, 11, 12, 13, 14, 15] .ret)))
abbrev Ajm : List RS := [.t 6]
theorem Ail : A9 Try.prog Q5 16 Ai7 Ajm = true := by kernel_rfl
def Aat : ACode :=
 (.seq (.reg [un (.box 3 (.t 1)),
 un (.asg 4 (.c (.bool false)))])
 (.seq (.reg [un (.mov 5 (.t 0)),
 un (.call 6 Nx [((.t 5), false)]),
 un (.asg 7 (.t 6)),
 ⟨some (7, true), .mov 8 (.t 0)⟩,
 ⟨some (7, true), .ld 9 2 true (.t 3)⟩,
 ⟨some (7, true), .call 10 Ga [((.t 8), false), ((.t 9), false)]⟩,
 un (.pick 11 (.t 7) (.t 10) (.c (.bool false))),
 un (.asg 4 (.t 11))])
 (.drop [5, 6, 7, 8, 9, 10, 11] .ret)))
abbrev Aau : List RS := [.t 4]
theorem Z6 : A9 Try.prog Kr 12 Aat Aau = true := by kernel_rfl
def Gs : ACode :=
 (.seq (.seq (.reg [un (.mov 23 (.t 7)),
 un (.bin 24 .gtr (.t 23) (.c (.int .i64 0)))])
 (.drop [23] (.cond (.t 24) .skip
 (.exit 0))))
 (.drop [23, 24] (.seq (.block 1 (.seq (.reg [un (.mov 27 (.t 5)),
 un (.call 28 Re [((.t 27), false), ((.c (.int .i64 3)), false)]),
 un (.call 29 H3 [((.c (.int .i64 1)), false), ((.t 28), false)]),
 un (.call 30 Im [((.t 29), false)]),
 un (.asg 8 (.t 30))])
 (.drop [27, 28, 29, 30] (.reg [un (.mov 31 (.t 6)),
 un (.mov 32 (.t 8)),
 un (.mov 33 (.t 4)),
 un (.mov 34 (.t 8)),
 un (.len 35 (.t 34)),
 un (.call 36 Bi [((.t 33), true), ((.t 35), false)]),
 un (.iad 37 1 (.t 32) (.t 36)),
 un (.ld 38 1 false (.t 37)),
 un (.call 39 Jv [((.t 38), false)]),
 un (.bsl 40 1 [(.t 39)]),
 un (.app 41 1 (.t 31) (.t 40)),
 un (.asg 6 (.t 41))]))))
 (.drop [27, 28, 29, 30, 8, 31, 32, 33, 34, 35, 36, 37, 38, 39, 40, 41] (.reg [un (.mov 25 (.t 7)),
 un (.bin 26 .sub (.t 25) (.c (.int .i64 1))),
 un (.asg 7 (.t 26))])))))
def Gt : ACode :=
 (.seq (.seq (.reg [un (.mov 63 (.t 6)),
 un (.len 64 (.t 63)),
 un (.mov 65 (.t 4)),
 un (.call 66 Bi [((.t 65), true), ((.c (.int .i64 2)), false)]),
 un (.bin 67 .add (.c (.int .i64 30)) (.t 66)),
 un (.bin 68 .lss (.t 64) (.t 67))])
 (.drop [63, 64, 65, 66, 67] (.cond (.t 68) .skip
 (.exit 3))))
 (.drop [63, 64, 65, 66, 67, 68] (.block 4 (.reg [un (.mov 69 (.t 6)),
 un (.bsl 70 1 [(.c (.int .i64 1))]),
 un (.bsl 71 1 [(.t 70)]),
 un (.app 72 1 (.t 69) (.t 71)),
 un (.asg 6 (.t 72))]))))
def Pb : ACode :=
 (.seq (.reg [un (.asg 2 (.c (.int .i64 0))),
 un (.asg 3 (.c (.nilsl 1)))])
 (.seq (.reg [un (.mov 9 (.t 0)),
 un (.bld 10 [.nilsl 1, .int .i64 0, .int .u64 0] [(0, 1, (.t 9))]),
 un (.box 11 (.t 10)),
 un (.asg 4 (.t 11))])
 (.drop [9, 10, 11] (.seq (.reg [un (.mov 12 (.t 4)),
 un (.bsl 13 1 [(.c (.int .i64 1)), (.c (.int .i64 2)), (.c (.int .i64 2)), (.c (.int .i64 3)), (.c (.int .i64 3)), (.c (.int .i64 0)), (.c (.int .i64 4))]),
 un (.mov 14 (.t 4)),
 un (.call 15 Bi [((.t 14), true), ((.c (.int .i64 24)), false)]),
 un (.bin 16 .quo (.t 15) (.c (.int .i64 11))),
 un (.bin 17 .add (.c (.int .i64 5)) (.t 16)),
 un (.slc 18 1 (.t 13) none (some (.t 17))),
 un (.call 19 B0 [((.t 12), true), ((.t 18), false)]),
 un (.asg 5 (.t 19))])
 (.drop [12, 13, 14, 15, 16, 17, 18, 19] (.seq (.reg [un (.bsl 20 1 []),
 un (.asg 6 (.t 20))])
 (.drop [20] (.seq (.seq (.reg [un (.mov 21 (.t 4)),
 un (.call 22 Bi [((.t 21), true), ((.c (.int .i64 5)), false)]),
 un (.asg 7 (.t 22))])
 (.drop [21, 22] (.block 0 (.loop Gs))))
 (.drop [21, 22, 7, 23, 24, 27, 28, 29, 30, 8, 31, 32, 33, 34, 35, 36, 37, 38, 39, 40, 41, 25, 26] (.seq (.seq (.reg [un (.mov 42 (.t 4)),
 un (.call 43 Bi [((.t 42), true), ((.c (.int .i64 32)), false)])])
 (.drop [42] (.block 2 (.seq (.reg [un (.bin 45 .eql (.t 43) (.c (.int .i64 0))),
 un (.asg 44 (.t 45))])
 (.drop [45] (.cond (.t 44) (.reg [un (.mov 46 (.t 6)),
 un (.mov 47 (.t 4)),
 un (.mov 48 (.t 5)),
 un (.bin 49 .add (.t 48) (.c (.int .i64 1))),
 un (.bsl 50 1 [(.c (.int .i64 0)), (.t 49), (.c (.int .i64 (-9223372036854775808)))]),
 un (.call 51 B0 [((.t 47), true), ((.t 50), false)]),
 un (.bsl 52 1 [(.t 51)]),
 un (.bsl 53 1 [(.t 52)]),
 un (.app 54 1 (.t 46) (.t 53)),
 un (.asg 6 (.t 54))])
 (.seq (.reg [un (.bin 56 .eql (.t 43) (.c (.int .i64 1))),
 un (.asg 55 (.t 56))])
 (.drop [56] (.cond (.t 55) (.reg [un (.mov 57 (.t 6)),
 un (.bsl 58 1 [(.c (.int .i64 1)), (.c (.int .i64 (-1)))]),
 un (.bsl 59 1 [(.t 58)]),
 un (.app 60 1 (.t 57) (.t 59)),
 un (.asg 6 (.t 60))])
 (.seq (.reg [un (.bin 62 .eql (.t 43) (.c (.int .i64 2))),
 un (.asg 61 (.t 62))])
 (.drop [62] (.cond (.t 61) (.block 3 (.loop Gt))
 .skip))))))))))))
 (.drop [42, 43, 45, 44, 46, 47, 48, 49, 50, 51, 52, 53, 54, 56, 55, 57, 58, 59, 60, 62, 61, 63, 64, 65, 66, 67, 68, 69, 70, 71, 72] (.seq (.reg [un (.mov 73 (.t 5)),
 un (.mov 74 (.t 6)),
 un (.asg 2 (.t 73)),
 un (.asg 3 (.t 74))])
 (.drop [73, 74] .ret)))))))))))))
abbrev Pk : List RS := [.t 2, .t 3]
theorem Ps : A9 Try.prog Es 75 Pb Pk = true := by kernel_rfl
end Go.Proofs.Ytjcekpmojnnmbaa.Ax
