/-
  The small code of the functions, written by program; that the program's code is this one, the kernel looks at.
-/
import Derived.Test.YtcpgnfohmeineaaAx3
import Derived.Test.YtcpgnfohmeineaaProg
import Derived.KernelRfl
import Derived.Test.YtcpgnfohmeineaaNum
namespace Go.Proofs.Ytcpgnfohmeineaa.Ax
open Go
set_option maxRecDepth 100000
def Ao7 : ACode :=
 (.seq (.reg [un (.asg 2 (.c (.bool false)))])
 (.seq (.reg [un (.mov 3 (.t 0)),
 un (.len 4 (.t 3)),
 un (.bin 5 .gtr (.t 4) (.c (.int .i64 65536))),
 un (.asg 2 (.t 5))])
 (.drop [3, 4, 5] .ret)))
abbrev Aql : List RS := [.t 2]
theorem Apq : A5 Try.prog Yd 6 Ao7 Aql = true := by kernel_rfl
def W7 : ACode :=
 (.seq (.seq (.reg [un (.mov 11 (.t 5)),
 un (.mov 12 (.t 0)),
 un (.len 13 (.t 12)),
 un (.bin 14 .lss (.t 11) (.t 13))])
 (.drop [11, 12, 13] (.cond (.t 14) .skip
 (.exit 0))))
 (.drop [11, 12, 13, 14] (.seq (.block 1 (.seq (.dreg [(un (.mov 17 (.t 0)), []),
 (un (.mov 18 (.t 5)), [17]),
 (un (.iad 19 1 (.t 17) (.t 18)), []),
 (un (.ld 20 1 false (.t 19)), []),
 (un (.mov 21 (.t 1)), [17, 18, 19, 20]),
 (un (.mov 22 (.t 5)), [17, 18, 19, 20, 21]),
 (un (.iad 23 1 (.t 21) (.t 22)), [17, 18, 19, 20]),
 (un (.ld 24 1 false (.t 23)), [17, 18, 19, 20])]
 [un (.bin 25 .neq (.t 20) (.t 24))])
 (.drop [17, 18, 19, 20, 21, 22, 23, 24] (.cond (.t 25) (.seq (.reg [un (.asg 4 (.c (.bool false)))])
 .ret)
 .skip))))
 (.drop [17, 18, 19, 20, 21, 22, 23, 24, 25] (.reg [un (.mov 15 (.t 5)),
 un (.bin 16 .add (.t 15) (.c (.int .i64 1))),
 un (.asg 5 (.t 16))])))))
def An0 : ACode :=
 (.seq (.reg [un (.asg 4 (.c (.bool false)))])
 (.seq (.seq (.reg [un (.mov 6 (.t 0)),
 un (.len 7 (.t 6)),
 un (.mov 8 (.t 1)),
 un (.len 9 (.t 8)),
 un (.bin 10 .neq (.t 7) (.t 9))])
 (.drop [6, 7, 8, 9] (.cond (.t 10) (.seq (.reg [un (.asg 4 (.c (.bool false)))])
 .ret)
 .skip)))
 (.drop [6, 7, 8, 9, 10] (.seq (.seq (.reg [un (.asg 5 (.c (.int .i64 0)))])
 (.block 0 (.loop W7)))
 (.drop [5, 11, 12, 13, 14, 17, 18, 19, 20, 21, 22, 23, 24, 25, 15, 16] (.seq (.reg [un (.asg 4 (.c (.bool true)))])
 .ret))))))
abbrev Anu : List RS := [.t 4]
theorem Am4 : A5 Try.prog Mn 26 An0 Anu = true := by kernel_rfl
def W3 : ACode :=
 (.seq (.seq (.reg [un (.mov 6 (.t 1)),
 un (.bin 7 .gtr (.t 6) (.c (.int .i64 0)))])
 (.drop [6] (.cond (.t 7) .skip
 (.exit 0))))
 (.drop [6, 7] (.seq (.block 1 (.reg [un (.mov 10 (.t 5)),
 un (.mov 11 (.t 0)),
 un (.bin 12 .mul (.t 10) (.t 11)),
 un (.asg 5 (.t 12))]))
 (.drop [10, 11, 12] (.reg [un (.mov 8 (.t 1)),
 un (.bin 9 .sub (.t 8) (.c (.int .i64 1))),
 un (.asg 1 (.t 9))])))))
def An4 : ACode :=
 (.seq (.reg [un (.asg 4 (.c (.int .i64 0)))])
 (.seq (.reg [un (.asg 5 (.c (.int .i64 1)))])
 (.seq (.block 0 (.loop W3))
 (.drop [6, 7, 10, 11, 12, 8, 9] (.seq (.reg [un (.mov 13 (.t 5)),
 un (.asg 4 (.t 13))])
 (.drop [13] .ret))))))
abbrev Anm : List RS := [.t 4]
theorem Am0 : A5 Try.prog Mi 14 An4 Anm = true := by kernel_rfl
def Aos : ACode :=
 (.seq (.reg [un (.asg 6 (.c (.bool false)))])
 (.seq (.reg [un (.mov 7 (.t 0)),
 un (.mov 8 (.t 1)),
 un (.bin 9 .geq (.t 7) (.t 8)),
 un (.asg 10 (.t 9)),
 ⟨some (10, true), .mov 11 (.t 0)⟩,
 ⟨some (10, true), .mov 12 (.t 2)⟩,
 ⟨some (10, true), .bin 13 .leq (.t 11) (.t 12)⟩,
 un (.pick 14 (.t 10) (.t 13) (.c (.bool false))),
 un (.asg 6 (.t 14))])
 (.drop [7, 8, 9, 10, 11, 12, 13, 14] .ret)))
abbrev Api : List RS := [.t 6]
theorem Ao2 : A5 Try.prog Fw 15 Aos Api = true := by kernel_rfl
def Ajo : ACode :=
 (.seq (.reg [un (.asg 2 (.c (.bool false)))])
 (.seq (.reg [un (.mov 3 (.t 0)),
 un (.bin 4 .geq (.t 3) (.c (.int .i64 1))),
 un (.asg 5 (.t 4)),
 ⟨some (5, true), .mov 6 (.t 0)⟩,
 ⟨some (5, true), .bin 7 .leq (.t 6) (.c (.int .i64 8))⟩,
 un (.pick 8 (.t 5) (.t 7) (.c (.bool false))),
 un (.asg 2 (.t 8))])
 (.drop [3, 4, 5, 6, 7, 8] .ret)))
abbrev Ak1 : List RS := [.t 2]
theorem Ak9 : A5 Try.prog Oq 9 Ajo Ak1 = true := by kernel_rfl
def Uz : ACode :=
 (.seq (.seq (.reg [un (.mov 13 (.t 8)),
 un (.bin 14 .geq (.t 13) (.c (.int .i64 0)))])
 (.drop [13] (.cond (.t 14) .skip
 (.exit 0))))
 (.drop [13, 14] (.seq (.block 1 (.seq (.reg [un (.mov 17 (.t 7)),
 un (.mov 18 (.t 8)),
 un (.mov 19 (.t 2)),
 un (.mov 20 (.t 0)),
 un (.bin 21 .rem (.t 19) (.t 20)),
 un (.iad 22 1 (.t 17) (.t 18)),
 un (.st 1 (.t 22) (.t 21))])
 (.drop [17, 18, 19, 20, 21, 22] (.reg [un (.mov 23 (.t 2)),
 un (.mov 24 (.t 0)),
 un (.bin 25 .quo (.t 23) (.t 24)),
 un (.asg 2 (.t 25))]))))
 (.drop [17, 18, 19, 20, 21, 22, 23, 24, 25] (.reg [un (.mov 15 (.t 8)),
 un (.bin 16 .sub (.t 15) (.c (.int .i64 1))),
 un (.asg 8 (.t 16))])))))
def Akm : ACode :=
 (.seq (.reg [un (.asg 6 (.c (.nilsl 1)))])
 (.seq (.reg [un (.mov 9 (.t 1)),
 un (.mk 10 1 (.int .i64 0) (.t 9)),
 un (.asg 7 (.t 10))])
 (.drop [9, 10] (.seq (.seq (.reg [un (.mov 11 (.t 1)),
 un (.bin 12 .sub (.t 11) (.c (.int .i64 1))),
 un (.asg 8 (.t 12))])
 (.drop [11, 12] (.block 0 (.loop Uz))))
 (.drop [11, 12, 8, 13, 14, 17, 18, 19, 20, 21, 22, 23, 24, 25, 15, 16] (.seq (.reg [un (.mov 26 (.t 7)),
 un (.asg 6 (.t 26))])
 (.drop [26] .ret)))))))
abbrev Akc : List RS := [.t 6]
theorem Ajv : A5 Try.prog Oy 27 Akm Akc = true := by kernel_rfl
def W4 : ACode :=
 (.seq (.reg [un (.bin 13 .lss (.t 12) (.t 11))])
 (.seq (.cond (.t 13) .skip
 (.exit 0))
 (.seq (.block 1 (.seq (.reg [un (.iad 14 1 (.t 10) (.t 12)),
 un (.ld 15 1 false (.t 14)),
 un (.asg 5 (.t 15))])
 (.drop [14, 15] (.reg [un (.mov 16 (.t 3)),
 un (.mov 17 (.t 5)),
 un (.bin 18 .shr (.t 17) (.c (.int .u64 8))),
 un (.cnv 19 .u8 (.t 18)),
 un (.mov 20 (.t 5)),
 un (.cnv 21 .u8 (.t 20)),
 un (.bsl 22 1 [(.t 19), (.t 21)]),
 un (.app 23 1 (.t 16) (.t 22)),
 un (.asg 3 (.t 23))]))))
 (.drop [14, 15, 5, 16, 17, 18, 19, 20, 21, 22, 23] (.reg [un (.bin 24 .add (.t 12) (.c (.int .i64 1))),
 un (.asg 12 (.t 24))])))))
def Ank : ACode :=
 (.seq (.reg [⟨none, .asg 2 (.c (.str ⟨#[]⟩))⟩])
 (.seq (.reg [un (.mov 6 (.t 0)),
 un (.len 7 (.t 6)),
 un (.bin 8 .mul (.c (.int .i64 2)) (.t 7)),
 un (.mkc 9 1 (.int .u8 0) (.t 8)),
 un (.asg 3 (.t 9))])
 (.drop [6, 7, 8, 9] (.seq (.seq (.reg [un (.mov 10 (.t 0)),
 un (.len 11 (.t 10)),
 un (.mov 12 (.c (.int .i64 0)))])
 (.block 0 (.loop W4)))
 (.drop [10, 11, 12, 13, 14, 15, 5, 16, 17, 18, 19, 20, 21, 22, 23, 24] (.seq (.reg [un (.mov 25 (.t 3)),
 un (.bstr 26 (.t 25)),
 un (.asg 2 (.t 26))])
 (.drop [25, 26] .ret)))))))
abbrev Aod : List RS := [.t 2]
theorem Anq : A5 Try.prog Qg 27 Ank Aod = true := by kernel_rfl
def Ake : ACode :=
 (.seq (.reg [un (.asg 4 (.c (.int .i64 0)))])
 (.seq (.seq (.reg [un (.mov 5 (.t 0)),
 un (.mov 6 (.t 1)),
 un (.bin 7 .gtr (.t 5) (.t 6))])
 (.drop [5, 6] (.cond (.t 7) (.seq (.reg [un (.mov 8 (.t 0)),
 un (.asg 4 (.t 8))])
 (.drop [8] .ret))
 .skip)))
 (.drop [5, 6, 7, 8] (.seq (.reg [un (.mov 9 (.t 1)),
 un (.asg 4 (.t 9))])
 (.drop [9] .ret)))))
abbrev Aku : List RS := [.t 4]
theorem Ako : A5 Try.prog Ox 10 Ake Aku = true := by kernel_rfl
def Vh : ACode :=
 (.seq (.reg [un (.bin 10 .lss (.t 9) (.t 8))])
 (.seq (.cond (.t 10) .skip
 (.exit 0))
 (.seq (.block 1 (.seq (.reg [un (.iad 11 1 (.t 7) (.t 9)),
 un (.ld 12 1 false (.t 11)),
 un (.asg 6 (.t 12))])
 (.drop [11, 12] (.seq (.reg [un (.mov 13 (.t 6)),
 un (.bin 14 .lss (.t 13) (.c (.int .i64 0))),
 un (.asg 15 (.t 14)),
 ⟨some (15, false), .mov 16 (.t 6)⟩,
 ⟨some (15, false), .mov 17 (.t 1)⟩,
 ⟨some (15, false), .bin 18 .geq (.t 16) (.t 17)⟩,
 un (.pick 19 (.t 15) (.c (.bool true)) (.t 18))])
 (.drop [13, 14, 15, 16, 17, 18] (.cond (.t 19) (.seq (.reg [un (.asg 4 (.c (.bool false)))])
 .ret)
 .skip))))))
 (.drop [11, 12, 6, 13, 14, 15, 16, 17, 18, 19] (.reg [un (.bin 20 .add (.t 9) (.c (.int .i64 1))),
 un (.asg 9 (.t 20))])))))
def Ak7 : ACode :=
 (.seq (.reg [un (.asg 4 (.c (.bool false)))])
 (.seq (.seq (.reg [un (.mov 7 (.t 0)),
 un (.len 8 (.t 7)),
 un (.mov 9 (.c (.int .i64 0)))])
 (.block 0 (.loop Vh)))
 (.drop [7, 8, 9, 10, 11, 12, 6, 13, 14, 15, 16, 17, 18, 19, 20] (.seq (.reg [un (.asg 4 (.c (.bool true)))])
 .ret))))
abbrev Ajp : List RS := [.t 4]
theorem Ak3 : A5 Try.prog On 21 Ak7 Ajp = true := by kernel_rfl
def W6 : ACode :=
 (.seq (.seq (.reg [un (.mov 6 (.t 1)),
 un (.bin 7 .gtr (.t 6) (.c (.int .i64 0)))])
 (.drop [6] (.cond (.t 7) .skip
 (.exit 0))))
 (.drop [6, 7] (.seq (.block 1 (.reg [un (.mov 10 (.t 5)),
 un (.mov 11 (.t 0)),
 un (.bin 12 .mul (.t 10) (.t 11)),
 un (.asg 5 (.t 12))]))
 (.drop [10, 11, 12] (.reg [un (.mov 8 (.t 1)),
 un (.bin 9 .sub (.t 8) (.c (.int .i64 1))),
 un (.asg 1 (.t 9))])))))
def Amy : ACode :=
 (.seq (.reg [un (.asg 4 (.c (.int .i64 0)))])
 (.seq (.reg [un (.asg 5 (.c (.int .i64 1)))])
 (.seq (.block 0 (.loop W6))
 (.drop [6, 7, 10, 11, 12, 8, 9] (.seq (.reg [un (.mov 13 (.t 5)),
 un (.asg 4 (.t 13))])
 (.drop [13] .ret))))))
abbrev Amw : List RS := [.t 4]
theorem Amt : A5 Try.prog J3 14 Amy Amw = true := by kernel_rfl
def Ux : ACode :=
 (.seq (.seq (.reg [un (.mov 11 (.t 5)),
 un (.mov 12 (.t 0)),
 un (.len 13 (.t 12)),
 un (.bin 14 .lss (.t 11) (.t 13))])
 (.drop [11, 12, 13] (.cond (.t 14) .skip
 (.exit 0))))
 (.drop [11, 12, 13, 14] (.seq (.block 1 (.seq (.dreg [(un (.mov 17 (.t 0)), []),
 (un (.mov 18 (.t 5)), [17]),
 (un (.iad 19 1 (.t 17) (.t 18)), []),
 (un (.ld 20 1 false (.t 19)), []),
 (un (.mov 21 (.t 1)), [17, 18, 19, 20]),
 (un (.mov 22 (.t 5)), [17, 18, 19, 20, 21]),
 (un (.iad 23 1 (.t 21) (.t 22)), [17, 18, 19, 20]),
 (un (.ld 24 1 false (.t 23)), [17, 18, 19, 20])]
 [un (.bin 25 .neq (.t 20) (.t 24))])
 (.drop [17, 18, 19, 20, 21, 22, 23, 24] (.cond (.t 25) (.seq (.reg [un (.asg 4 (.c (.bool false)))])
 .ret)
 .skip))))
 (.drop [17, 18, 19, 20, 21, 22, 23, 24, 25] (.reg [un (.mov 15 (.t 5)),
 un (.bin 16 .add (.t 15) (.c (.int .i64 1))),
 un (.asg 5 (.t 16))])))))
def Aj6 : ACode :=
 (.seq (.reg [un (.asg 4 (.c (.bool false)))])
 (.seq (.seq (.reg [un (.mov 6 (.t 0)),
 un (.len 7 (.t 6)),
 un (.mov 8 (.t 1)),
 un (.len 9 (.t 8)),
 un (.bin 10 .neq (.t 7) (.t 9))])
 (.drop [6, 7, 8, 9] (.cond (.t 10) (.seq (.reg [un (.asg 4 (.c (.bool false)))])
 .ret)
 .skip)))
 (.drop [6, 7, 8, 9, 10] (.seq (.seq (.reg [un (.asg 5 (.c (.int .i64 0)))])
 (.block 0 (.loop Ux)))
 (.drop [5, 11, 12, 13, 14, 17, 18, 19, 20, 21, 22, 23, 24, 25, 15, 16] (.seq (.reg [un (.asg 4 (.c (.bool true)))])
 .ret))))))
abbrev Akd : List RS := [.t 4]
theorem Ak4 : A5 Try.prog Ol 26 Aj6 Akd = true := by kernel_rfl
def Ag9 : ACode :=
 (.seq (.reg [un (.asg 4 (.c (.int .i64 0)))])
 (.seq (.seq (.reg [un (.mov 5 (.t 0)),
 un (.mov 6 (.t 1)),
 un (.bin 7 .lss (.t 5) (.t 6))])
 (.drop [5, 6] (.cond (.t 7) (.seq (.reg [un (.mov 8 (.t 0)),
 un (.asg 4 (.t 8))])
 (.drop [8] .ret))
 .skip)))
 (.drop [5, 6, 7, 8] (.seq (.reg [un (.mov 9 (.t 1)),
 un (.asg 4 (.t 9))])
 (.drop [9] .ret)))))
abbrev Agx : List RS := [.t 4]
theorem Aht : A5 Try.prog Ju 10 Ag9 Agx = true := by kernel_rfl
def M7 : ACode :=
 (.seq (.reg [un (.bin 14 .lss (.t 13) (.t 12))])
 (.seq (.cond (.t 14) .skip
 (.exit 0))
 (.seq (.block 1 (.seq (.reg [un (.mov 15 (.t 13)),
 un (.iad 16 1 (.t 11) (.t 13)),
 un (.ld 17 1 false (.t 16)),
 un (.asg 5 (.t 15)),
 un (.asg 6 (.t 17))])
 (.drop [15, 16, 17] (.seq (.reg [un (.mov 18 (.t 6)),
 un (.bin 19 .lss (.t 18) (.c (.int .i64 0))),
 un (.asg 20 (.t 19)),
 ⟨some (20, false), .mov 21 (.t 6)⟩,
 ⟨some (20, false), .mov 22 (.t 5)⟩,
 ⟨some (20, false), .bin 23 .gtr (.t 21) (.t 22)⟩,
 un (.pick 24 (.t 20) (.c (.bool true)) (.t 23)),
 un (.asg 25 (.t 24)),
 ⟨some (25, false), .mov 26 (.t 1)⟩,
 ⟨some (25, false), .mov 27 (.t 6)⟩,
 ⟨some (25, false), .iad 28 1 (.t 26) (.t 27)⟩,
 ⟨some (25, false), .ld 29 1 false (.t 28)⟩,
 ⟨some (25, false), .mov 30 (.t 6)⟩,
 ⟨some (25, false), .bin 31 .neq (.t 29) (.t 30)⟩,
 un (.pick 32 (.t 25) (.c (.bool true)) (.t 31))])
 (.drop [18, 19, 20, 21, 22, 23, 24, 25, 26, 27, 28, 29, 30, 31] (.cond (.t 32) (.seq (.reg [un (.asg 4 (.c (.bool false)))])
 .ret)
 .skip))))))
 (.drop [15, 16, 17, 5, 6, 18, 19, 20, 21, 22, 23, 24, 25, 26, 27, 28, 29, 30, 31, 32] (.reg [un (.bin 33 .add (.t 13) (.c (.int .i64 1))),
 un (.asg 13 (.t 33))])))))
def Aap : ACode :=
 (.seq (.reg [un (.asg 4 (.c (.bool false)))])
 (.seq (.seq (.reg [un (.mov 7 (.t 1)),
 un (.len 8 (.t 7)),
 un (.mov 9 (.t 0)),
 un (.bin 10 .neq (.t 8) (.t 9))])
 (.drop [7, 8, 9] (.cond (.t 10) (.seq (.reg [un (.asg 4 (.c (.bool false)))])
 .ret)
 .skip)))
 (.drop [7, 8, 9, 10] (.seq (.seq (.reg [un (.mov 11 (.t 1)),
 un (.len 12 (.t 11)),
 un (.mov 13 (.c (.int .i64 0)))])
 (.block 0 (.loop M7)))
 (.drop [11, 12, 13, 14, 15, 16, 17, 5, 6, 18, 19, 20, 21, 22, 23, 24, 25, 26, 27, 28, 29, 30, 31, 32, 33] (.seq (.reg [un (.asg 4 (.c (.bool true)))])
 .ret))))))
abbrev Abr : List RS := [.t 4]
theorem Abt : A5 Try.prog Ii 34 Aap Abr = true := by kernel_rfl
def H6 : ACode :=
 (.seq (.reg [un (.bin 15 .lss (.t 14) (.t 13))])
 (.seq (.cond (.t 15) .skip
 (.exit 2))
 (.seq (.block 3 (.seq (.reg [un (.mov 16 (.t 14)),
 un (.asg 5 (.t 16))])
 (.drop [16] (.seq (.dreg [(un (.mov 17 (.t 0)), []),
 (un (.mov 18 (.t 4)), [17]),
 (un (.iad 19 1 (.t 17) (.t 18)), []),
 (un (.ld 20 1 false (.t 19)), []),
 (un (.mov 21 (.t 0)), [17, 18, 19, 20]),
 (un (.mov 22 (.t 5)), [17, 18, 19, 20, 21]),
 (un (.iad 23 1 (.t 21) (.t 22)), [17, 18, 19, 20]),
 (un (.ld 24 1 false (.t 23)), [17, 18, 19, 20])]
 [un (.bin 25 .eql (.t 20) (.t 24))])
 (.drop [17, 18, 19, 20, 21, 22, 23, 24] (.cond (.t 25) (.reg [un (.fadr 26 1 (.t 3)),
 un (.ld 27 1 false (.t 26)),
 un (.mov 28 (.t 4)),
 un (.mov 29 (.t 5)),
 un (.bsl 30 1 [(.t 28), (.t 29)]),
 un (.bsl 31 1 [(.t 30)]),
 un (.app 32 1 (.t 27) (.t 31)),
 un (.fadr 33 1 (.t 3)),
 un (.st 1 (.t 33) (.t 32))])
 .skip))))))
 (.drop [16, 5, 17, 18, 19, 20, 21, 22, 23, 24, 25, 26, 27, 28, 29, 30, 31, 32, 33] (.reg [un (.bin 34 .add (.t 14) (.c (.int .i64 1))),
 un (.asg 14 (.t 34))])))))
def H3 : ACode :=
 (.seq (.reg [un (.bin 10 .lss (.t 9) (.t 8))])
 (.seq (.cond (.t 10) .skip
 (.exit 0))
 (.seq (.block 1 (.seq (.reg [un (.mov 11 (.t 9)),
 un (.asg 4 (.t 11))])
 (.drop [11] (.seq (.reg [un (.mov 12 (.t 0)),
 un (.len 13 (.t 12)),
 un (.mov 14 (.c (.int .i64 0)))])
 (.drop [12] (.block 2 (.loop H6)))))))
 (.drop [11, 4, 12, 13, 14, 15, 16, 5, 17, 18, 19, 20, 21, 22, 23, 24, 25, 26, 27, 28, 29, 30, 31, 32, 33, 34] (.reg [un (.bin 35 .add (.t 9) (.c (.int .i64 1))),
 un (.asg 9 (.t 35))])))))
def Rw : ACode :=
 (.seq (.reg [un (.alc 2 (.agg [.int .i64 0, .nilsl 1]))])
 (.seq (.reg [un (.bld 6 [.int .i64 0, .nilsl 1] [(0, 1, (.c (.int .i64 2)))]),
 un (.alc 3 (.agg [.int .i64 0, .nilsl 1])),
 un (.st 2 (.t 3) (.t 6))])
 (.drop [6] (.seq (.seq (.reg [un (.mov 7 (.t 0)),
 un (.len 8 (.t 7)),
 un (.mov 9 (.c (.int .i64 0)))])
 (.drop [7] (.block 0 (.loop H3))))
 (.drop [7, 8, 9, 10, 11, 4, 12, 13, 14, 15, 16, 5, 17, 18, 19, 20, 21, 22, 23, 24, 25, 26, 27, 28, 29, 30, 31, 32, 33, 34, 35] (.seq (.reg [un (.ld 36 2 true (.t 3)),
 un (.st 2 (.t 2) (.t 36))])
 (.drop [36] .ret)))))))
abbrev Q4 : List RS := [.c 2 2 true]
theorem Rj : A5 Try.prog Gf 37 Rw Q4 = true := by kernel_rfl
def Lc : ACode :=
 (.seq (.seq (.reg [un (.mov 14 (.t 5)),
 un (.mov 15 (.t 0)),
 un (.len 16 (.t 15)),
 un (.bin 17 .lss (.t 14) (.t 16))])
 (.drop [14, 15, 16] (.cond (.t 17) .skip
 (.exit 2))))
 (.drop [14, 15, 16, 17] (.seq (.block 3 (.seq (.dreg [(un (.mov 20 (.t 0)), []),
 (un (.mov 21 (.t 4)), [20]),
 (un (.iad 22 1 (.t 20) (.t 21)), []),
 (un (.ld 23 1 false (.t 22)), []),
 (un (.mov 24 (.t 0)), [20, 21, 22, 23]),
 (un (.mov 25 (.t 5)), [20, 21, 22, 23, 24]),
 (un (.iad 26 1 (.t 24) (.t 25)), [20, 21, 22, 23]),
 (un (.ld 27 1 false (.t 26)), [20, 21, 22, 23])]
 [un (.bin 28 .eql (.t 23) (.t 27))])
 (.drop [20, 21, 22, 23, 24, 25, 26, 27] (.cond (.t 28) (.reg [un (.fadr 29 1 (.t 3)),
 un (.ld 30 1 false (.t 29)),
 un (.mov 31 (.t 4)),
 un (.mov 32 (.t 5)),
 un (.bslr 33 1 [(.t 31), (.t 32)]),
 un (.bsl 34 1 [(.t 33)]),
 un (.app 35 1 (.t 30) (.t 34)),
 un (.fadr 36 1 (.t 3)),
 un (.st 1 (.t 36) (.t 35))])
 .skip))))
 (.drop [20, 21, 22, 23, 24, 25, 26, 27, 28, 29, 30, 31, 32, 33, 34, 35, 36] (.reg [un (.mov 18 (.t 5)),
 un (.bin 19 .add (.t 18) (.c (.int .i64 1))),
 un (.asg 5 (.t 19))])))))
def Kr : ACode :=
 (.seq (.seq (.reg [un (.mov 8 (.t 4)),
 un (.mov 9 (.t 0)),
 un (.len 10 (.t 9)),
 un (.bin 11 .lss (.t 8) (.t 10))])
 (.drop [8, 9, 10] (.cond (.t 11) .skip
 (.exit 0))))
 (.drop [8, 9, 10, 11] (.seq (.block 1 (.seq (.reg [un (.asg 5 (.c (.int .i64 0)))])
 (.block 2 (.loop Lc))))
 (.drop [5, 14, 15, 16, 17, 20, 21, 22, 23, 24, 25, 26, 27, 28, 29, 30, 31, 32, 33, 34, 35, 36, 18, 19] (.reg [un (.mov 12 (.t 4)),
 un (.bin 13 .add (.t 12) (.c (.int .i64 1))),
 un (.asg 4 (.t 13))])))))
def Xi : ACode :=
 (.seq (.reg [un (.alc 2 (.agg [.int .i64 0, .nilsl 1]))])
 (.seq (.reg [un (.bsl 6 1 []),
 un (.bld 7 [.int .i64 0, .nilsl 1] [(0, 1, (.c (.int .i64 2))), (1, 1, (.t 6))]),
 un (.alc 3 (.agg [.int .i64 0, .nilsl 1])),
 un (.st 2 (.t 3) (.t 7))])
 (.drop [6, 7] (.seq (.seq (.reg [un (.asg 4 (.c (.int .i64 0)))])
 (.block 0 (.loop Kr)))
 (.drop [4, 8, 9, 10, 11, 5, 14, 15, 16, 17, 20, 21, 22, 23, 24, 25, 26, 27, 28, 29, 30, 31, 32, 33, 34, 35, 36, 18, 19, 12, 13] (.seq (.reg [un (.ld 37 2 true (.t 3)),
 un (.st 2 (.t 2) (.t 37))])
 (.drop [37] .ret)))))))
abbrev Xt : List RS := [.c 2 2 true]
theorem Xy : A5 Try.prog Ec 38 Xi Xt = true := by kernel_rfl
def L2 : ACode :=
 (.seq (.reg [un (.bin 14 .lss (.t 13) (.t 12))])
 (.seq (.cond (.t 14) .skip
 (.exit 0))
 (.seq (.block 1 (.seq (.reg [un (.mov 15 (.t 13)),
 un (.asg 6 (.t 15))])
 (.drop [15] (.reg [un (.mov 16 (.t 5)),
 un (.mov 17 (.t 6)),
 un (.mov 18 (.t 0)),
 un (.mk 19 1 (.bool false) (.t 18)),
 un (.iad 20 1 (.t 16) (.t 17)),
 un (.st 1 (.t 20) (.t 19))]))))
 (.drop [15, 6, 16, 17, 18, 19, 20] (.reg [un (.bin 21 .add (.t 13) (.c (.int .i64 1))),
 un (.asg 13 (.t 21))])))))
def L4 : ACode :=
 (.seq (.reg [un (.bin 26 .lss (.t 25) (.t 24))])
 (.seq (.cond (.t 26) .skip
 (.exit 2))
 (.seq (.block 3 (.seq (.reg [un (.iad 27 1 (.t 23) (.t 25)),
 un (.ld 28 1 false (.t 27)),
 un (.asg 8 (.t 28))])
 (.drop [27, 28] (.dreg [(un (.mov 29 (.t 5)), []),
 (un (.mov 30 (.t 8)), [29]),
 (un (.iad 31 1 (.t 30) (.c (.int .i64 0))), [29]),
 (un (.ld 32 1 false (.t 31)), [29]),
 (un (.iad 33 1 (.t 29) (.t 32)), []),
 (un (.ld 34 1 false (.t 33)), []),
 (un (.mov 35 (.t 8)), [29, 30, 31, 32, 33, 34]),
 (un (.iad 36 1 (.t 35) (.c (.int .i64 1))), [29, 30, 31, 32, 33, 34]),
 (un (.ld 37 1 false (.t 36)), [29, 30, 31, 32, 33, 34])]
 [un (.iad 38 1 (.t 34) (.t 37)),
 un (.st 1 (.t 38) (.c (.bool true)))]))))
 (.drop [27, 28, 8, 29, 30, 31, 32, 33, 34, 35, 36, 37, 38] (.reg [un (.bin 39 .add (.t 25) (.c (.int .i64 1))),
 un (.asg 25 (.t 39))])))))
def Y9 : ACode :=
 (.seq (.reg [un (.box 3 (.t 1)),
 un (.asg 4 (.c (.nilsl 1)))])
 (.seq (.reg [un (.mov 9 (.t 0)),
 un (.mk 10 1 (.nilsl 1) (.t 9)),
 un (.asg 5 (.t 10))])
 (.drop [9, 10] (.seq (.seq (.reg [un (.mov 11 (.t 5)),
 un (.len 12 (.t 11)),
 un (.mov 13 (.c (.int .i64 0)))])
 (.drop [11] (.block 0 (.loop L2))))
 (.drop [11, 12, 13, 14, 15, 6, 16, 17, 18, 19, 20, 21] (.seq (.seq (.reg [un (.fadr 22 1 (.t 3)),
 un (.ld 23 1 false (.t 22)),
 un (.len 24 (.t 23)),
 un (.mov 25 (.c (.int .i64 0)))])
 (.drop [22] (.block 2 (.loop L4))))
 (.drop [22, 23, 24, 25, 26, 27, 28, 8, 29, 30, 31, 32, 33, 34, 35, 36, 37, 38, 39] (.seq (.reg [un (.mov 40 (.t 5)),
 un (.asg 4 (.t 40))])
 (.drop [40] .ret)))))))))
abbrev Yz : List RS := [.t 4]
theorem Y6 : A5 Try.prog Jq 41 Y9 Yz = true := by kernel_rfl
def Zi : ACode :=
 (.seq (.dreg [(un (.mov 4 (.t 0)), []),
 (un (.nck 5 (.t 4)), []),
 (un (.fadr 6 1 (.t 5)), []),
 (un (.ld 7 1 false (.t 6)), []),
 (un (.mov 8 (.t 0)), [4, 5, 6, 7]),
 (un (.nck 9 (.t 8)), [4, 5, 6, 7]),
 (un (.fadr 10 0 (.t 9)), [4, 5, 6, 7]),
 (un (.ld 11 1 false (.t 10)), [4, 5, 6, 7]),
 (un (.len 12 (.t 11)), [4, 5, 6, 7])]
 [un (.bin 13 .lss (.t 7) (.t 12))])
 (.drop [4, 5, 6, 7, 8, 9, 10, 11, 12] (.cond (.t 13) (.dreg [(un (.mov 14 (.t 0)), []),
 (un (.nck 15 (.t 14)), []),
 (un (.fadr 16 0 (.t 15)), []),
 (un (.ld 17 1 false (.t 16)), []),
 (un (.mov 18 (.t 0)), [14, 15, 16, 17]),
 (un (.nck 19 (.t 18)), [14, 15, 16, 17]),
 (un (.fadr 20 1 (.t 19)), [14, 15, 16, 17]),
 (un (.ld 21 1 false (.t 20)), [14, 15, 16, 17])]
 [un (.iad 22 1 (.t 17) (.t 21)),
 un (.ld 23 1 false (.t 22)),
 un (.cnv 24 .i64 (.t 23)),
 un (.asg 3 (.t 24))])
 .skip)))
def Aby : ACode :=
 (.seq (.reg [un (.asg 2 (.c (.int .i64 0)))])
 (.seq (.reg [un (.asg 3 (.c (.int .i64 0)))])
 (.seq (.cut Zi)
 (.drop [4, 5, 6, 7, 8, 9, 10, 11, 12, 13, 14, 15, 16, 17, 18, 19, 20, 21, 22, 23, 24] (.seq (.reg [un (.mov 25 (.t 0)),
 un (.nck 26 (.t 25)),
 un (.fadr 27 1 (.t 26)),
 un (.ld 28 1 false (.t 27)),
 un (.bin 29 .add (.t 28) (.c (.int .i64 1))),
 un (.nck 30 (.t 25)),
 un (.fadr 31 1 (.t 30)),
 un (.st 1 (.t 31) (.t 29))])
 (.drop [25, 26, 27, 28, 29, 30, 31] (.seq (.reg [un (.mov 32 (.t 0)),
 un (.mov 33 (.t 0)),
 un (.nck 34 (.t 33)),
 un (.fadr 35 2 (.t 34)),
 un (.ld 36 1 false (.t 35)),
 un (.bin 37 .mul (.t 36) (.c (.int .u64 6364136223846793005))),
 un (.mov 38 (.t 3)),
 un (.cnv 39 .u64 (.t 38)),
 un (.bin 40 .add (.t 37) (.t 39)),
 un (.bin 41 .add (.t 40) (.c (.int .u64 550289))),
 un (.nck 42 (.t 32)),
 un (.fadr 43 2 (.t 42)),
 un (.st 1 (.t 43) (.t 41))])
 (.drop [32, 33, 34, 35, 36, 37, 38, 39, 40, 41, 42, 43] (.seq (.seq (.dreg [(un (.mov 44 (.t 0)), []),
 (un (.nck 45 (.t 44)), []),
 (un (.fadr 46 1 (.t 45)), []),
 (un (.ld 47 1 false (.t 46)), []),
 (un (.mov 48 (.t 0)), [44, 45, 46, 47]),
 (un (.nck 49 (.t 48)), [44, 45, 46, 47]),
 (un (.fadr 50 0 (.t 49)), [44, 45, 46, 47]),
 (un (.ld 51 1 false (.t 50)), [44, 45, 46, 47]),
 (un (.len 52 (.t 51)), [44, 45, 46, 47])]
 [un (.bin 53 .leq (.t 47) (.t 52))])
 (.drop [44, 45, 46, 47, 48, 49, 50, 51, 52] (.cond (.t 53) (.seq (.reg [un (.mov 54 (.t 3)),
 un (.asg 2 (.t 54))])
 (.drop [54] .ret))
 .skip)))
 (.drop [44, 45, 46, 47, 48, 49, 50, 51, 52, 53, 54] (.seq (.reg [un (.mov 55 (.t 0)),
 un (.nck 56 (.t 55)),
 un (.fadr 57 2 (.t 56)),
 un (.ld 58 1 false (.t 57)),
 un (.bin 59 .shr (.t 58) (.c (.int .u64 40))),
 un (.bin 60 .and (.t 59) (.c (.int .u64 255))),
 un (.cnv 61 .i64 (.t 60)),
 un (.asg 2 (.t 61))])
 (.drop [55, 56, 57, 58, 59, 60, 61] .ret))))))))))))
abbrev Ab7 : List RS := [.t 2]
theorem Acn : A5 Try.prog I5 62 Aby Ab7 = true := by kernel_rfl
def Anj : ACode :=
 (.seq (.reg [un (.asg 2 (.c (.nilsl 1)))])
 (.seq (.reg [un (.bsl 3 1 []),
 un (.mov 4 (.t 0)),
 un (.app 5 1 (.t 3) (.t 4)),
 un (.asg 2 (.t 5))])
 (.drop [3, 4, 5] .ret)))
abbrev An3 : List RS := [.t 2]
theorem Ane : A5 Try.prog J0 6 Anj An3 = true := by kernel_rfl
def Anf : ACode :=
 (.seq (.reg [un (.asg 2 (.c (.nilsl 1)))])
 (.seq (.reg [un (.bsl 3 1 []),
 un (.mov 4 (.t 0)),
 un (.app 5 1 (.t 3) (.t 4)),
 un (.asg 2 (.t 5))])
 (.drop [3, 4, 5] .ret)))
abbrev Anz : List RS := [.t 2]
theorem An1 : A5 Try.prog Wn 6 Anf Anz = true := by kernel_rfl
def Wu : ACode :=
 (.seq (.reg [un (.mov 6 (.t 5)),
 un (.mov 7 (.t 0)),
 un (.len 8 (.t 7)),
 un (.bin 9 .lss (.t 6) (.t 8)),
 un (.asg 10 (.t 9)),
 ⟨some (10, true), .mov 11 (.t 5)⟩,
 ⟨some (10, true), .mov 12 (.t 1)⟩,
 ⟨some (10, true), .len 13 (.t 12)⟩,
 ⟨some (10, true), .bin 14 .lss (.t 11) (.t 13)⟩,
 un (.pick 15 (.t 10) (.t 14) (.c (.bool false)))])
 (.drop [6, 7, 8, 9, 10, 11, 12, 13, 14] (.cond (.t 15) .skip
 (.exit 0))))
def Mr : ACode :=
 (.seq (.cut Wu)
 (.drop [6, 7, 8, 9, 10, 11, 12, 13, 14, 15] (.seq (.block 1 (.seq (.dreg [(un (.mov 18 (.t 0)), []),
 (un (.mov 19 (.t 5)), [18]),
 (un (.iad 20 1 (.t 18) (.t 19)), []),
 (un (.ld 21 1 false (.t 20)), []),
 (un (.mov 22 (.t 1)), [18, 19, 20, 21]),
 (un (.mov 23 (.t 5)), [18, 19, 20, 21, 22]),
 (un (.iad 24 1 (.t 22) (.t 23)), [18, 19, 20, 21]),
 (un (.ld 25 1 false (.t 24)), [18, 19, 20, 21])]
 [un (.bin 26 .neq (.t 21) (.t 25))])
 (.drop [18, 19, 20, 21, 22, 23, 24, 25] (.cond (.t 26) (.seq (.seq (.dreg [(un (.mov 27 (.t 0)), []),
 (un (.mov 28 (.t 5)), [27]),
 (un (.iad 29 1 (.t 27) (.t 28)), []),
 (un (.ld 30 1 false (.t 29)), []),
 (un (.mov 31 (.t 1)), [27, 28, 29, 30]),
 (un (.mov 32 (.t 5)), [27, 28, 29, 30, 31]),
 (un (.iad 33 1 (.t 31) (.t 32)), [27, 28, 29, 30]),
 (un (.ld 34 1 false (.t 33)), [27, 28, 29, 30])]
 [un (.bin 35 .lss (.t 30) (.t 34))])
 (.drop [27, 28, 29, 30, 31, 32, 33, 34] (.cond (.t 35) (.seq (.reg [un (.asg 4 (.c (.int .i64 (-1))))])
 .ret)
 .skip)))
 (.drop [27, 28, 29, 30, 31, 32, 33, 34, 35] (.seq (.reg [un (.asg 4 (.c (.int .i64 1)))])
 .ret)))
 .skip))))
 (.drop [18, 19, 20, 21, 22, 23, 24, 25, 26, 27, 28, 29, 30, 31, 32, 33, 34, 35] (.reg [un (.mov 16 (.t 5)),
 un (.bin 17 .add (.t 16) (.c (.int .i64 1))),
 un (.asg 5 (.t 17))])))))
def Z1 : ACode :=
 (.seq (.reg [un (.asg 4 (.c (.int .i64 0)))])
 (.seq (.seq (.reg [un (.asg 5 (.c (.int .i64 0)))])
 (.block 0 (.loop Mr)))
 (.drop [5, 6, 7, 8, 9, 10, 11, 12, 13, 14, 15, 18, 19, 20, 21, 22, 23, 24, 25, 26, 27, 28, 29, 30, 31, 32, 33, 34, 35, 16, 17] (.seq (.block 2 (.seq (.reg [un (.mov 37 (.t 0)),
 un (.len 38 (.t 37)),
 un (.mov 39 (.t 1)),
 un (.len 40 (.t 39)),
 un (.bin 41 .lss (.t 38) (.t 40)),
 un (.asg 36 (.t 41))])
 (.drop [37, 38, 39, 40, 41] (.cond (.t 36) (.seq (.reg [un (.asg 4 (.c (.int .i64 (-1))))])
 .ret)
 (.seq (.reg [un (.mov 43 (.t 0)),
 un (.len 44 (.t 43)),
 un (.mov 45 (.t 1)),
 un (.len 46 (.t 45)),
 un (.bin 47 .gtr (.t 44) (.t 46)),
 un (.asg 42 (.t 47))])
 (.drop [43, 44, 45, 46, 47] (.cond (.t 42) (.seq (.reg [un (.asg 4 (.c (.int .i64 1)))])
 .ret)
 .skip)))))))
 (.drop [37, 38, 39, 40, 41, 36, 43, 44, 45, 46, 47, 42] (.seq (.reg [un (.asg 4 (.c (.int .i64 0)))])
 .ret))))))
abbrev Zt : List RS := [.t 4]
theorem Z2 : A5 Try.prog Kg 48 Z1 Zt = true := by kernel_rfl
def Rf : ACode :=
 (.seq (.seq (.reg [un (.mov 6 (.t 4)),
 un (.mov 7 (.t 0)),
 un (.slen 8 (.t 7)),
 un (.bin 9 .lss (.t 6) (.t 8))])
 (.drop [6, 7, 8] (.cond (.t 9) .skip
 (.exit 0))))
 (.drop [6, 7, 8, 9] (.seq (.block 1 (.dreg [(un (.fadr 12 1 (.t 3)), [18]),
 (un (.ld 13 1 false (.t 12)), [18]),
 (un (.mov 14 (.t 0)), [12, 13]),
 (un (.mov 15 (.t 4)), [12, 13, 14]),
 (un (.sidx 16 (.t 14) (.t 15)), [12, 13]),
 (un (.bin 17 .sub (.t 16) (.c (.int .u8 48))), [12, 13]),
 (un (.cnv 18 .i64 (.t 17)), [12, 13]),
 (un (.bsl 19 1 [(.t 18)]), [12, 13])]
 [un (.app 20 1 (.t 13) (.t 19)),
 un (.fadr 21 1 (.t 3)),
 un (.st 1 (.t 21) (.t 20))]))
 (.drop [12, 13, 14, 15, 16, 17, 18, 19, 20, 21] (.reg [un (.mov 10 (.t 4)),
 un (.bin 11 .add (.t 10) (.c (.int .i64 1))),
 un (.asg 4 (.t 11))])))))
def Agf : ACode :=
 (.seq (.reg [un (.alc 2 (.agg [.int .i64 0, .nilsl 1]))])
 (.seq (.reg [un (.bld 5 [.int .i64 0, .nilsl 1] [(0, 1, (.c (.int .i64 2)))]),
 un (.alc 3 (.agg [.int .i64 0, .nilsl 1])),
 un (.st 2 (.t 3) (.t 5))])
 (.drop [5] (.seq (.seq (.reg [un (.asg 4 (.c (.int .i64 0)))])
 (.block 0 (.loop Rf)))
 (.drop [4, 6, 7, 8, 9, 12, 13, 14, 15, 16, 17, 18, 19, 20, 21, 10, 11] (.seq (.reg [un (.ld 22 2 true (.t 3)),
 un (.st 2 (.t 2) (.t 22))])
 (.drop [22] .ret)))))))
abbrev Agp : List RS := [.c 2 2 true]
theorem Afv : A5 Try.prog Bf 23 Agf Agp = true := by kernel_rfl
def Rc : ACode :=
 (.seq (.seq (.reg [un (.mov 6 (.t 4)),
 un (.mov 7 (.t 0)),
 un (.mov 8 (.t 0)),
 un (.bin 9 .mul (.t 7) (.t 8)),
 un (.mov 10 (.t 0)),
 un (.bin 11 .mul (.t 9) (.t 10)),
 un (.bin 12 .lss (.t 6) (.t 11))])
 (.drop [6, 7, 8, 9, 10, 11] (.cond (.t 12) .skip
 (.exit 0))))
 (.drop [6, 7, 8, 9, 10, 11, 12] (.seq (.block 1 (.dreg [(un (.fadr 15 1 (.t 3)), [35]),
 (un (.ld 16 1 false (.t 15)), [35]),
 (un (.mov 17 (.t 4)), [15, 16]),
 (un (.mov 18 (.t 0)), [15, 16, 17]),
 (un (.mov 19 (.t 0)), [15, 16, 17, 18]),
 (un (.bin 20 .mul (.t 18) (.t 19)), [15, 16, 17]),
 (un (.bin 21 .quo (.t 17) (.t 20)), [15, 16]),
 (un (.mov 22 (.t 0)), [15, 16, 17, 18, 19, 20, 21]),
 (un (.bin 23 .add (.t 21) (.t 22)), [15, 16]),
 (un (.mov 24 (.t 4)), [15, 16, 17, 18, 19, 20, 21, 22, 23]),
 (un (.mov 25 (.t 0)), [15, 16, 17, 18, 19, 20, 21, 22, 23, 24]),
 (un (.bin 26 .quo (.t 24) (.t 25)), [15, 16, 17, 18, 19, 20, 21, 22, 23]),
 (un (.mov 27 (.t 0)), [15, 16, 17, 18, 19, 20, 21, 22, 23, 24, 25, 26]),
 (un (.bin 28 .rem (.t 26) (.t 27)), [15, 16, 17, 18, 19, 20, 21, 22, 23]),
 (un (.bin 29 .sub (.t 23) (.t 28)), [15, 16]),
 (un (.mov 30 (.t 4)), [15, 16, 17, 18, 19, 20, 21, 22, 23, 24, 25, 26, 27, 28, 29]),
 (un (.mov 31 (.t 0)), [15, 16, 17, 18, 19, 20, 21, 22, 23, 24, 25, 26, 27, 28, 29, 30]),
 (un (.bin 32 .rem (.t 30) (.t 31)), [15, 16, 17, 18, 19, 20, 21, 22, 23, 24, 25, 26, 27, 28, 29]),
 (un (.bin 33 .add (.t 29) (.t 32)), [15, 16]),
 (un (.mov 34 (.t 0)), [15, 16, 17, 18, 19, 20, 21, 22, 23, 24, 25, 26, 27, 28, 29, 30, 31, 32, 33]),
 (un (.bin 35 .rem (.t 33) (.t 34)), [15, 16]),
 (un (.bsl 36 1 [(.t 35)]), [15, 16])]
 [un (.app 37 1 (.t 16) (.t 36)),
 un (.fadr 38 1 (.t 3)),
 un (.st 1 (.t 38) (.t 37))]))
 (.drop [15, 16, 17, 18, 19, 20, 21, 22, 23, 24, 25, 26, 27, 28, 29, 30, 31, 32, 33, 34, 35, 36, 37, 38] (.reg [un (.mov 13 (.t 4)),
 un (.bin 14 .add (.t 13) (.c (.int .i64 1))),
 un (.asg 4 (.t 14))])))))
def Afy : ACode :=
 (.seq (.reg [un (.alc 2 (.agg [.int .i64 0, .nilsl 1]))])
 (.seq (.reg [un (.bld 5 [.int .i64 0, .nilsl 1] [(0, 1, (.c (.int .i64 3)))]),
 un (.alc 3 (.agg [.int .i64 0, .nilsl 1])),
 un (.st 2 (.t 3) (.t 5))])
 (.drop [5] (.seq (.seq (.reg [un (.asg 4 (.c (.int .i64 0)))])
 (.block 0 (.loop Rc)))
 (.drop [4, 6, 7, 8, 9, 10, 11, 12, 15, 16, 17, 18, 19, 20, 21, 22, 23, 24, 25, 26, 27, 28, 29, 30, 31, 32, 33, 34, 35, 36, 37, 38, 13, 14] (.seq (.reg [un (.ld 39 2 true (.t 3)),
 un (.st 2 (.t 2) (.t 39))])
 (.drop [39] .ret)))))))
abbrev Agb : List RS := [.c 2 2 true]
theorem Af7 : A5 Try.prog Lg 40 Afy Agb = true := by kernel_rfl
def Sa : ACode :=
 (.seq (.seq (.reg [un (.mov 9 (.t 8)),
 un (.mov 10 (.t 2)),
 un (.len 11 (.t 10)),
 un (.bin 12 .lss (.t 9) (.t 11))])
 (.drop [9, 10, 11] (.cond (.t 12) .skip
 (.exit 0))))
 (.drop [9, 10, 11, 12] (.seq (.block 1 (.dreg [(un (.mov 15 (.t 7)), []),
 (un (.fadr 16 0 (.t 3)), [15]),
 (un (.ld 17 1 false (.t 16)), [15]),
 (un (.bin 18 .mul (.t 15) (.t 17)), []),
 (un (.mov 19 (.t 2)), [15, 16, 17, 18]),
 (un (.mov 20 (.t 8)), [15, 16, 17, 18, 19]),
 (un (.iad 21 1 (.t 19) (.t 20)), [15, 16, 17, 18]),
 (un (.ld 22 1 false (.t 21)), [15, 16, 17, 18])]
 [un (.bin 23 .add (.t 18) (.t 22)),
 un (.asg 7 (.t 23))]))
 (.drop [15, 16, 17, 18, 19, 20, 21, 22, 23] (.reg [un (.mov 13 (.t 8)),
 un (.bin 14 .add (.t 13) (.c (.int .i64 1))),
 un (.asg 8 (.t 14))])))))
def Aiz : ACode :=
 (.seq (.reg [un (.box 3 (.t 0)),
 un (.asg 6 (.c (.int .i64 0)))])
 (.seq (.reg [un (.asg 7 (.c (.int .i64 0)))])
 (.seq (.seq (.reg [un (.asg 8 (.c (.int .i64 0)))])
 (.block 0 (.loop Sa)))
 (.drop [8, 9, 10, 11, 12, 15, 16, 17, 18, 19, 20, 21, 22, 23, 13, 14] (.seq (.reg [un (.fadr 24 1 (.t 3)),
 un (.ld 25 1 false (.t 24)),
 un (.mov 26 (.t 1)),
 un (.iad 27 2 (.t 25) (.t 26)),
 un (.fadr 28 1 (.t 27)),
 un (.ld 29 1 false (.t 28)),
 un (.mov 30 (.t 7)),
 un (.iad 31 1 (.t 29) (.t 30)),
 un (.ld 32 1 false (.t 31)),
 un (.asg 6 (.t 32))])
 (.drop [24, 25, 26, 27, 28, 29, 30, 31, 32] .ret))))))
abbrev Ah9 : List RS := [.t 6]
theorem Ahf : A5 Try.prog Rb 33 Aiz Ah9 = true := by kernel_rfl
def U4 : ACode :=
 (.seq (.seq (.reg [un (.mov 6 (.t 5)),
 un (.mov 7 (.t 0)),
 un (.len 8 (.t 7)),
 un (.bin 9 .lss (.t 6) (.t 8))])
 (.drop [6, 7, 8] (.cond (.t 9) .skip
 (.exit 0))))
 (.drop [6, 7, 8, 9] (.seq (.block 1 (.seq (.dreg [(un (.mov 12 (.t 0)), []),
 (un (.mov 13 (.t 5)), [12]),
 (un (.iad 14 1 (.t 12) (.t 13)), []),
 (un (.ld 15 1 false (.t 14)), []),
 (un (.mov 16 (.t 1)), [12, 13, 14, 15]),
 (un (.mov 17 (.t 5)), [12, 13, 14, 15, 16]),
 (un (.iad 18 1 (.t 16) (.t 17)), [12, 13, 14, 15]),
 (un (.ld 19 1 false (.t 18)), [12, 13, 14, 15])]
 [un (.bin 20 .neq (.t 15) (.t 19))])
 (.drop [12, 13, 14, 15, 16, 17, 18, 19] (.cond (.t 20) (.seq (.dreg [(un (.mov 21 (.t 0)), []),
 (un (.mov 22 (.t 5)), [21]),
 (un (.iad 23 1 (.t 21) (.t 22)), []),
 (un (.ld 24 1 false (.t 23)), []),
 (un (.mov 25 (.t 1)), [21, 22, 23, 24]),
 (un (.mov 26 (.t 5)), [21, 22, 23, 24, 25]),
 (un (.iad 27 1 (.t 25) (.t 26)), [21, 22, 23, 24]),
 (un (.ld 28 1 false (.t 27)), [21, 22, 23, 24])]
 [un (.bin 29 .lss (.t 24) (.t 28)),
 un (.asg 4 (.t 29))])
 (.drop [21, 22, 23, 24, 25, 26, 27, 28, 29] .ret))
 .skip))))
 (.drop [12, 13, 14, 15, 16, 17, 18, 19, 20, 21, 22, 23, 24, 25, 26, 27, 28, 29] (.reg [un (.mov 10 (.t 5)),
 un (.bin 11 .add (.t 10) (.c (.int .i64 1))),
 un (.asg 5 (.t 11))])))))
def Ak8 : ACode :=
 (.seq (.reg [un (.asg 4 (.c (.bool false)))])
 (.seq (.seq (.reg [un (.asg 5 (.c (.int .i64 0)))])
 (.block 0 (.loop U4)))
 (.drop [5, 6, 7, 8, 9, 12, 13, 14, 15, 16, 17, 18, 19, 20, 21, 22, 23, 24, 25, 26, 27, 28, 29, 10, 11] (.seq (.reg [un (.asg 4 (.c (.bool false)))])
 .ret))))
abbrev Aky : List RS := [.t 4]
theorem Akr : A5 Try.prog Ot 30 Ak8 Aky = true := by kernel_rfl
def Pi : ACode :=
 (.seq (.seq (.reg [un (.mov 6 (.t 4)),
 un (.mov 7 (.t 0)),
 un (.bin 8 .lss (.t 6) (.t 7))])
 (.drop [6, 7] (.cond (.t 8) .skip
 (.exit 0))))
 (.drop [6, 7, 8] (.seq (.block 1 (.reg [un (.mov 11 (.t 3)),
 un (.mov 12 (.t 4)),
 un (.bsl 13 1 [(.t 12)]),
 un (.app 14 1 (.t 11) (.t 13)),
 un (.asg 3 (.t 14))]))
 (.drop [11, 12, 13, 14] (.reg [un (.mov 9 (.t 4)),
 un (.bin 10 .add (.t 9) (.c (.int .i64 1))),
 un (.asg 4 (.t 10))])))))
def Ac2 : ACode :=
 (.seq (.reg [un (.asg 2 (.c (.nilsl 1)))])
 (.seq (.reg [un (.bsl 5 1 []),
 un (.asg 3 (.t 5))])
 (.drop [5] (.seq (.seq (.reg [un (.asg 4 (.c (.int .i64 0)))])
 (.block 0 (.loop Pi)))
 (.drop [4, 6, 7, 8, 11, 12, 13, 14, 9, 10] (.seq (.reg [un (.mov 15 (.t 3)),
 un (.asg 2 (.t 15))])
 (.drop [15] .ret)))))))
abbrev Acy : List RS := [.t 2]
theorem Ac0 : A5 Try.prog Fd 16 Ac2 Acy = true := by kernel_rfl
def Af2 : ACode :=
 (.seq (.reg [un (.mov 19 (.t 1)),
 un (.mov 20 (.t 2)),
 un (.bin 21 .gtr (.t 19) (.t 20))])
 (.drop [19, 20] (.cond (.t 21) (.reg [un (.mov 22 (.t 2)),
 un (.mov 23 (.t 1)),
 un (.asg 1 (.t 22)),
 un (.asg 2 (.t 23))])
 .skip)))
def Xg : ACode :=
 (.seq (.reg [un (.bin 27 .lss (.t 26) (.t 25))])
 (.seq (.cond (.t 27) .skip
 (.exit 0))
 (.seq (.block 1 (.seq (.reg [un (.mov 28 (.t 26)),
 un (.asg 7 (.t 28))])
 (.drop [28] (.seq (.reg [un (.mov 29 (.t 0)),
 un (.mov 30 (.t 7)),
 un (.iad 31 1 (.t 29) (.t 30)),
 un (.ld 32 1 false (.t 31)),
 un (.mov 33 (.t 2)),
 un (.bin 34 .eql (.t 32) (.t 33))])
 (.drop [29, 30, 31, 32, 33] (.cond (.t 34) (.reg [un (.mov 35 (.t 0)),
 un (.mov 36 (.t 7)),
 un (.mov 37 (.t 1)),
 un (.iad 38 1 (.t 35) (.t 36)),
 un (.st 1 (.t 38) (.t 37))])
 .skip))))))
 (.drop [28, 7, 29, 30, 31, 32, 33, 34, 35, 36, 37, 38] (.reg [un (.bin 39 .add (.t 26) (.c (.int .i64 1))),
 un (.asg 26 (.t 39))])))))
def An8 : ACode :=
 (.seq (.reg [un (.asg 6 (.c (.bool false)))])
 (.seq (.dregp 2 [1] [(un (.mov 8 (.t 0)), []),
 (un (.mov 9 (.t 1)), [8]),
 (un (.iad 10 1 (.t 8) (.t 9)), []),
 (un (.ld 11 1 false (.t 10)), []),
 (un (.mov 12 (.t 0)), [8, 9, 10, 11, 11]),
 (un (.mov 13 (.t 2)), [8, 9, 10, 11, 12, 11]),
 (un (.iad 14 1 (.t 12) (.t 13)), [8, 9, 10, 11, 11]),
 (un (.ld 15 1 false (.t 14)), [8, 9, 10, 11, 11]),
 (un (.asg 1 (.t 11)), [12, 13, 14, 15])]
 [un (.asg 2 (.t 15))])
 (.drop [8, 9, 10, 11, 12, 13, 14, 15] (.seq (.seq (.reg [un (.mov 16 (.t 1)),
 un (.mov 17 (.t 2)),
 un (.bin 18 .eql (.t 16) (.t 17))])
 (.drop [16, 17] (.cond (.t 18) (.seq (.reg [un (.asg 6 (.c (.bool false)))])
 .ret)
 .skip)))
 (.drop [16, 17, 18] (.seq (.cut Af2)
 (.drop [19, 20, 21, 22, 23] (.seq (.seq (.reg [un (.mov 24 (.t 0)),
 un (.len 25 (.t 24)),
 un (.mov 26 (.c (.int .i64 0)))])
 (.drop [24] (.block 0 (.loop Xg))))
 (.drop [24, 25, 26, 27, 28, 7, 29, 30, 31, 32, 33, 34, 35, 36, 37, 38, 39] (.seq (.reg [un (.asg 6 (.c (.bool true)))])
 .ret))))))))))
abbrev Aoa : List RS := [.t 6]
theorem Amv : A5 Try.prog Wp 40 An8 Aoa = true := by kernel_rfl
def Sc : ACode :=
 (.seq (.seq (.reg [un (.mov 5 (.t 4)),
 un (.mov 6 (.t 0)),
 un (.len 7 (.t 6)),
 un (.bin 8 .lss (.t 5) (.t 7))])
 (.drop [5, 6, 7] (.cond (.t 8) .skip
 (.exit 0))))
 (.drop [5, 6, 7, 8] (.seq (.block 1 (.seq (.reg [un (.mov 11 (.t 0)),
 un (.mov 12 (.t 4)),
 un (.iad 13 1 (.t 11) (.t 12)),
 un (.ld 14 1 false (.t 13)),
 un (.mov 15 (.t 4)),
 un (.bin 16 .eql (.t 14) (.t 15))])
 (.drop [11, 12, 13, 14, 15] (.cond (.t 16) (.reg [un (.mov 17 (.t 3)),
 un (.bin 18 .add (.t 17) (.c (.int .i64 1))),
 un (.asg 3 (.t 18))])
 .skip))))
 (.drop [11, 12, 13, 14, 15, 16, 17, 18] (.reg [un (.mov 9 (.t 4)),
 un (.bin 10 .add (.t 9) (.c (.int .i64 1))),
 un (.asg 4 (.t 10))])))))
def Ai6 : ACode :=
 (.seq (.reg [un (.asg 2 (.c (.int .i64 0)))])
 (.seq (.reg [un (.asg 3 (.c (.int .i64 0)))])
 (.seq (.seq (.reg [un (.asg 4 (.c (.int .i64 0)))])
 (.block 0 (.loop Sc)))
 (.drop [4, 5, 6, 7, 8, 11, 12, 13, 14, 15, 16, 17, 18, 9, 10] (.seq (.reg [un (.mov 19 (.t 3)),
 un (.asg 2 (.t 19))])
 (.drop [19] .ret))))))
abbrev Ajb : List RS := [.t 2]
theorem Ahj : A5 Try.prog Hw 20 Ai6 Ajb = true := by kernel_rfl
def We : ACode :=
 (.seq (.seq (.reg [un (.mov 6 (.t 5)),
 un (.mov 7 (.t 0)),
 un (.len 8 (.t 7)),
 un (.bin 9 .lss (.t 6) (.t 8))])
 (.drop [6, 7, 8] (.cond (.t 9) .skip
 (.exit 0))))
 (.drop [6, 7, 8, 9] (.seq (.block 1 (.seq (.dreg [(un (.mov 12 (.t 0)), []),
 (un (.mov 13 (.t 5)), [12]),
 (un (.iad 14 1 (.t 12) (.t 13)), []),
 (un (.ld 15 1 false (.t 14)), []),
 (un (.mov 16 (.t 1)), [12, 13, 14, 15]),
 (un (.mov 17 (.t 5)), [12, 13, 14, 15, 16]),
 (un (.iad 18 1 (.t 16) (.t 17)), [12, 13, 14, 15]),
 (un (.ld 19 1 false (.t 18)), [12, 13, 14, 15])]
 [un (.bin 20 .neq (.t 15) (.t 19))])
 (.drop [12, 13, 14, 15, 16, 17, 18, 19] (.cond (.t 20) (.seq (.dreg [(un (.mov 21 (.t 0)), []),
 (un (.mov 22 (.t 5)), [21]),
 (un (.iad 23 1 (.t 21) (.t 22)), []),
 (un (.ld 24 1 false (.t 23)), []),
 (un (.mov 25 (.t 1)), [21, 22, 23, 24]),
 (un (.mov 26 (.t 5)), [21, 22, 23, 24, 25]),
 (un (.iad 27 1 (.t 25) (.t 26)), [21, 22, 23, 24]),
 (un (.ld 28 1 false (.t 27)), [21, 22, 23, 24])]
 [un (.bin 29 .lss (.t 24) (.t 28)),
 un (.asg 4 (.t 29))])
 (.drop [21, 22, 23, 24, 25, 26, 27, 28, 29] .ret))
 .skip))))
 (.drop [12, 13, 14, 15, 16, 17, 18, 19, 20, 21, 22, 23, 24, 25, 26, 27, 28, 29] (.reg [un (.mov 10 (.t 5)),
 un (.bin 11 .add (.t 10) (.c (.int .i64 1))),
 un (.asg 5 (.t 11))])))))
def Aj7 : ACode :=
 (.seq (.reg [un (.asg 4 (.c (.bool false)))])
 (.seq (.seq (.reg [un (.asg 5 (.c (.int .i64 0)))])
 (.block 0 (.loop We)))
 (.drop [5, 6, 7, 8, 9, 12, 13, 14, 15, 16, 17, 18, 19, 20, 21, 22, 23, 24, 25, 26, 27, 28, 29, 10, 11] (.seq (.reg [un (.asg 4 (.c (.bool false)))])
 .ret))))
abbrev Aj2 : List RS := [.t 4]
theorem Ak0 : A5 Try.prog Uf 30 Aj7 Aj2 = true := by kernel_rfl
def R8 : ACode :=
 (.seq (.reg [un (.alc 4 (.agg [.int .i64 0, .nilsl 1])),
 un (.asg 5 (.c (.bool false)))])
 (.seq (.seq (.reg [un (.mov 6 (.t 0)),
 un (.call 7 Oq [((.t 6), false)]),
 un (.un 8 .not (.t 7)),
 un (.asg 9 (.t 8)),
 ⟨some (9, false), .mov 10 (.t 0)⟩,
 ⟨some (9, false), .mov 11 (.t 1)⟩,
 ⟨some (9, false), .call 12 Ii [((.t 10), false), ((.t 11), false)]⟩,
 ⟨some (9, false), .un 13 .not (.t 12)⟩,
 un (.pick 14 (.t 9) (.c (.bool true)) (.t 13))])
 (.drop [6, 7, 8, 9, 10, 11, 12, 13] (.cond (.t 14) (.seq (.reg [un (.bld 15 [.int .i64 0, .nilsl 1] []),
 un (.st 2 (.t 4) (.t 15)),
 un (.asg 5 (.c (.bool false)))])
 (.drop [15] .ret))
 .skip)))
 (.drop [6, 7, 8, 9, 10, 11, 12, 13, 14, 15] (.seq (.reg [un (.mov 16 (.t 1)),
 un (.call 17 Gf [((.t 16), false)]),
 un (.st 2 (.t 4) (.t 17)),
 un (.asg 5 (.c (.bool true)))])
 (.drop [16, 17] .ret)))))
abbrev Q3 : List RS := [.c 4 2 true, .t 5]
theorem Q5 : A5 Try.prog Cy 18 R8 Q3 = true := by kernel_rfl
def Ac8 : ACode :=
 (.seq (.reg [un (.asg 4 (.c (.int .i64 0)))])
 (.seq (.seq (.reg [un (.mov 6 (.t 1)),
 un (.bin 7 .leq (.t 6) (.c (.int .i64 1)))])
 (.drop [6] (.cond (.t 7) (.seq (.reg [un (.asg 4 (.c (.int .i64 0)))])
 .ret)
 .skip)))
 (.drop [6, 7] (.seq (.reg [un (.mov 8 (.t 0)),
 un (.call 9 I5 [((.t 8), true)]),
 un (.asg 5 (.t 9))])
 (.drop [8, 9] (.seq (.seq (.reg [un (.mov 10 (.t 1)),
 un (.bin 11 .gtr (.t 10) (.c (.int .i64 200)))])
 (.drop [10] (.cond (.t 11) (.reg [un (.mov 12 (.t 5)),
 un (.bin 13 .mul (.t 12) (.c (.int .i64 256))),
 un (.mov 14 (.t 0)),
 un (.call 15 I5 [((.t 14), true)]),
 un (.bin 16 .add (.t 13) (.t 15)),
 un (.asg 5 (.t 16))])
 .skip)))
 (.drop [10, 11, 12, 13, 14, 15, 16] (.seq (.reg [un (.mov 17 (.t 5)),
 un (.mov 18 (.t 1)),
 un (.bin 19 .rem (.t 17) (.t 18)),
 un (.asg 4 (.t 19))])
 (.drop [17, 18, 19] .ret)))))))))
abbrev Aci : List RS := [.t 4]
theorem Ab9 : A5 Try.prog Aq 20 Ac8 Aci = true := by kernel_rfl
def Aor : ACode :=
 (.seq (.reg [un (.box 2 (.t 0)),
 un (.asg 4 (.c (.bool false)))])
 (.seq (.dreg [(un (.fadr 5 0 (.t 2)), []),
 (un (.ld 6 1 false (.t 5)), []),
 (un (.bin 7 .geq (.t 6) (.c (.int .i64 0))), []),
 (un (.asg 8 (.t 7)), []),
 (⟨some (8, true), .fadr 9 0 (.t 2)⟩, [7]),
 (⟨some (8, true), .ld 10 1 false (.t 9)⟩, [7]),
 (⟨some (8, true), .bin 11 .leq (.t 10) (.c (.int .i64 3))⟩, [7]),
 (un (.pick 12 (.t 8) (.t 11) (.c (.bool false))), [7]),
 (un (.asg 13 (.t 12)), [7]),
 (⟨some (13, true), .fadr 14 1 (.t 2)⟩, [7, 12]),
 (⟨some (13, true), .ld 15 1 false (.t 14)⟩, [7, 12]),
 (⟨some (13, true), .len 16 (.t 15)⟩, [7, 12]),
 (⟨some (13, true), .mov 17 (.t 1)⟩, [14, 15, 16, 7, 12]),
 (⟨some (13, true), .fadr 18 0 (.t 2)⟩, [14, 15, 16, 17, 7, 12]),
 (⟨some (13, true), .ld 19 1 false (.t 18)⟩, [14, 15, 16, 17, 7, 12]),
 (⟨some (13, true), .call 20 Mi [((.t 17), false), ((.t 19), false)]⟩, [14, 15, 16, 7, 12]),
 (⟨some (13, true), .bin 21 .eql (.t 16) (.t 20)⟩, [7, 12]),
 (un (.pick 22 (.t 13) (.t 21) (.c (.bool false))), [7, 12]),
 (un (.asg 23 (.t 22)), [7, 12]),
 (⟨some (23, true), .fadr 24 1 (.t 2)⟩, [7, 12, 22]),
 (⟨some (23, true), .ld 25 1 false (.t 24)⟩, [7, 12, 22]),
 (⟨some (23, true), .mov 26 (.t 1)⟩, [24, 25, 7, 12, 22])]
 [⟨some (23, true), .call 27 On [((.t 25), false), ((.t 26), false)]⟩,
 un (.pick 28 (.t 23) (.t 27) (.c (.bool false))),
 un (.asg 4 (.t 28))])
 (.drop [5, 6, 7, 8, 9, 10, 11, 12, 13, 14, 15, 16, 17, 18, 19, 20, 21, 22, 23, 24, 25, 26, 27, 28] .ret)))
abbrev Ap6 : List RS := [.t 4]
theorem Apa : A5 Try.prog Se 29 Aor Ap6 = true := by kernel_rfl
def Aiw : ACode :=
 (.seq (.dreg [(un (.fadr 6 0 (.t 3)), []),
 (un (.ld 7 1 false (.t 6)), []),
 (un (.call 8 Fw [((.t 7), false), ((.c (.int .i64 0)), false), ((.c (.int .i64 3)), false)]), []),
 (un (.un 9 .not (.t 8)), []),
 (un (.asg 10 (.t 9)), []),
 (⟨some (10, false), .fadr 11 1 (.t 3)⟩, [9]),
 (⟨some (10, false), .ld 12 1 false (.t 11)⟩, [9]),
 (⟨some (10, false), .len 13 (.t 12)⟩, [9]),
 (⟨some (10, false), .mov 14 (.t 0)⟩, [11, 12, 13, 9]),
 (⟨some (10, false), .fadr 15 0 (.t 3)⟩, [11, 12, 13, 14, 9]),
 (⟨some (10, false), .ld 16 1 false (.t 15)⟩, [11, 12, 13, 14, 9]),
 (⟨some (10, false), .call 17 J3 [((.t 14), false), ((.t 16), false)]⟩, [11, 12, 13, 9])]
 [⟨some (10, false), .bin 18 .neq (.t 13) (.t 17)⟩,
 un (.pick 19 (.t 10) (.c (.bool true)) (.t 18))])
 (.drop [6, 7, 8, 9, 10, 11, 12, 13, 14, 15, 16, 17, 18] (.cond (.t 19) (.seq (.reg [un (.asg 4 (.c (.bool false)))])
 .ret)
 .skip)))
def Zc : ACode :=
 (.seq (.seq (.reg [un (.mov 20 (.t 5)),
 un (.fadr 21 1 (.t 3)),
 un (.ld 22 1 false (.t 21)),
 un (.len 23 (.t 22)),
 un (.bin 24 .lss (.t 20) (.t 23))])
 (.drop [20, 21, 22, 23] (.cond (.t 24) .skip
 (.exit 0))))
 (.drop [20, 21, 22, 23, 24] (.seq (.block 1 (.seq (.reg [un (.fadr 27 1 (.t 3)),
 un (.ld 28 1 false (.t 27)),
 un (.mov 29 (.t 5)),
 un (.iad 30 1 (.t 28) (.t 29)),
 un (.ld 31 1 false (.t 30)),
 un (.mov 32 (.t 0)),
 un (.bin 33 .sub (.t 32) (.c (.int .i64 1))),
 un (.call 34 Fw [((.t 31), false), ((.c (.int .i64 0)), false), ((.t 33), false)]),
 un (.un 35 .not (.t 34))])
 (.drop [27, 28, 29, 30, 31, 32, 33, 34] (.cond (.t 35) (.seq (.reg [un (.asg 4 (.c (.bool false)))])
 .ret)
 .skip))))
 (.drop [27, 28, 29, 30, 31, 32, 33, 34, 35] (.reg [un (.mov 25 (.t 5)),
 un (.bin 26 .add (.t 25) (.c (.int .i64 1))),
 un (.asg 5 (.t 26))])))))
def Aqm : ACode :=
 (.seq (.reg [un (.box 3 (.t 1)),
 un (.asg 4 (.c (.bool false)))])
 (.seq (.cut Aiw)
 (.drop [6, 7, 8, 9, 10, 11, 12, 13, 14, 15, 16, 17, 18, 19] (.seq (.seq (.reg [un (.asg 5 (.c (.int .i64 0)))])
 (.block 0 (.loop Zc)))
 (.drop [5, 20, 21, 22, 23, 24, 27, 28, 29, 30, 31, 32, 33, 34, 35, 25, 26] (.seq (.reg [un (.asg 4 (.c (.bool true)))])
 .ret))))))
abbrev Apx : List RS := [.t 4]
theorem Apz : A5 Try.prog Ya 36 Aqm Apx = true := by kernel_rfl
def Ajx : ACode :=
 (.seq (.reg [un (.asg 2 (.c (.bool false)))])
 (.seq (.reg [un (.mov 3 (.t 0)),
 un (.call 4 Fw [((.t 3), false), ((.c (.int .i64 1)), false), ((.c (.int .i64 8)), false)]),
 un (.asg 2 (.t 4))])
 (.drop [3, 4] .ret)))
abbrev Akv : List RS := [.t 2]
theorem Ajs : A5 Try.prog It 5 Ajx Akv = true := by kernel_rfl
def Pt : ACode :=
 (.seq (.seq (.reg [un (.mov 6 (.t 5)),
 un (.mov 7 (.t 1)),
 un (.len 8 (.t 7)),
 un (.bin 9 .lss (.t 6) (.t 8))])
 (.drop [6, 7, 8] (.cond (.t 9) .skip
 (.exit 0))))
 (.drop [6, 7, 8, 9] (.seq (.block 1 (.seq (.reg [un (.mov 12 (.t 1)),
 un (.mov 13 (.t 5)),
 un (.iad 14 1 (.t 12) (.t 13)),
 un (.ld 15 1 false (.t 14)),
 un (.mov 16 (.t 0)),
 un (.bin 17 .sub (.t 16) (.c (.int .i64 1))),
 un (.call 18 Fw [((.t 15), false), ((.c (.int .i64 0)), false), ((.t 17), false)]),
 un (.un 19 .not (.t 18))])
 (.drop [12, 13, 14, 15, 16, 17, 18] (.cond (.t 19) (.seq (.reg [un (.asg 4 (.c (.bool false)))])
 .ret)
 .skip))))
 (.drop [12, 13, 14, 15, 16, 17, 18, 19] (.reg [un (.mov 10 (.t 5)),
 un (.bin 11 .add (.t 10) (.c (.int .i64 1))),
 un (.asg 5 (.t 11))])))))
def Adb : ACode :=
 (.seq (.reg [un (.asg 4 (.c (.bool false)))])
 (.seq (.seq (.reg [un (.asg 5 (.c (.int .i64 0)))])
 (.block 0 (.loop Pt)))
 (.drop [5, 6, 7, 8, 9, 12, 13, 14, 15, 16, 17, 18, 19, 10, 11] (.seq (.reg [un (.asg 4 (.c (.bool true)))])
 .ret))))
abbrev Ace : List RS := [.t 4]
theorem Acj : A5 Try.prog Me 20 Adb Ace = true := by kernel_rfl
def Ni : ACode :=
 (.seq (.seq (.reg [un (.mov 10 (.t 5)),
 un (.mov 11 (.t 0)),
 un (.bin 12 .lss (.t 10) (.t 11))])
 (.drop [10, 11] (.cond (.t 12) .skip
 (.exit 0))))
 (.drop [10, 11, 12] (.seq (.block 1 (.seq (.dreg [(un (.mov 15 (.t 1)), []),
 (un (.mov 16 (.t 5)), [15]),
 (un (.iad 17 1 (.t 15) (.t 16)), []),
 (un (.ld 18 1 false (.t 17)), []),
 (un (.mov 19 (.t 5)), [15, 16, 17, 18]),
 (un (.call 20 Fw [((.t 18), false), ((.c (.int .i64 0)), false), ((.t 19), false)]), []),
 (un (.un 21 .not (.t 20)), []),
 (un (.asg 22 (.t 21)), []),
 (⟨some (22, false), .mov 23 (.t 1)⟩, [21]),
 (⟨some (22, false), .mov 24 (.t 1)⟩, [23, 21]),
 (⟨some (22, false), .mov 25 (.t 5)⟩, [23, 24, 21]),
 (⟨some (22, false), .iad 26 1 (.t 24) (.t 25)⟩, [23, 21]),
 (⟨some (22, false), .ld 27 1 false (.t 26)⟩, [23, 21]),
 (⟨some (22, false), .iad 28 1 (.t 23) (.t 27)⟩, [21]),
 (⟨some (22, false), .ld 29 1 false (.t 28)⟩, [21]),
 (⟨some (22, false), .mov 30 (.t 1)⟩, [23, 24, 25, 26, 27, 28, 29, 21]),
 (⟨some (22, false), .mov 31 (.t 5)⟩, [23, 24, 25, 26, 27, 28, 29, 30, 21]),
 (⟨some (22, false), .iad 32 1 (.t 30) (.t 31)⟩, [23, 24, 25, 26, 27, 28, 29, 21]),
 (⟨some (22, false), .ld 33 1 false (.t 32)⟩, [23, 24, 25, 26, 27, 28, 29, 21])]
 [⟨some (22, false), .bin 34 .neq (.t 29) (.t 33)⟩,
 un (.pick 35 (.t 22) (.c (.bool true)) (.t 34))])
 (.drop [15, 16, 17, 18, 19, 20, 21, 22, 23, 24, 25, 26, 27, 28, 29, 30, 31, 32, 33, 34] (.cond (.t 35) (.seq (.reg [un (.asg 4 (.c (.bool false)))])
 .ret)
 .skip))))
 (.drop [15, 16, 17, 18, 19, 20, 21, 22, 23, 24, 25, 26, 27, 28, 29, 30, 31, 32, 33, 34, 35] (.reg [un (.mov 13 (.t 5)),
 un (.bin 14 .add (.t 13) (.c (.int .i64 1))),
 un (.asg 5 (.t 14))])))))
def Aa3 : ACode :=
 (.seq (.reg [un (.asg 4 (.c (.bool false)))])
 (.seq (.seq (.reg [un (.mov 6 (.t 1)),
 un (.len 7 (.t 6)),
 un (.mov 8 (.t 0)),
 un (.bin 9 .neq (.t 7) (.t 8))])
 (.drop [6, 7, 8] (.cond (.t 9) (.seq (.reg [un (.asg 4 (.c (.bool false)))])
 .ret)
 .skip)))
 (.drop [6, 7, 8, 9] (.seq (.seq (.reg [un (.asg 5 (.c (.int .i64 0)))])
 (.block 0 (.loop Ni)))
 (.drop [5, 10, 11, 12, 15, 16, 17, 18, 19, 20, 21, 22, 23, 24, 25, 26, 27, 28, 29, 30, 31, 32, 33, 34, 35, 13, 14] (.seq (.reg [un (.asg 4 (.c (.bool true)))])
 .ret))))))
abbrev Aav : List RS := [.t 4]
theorem Aaq : A5 Try.prog Lk 36 Aa3 Aav = true := by kernel_rfl
def Ur : ACode :=
 (.seq (.seq (.reg [un (.mov 11 (.t 5)),
 un (.mov 12 (.t 0)),
 un (.len 13 (.t 12)),
 un (.bin 14 .lss (.t 11) (.t 13))])
 (.drop [11, 12, 13] (.cond (.t 14) .skip
 (.exit 0))))
 (.drop [11, 12, 13, 14] (.seq (.block 1 (.seq (.dreg [(un (.mov 17 (.t 0)), []),
 (un (.mov 18 (.t 5)), [17]),
 (un (.iad 19 1 (.t 17) (.t 18)), []),
 (un (.ld 20 1 false (.t 19)), []),
 (un (.mov 21 (.t 1)), [17, 18, 19, 20]),
 (un (.mov 22 (.t 5)), [17, 18, 19, 20, 21]),
 (un (.iad 23 1 (.t 21) (.t 22)), [17, 18, 19, 20]),
 (un (.ld 24 1 false (.t 23)), [17, 18, 19, 20])]
 [un (.call 25 Mn [((.t 20), false), ((.t 24), false)]),
 un (.un 26 .not (.t 25))])
 (.drop [17, 18, 19, 20, 21, 22, 23, 24, 25] (.cond (.t 26) (.seq (.reg [un (.asg 4 (.c (.bool false)))])
 .ret)
 .skip))))
 (.drop [17, 18, 19, 20, 21, 22, 23, 24, 25, 26] (.reg [un (.mov 15 (.t 5)),
 un (.bin 16 .add (.t 15) (.c (.int .i64 1))),
 un (.asg 5 (.t 16))])))))
def Alb : ACode :=
 (.seq (.reg [un (.asg 4 (.c (.bool false)))])
 (.seq (.seq (.reg [un (.mov 6 (.t 0)),
 un (.len 7 (.t 6)),
 un (.mov 8 (.t 1)),
 un (.len 9 (.t 8)),
 un (.bin 10 .neq (.t 7) (.t 9))])
 (.drop [6, 7, 8, 9] (.cond (.t 10) (.seq (.reg [un (.asg 4 (.c (.bool false)))])
 .ret)
 .skip)))
 (.drop [6, 7, 8, 9, 10] (.seq (.seq (.reg [un (.asg 5 (.c (.int .i64 0)))])
 (.block 0 (.loop Ur)))
 (.drop [5, 11, 12, 13, 14, 17, 18, 19, 20, 21, 22, 23, 24, 25, 26, 15, 16] (.seq (.reg [un (.asg 4 (.c (.bool true)))])
 .ret))))))
abbrev Ak6 : List RS := [.t 4]
theorem Akj : A5 Try.prog Tl 27 Alb Ak6 = true := by kernel_rfl
def Yr : ACode :=
 (.seq (.reg [un (.fadr 7 0 (.t 3)),
 un (.ld 8 1 false (.t 7)),
 un (.bin 9 .lss (.t 8) (.c (.int .i64 1))),
 un (.asg 10 (.t 9)),
 ⟨some (10, false), .fadr 11 0 (.t 3)⟩,
 ⟨some (10, false), .ld 12 1 false (.t 11)⟩,
 ⟨some (10, false), .bin 13 .gtr (.t 12) (.c (.int .i64 3))⟩,
 un (.pick 14 (.t 10) (.c (.bool true)) (.t 13))])
 (.drop [7, 8, 9, 10, 11, 12, 13] (.cond (.t 14) (.seq (.reg [un (.asg 4 (.c (.bool false)))])
 .ret)
 .skip)))
def Pu : ACode :=
 (.seq (.reg [un (.bin 19 .lss (.t 18) (.t 17))])
 (.seq (.cond (.t 19) .skip
 (.exit 0))
 (.seq (.block 1 (.seq (.reg [un (.mov 20 (.t 18)),
 un (.iad 21 1 (.t 16) (.t 18)),
 un (.ld 22 1 false (.t 21)),
 un (.asg 5 (.t 20)),
 un (.asg 6 (.t 22))])
 (.drop [20, 21, 22] (.seq (.reg [un (.mov 23 (.t 6)),
 un (.len 24 (.t 23)),
 un (.fadr 25 0 (.t 3)),
 un (.ld 26 1 false (.t 25)),
 un (.bin 27 .neq (.t 24) (.t 26)),
 un (.asg 28 (.t 27)),
 ⟨some (28, false), .mov 29 (.t 6)⟩,
 ⟨some (28, false), .mov 30 (.t 0)⟩,
 ⟨some (28, false), .call 31 On [((.t 29), false), ((.t 30), false)]⟩,
 ⟨some (28, false), .un 32 .not (.t 31)⟩,
 un (.pick 33 (.t 28) (.c (.bool true)) (.t 32)),
 un (.asg 34 (.t 33)),
 ⟨some (34, false), .mov 35 (.t 5)⟩,
 ⟨some (34, false), .bin 36 .gtr (.t 35) (.c (.int .i64 0))⟩,
 ⟨some (34, false), .asg 37 (.t 36)⟩,
 ⟨some (37, true), .fadr 38 1 (.t 3)⟩,
 ⟨some (37, true), .ld 39 1 false (.t 38)⟩,
 ⟨some (37, true), .mov 40 (.t 5)⟩,
 ⟨some (37, true), .bin 41 .sub (.t 40) (.c (.int .i64 1))⟩,
 ⟨some (37, true), .iad 42 1 (.t 39) (.t 41)⟩,
 ⟨some (37, true), .ld 43 1 false (.t 42)⟩,
 ⟨some (37, true), .mov 44 (.t 6)⟩,
 ⟨some (37, true), .call 45 Kg [((.t 43), false), ((.t 44), false)]⟩,
 ⟨some (37, true), .bin 46 .geq (.t 45) (.c (.int .i64 0))⟩,
 ⟨some (34, false), .pick 47 (.t 37) (.t 46) (.c (.bool false))⟩,
 un (.pick 48 (.t 34) (.c (.bool true)) (.t 47))])
 (.drop [23, 24, 25, 26, 27, 28, 29, 30, 31, 32, 33, 34, 35, 36, 37, 38, 39, 40, 41, 42, 43, 44, 45, 46, 47] (.cond (.t 48) (.seq (.reg [un (.asg 4 (.c (.bool false)))])
 .ret)
 .skip))))))
 (.drop [20, 21, 22, 5, 6, 23, 24, 25, 26, 27, 28, 29, 30, 31, 32, 33, 34, 35, 36, 37, 38, 39, 40, 41, 42, 43, 44, 45, 46, 47, 48] (.reg [un (.bin 49 .add (.t 18) (.c (.int .i64 1))),
 un (.asg 18 (.t 49))])))))
def Ab6 : ACode :=
 (.seq (.reg [un (.box 3 (.t 1)),
 un (.asg 4 (.c (.bool false)))])
 (.seq (.cut Yr)
 (.drop [7, 8, 9, 10, 11, 12, 13, 14] (.seq (.seq (.reg [un (.fadr 15 1 (.t 3)),
 un (.ld 16 1 false (.t 15)),
 un (.len 17 (.t 16)),
 un (.mov 18 (.c (.int .i64 0)))])
 (.drop [15] (.block 0 (.loop Pu))))
 (.drop [15, 16, 17, 18, 19, 20, 21, 22, 5, 6, 23, 24, 25, 26, 27, 28, 29, 30, 31, 32, 33, 34, 35, 36, 37, 38, 39, 40, 41, 42, 43, 44, 45, 46, 47, 48, 49] (.seq (.reg [un (.asg 4 (.c (.bool true)))])
 .ret))))))
abbrev Acg : List RS := [.t 4]
theorem Adi : A5 Try.prog I4 50 Ab6 Acg = true := by kernel_rfl
def Ahn : ACode :=
 (.seq (.reg [un (.alc 2 (.agg [.int .i64 0, .nilsl 2]))])
 (.seq (.seq (.reg [un (.mov 3 (.t 0))])
 (.block 0 (.seq (.reg [un (.bin 5 .eql (.t 3) (.c (.int .i64 0))),
 un (.asg 4 (.t 5))])
 (.drop [5] (.cond (.t 4) (.seq (.reg [⟨none, .call 6 Bf [((.c (.str ⟨#[48, 48, 48, 49]⟩)), false)]⟩,
 un (.bsl 7 2 [(.t 6)]),
 un (.bld 8 [.int .i64 0, .nilsl 2] [(0, 1, (.c (.int .i64 2))), (1, 1, (.t 7))]),
 un (.st 2 (.t 2) (.t 8))])
 (.drop [6, 7, 8] .ret))
 (.seq (.reg [un (.bin 10 .eql (.t 3) (.c (.int .i64 1))),
 un (.asg 9 (.t 10))])
 (.drop [10] (.cond (.t 9) (.seq (.reg [⟨none, .call 11 Bf [((.c (.str ⟨#[48, 48, 48, 49]⟩)), false)]⟩,
 ⟨none, .call 12 Bf [((.c (.str ⟨#[48, 49, 49, 49]⟩)), false)]⟩,
 un (.bsl 13 2 [(.t 11), (.t 12)]),
 un (.bld 14 [.int .i64 0, .nilsl 2] [(0, 1, (.c (.int .i64 2))), (1, 1, (.t 13))]),
 un (.st 2 (.t 2) (.t 14))])
 (.drop [11, 12, 13, 14] .ret))
 (.seq (.reg [un (.bin 16 .eql (.t 3) (.c (.int .i64 2))),
 un (.asg 15 (.t 16))])
 (.drop [16] (.cond (.t 15) (.seq (.reg [⟨none, .call 17 Bf [((.c (.str ⟨#[48, 48, 48, 49]⟩)), false)]⟩,
 ⟨none, .call 18 Bf [((.c (.str ⟨#[48, 49, 49, 49]⟩)), false)]⟩,
 un (.bsl 19 1 [(.c (.int .i64 1)), (.c (.int .i64 0))]),
 un (.bld 20 [.int .i64 0, .nilsl 1] [(0, 1, (.c (.int .i64 1))), (1, 1, (.t 19))]),
 un (.bsl 21 2 [(.t 17), (.t 18), (.t 20)]),
 un (.bld 22 [.int .i64 0, .nilsl 2] [(0, 1, (.c (.int .i64 2))), (1, 1, (.t 21))]),
 un (.st 2 (.t 2) (.t 22))])
 (.drop [17, 18, 19, 20, 21, 22] .ret))
 (.seq (.reg [un (.bin 24 .eql (.t 3) (.c (.int .i64 3))),
 un (.asg 23 (.t 24))])
 (.drop [24] (.cond (.t 23) (.seq (.reg [un (.call 25 Lg [((.c (.int .i64 2)), false)]),
 un (.bsl 26 2 [(.t 25)]),
 un (.bld 27 [.int .i64 0, .nilsl 2] [(0, 1, (.c (.int .i64 2))), (1, 1, (.t 26))]),
 un (.st 2 (.t 2) (.t 27))])
 (.drop [25, 26, 27] .ret))
 (.seq (.reg [un (.bin 29 .eql (.t 3) (.c (.int .i64 4))),
 un (.asg 28 (.t 29))])
 (.drop [29] (.cond (.t 28) (.seq (.reg [⟨none, .call 30 Bf [((.c (.str ⟨#[48, 49, 50, 49, 50, 48, 50, 48, 49]⟩)), false)]⟩,
 un (.bsl 31 2 [(.t 30)]),
 un (.bld 32 [.int .i64 0, .nilsl 2] [(0, 1, (.c (.int .i64 3))), (1, 1, (.t 31))]),
 un (.st 2 (.t 2) (.t 32))])
 (.drop [30, 31, 32] .ret))
 (.seq (.reg [un (.bin 34 .eql (.t 3) (.c (.int .i64 5))),
 un (.asg 33 (.t 34))])
 (.drop [34] (.cond (.t 33) (.seq (.reg [⟨none, .call 35 Bf [((.c (.str ⟨#[48, 49, 48, 49, 49, 50, 48, 50, 50]⟩)), false)]⟩,
 un (.bsl 36 2 [(.t 35)]),
 un (.bld 37 [.int .i64 0, .nilsl 2] [(0, 1, (.c (.int .i64 3))), (1, 1, (.t 36))]),
 un (.st 2 (.t 2) (.t 37))])
 (.drop [35, 36, 37] .ret))
 (.seq (.reg [un (.bin 39 .eql (.t 3) (.c (.int .i64 6))),
 un (.asg 38 (.t 39))])
 (.drop [39] (.cond (.t 38) (.seq (.reg [⟨none, .call 40 Bf [((.c (.str ⟨#[48, 49, 50, 51, 49, 48, 51, 50, 50, 51, 48, 49, 51, 50, 49, 48]⟩)), false)]⟩,
 un (.bsl 41 2 [(.t 40)]),
 un (.bld 42 [.int .i64 0, .nilsl 2] [(0, 1, (.c (.int .i64 4))), (1, 1, (.t 41))]),
 un (.st 2 (.t 2) (.t 42))])
 (.drop [40, 41, 42] .ret))
 (.seq (.reg [un (.bin 44 .eql (.t 3) (.c (.int .i64 7))),
 un (.asg 43 (.t 44))])
 (.drop [44] (.cond (.t 43) (.seq (.reg [⟨none, .call 45 Bf [((.c (.str ⟨#[48, 48, 48, 48, 49, 49, 48, 49, 50]⟩)), false)]⟩,
 ⟨none, .call 46 Bf [((.c (.str ⟨#[48, 49, 50, 49, 49, 50, 50, 50, 50]⟩)), false)]⟩,
 un (.bsl 47 2 [(.t 45), (.t 46)]),
 un (.bld 48 [.int .i64 0, .nilsl 2] [(0, 1, (.c (.int .i64 3))), (1, 1, (.t 47))]),
 un (.st 2 (.t 2) (.t 48))])
 (.drop [45, 46, 47, 48] .ret))
 (.seq (.reg [un (.bin 50 .eql (.t 3) (.c (.int .i64 8))),
 un (.asg 49 (.t 50))])
 (.drop [50] (.cond (.t 49) (.seq (.reg [un (.bsl 51 1 [(.c (.int .i64 1)), (.c (.int .i64 2)), (.c (.int .i64 3)), (.c (.int .i64 0))]),
 un (.bld 52 [.int .i64 0, .nilsl 1] [(0, 1, (.c (.int .i64 1))), (1, 1, (.t 51))]),
 un (.bsl 53 2 [(.t 52)]),
 un (.bld 54 [.int .i64 0, .nilsl 2] [(0, 1, (.c (.int .i64 4))), (1, 1, (.t 53))]),
 un (.st 2 (.t 2) (.t 54))])
 (.drop [51, 52, 53, 54] .ret))
 (.seq (.reg [un (.bin 56 .eql (.t 3) (.c (.int .i64 9))),
 un (.asg 55 (.t 56))])
 (.drop [56] (.cond (.t 55) (.seq (.reg [un (.bsl 57 1 [(.c (.int .i64 0)), (.c (.int .i64 0)), (.c (.int .i64 0)), (.c (.int .i64 1)), (.c (.int .i64 0)), (.c (.int .i64 1)), (.c (.int .i64 1)), (.c (.int .i64 1))]),
 un (.bld 58 [.int .i64 0, .nilsl 1] [(0, 1, (.c (.int .i64 3))), (1, 1, (.t 57))]),
 un (.bsl 59 2 [(.t 58)]),
 un (.bld 60 [.int .i64 0, .nilsl 2] [(0, 1, (.c (.int .i64 2))), (1, 1, (.t 59))]),
 un (.st 2 (.t 2) (.t 60))])
 (.drop [57, 58, 59, 60] .ret))
 (.seq (.reg [un (.bin 62 .eql (.t 3) (.c (.int .i64 10))),
 un (.asg 61 (.t 62))])
 (.drop [62] (.cond (.t 61) (.seq (.reg [⟨none, .call 63 Bf [((.c (.str ⟨#[48, 48, 48, 49, 49, 49, 50, 50, 50]⟩)), false)]⟩,
 un (.bsl 64 2 [(.t 63)]),
 un (.bld 65 [.int .i64 0, .nilsl 2] [(0, 1, (.c (.int .i64 3))), (1, 1, (.t 64))]),
 un (.st 2 (.t 2) (.t 65))])
 (.drop [63, 64, 65] .ret))
 (.seq (.reg [un (.bin 67 .eql (.t 3) (.c (.int .i64 11))),
 un (.asg 66 (.t 67))])
 (.drop [67] (.cond (.t 66) (.seq (.reg [⟨none, .call 68 Bf [((.c (.str ⟨#[48, 48, 48, 48, 48, 48, 49, 48, 48, 49, 48, 48, 50, 48, 50, 48, 48, 48, 51, 51, 48, 49, 50, 51, 52]⟩)), false)]⟩,
 ⟨none, .call 69 Bf [((.c (.str ⟨#[48, 49, 50, 51, 52, 49, 49, 52, 52, 52, 50, 52, 50, 52, 52, 51, 52, 52, 51, 52, 52, 52, 52, 52, 52]⟩)), false)]⟩,
 un (.bsl 70 2 [(.t 68), (.t 69)]),
 un (.bld 71 [.int .i64 0, .nilsl 2] [(0, 1, (.c (.int .i64 5))), (1, 1, (.t 70))]),
 un (.st 2 (.t 2) (.t 71))])
 (.drop [68, 69, 70, 71] .ret))
 (.seq (.reg [un (.bin 73 .eql (.t 3) (.c (.int .i64 12))),
 un (.asg 72 (.t 73))])
 (.drop [73] (.cond (.t 72) (.seq (.reg [⟨none, .call 74 Bf [((.c (.str ⟨#[48, 49, 50, 51, 49, 50, 51, 48, 50, 51, 48, 49, 51, 48, 49, 50]⟩)), false)]⟩,
 un (.bsl 75 2 [(.t 74)]),
 un (.bld 76 [.int .i64 0, .nilsl 2] [(0, 1, (.c (.int .i64 4))), (1, 1, (.t 75))]),
 un (.st 2 (.t 2) (.t 76))])
 (.drop [74, 75, 76] .ret))
 (.seq (.reg [un (.bin 78 .eql (.t 3) (.c (.int .i64 13))),
 un (.asg 77 (.t 78))])
 (.drop [78] (.cond (.t 77) (.seq (.reg [un (.bsl 79 1 [(.c (.int .i64 0)), (.c (.int .i64 0)), (.c (.int .i64 1))]),
 un (.bld 80 [.int .i64 0, .nilsl 1] [(0, 1, (.c (.int .i64 1))), (1, 1, (.t 79))]),
 un (.bsl 81 1 [(.c (.int .i64 2))]),
 un (.bld 82 [.int .i64 0, .nilsl 1] [(0, 1, (.c (.int .i64 0))), (1, 1, (.t 81))]),
 un (.bsl 83 2 [(.t 80), (.t 82)]),
 un (.bld 84 [.int .i64 0, .nilsl 2] [(0, 1, (.c (.int .i64 3))), (1, 1, (.t 83))]),
 un (.st 2 (.t 2) (.t 84))])
 (.drop [79, 80, 81, 82, 83, 84] .ret))
 (.seq (.reg [un (.bin 86 .eql (.t 3) (.c (.int .i64 14))),
 un (.asg 85 (.t 86))])
 (.drop [86] (.cond (.t 85) (.seq (.reg [⟨none, .call 87 Bf [((.c (.str ⟨#[48]⟩)), false)]⟩,
 un (.bsl 88 2 [(.t 87)]),
 un (.bld 89 [.int .i64 0, .nilsl 2] [(0, 1, (.c (.int .i64 1))), (1, 1, (.t 88))]),
 un (.st 2 (.t 2) (.t 89))])
 (.drop [87, 88, 89] .ret))
 (.seq (.reg [un (.bin 91 .eql (.t 3) (.c (.int .i64 15))),
 un (.asg 90 (.t 91))])
 (.drop [91] (.cond (.t 90) (.seq (.reg [un (.call 92 Lg [((.c (.int .i64 3)), false)]),
 un (.bsl 93 2 [(.t 92)]),
 un (.bld 94 [.int .i64 0, .nilsl 2] [(0, 1, (.c (.int .i64 3))), (1, 1, (.t 93))]),
 un (.st 2 (.t 2) (.t 94))])
 (.drop [92, 93, 94] .ret))
 .skip))))))))))))))))))))))))))))))))))))))))))))))))))
 (.drop [3, 5, 4, 6, 7, 8, 10, 9, 11, 12, 13, 14, 16, 15, 17, 18, 19, 20, 21, 22, 24, 23, 25, 26, 27, 29, 28, 30, 31, 32, 34, 33, 35, 36, 37, 39, 38, 40, 41, 42, 44, 43, 45, 46, 47, 48, 50, 49, 51, 52, 53, 54, 56, 55, 57, 58, 59, 60, 62, 61, 63, 64, 65, 67, 66, 68, 69, 70, 71, 73, 72, 74, 75, 76, 78, 77, 79, 80, 81, 82, 83, 84, 86, 85, 87, 88, 89, 91, 90, 92, 93, 94] (.seq (.reg [un (.bld 95 [.int .i64 0, .nilsl 2] [(0, 1, (.c (.int .i64 2)))]),
 un (.st 2 (.t 2) (.t 95))])
 (.drop [95] .ret)))))
abbrev Ag3 : List RS := [.c 2 2 true]
theorem Aje : A5 Try.prog R6 96 Ahn Ag3 = true := by kernel_rfl
def Rl : ACode :=
 (.seq (.reg [un (.bin 11 .lss (.t 10) (.t 9))])
 (.seq (.cond (.t 11) .skip
 (.exit 0))
 (.seq (.block 1 (.seq (.reg [un (.iad 12 1 (.t 8) (.t 10)),
 un (.ld 13 1 false (.t 12)),
 un (.asg 5 (.t 13))])
 (.drop [12, 13] (.reg [un (.mov 14 (.t 3)),
 un (.mov 15 (.t 5)),
 un (.call 16 Qg [((.t 15), false)]),
 un (.mup (.t 14) (.t 16) (.c (.bool true)))]))))
 (.drop [12, 13, 5, 14, 15, 16] (.reg [un (.bin 17 .add (.t 10) (.c (.int .i64 1))),
 un (.asg 10 (.t 17))])))))
def Afx : ACode :=
 (.seq (.reg [un (.box 1 (.t 0)),
 un (.asg 2 (.c (.dead)))])
 (.seq (.reg [un (.mkm 6),
 un (.asg 3 (.t 6))])
 (.drop [6] (.seq (.seq (.reg [un (.fadr 7 1 (.t 1)),
 un (.ld 8 1 false (.t 7)),
 un (.len 9 (.t 8)),
 un (.mov 10 (.c (.int .i64 0)))])
 (.drop [7] (.block 0 (.loop Rl))))
 (.drop [7, 8, 9, 10, 11, 12, 13, 5, 14, 15, 16, 17] (.seq (.reg [un (.mov 18 (.t 3)),
 un (.asg 2 (.t 18))])
 (.drop [18] .ret)))))))
abbrev Ago : List RS := [.t 2]
theorem Agi : A5 Try.prog Px 19 Afx Ago = true := by kernel_rfl
def Sk : ACode :=
 (.seq (.seq (.reg [un (.mov 10 (.t 6)),
 un (.mov 11 (.t 0)),
 un (.mov 12 (.t 1)),
 un (.call 13 J3 [((.t 11), false), ((.t 12), false)]),
 un (.bin 14 .lss (.t 10) (.t 13))])
 (.drop [10, 11, 12, 13] (.cond (.t 14) .skip
 (.exit 0))))
 (.drop [10, 11, 12, 13, 14] (.seq (.block 1 (.dreg [(un (.fadr 17 1 (.t 5)), [22]),
 (un (.ld 18 1 false (.t 17)), [22]),
 (un (.mov 19 (.t 0)), [17, 18]),
 (un (.mov 20 (.t 1)), [17, 18, 19]),
 (un (.mov 21 (.t 6)), [17, 18, 19, 20]),
 (un (.call 22 Oy [((.t 19), false), ((.t 20), false), ((.t 21), false)]), [17, 18]),
 (un (.bsl 23 1 [(.t 22)]), [17, 18])]
 [un (.app 24 1 (.t 18) (.t 23)),
 un (.fadr 25 1 (.t 5)),
 un (.st 1 (.t 25) (.t 24))]))
 (.drop [17, 18, 19, 20, 21, 22, 23, 24, 25] (.reg [un (.mov 15 (.t 6)),
 un (.bin 16 .add (.t 15) (.c (.int .i64 1))),
 un (.asg 6 (.t 16))])))))
def Aio : ACode :=
 (.seq (.reg [un (.alc 4 (.agg [.int .i64 0, .nilsl 1]))])
 (.seq (.reg [un (.mov 7 (.t 1)),
 un (.bsl 8 1 []),
 un (.bld 9 [.int .i64 0, .nilsl 1] [(0, 1, (.t 7)), (1, 1, (.t 8))]),
 un (.alc 5 (.agg [.int .i64 0, .nilsl 1])),
 un (.st 2 (.t 5) (.t 9))])
 (.drop [7, 8, 9] (.seq (.seq (.reg [un (.asg 6 (.c (.int .i64 0)))])
 (.block 0 (.loop Sk)))
 (.drop [6, 10, 11, 12, 13, 14, 17, 18, 19, 20, 21, 22, 23, 24, 25, 15, 16] (.seq (.reg [un (.ld 26 2 true (.t 5)),
 un (.st 2 (.t 4) (.t 26))])
 (.drop [26] .ret)))))))
abbrev Ajh : List RS := [.c 4 2 true]
theorem Ajl : A5 Try.prog Rn 27 Aio Ajh = true := by kernel_rfl
def Uq : ACode :=
 (.seq (.seq (.reg [un (.mov 11 (.t 6)),
 un (.mov 12 (.t 7)),
 un (.bin 13 .lss (.t 11) (.t 12))])
 (.drop [11, 12] (.cond (.t 13) .skip
 (.exit 0))))
 (.drop [11, 12, 13] (.block 1 (.seq (.reg [un (.mov 14 (.t 6)),
 un (.mov 15 (.t 7)),
 un (.bin 16 .add (.t 14) (.t 15)),
 un (.bin 17 .quo (.t 16) (.c (.int .i64 2))),
 un (.asg 8 (.t 17))])
 (.drop [14, 15, 16, 17] (.seq (.reg [un (.mov 18 (.t 0)),
 un (.mov 19 (.t 8)),
 un (.iad 20 1 (.t 18) (.t 19)),
 un (.ld 21 1 false (.t 20)),
 un (.mov 22 (.t 1)),
 un (.call 23 Ot [((.t 21), false), ((.t 22), false)])])
 (.drop [18, 19, 20, 21, 22] (.cond (.t 23) (.reg [un (.mov 24 (.t 8)),
 un (.bin 25 .add (.t 24) (.c (.int .i64 1))),
 un (.asg 6 (.t 25))])
 (.reg [un (.mov 26 (.t 8)),
 un (.asg 7 (.t 26))])))))))))
def Ak5 : ACode :=
 (.seq (.reg [un (.asg 4 (.c (.int .i64 0))),
 un (.asg 5 (.c (.bool false)))])
 (.seq (.reg [un (.mov 9 (.t 0)),
 un (.len 10 (.t 9)),
 un (.asg 6 (.c (.int .i64 0))),
 un (.asg 7 (.t 10))])
 (.drop [9, 10] (.seq (.block 0 (.loop Uq))
 (.drop [11, 12, 13, 14, 15, 16, 17, 8, 18, 19, 20, 21, 22, 23, 24, 25, 26] (.seq (.reg [un (.mov 27 (.t 6)),
 un (.mov 28 (.t 6)),
 un (.mov 29 (.t 0)),
 un (.len 30 (.t 29)),
 un (.bin 31 .lss (.t 28) (.t 30)),
 un (.asg 32 (.t 31)),
 ⟨some (32, true), .mov 33 (.t 0)⟩,
 ⟨some (32, true), .mov 34 (.t 6)⟩,
 ⟨some (32, true), .iad 35 1 (.t 33) (.t 34)⟩,
 ⟨some (32, true), .ld 36 1 false (.t 35)⟩,
 ⟨some (32, true), .mov 37 (.t 1)⟩,
 ⟨some (32, true), .call 38 Ol [((.t 36), false), ((.t 37), false)]⟩,
 un (.pick 39 (.t 32) (.t 38) (.c (.bool false))),
 un (.asg 4 (.t 27)),
 un (.asg 5 (.t 39))])
 (.drop [27, 28, 29, 30, 31, 32, 33, 34, 35, 36, 37, 38, 39] .ret)))))))
abbrev Aj5 : List RS := [.t 4, .t 5]
theorem Akk : A5 Try.prog Ow 40 Ak5 Aj5 = true := by kernel_rfl
def Kv : ACode :=
 (.seq (.reg [un (.bin 32 .lss (.t 31) (.t 30))])
 (.seq (.cond (.t 32) .skip
 (.exit 6))
 (.seq (.block 7 (.seq (.reg [un (.mov 33 (.t 31)),
 un (.iad 34 1 (.t 29) (.t 31)),
 un (.ld 35 1 false (.t 34)),
 un (.asg 11 (.t 33)),
 un (.asg 12 (.t 35))])
 (.drop [33, 34, 35] (.seq (.dreg [(un (.mov 36 (.t 11)), []),
 (un (.mov 37 (.t 9)), [36]),
 (un (.bin 38 .quo (.t 36) (.t 37)), []),
 (un (.fadr 39 0 (.t 2)), [36, 37, 38]),
 (un (.ld 40 1 false (.t 39)), [36, 37, 38])]
 [un (.bin 41 .rem (.t 38) (.t 40)),
 un (.asg 13 (.t 41))])
 (.drop [36, 37, 38, 39, 40, 41] (.seq (.dreg [(un (.mov 42 (.t 1)), []),
 (un (.mov 43 (.t 12)), [42]),
 (un (.fadr 44 1 (.t 8)), [42, 43]),
 (un (.ld 45 1 false (.t 44)), [42, 43]),
 (un (.mov 46 (.t 11)), [42, 43, 44, 45]),
 (un (.mov 47 (.t 1)), [42, 43, 44, 45, 46]),
 (un (.mov 48 (.t 13)), [42, 43, 44, 45, 46, 47]),
 (un (.iad 49 1 (.t 47) (.t 48)), [42, 43, 44, 45, 46]),
 (un (.ld 50 1 false (.t 49)), [42, 43, 44, 45, 46]),
 (un (.mov 51 (.t 13)), [42, 43, 44, 45, 46, 47, 48, 49, 50]),
 (un (.bin 52 .sub (.t 50) (.t 51)), [42, 43, 44, 45, 46]),
 (un (.mov 53 (.t 9)), [42, 43, 44, 45, 46, 47, 48, 49, 50, 51, 52]),
 (un (.bin 54 .mul (.t 52) (.t 53)), [42, 43, 44, 45, 46]),
 (un (.bin 55 .add (.t 46) (.t 54)), [42, 43, 44, 45]),
 (un (.iad 56 1 (.t 45) (.t 55)), [42, 43]),
 (un (.ld 57 1 false (.t 56)), [42, 43])]
 [un (.call 58 Wp [((.t 42), true), ((.t 43), false), ((.t 57), false)])])
 (.drop [42, 43, 44, 45, 46, 47, 48, 49, 50, 51, 52, 53, 54, 55, 56, 57] (.cond (.t 58) (.reg [un (.asg 6 (.c (.bool true))),
 un (.asg 5 (.c (.bool true)))])
 .skip))))))))
 (.drop [33, 34, 35, 11, 12, 36, 37, 38, 39, 40, 41, 13, 42, 43, 44, 45, 46, 47, 48, 49, 50, 51, 52, 53, 54, 55, 56, 57, 58] (.reg [un (.bin 59 .add (.t 31) (.c (.int .i64 1))),
 un (.asg 31 (.t 59))])))))
def Kl : ACode :=
 (.seq (.seq (.reg [un (.mov 22 (.t 10)),
 un (.fadr 23 0 (.t 8)),
 un (.ld 24 1 false (.t 23)),
 un (.bin 25 .lss (.t 22) (.t 24))])
 (.drop [22, 23, 24] (.cond (.t 25) .skip
 (.exit 4))))
 (.drop [22, 23, 24, 25] (.seq (.block 5 (.seq (.seq (.reg [un (.fadr 28 1 (.t 8)),
 un (.ld 29 1 false (.t 28)),
 un (.len 30 (.t 29)),
 un (.mov 31 (.c (.int .i64 0)))])
 (.drop [28] (.block 6 (.loop Kv))))
 (.drop [28, 29, 30, 31, 32, 33, 34, 35, 11, 12, 36, 37, 38, 39, 40, 41, 13, 42, 43, 44, 45, 46, 47, 48, 49, 50, 51, 52, 53, 54, 55, 56, 57, 58, 59] (.reg [un (.mov 60 (.t 9)),
 un (.fadr 61 0 (.t 2)),
 un (.ld 62 1 false (.t 61)),
 un (.bin 63 .mul (.t 60) (.t 62)),
 un (.asg 9 (.t 63))]))))
 (.drop [28, 29, 30, 31, 32, 33, 34, 35, 11, 12, 36, 37, 38, 39, 40, 41, 13, 42, 43, 44, 45, 46, 47, 48, 49, 50, 51, 52, 53, 54, 55, 56, 57, 58, 59, 60, 61, 62, 63] (.reg [un (.mov 26 (.t 10)),
 un (.bin 27 .add (.t 26) (.c (.int .i64 1))),
 un (.asg 10 (.t 27))])))))
def Ko : ACode :=
 (.seq (.reg [un (.bin 19 .lss (.t 18) (.t 17))])
 (.seq (.cond (.t 19) .skip
 (.exit 2))
 (.seq (.block 3 (.seq (.reg [un (.iad 20 2 (.t 16) (.t 18)),
 un (.ld 21 2 true (.t 20)),
 un (.alc 8 (.agg [.int .i64 0, .nilsl 1])),
 un (.st 2 (.t 8) (.t 21))])
 (.drop [20, 21] (.seq (.reg [un (.asg 9 (.c (.int .i64 1)))])
 (.seq (.reg [un (.asg 10 (.c (.int .i64 0)))])
 (.block 4 (.loop Kl)))))))
 (.drop [20, 21, 8, 9, 10, 22, 23, 24, 25, 28, 29, 30, 31, 32, 33, 34, 35, 11, 12, 36, 37, 38, 39, 40, 41, 13, 42, 43, 44, 45, 46, 47, 48, 49, 50, 51, 52, 53, 54, 55, 56, 57, 58, 59, 60, 61, 62, 63, 26, 27] (.reg [un (.bin 64 .add (.t 18) (.c (.int .i64 1))),
 un (.asg 18 (.t 64))])))))
def Kk : ACode :=
 (.seq (.seq (.reg [un (.mov 14 (.t 6))])
 (.cond (.t 14) .skip
 (.exit 0)))
 (.drop [14] (.block 1 (.seq (.reg [un (.asg 6 (.c (.bool false)))])
 (.seq (.reg [un (.fadr 15 1 (.t 2)),
 un (.ld 16 1 false (.t 15)),
 un (.len 17 (.t 16)),
 un (.mov 18 (.c (.int .i64 0)))])
 (.drop [15] (.block 2 (.loop Ko))))))))
def Xz : ACode :=
 (.seq (.reg [un (.box 2 (.t 0)),
 un (.asg 4 (.c (.bool false)))])
 (.seq (.reg [un (.asg 5 (.c (.bool false)))])
 (.seq (.seq (.reg [un (.asg 6 (.c (.bool true)))])
 (.block 0 (.loop Kk)))
 (.drop [6, 14, 15, 16, 17, 18, 19, 20, 21, 8, 9, 10, 22, 23, 24, 25, 28, 29, 30, 31, 32, 33, 34, 35, 11, 12, 36, 37, 38, 39, 40, 41, 13, 42, 43, 44, 45, 46, 47, 48, 49, 50, 51, 52, 53, 54, 55, 56, 57, 58, 59, 60, 61, 62, 63, 26, 27, 64] (.seq (.reg [un (.mov 65 (.t 5)),
 un (.asg 4 (.t 65))])
 (.drop [65] .ret))))))
abbrev Xk : List RS := [.t 4]
theorem Xx : A5 Try.prog Iu 66 Xz Xk = true := by kernel_rfl
def Sz : ACode :=
 (.seq (.seq (.reg [un (.mov 30 (.t 10)),
 un (.mov 31 (.t 0)),
 un (.len 32 (.t 31)),
 un (.bin 33 .lss (.t 30) (.t 32))])
 (.drop [30, 31, 32] (.cond (.t 33) .skip
 (.exit 0))))
 (.drop [30, 31, 32, 33] (.seq (.block 1 (.seq (.reg [un (.mov 36 (.t 0)),
 un (.mov 37 (.t 10)),
 un (.iad 38 1 (.t 36) (.t 37)),
 un (.ld 39 1 false (.t 38)),
 un (.mov 40 (.t 8)),
 un (.bin 41 .eql (.t 39) (.t 40))])
 (.drop [36, 37, 38, 39, 40] (.cond (.t 41) (.reg [un (.mov 42 (.t 9)),
 un (.mov 43 (.t 7)),
 un (.bsl 44 1 [(.t 43)]),
 un (.app 45 1 (.t 42) (.t 44)),
 un (.asg 9 (.t 45))])
 (.reg [un (.mov 46 (.t 9)),
 un (.mov 47 (.t 0)),
 un (.mov 48 (.t 10)),
 un (.iad 49 1 (.t 47) (.t 48)),
 un (.ld 50 1 false (.t 49)),
 un (.bsl 51 1 [(.t 50)]),
 un (.app 52 1 (.t 46) (.t 51)),
 un (.asg 9 (.t 52))])))))
 (.drop [36, 37, 38, 39, 40, 41, 42, 43, 44, 45, 46, 47, 48, 49, 50, 51, 52] (.reg [un (.mov 34 (.t 10)),
 un (.bin 35 .add (.t 34) (.c (.int .i64 1))),
 un (.asg 10 (.t 35))])))))
def Ahl : ACode :=
 (.seq (.reg [un (.asg 6 (.c (.nilsl 1)))])
 (.seq (.dreg [(un (.mov 11 (.t 0)), []),
 (un (.mov 12 (.t 1)), [11]),
 (un (.iad 13 1 (.t 11) (.t 12)), []),
 (un (.ld 14 1 false (.t 13)), []),
 (un (.mov 15 (.t 0)), [11, 12, 13, 14]),
 (un (.mov 16 (.t 2)), [11, 12, 13, 14, 15]),
 (un (.iad 17 1 (.t 15) (.t 16)), [11, 12, 13, 14]),
 (un (.ld 18 1 false (.t 17)), [11, 12, 13, 14]),
 (un (.call 19 Ju [((.t 14), false), ((.t 18), false)]), []),
 (un (.mov 20 (.t 0)), [11, 12, 13, 14, 15, 16, 17, 18, 19]),
 (un (.mov 21 (.t 1)), [11, 12, 13, 14, 15, 16, 17, 18, 19, 20]),
 (un (.iad 22 1 (.t 20) (.t 21)), [11, 12, 13, 14, 15, 16, 17, 18, 19]),
 (un (.ld 23 1 false (.t 22)), [11, 12, 13, 14, 15, 16, 17, 18, 19]),
 (un (.mov 24 (.t 0)), [11, 12, 13, 14, 15, 16, 17, 18, 19, 20, 21, 22, 23]),
 (un (.mov 25 (.t 2)), [11, 12, 13, 14, 15, 16, 17, 18, 19, 20, 21, 22, 23, 24]),
 (un (.iad 26 1 (.t 24) (.t 25)), [11, 12, 13, 14, 15, 16, 17, 18, 19, 20, 21, 22, 23]),
 (un (.ld 27 1 false (.t 26)), [11, 12, 13, 14, 15, 16, 17, 18, 19, 20, 21, 22, 23])]
 [un (.call 28 Ox [((.t 23), false), ((.t 27), false)]),
 un (.asg 7 (.t 19)),
 un (.asg 8 (.t 28))])
 (.drop [11, 12, 13, 14, 15, 16, 17, 18, 19, 20, 21, 22, 23, 24, 25, 26, 27, 28] (.seq (.reg [un (.bsl 29 1 []),
 un (.asg 9 (.t 29))])
 (.drop [29] (.seq (.seq (.reg [un (.asg 10 (.c (.int .i64 0)))])
 (.block 0 (.loop Sz)))
 (.drop [10, 30, 31, 32, 33, 36, 37, 38, 39, 40, 41, 42, 43, 44, 45, 46, 47, 48, 49, 50, 51, 52, 34, 35] (.seq (.reg [un (.mov 53 (.t 9)),
 un (.asg 6 (.t 53))])
 (.drop [53] .ret)))))))))
abbrev Ahg : List RS := [.t 6]
theorem Ai0 : A5 Try.prog Ho 54 Ahl Ahg = true := by kernel_rfl
def Xd : ACode :=
 (.seq (.seq (.reg [un (.mov 6 (.t 5)),
 un (.mov 7 (.t 0)),
 un (.len 8 (.t 7)),
 un (.bin 9 .lss (.t 6) (.t 8)),
 un (.asg 10 (.t 9)),
 ⟨some (10, true), .mov 11 (.t 0)⟩,
 ⟨some (10, true), .mov 12 (.t 5)⟩,
 ⟨some (10, true), .iad 13 1 (.t 11) (.t 12)⟩,
 ⟨some (10, true), .ld 14 1 false (.t 13)⟩,
 ⟨some (10, true), .call 15 Hw [((.t 14), false)]⟩,
 ⟨some (10, true), .mov 16 (.t 1)⟩,
 ⟨some (10, true), .call 17 Hw [((.t 16), false)]⟩,
 ⟨some (10, true), .bin 18 .gtr (.t 15) (.t 17)⟩,
 ⟨some (10, true), .asg 19 (.t 18)⟩,
 ⟨some (19, false), .mov 20 (.t 0)⟩,
 ⟨some (19, false), .mov 21 (.t 5)⟩,
 ⟨some (19, false), .iad 22 1 (.t 20) (.t 21)⟩,
 ⟨some (19, false), .ld 23 1 false (.t 22)⟩,
 ⟨some (19, false), .call 24 Hw [((.t 23), false)]⟩,
 ⟨some (19, false), .mov 25 (.t 1)⟩,
 ⟨some (19, false), .call 26 Hw [((.t 25), false)]⟩,
 ⟨some (19, false), .bin 27 .eql (.t 24) (.t 26)⟩,
 ⟨some (19, false), .asg 28 (.t 27)⟩,
 ⟨some (28, true), .mov 29 (.t 0)⟩,
 ⟨some (28, true), .mov 30 (.t 5)⟩,
 ⟨some (28, true), .iad 31 1 (.t 29) (.t 30)⟩,
 ⟨some (28, true), .ld 32 1 false (.t 31)⟩,
 ⟨some (28, true), .mov 33 (.t 1)⟩,
 ⟨some (28, true), .call 34 Uf [((.t 32), false), ((.t 33), false)]⟩,
 ⟨some (19, false), .pick 35 (.t 28) (.t 34) (.c (.bool false))⟩,
 ⟨some (10, true), .pick 36 (.t 19) (.c (.bool true)) (.t 35)⟩,
 un (.pick 37 (.t 10) (.t 36) (.c (.bool false)))])
 (.drop [6, 7, 8, 9, 10, 11, 12, 13, 14, 15, 16, 17, 18, 19, 20, 21, 22, 23, 24, 25, 26, 27, 28, 29, 30, 31, 32, 33, 34, 35, 36] (.cond (.t 37) .skip
 (.exit 0))))
 (.drop [6, 7, 8, 9, 10, 11, 12, 13, 14, 15, 16, 17, 18, 19, 20, 21, 22, 23, 24, 25, 26, 27, 28, 29, 30, 31, 32, 33, 34, 35, 36, 37] (.block 1 (.reg [un (.mov 38 (.t 5)),
 un (.bin 39 .add (.t 38) (.c (.int .i64 1))),
 un (.asg 5 (.t 39))]))))
def Agm : ACode :=
 (.seq (.reg [un (.mov 40 (.t 5)),
 un (.mov 41 (.t 0)),
 un (.len 42 (.t 41)),
 un (.bin 43 .lss (.t 40) (.t 42)),
 un (.asg 44 (.t 43)),
 ⟨some (44, true), .mov 45 (.t 0)⟩,
 ⟨some (44, true), .mov 46 (.t 5)⟩,
 ⟨some (44, true), .iad 47 1 (.t 45) (.t 46)⟩,
 ⟨some (44, true), .ld 48 1 false (.t 47)⟩,
 ⟨some (44, true), .mov 49 (.t 1)⟩,
 ⟨some (44, true), .call 50 Ol [((.t 48), false), ((.t 49), false)]⟩,
 un (.pick 51 (.t 44) (.t 50) (.c (.bool false)))])
 (.drop [40, 41, 42, 43, 44, 45, 46, 47, 48, 49, 50] (.cond (.t 51) (.seq (.reg [un (.mov 52 (.t 0)),
 un (.asg 4 (.t 52))])
 (.drop [52] .ret))
 .skip)))
def An6 : ACode :=
 (.seq (.reg [un (.asg 4 (.c (.nilsl 1)))])
 (.seq (.reg [un (.asg 5 (.c (.int .i64 0)))])
 (.seq (.block 0 (.loop Xd))
 (.drop [6, 7, 8, 9, 10, 11, 12, 13, 14, 15, 16, 17, 18, 19, 20, 21, 22, 23, 24, 25, 26, 27, 28, 29, 30, 31, 32, 33, 34, 35, 36, 37, 38, 39] (.seq (.cut Agm)
 (.drop [40, 41, 42, 43, 44, 45, 46, 47, 48, 49, 50, 51, 52] (.seq (.dreg [(un (.bsl 53 1 []), [58]),
 (un (.mov 54 (.t 0)), [53, 58]),
 (un (.mov 55 (.t 5)), [53, 54, 58]),
 (un (.slc 56 1 (.t 54) none (some (.t 55))), [53, 58]),
 (un (.app 57 1 (.t 53) (.t 56)), [58]),
 (un (.mov 58 (.t 1)), [53, 54, 55, 56, 57, 53]),
 (un (.bsl 59 1 [(.t 58)]), [53, 54, 55, 56, 57, 53]),
 (un (.app 60 1 (.t 57) (.t 59)), [53, 58]),
 (un (.mov 61 (.t 0)), [53, 54, 55, 56, 57, 58, 59, 60, 53, 58, 57]),
 (un (.mov 62 (.t 5)), [53, 54, 55, 56, 57, 58, 59, 60, 61, 53, 58, 57]),
 (un (.slc 63 1 (.t 61) (some (.t 62)) none), [53, 54, 55, 56, 57, 58, 59, 60, 53, 58, 57])]
 [un (.app 64 1 (.t 60) (.t 63)),
 un (.asg 4 (.t 64))])
 (.drop [53, 54, 55, 56, 57, 58, 59, 60, 61, 62, 63, 64] .ret))))))))
abbrev Ano : List RS := [.t 4]
theorem Anv : A5 Try.prog Qq 65 An6 Ano = true := by kernel_rfl
def Q0 : ACode :=
 (.seq (.reg [un (.alc 4 (.agg [.int .i64 0, .nilsl 1])),
 un (.asg 5 (.c (.bool false)))])
 (.seq (.seq (.reg [un (.mov 6 (.t 0)),
 un (.call 7 It [((.t 6), false)]),
 un (.un 8 .not (.t 7)),
 un (.asg 9 (.t 8)),
 ⟨some (9, false), .mov 10 (.t 0)⟩,
 ⟨some (9, false), .mov 11 (.t 1)⟩,
 ⟨some (9, false), .call 12 Lk [((.t 10), false), ((.t 11), false)]⟩,
 ⟨some (9, false), .un 13 .not (.t 12)⟩,
 un (.pick 14 (.t 9) (.c (.bool true)) (.t 13))])
 (.drop [6, 7, 8, 9, 10, 11, 12, 13] (.cond (.t 14) (.seq (.reg [un (.bld 15 [.int .i64 0, .nilsl 1] []),
 un (.st 2 (.t 4) (.t 15)),
 un (.asg 5 (.c (.bool false)))])
 (.drop [15] .ret))
 .skip)))
 (.drop [6, 7, 8, 9, 10, 11, 12, 13, 14, 15] (.seq (.reg [un (.mov 16 (.t 1)),
 un (.call 17 Ec [((.t 16), false)]),
 un (.st 2 (.t 4) (.t 17)),
 un (.asg 5 (.c (.bool true)))])
 (.drop [16, 17] .ret)))))
abbrev Ry : List RS := [.c 4 2 true, .t 5]
theorem Re : A5 Try.prog Gh 18 Q0 Ry = true := by kernel_rfl
def Aee : ACode :=
 (.seq (.reg [un (.box 2 (.t 0)),
 un (.box 3 (.t 1)),
 un (.asg 4 (.c (.bool false)))])
 (.seq (.reg [un (.fadr 5 0 (.t 2)),
 un (.ld 6 1 false (.t 5)),
 un (.fadr 7 0 (.t 3)),
 un (.ld 8 1 false (.t 7)),
 un (.bin 9 .eql (.t 6) (.t 8)),
 un (.asg 10 (.t 9)),
 ⟨some (10, true), .fadr 11 1 (.t 2)⟩,
 ⟨some (10, true), .ld 12 1 false (.t 11)⟩,
 ⟨some (10, true), .fadr 13 1 (.t 3)⟩,
 ⟨some (10, true), .ld 14 1 false (.t 13)⟩,
 ⟨some (10, true), .call 15 Tl [((.t 12), false), ((.t 14), false)]⟩,
 un (.pick 16 (.t 10) (.t 15) (.c (.bool false))),
 un (.asg 4 (.t 16))])
 (.drop [5, 6, 7, 8, 9, 10, 11, 12, 13, 14, 15, 16] .ret)))
abbrev Ad3 : List RS := [.t 4]
theorem Aez : A5 Try.prog J9 17 Aee Ad3 = true := by kernel_rfl
def Adu : ACode :=
 (.seq (.reg [un (.fadr 4 0 (.t 1)),
 un (.ld 5 1 false (.t 4)),
 un (.call 6 Fw [((.t 5), false), ((.c (.int .i64 1)), false), ((.c (.int .i64 8)), false)]),
 un (.un 7 .not (.t 6)),
 un (.asg 8 (.t 7)),
 ⟨some (8, false), .fadr 9 1 (.t 1)⟩,
 ⟨some (8, false), .ld 10 1 false (.t 9)⟩,
 ⟨some (8, false), .len 11 (.t 10)⟩,
 ⟨some (8, false), .bin 12 .gtr (.t 11) (.c (.int .i64 4))⟩,
 un (.pick 13 (.t 8) (.c (.bool true)) (.t 12))])
 (.drop [4, 5, 6, 7, 8, 9, 10, 11, 12] (.cond (.t 13) (.seq (.reg [un (.asg 2 (.c (.bool false)))])
 .ret)
 .skip)))
def Vv : ACode :=
 (.seq (.seq (.reg [un (.mov 14 (.t 3)),
 un (.fadr 15 1 (.t 1)),
 un (.ld 16 1 false (.t 15)),
 un (.len 17 (.t 16)),
 un (.bin 18 .lss (.t 14) (.t 17))])
 (.drop [14, 15, 16, 17] (.cond (.t 18) .skip
 (.exit 0))))
 (.drop [14, 15, 16, 17, 18] (.seq (.block 1 (.seq (.dreg [(un (.fadr 21 0 (.t 1)), []),
 (un (.ld 22 1 false (.t 21)), []),
 (un (.fadr 23 1 (.t 1)), [21, 22]),
 (un (.ld 24 1 false (.t 23)), [21, 22]),
 (un (.mov 25 (.t 3)), [21, 22, 23, 24]),
 (un (.iad 26 2 (.t 24) (.t 25)), [21, 22]),
 (un (.ld 27 2 true (.t 26)), [21, 22])]
 [un (.call 28 Ya [((.t 22), false), ((.t 27), false)]),
 un (.un 29 .not (.t 28))])
 (.drop [21, 22, 23, 24, 25, 26, 27, 28] (.cond (.t 29) (.seq (.reg [un (.asg 2 (.c (.bool false)))])
 .ret)
 .skip))))
 (.drop [21, 22, 23, 24, 25, 26, 27, 28, 29] (.reg [un (.mov 19 (.t 3)),
 un (.bin 20 .add (.t 19) (.c (.int .i64 1))),
 un (.asg 3 (.t 20))])))))
def Ala : ACode :=
 (.seq (.reg [un (.box 1 (.t 0)),
 un (.asg 2 (.c (.bool false)))])
 (.seq (.cut Adu)
 (.drop [4, 5, 6, 7, 8, 9, 10, 11, 12, 13] (.seq (.seq (.reg [un (.asg 3 (.c (.int .i64 0)))])
 (.block 0 (.loop Vv)))
 (.drop [3, 14, 15, 16, 17, 18, 21, 22, 23, 24, 25, 26, 27, 28, 29, 19, 20] (.seq (.reg [un (.asg 2 (.c (.bool true)))])
 .ret))))))
abbrev Akx : List RS := [.t 2]
theorem Ald : A5 Try.prog Ud 30 Ala Akx = true := by kernel_rfl
def Aeq : ACode :=
 (.seq (.reg [un (.asg 4 (.c (.bool false)))])
 (.seq (.reg [un (.mov 5 (.t 0)),
 un (.mov 6 (.t 1)),
 un (.call 7 Aq [((.t 5), true), ((.t 6), false)]),
 un (.bin 8 .eql (.t 7) (.c (.int .i64 0))),
 un (.asg 4 (.t 8))])
 (.drop [5, 6, 7, 8] .ret)))
abbrev Aei : List RS := [.t 4]
theorem Aes : A5 Try.prog C6 9 Aeq Aei = true := by kernel_rfl
def Aar : ACode :=
 (.seq (.reg [un (.asg 4 (.c (.int .i64 0)))])
 (.seq (.reg [un (.mov 5 (.t 1)),
 un (.mov 6 (.t 0)),
 un (.mov 7 (.t 1)),
 un (.len 8 (.t 7)),
 un (.call 9 Aq [((.t 6), true), ((.t 8), false)]),
 un (.iad 10 1 (.t 5) (.t 9)),
 un (.ld 11 1 false (.t 10)),
 un (.asg 4 (.t 11))])
 (.drop [5, 6, 7, 8, 9, 10, 11] .ret)))
abbrev Abm : List RS := [.t 4]
theorem Aa0 : A5 Try.prog A2 12 Aar Abm = true := by kernel_rfl
def Ph : ACode :=
 (.seq (.seq (.reg [un (.mov 43 (.t 15)),
 un (.bin 44 .geq (.t 43) (.c (.int .i64 0)))])
 (.drop [43] (.cond (.t 44) .skip
 (.exit 2))))
 (.drop [43, 44] (.seq (.block 3 (.seq (.reg [un (.mov 47 (.t 11)),
 un (.mov 48 (.t 15)),
 un (.mov 49 (.t 14)),
 un (.mov 50 (.t 10)),
 un (.bin 51 .rem (.t 49) (.t 50)),
 un (.iad 52 1 (.t 47) (.t 48)),
 un (.st 1 (.t 52) (.t 51))])
 (.drop [47, 48, 49, 50, 51, 52] (.reg [un (.mov 53 (.t 14)),
 un (.mov 54 (.t 10)),
 un (.bin 55 .quo (.t 53) (.t 54)),
 un (.asg 14 (.t 55))]))))
 (.drop [47, 48, 49, 50, 51, 52, 53, 54, 55] (.reg [un (.mov 45 (.t 15)),
 un (.bin 46 .sub (.t 45) (.c (.int .i64 1))),
 un (.asg 15 (.t 46))])))))
def Pr : ACode :=
 (.seq (.reg [un (.bin 64 .lss (.t 63) (.t 62))])
 (.seq (.cond (.t 64) .skip
 (.exit 6))
 (.seq (.block 7 (.seq (.reg [un (.iad 65 1 (.t 61) (.t 63)),
 un (.ld 66 1 false (.t 65)),
 un (.asg 19 (.t 66))])
 (.drop [65, 66] (.reg [un (.mov 67 (.t 17)),
 un (.mov 68 (.t 0)),
 un (.bin 69 .mul (.t 67) (.t 68)),
 un (.fadr 70 1 (.t 5)),
 un (.ld 71 1 false (.t 70)),
 un (.mov 72 (.t 19)),
 un (.iad 73 1 (.t 71) (.t 72)),
 un (.ld 74 1 false (.t 73)),
 un (.mov 75 (.t 16)),
 un (.iad 76 1 (.t 74) (.t 75)),
 un (.ld 77 1 false (.t 76)),
 un (.bin 78 .add (.t 69) (.t 77)),
 un (.asg 17 (.t 78))]))))
 (.drop [65, 66, 19, 67, 68, 69, 70, 71, 72, 73, 74, 75, 76, 77, 78] (.reg [un (.bin 79 .add (.t 63) (.c (.int .i64 1))),
 un (.asg 63 (.t 79))])))))
def Oz : ACode :=
 (.seq (.reg [un (.bin 59 .lss (.t 58) (.t 57))])
 (.seq (.cond (.t 59) .skip
 (.exit 4))
 (.seq (.block 5 (.seq (.reg [un (.mov 60 (.t 58)),
 un (.asg 16 (.t 60))])
 (.drop [60] (.seq (.reg [un (.asg 17 (.c (.int .i64 0)))])
 (.seq (.seq (.reg [un (.mov 61 (.t 11)),
 un (.len 62 (.t 61)),
 un (.mov 63 (.c (.int .i64 0)))])
 (.block 6 (.loop Pr)))
 (.drop [61, 62, 63, 64, 65, 66, 19, 67, 68, 69, 70, 71, 72, 73, 74, 75, 76, 77, 78, 79] (.reg [un (.mov 80 (.t 12)),
 un (.mov 81 (.t 16)),
 un (.fadr 82 1 (.t 4)),
 un (.ld 83 1 false (.t 82)),
 un (.mov 84 (.t 17)),
 un (.iad 85 1 (.t 83) (.t 84)),
 un (.ld 86 1 false (.t 85)),
 un (.iad 87 1 (.t 80) (.t 81)),
 un (.st 1 (.t 87) (.t 86))])))))))
 (.drop [60, 16, 17, 61, 62, 63, 64, 65, 66, 19, 67, 68, 69, 70, 71, 72, 73, 74, 75, 76, 77, 78, 79, 80, 81, 82, 83, 84, 85, 86, 87] (.reg [un (.bin 88 .add (.t 58) (.c (.int .i64 1))),
 un (.asg 58 (.t 88))])))))
def Pq : ACode :=
 (.seq (.seq (.reg [un (.mov 31 (.t 13)),
 un (.mov 32 (.t 10)),
 un (.fadr 33 0 (.t 4)),
 un (.ld 34 1 false (.t 33)),
 un (.call 35 Mi [((.t 32), false), ((.t 34), false)]),
 un (.bin 36 .lss (.t 31) (.t 35))])
 (.drop [31, 32, 33, 34, 35] (.cond (.t 36) .skip
 (.exit 0))))
 (.drop [31, 32, 33, 34, 35, 36] (.seq (.block 1 (.seq (.reg [un (.mov 39 (.t 13)),
 un (.asg 14 (.t 39))])
 (.drop [39] (.seq (.seq (.reg [un (.fadr 40 0 (.t 4)),
 un (.ld 41 1 false (.t 40)),
 un (.bin 42 .sub (.t 41) (.c (.int .i64 1))),
 un (.asg 15 (.t 42))])
 (.drop [40, 41, 42] (.block 2 (.loop Ph))))
 (.drop [40, 41, 42, 15, 43, 44, 47, 48, 49, 50, 51, 52, 53, 54, 55, 45, 46] (.seq (.seq (.reg [un (.mov 56 (.t 12)),
 un (.len 57 (.t 56)),
 un (.mov 58 (.c (.int .i64 0)))])
 (.drop [56] (.block 4 (.loop Oz))))
 (.drop [56, 57, 58, 59, 60, 16, 17, 61, 62, 63, 64, 65, 66, 19, 67, 68, 69, 70, 71, 72, 73, 74, 75, 76, 77, 78, 79, 80, 81, 82, 83, 84, 85, 86, 87, 88] (.seq (.reg [un (.mov 89 (.t 9)),
 un (.mov 90 (.t 12)),
 un (.call 91 Qg [((.t 90), false)]),
 un (.mlk 92 (.t 89) (.t 91) (.bool false) false),
 un (.un 93 .not (.t 92))])
 (.drop [89, 90, 91, 92] (.cond (.t 93) (.seq (.reg [un (.mov 94 (.t 11)),
 un (.mov 95 (.t 12)),
 un (.asg 6 (.t 94)),
 un (.asg 7 (.t 95)),
 un (.asg 8 (.c (.bool true)))])
 (.drop [94, 95] .ret))
 .skip))))))))))
 (.drop [39, 14, 40, 41, 42, 15, 43, 44, 47, 48, 49, 50, 51, 52, 53, 54, 55, 45, 46, 56, 57, 58, 59, 60, 16, 17, 61, 62, 63, 64, 65, 66, 19, 67, 68, 69, 70, 71, 72, 73, 74, 75, 76, 77, 78, 79, 80, 81, 82, 83, 84, 85, 86, 87, 88, 89, 90, 91, 92, 93, 94, 95] (.reg [un (.mov 37 (.t 13)),
 un (.bin 38 .add (.t 37) (.c (.int .i64 1))),
 un (.asg 13 (.t 38))])))))
def Ack : ACode :=
 (.seq (.reg [un (.box 4 (.t 1)),
 un (.box 5 (.t 2)),
 un (.asg 6 (.c (.nilsl 1))),
 un (.asg 7 (.c (.nilsl 1))),
 un (.asg 8 (.c (.bool false)))])
 (.seq (.reg [un (.ld 20 2 true (.t 5)),
 un (.call 21 Px [((.t 20), false)]),
 un (.asg 9 (.t 21))])
 (.drop [20, 21] (.seq (.reg [un (.fadr 22 1 (.t 5)),
 un (.ld 23 1 false (.t 22)),
 un (.len 24 (.t 23)),
 un (.asg 10 (.t 24))])
 (.drop [22, 23, 24] (.seq (.reg [un (.fadr 25 0 (.t 4)),
 un (.ld 26 1 false (.t 25)),
 un (.mk 27 1 (.int .i64 0) (.t 26)),
 un (.asg 11 (.t 27))])
 (.drop [25, 26, 27] (.seq (.reg [un (.fadr 28 0 (.t 5)),
 un (.ld 29 1 false (.t 28)),
 un (.mk 30 1 (.int .i64 0) (.t 29)),
 un (.asg 12 (.t 30))])
 (.drop [28, 29, 30] (.seq (.seq (.reg [un (.asg 13 (.c (.int .i64 0)))])
 (.block 0 (.loop Pq)))
 (.drop [13, 31, 32, 33, 34, 35, 36, 39, 14, 40, 41, 42, 15, 43, 44, 47, 48, 49, 50, 51, 52, 53, 54, 55, 45, 46, 56, 57, 58, 59, 60, 16, 17, 61, 62, 63, 64, 65, 66, 19, 67, 68, 69, 70, 71, 72, 73, 74, 75, 76, 77, 78, 79, 80, 81, 82, 83, 84, 85, 86, 87, 88, 89, 90, 91, 92, 93, 94, 95, 37, 38] (.seq (.reg [un (.asg 6 (.c (.nilsl 1))),
 un (.asg 7 (.c (.nilsl 1))),
 un (.asg 8 (.c (.bool false)))])
 .ret))))))))))))
abbrev Ab5 : List RS := [.t 6, .t 7, .t 8]
theorem Ac4 : A5 Try.prog M4 96 Ack Ab5 = true := by kernel_rfl
def Z3 : ACode :=
 (.seq (.reg [un (.fadr 5 0 (.t 1)),
 un (.ld 6 1 false (.t 5)),
 un (.bin 7 .lss (.t 6) (.c (.int .i64 1))),
 un (.asg 8 (.t 7)),
 ⟨some (8, false), .fadr 9 0 (.t 1)⟩,
 ⟨some (8, false), .ld 10 1 false (.t 9)⟩,
 ⟨some (8, false), .bin 11 .gtr (.t 10) (.c (.int .i64 8))⟩,
 un (.pick 12 (.t 8) (.c (.bool true)) (.t 11)),
 un (.asg 13 (.t 12)),
 ⟨some (13, false), .fadr 14 1 (.t 1)⟩,
 ⟨some (13, false), .ld 15 1 false (.t 14)⟩,
 ⟨some (13, false), .len 16 (.t 15)⟩,
 ⟨some (13, false), .bin 17 .gtr (.t 16) (.c (.int .i64 4))⟩,
 un (.pick 18 (.t 13) (.c (.bool true)) (.t 17))])
 (.drop [5, 6, 7, 8, 9, 10, 11, 12, 13, 14, 15, 16, 17] (.cond (.t 18) (.seq (.reg [un (.asg 2 (.c (.bool false)))])
 .ret)
 .skip)))
def P9 : ACode :=
 (.seq (.reg [un (.bin 23 .lss (.t 22) (.t 21))])
 (.seq (.cond (.t 23) .skip
 (.exit 0))
 (.seq (.block 1 (.seq (.reg [un (.iad 24 2 (.t 20) (.t 22)),
 un (.ld 25 2 true (.t 24)),
 un (.alc 4 (.agg [.int .i64 0, .nilsl 1])),
 un (.st 2 (.t 4) (.t 25))])
 (.drop [24, 25] (.seq (.reg [un (.ld 26 2 true (.t 4)),
 un (.fadr 27 0 (.t 1)),
 un (.ld 28 1 false (.t 27)),
 un (.call 29 Se [((.t 26), false), ((.t 28), false)]),
 un (.un 30 .not (.t 29))])
 (.drop [26, 27, 28, 29] (.cond (.t 30) (.seq (.reg [un (.asg 2 (.c (.bool false)))])
 .ret)
 .skip))))))
 (.drop [24, 25, 4, 26, 27, 28, 29, 30] (.reg [un (.bin 31 .add (.t 22) (.c (.int .i64 1))),
 un (.asg 22 (.t 31))])))))
def Ads : ACode :=
 (.seq (.reg [un (.box 1 (.t 0)),
 un (.asg 2 (.c (.bool false)))])
 (.seq (.cut Z3)
 (.drop [5, 6, 7, 8, 9, 10, 11, 12, 13, 14, 15, 16, 17, 18] (.seq (.seq (.reg [un (.fadr 19 1 (.t 1)),
 un (.ld 20 1 false (.t 19)),
 un (.len 21 (.t 20)),
 un (.mov 22 (.c (.int .i64 0)))])
 (.drop [19] (.block 0 (.loop P9))))
 (.drop [19, 20, 21, 22, 23, 24, 25, 4, 26, 27, 28, 29, 30, 31] (.seq (.reg [un (.asg 2 (.c (.bool true)))])
 .ret))))))
abbrev Adt : List RS := [.t 2]
theorem Aex : A5 Try.prog J8 32 Ads Adt = true := by kernel_rfl
def I2 : ACode :=
 (.seq (.seq (.reg [un (.mov 9 (.t 6)),
 un (.mov 10 (.t 1)),
 un (.bin 11 .lss (.t 9) (.t 10))])
 (.drop [9, 10] (.cond (.t 11) .skip
 (.exit 0))))
 (.drop [9, 10, 11] (.seq (.block 1 (.seq (.reg [un (.mov 14 (.t 0)),
 un (.mov 15 (.t 6)),
 un (.bin 16 .add (.t 15) (.c (.int .i64 1))),
 un (.call 17 Aq [((.t 14), true), ((.t 16), false)]),
 un (.asg 7 (.t 17))])
 (.drop [14, 15, 16, 17] (.seq (.seq (.reg [un (.mov 18 (.t 7)),
 un (.mov 19 (.t 6)),
 un (.bin 20 .lss (.t 18) (.t 19))])
 (.drop [18, 19] (.cond (.t 20) (.reg [un (.mov 21 (.t 5)),
 un (.mov 22 (.t 7)),
 un (.iad 23 1 (.t 21) (.t 22)),
 un (.ld 24 1 false (.t 23)),
 un (.asg 7 (.t 24))])
 .skip)))
 (.drop [18, 19, 20, 21, 22, 23, 24] (.reg [un (.mov 25 (.t 5)),
 un (.mov 26 (.t 7)),
 un (.bsl 27 1 [(.t 26)]),
 un (.app 28 1 (.t 25) (.t 27)),
 un (.asg 5 (.t 28))]))))))
 (.drop [14, 15, 16, 17, 7, 18, 19, 20, 21, 22, 23, 24, 25, 26, 27, 28] (.reg [un (.mov 12 (.t 6)),
 un (.bin 13 .add (.t 12) (.c (.int .i64 1))),
 un (.asg 6 (.t 13))])))))
def To : ACode :=
 (.seq (.reg [un (.asg 4 (.c (.nilsl 1)))])
 (.seq (.reg [un (.bsl 8 1 []),
 un (.asg 5 (.t 8))])
 (.drop [8] (.seq (.seq (.reg [un (.asg 6 (.c (.int .i64 0)))])
 (.block 0 (.loop I2)))
 (.drop [6, 9, 10, 11, 14, 15, 16, 17, 7, 18, 19, 20, 21, 22, 23, 24, 25, 26, 27, 28, 12, 13] (.seq (.reg [un (.mov 29 (.t 5)),
 un (.asg 4 (.t 29))])
 (.drop [29] .ret)))))))
abbrev Uc : List RS := [.t 4]
theorem Ue : A5 Try.prog Df 30 To Uc = true := by kernel_rfl
def Aa5 : ACode :=
 (.seq (.reg [un (.box 3 (.t 1)),
 un (.asg 4 (.c (.bool false)))])
 (.seq (.reg [un (.mov 5 (.t 0)),
 un (.call 6 Oq [((.t 5), false)]),
 un (.asg 7 (.t 6)),
 ⟨some (7, true), .mov 8 (.t 0)⟩,
 ⟨some (7, true), .ld 9 2 true (.t 3)⟩,
 ⟨some (7, true), .call 10 I4 [((.t 8), false), ((.t 9), false)]⟩,
 un (.pick 11 (.t 7) (.t 10) (.c (.bool false))),
 un (.asg 4 (.t 11))])
 (.drop [5, 6, 7, 8, 9, 10, 11] .ret)))
abbrev Abk : List RS := [.t 4]
theorem Abl : A5 Try.prog Ie 12 Aa5 Abk = true := by kernel_rfl
def Alc : ACode :=
 (.seq (.reg [un (.box 2 (.t 0)),
 un (.asg 4 (.c (.bool false)))])
 (.seq (.seq (.reg [un (.mov 7 (.t 1)),
 un (.len 8 (.t 7)),
 un (.fadr 9 0 (.t 2)),
 un (.ld 10 1 false (.t 9)),
 un (.bin 11 .neq (.t 8) (.t 10))])
 (.drop [7, 8, 9, 10] (.cond (.t 11) (.seq (.reg [un (.asg 4 (.c (.bool false)))])
 .ret)
 .skip)))
 (.drop [7, 8, 9, 10, 11] (.seq (.reg [un (.fadr 13 1 (.t 2)),
 un (.ld 14 1 false (.t 13)),
 un (.mov 15 (.t 1)),
 un (.call 16 Ow [((.t 14), false), ((.t 15), false)]),
 un (.asg 12 (.t 16)),
 un (.ext 17 (.t 12) 0),
 un (.ext 18 (.t 12) 1),
 un (.asg 5 (.t 17)),
 un (.asg 6 (.t 18))])
 (.drop [13, 14, 15, 16, 12, 17, 18, 5] (.seq (.reg [un (.mov 19 (.t 6)),
 un (.asg 4 (.t 19))])
 (.drop [19] .ret)))))))
abbrev Ale : List RS := [.t 4]
theorem Ak2 : A5 Try.prog Hb 20 Alc Ale = true := by kernel_rfl
def Zy : ACode :=
 (.seq (.reg [un (.box 2 (.t 0)),
 un (.asg 4 (.c (.bool false)))])
 (.seq (.dreg [(un (.fadr 5 0 (.t 2)), []),
 (un (.ld 6 1 false (.t 5)), []),
 (un (.mov 7 (.t 1)), [5, 6]),
 (un (.call 8 Ii [((.t 6), false), ((.t 7), false)]), []),
 (un (.asg 9 (.t 8)), []),
 (⟨some (9, true), .ld 10 2 true (.t 2)⟩, [8]),
 (⟨some (9, true), .mov 11 (.t 1)⟩, [10, 8]),
 (⟨some (9, true), .call 12 Wn [((.t 11), false)]⟩, [10, 8])]
 [⟨some (9, true), .call 13 Iu [((.t 10), false), ((.t 12), true)]⟩,
 ⟨some (9, true), .un 14 .not (.t 13)⟩,
 un (.pick 15 (.t 9) (.t 14) (.c (.bool false))),
 un (.asg 4 (.t 15))])
 (.drop [5, 6, 7, 8, 9, 10, 11, 12, 13, 14, 15] .ret)))
abbrev Zz : List RS := [.t 4]
theorem Zu : A5 Try.prog Kh 16 Zy Zz = true := by kernel_rfl
def Anr : ACode :=
 (.seq (.reg [un (.asg 4 (.c (.nilsl 1)))])
 (.seq (.reg [un (.mov 8 (.t 0)),
 un (.mov 9 (.t 1)),
 un (.call 10 Ow [((.t 8), false), ((.t 9), false)]),
 un (.asg 7 (.t 10)),
 un (.ext 11 (.t 7) 0),
 un (.ext 12 (.t 7) 1),
 un (.asg 5 (.t 11)),
 un (.asg 6 (.t 12))])
 (.drop [8, 9, 10, 7, 11, 12] (.seq (.seq (.reg [un (.mov 13 (.t 6))])
 (.cond (.t 13) (.seq (.reg [un (.mov 14 (.t 0)),
 un (.asg 4 (.t 14))])
 (.drop [14] .ret))
 .skip))
 (.drop [13, 14] (.seq (.frz [0] (.dreg [(un (.bsl 15 1 []), [20]),
 (un (.mov 16 (.t 0)), [15, 20]),
 (un (.mov 17 (.t 5)), [15, 16, 20]),
 (un (.slc 18 1 (.t 16) none (some (.t 17))), [15, 20]),
 (un (.app 19 1 (.t 15) (.t 18)), [20]),
 (un (.mov 20 (.t 1)), [15, 16, 17, 18, 19, 15]),
 (un (.bsl 21 1 [(.t 20)]), [15, 16, 17, 18, 19, 15]),
 (un (.app 22 1 (.t 19) (.t 21)), [15, 20]),
 (un (.mov 23 (.t 0)), [15, 16, 17, 18, 19, 20, 21, 22, 15, 20, 19]),
 (un (.mov 24 (.t 5)), [15, 16, 17, 18, 19, 20, 21, 22, 23, 15, 20, 19]),
 (un (.slc 25 1 (.t 23) (some (.t 24)) none), [15, 16, 17, 18, 19, 20, 21, 22, 15, 20, 19])]
 [un (.app 26 1 (.t 22) (.t 25)),
 un (.asg 4 (.t 26))]))
 (.drop [15, 16, 17, 18, 19, 20, 21, 22, 23, 24, 25, 26] .ret)))))))
abbrev And : List RS := [.t 4]
theorem Am8 : A5 Try.prog Wv 27 Anr And = true := by kernel_rfl
def Ahr : ACode :=
 (.seq (.reg [un (.asg 6 (.c (.bool false)))])
 (.seq (.reg [un (.mov 7 (.t 2)),
 un (.len 8 (.t 7)),
 un (.mov 9 (.t 1)),
 un (.bin 10 .eql (.t 8) (.t 9)),
 un (.asg 11 (.t 10)),
 ⟨some (11, true), .mov 12 (.t 0)⟩,
 ⟨some (11, true), .mov 13 (.t 2)⟩,
 ⟨some (11, true), .call 14 Me [((.t 12), false), ((.t 13), false)]⟩,
 un (.pick 15 (.t 11) (.t 14) (.c (.bool false))),
 un (.asg 6 (.t 15))])
 (.drop [7, 8, 9, 10, 11, 12, 13, 14, 15] .ret)))
abbrev Aji : List RS := [.t 6]
theorem Agw : A5 Try.prog R7 16 Ahr Aji = true := by kernel_rfl
def V6 : ACode :=
 (.seq (.seq (.reg [un (.mov 9 (.t 6)),
 un (.mov 10 (.t 1)),
 un (.len 11 (.t 10)),
 un (.bin 12 .lss (.t 9) (.t 11))])
 (.drop [9, 10, 11] (.cond (.t 12) .skip
 (.exit 0))))
 (.drop [9, 10, 11, 12] (.seq (.block 1 (.reg [un (.mov 15 (.t 5)),
 un (.mov 16 (.t 6)),
 un (.mov 17 (.t 1)),
 un (.mov 18 (.t 6)),
 un (.iad 19 1 (.t 17) (.t 18)),
 un (.ld 20 1 false (.t 19)),
 un (.call 21 Ho [((.t 15), false), ((.t 16), false), ((.t 20), false)]),
 un (.asg 5 (.t 21))]))
 (.drop [15, 16, 17, 18, 19, 20, 21] (.reg [un (.mov 13 (.t 6)),
 un (.bin 14 .add (.t 13) (.c (.int .i64 1))),
 un (.asg 6 (.t 14))])))))
def Aki : ACode :=
 (.seq (.reg [un (.asg 4 (.c (.nilsl 1)))])
 (.seq (.reg [un (.mov 7 (.t 0)),
 un (.call 8 J0 [((.t 7), false)]),
 un (.asg 5 (.t 8))])
 (.drop [7, 8] (.seq (.seq (.reg [un (.asg 6 (.c (.int .i64 0)))])
 (.block 0 (.loop V6)))
 (.drop [6, 9, 10, 11, 12, 15, 16, 17, 18, 19, 20, 21, 13, 14] (.seq (.reg [un (.mov 22 (.t 5)),
 un (.asg 4 (.t 22))])
 (.drop [22] .ret)))))))
abbrev Ajr : List RS := [.t 4]
theorem Aks : A5 Try.prog T6 23 Aki Ajr = true := by kernel_rfl
end Go.Proofs.Ytcpgnfohmeineaa.Ax
