/-
  The small code of the functions, written by program; that the program's code is this one, the kernel looks at.
-/
import Derived.Test.YtoaojijoefljaaaAx3
import Derived.Test.YtoaojijoefljaaaProg
import Derived.KernelRfl
import Derived.Test.YtoaojijoefljaaaNum
namespace Go.Proofs.Ytoaojijoefljaaa.Ax
open Go
set_option maxRecDepth 100000
def Ajc : ACode :=
 (.seq (.reg [un (.asg 2 (.c (.bool false)))])
 (.seq (.reg [un (.mov 3 (.t 0)),
 un (.len 4 (.t 3)),
 un (.bin 5 .gtr (.t 4) (.c (.int .i64 65536))),
 un (.asg 2 (.t 5))])
 (.drop [3, 4, 5] .ret)))
abbrev Alg : List RS := [.t 2]
theorem Ai8 : Bi Try.prog Up 6 Ajc Alg = true := by kernel_rfl
def S0 : ACode :=
 (.seq (.seq (.reg [un (.mov 11 (.t 5)),
 un (.mov 12 (.t 0)),
 un (.len 13 (.t 12)),
 un (.bin 14 .lss (.t 11) (.t 13))])
 (.drop [11, 12, 13] (.cond (.t 14) .skip
 (.exit 0))))
 (.drop [11, 12, 13, 14] (.seq (.block 1 (.seq (.dreg [(un (.mov 17 (.t 0)), []),
 (un (.mov 18 (.t 5)), [17]),
 (un (.iad 19 1 (.t 17) (.t 18)), []),
 (un (.ld 20 1 false (.t 19)), []),
 (un (.mov 21 (.t 1)), [17, 18, 19, 20]),
 (un (.mov 22 (.t 5)), [17, 18, 19, 20, 21]),
 (un (.iad 23 1 (.t 21) (.t 22)), [17, 18, 19, 20]),
 (un (.ld 24 1 false (.t 23)), [17, 18, 19, 20])]
 [un (.bin 25 .neq (.t 20) (.t 24))])
 (.drop [17, 18, 19, 20, 21, 22, 23, 24] (.cond (.t 25) (.seq (.reg [un (.asg 4 (.c (.bool false)))])
 .ret)
 .skip))))
 (.drop [17, 18, 19, 20, 21, 22, 23, 24, 25] (.reg [un (.mov 15 (.t 5)),
 un (.bin 16 .add (.t 15) (.c (.int .i64 1))),
 un (.asg 5 (.t 16))])))))
def Aix : ACode :=
 (.seq (.reg [un (.asg 4 (.c (.bool false)))])
 (.seq (.seq (.reg [un (.mov 6 (.t 0)),
 un (.len 7 (.t 6)),
 un (.mov 8 (.t 1)),
 un (.len 9 (.t 8)),
 un (.bin 10 .neq (.t 7) (.t 9))])
 (.drop [6, 7, 8, 9] (.cond (.t 10) (.seq (.reg [un (.asg 4 (.c (.bool false)))])
 .ret)
 .skip)))
 (.drop [6, 7, 8, 9, 10] (.seq (.seq (.reg [un (.asg 5 (.c (.int .i64 0)))])
 (.block 0 (.loop S0)))
 (.drop [5, 11, 12, 13, 14, 17, 18, 19, 20, 21, 22, 23, 24, 25, 15, 16] (.seq (.reg [un (.asg 4 (.c (.bool true)))])
 .ret))))))
abbrev Aif : List RS := [.t 4]
theorem Ahc : Bi Try.prog Ng 26 Aix Aif = true := by kernel_rfl
def S7 : ACode :=
 (.seq (.reg [un (.bin 13 .lss (.t 12) (.t 11))])
 (.seq (.cond (.t 13) .skip
 (.exit 0))
 (.seq (.block 1 (.seq (.reg [un (.iad 14 1 (.t 10) (.t 12)),
 un (.ld 15 1 false (.t 14)),
 un (.asg 5 (.t 15))])
 (.drop [14, 15] (.reg [un (.mov 16 (.t 3)),
 un (.mov 17 (.t 5)),
 un (.bin 18 .shr (.t 17) (.c (.int .u64 8))),
 un (.cnv 19 .u8 (.t 18)),
 un (.mov 20 (.t 5)),
 un (.cnv 21 .u8 (.t 20)),
 un (.bsl 22 1 [(.t 19), (.t 21)]),
 un (.app 23 1 (.t 16) (.t 22)),
 un (.asg 3 (.t 23))]))))
 (.drop [14, 15, 5, 16, 17, 18, 19, 20, 21, 22, 23] (.reg [un (.bin 24 .add (.t 12) (.c (.int .i64 1))),
 un (.asg 12 (.t 24))])))))
def Ahv : ACode :=
 (.seq (.reg [⟨none, .asg 2 (.c (.str ⟨#[]⟩))⟩])
 (.seq (.reg [un (.mov 6 (.t 0)),
 un (.len 7 (.t 6)),
 un (.bin 8 .mul (.c (.int .i64 2)) (.t 7)),
 un (.mkc 9 1 (.int .u8 0) (.t 8)),
 un (.asg 3 (.t 9))])
 (.drop [6, 7, 8, 9] (.seq (.seq (.reg [un (.mov 10 (.t 0)),
 un (.len 11 (.t 10)),
 un (.mov 12 (.c (.int .i64 0)))])
 (.block 0 (.loop S7)))
 (.drop [10, 11, 12, 13, 14, 15, 5, 16, 17, 18, 19, 20, 21, 22, 23, 24] (.seq (.reg [un (.mov 25 (.t 3)),
 un (.bstr 26 (.t 25)),
 un (.asg 2 (.t 26))])
 (.drop [25, 26] .ret)))))))
abbrev Aiy : List RS := [.t 2]
theorem Aha : Bi Try.prog Gp 27 Ahv Aiy = true := by kernel_rfl
def Oi : ACode :=
 (.seq (.reg [un (.bin 15 .lss (.t 14) (.t 13))])
 (.seq (.cond (.t 15) .skip
 (.exit 0))
 (.seq (.block 1 (.seq (.reg [un (.mov 16 (.t 14)),
 un (.iad 17 1 (.t 12) (.t 14)),
 un (.ld 18 1 false (.t 17)),
 un (.asg 5 (.t 16)),
 un (.asg 6 (.t 18))])
 (.drop [16, 17, 18] (.seq (.reg [un (.mov 19 (.t 1)),
 un (.mov 20 (.t 5)),
 un (.iad 21 1 (.t 19) (.t 20)),
 un (.ld 22 1 false (.t 21)),
 un (.mov 23 (.t 6)),
 un (.bin 24 .neq (.t 22) (.t 23))])
 (.drop [19, 20, 21, 22, 23] (.cond (.t 24) (.seq (.reg [un (.asg 4 (.c (.bool false)))])
 .ret)
 .skip))))))
 (.drop [16, 17, 18, 5, 6, 19, 20, 21, 22, 23, 24] (.reg [un (.bin 25 .add (.t 14) (.c (.int .i64 1))),
 un (.asg 14 (.t 25))])))))
def Aca : ACode :=
 (.seq (.reg [un (.asg 4 (.c (.bool false)))])
 (.seq (.seq (.reg [un (.mov 7 (.t 0)),
 un (.len 8 (.t 7)),
 un (.mov 9 (.t 1)),
 un (.len 10 (.t 9)),
 un (.bin 11 .neq (.t 8) (.t 10))])
 (.drop [7, 8, 9, 10] (.cond (.t 11) (.seq (.reg [un (.asg 4 (.c (.bool false)))])
 .ret)
 .skip)))
 (.drop [7, 8, 9, 10, 11] (.seq (.seq (.reg [un (.mov 12 (.t 0)),
 un (.len 13 (.t 12)),
 un (.mov 14 (.c (.int .i64 0)))])
 (.block 0 (.loop Oi)))
 (.drop [12, 13, 14, 15, 16, 17, 18, 5, 6, 19, 20, 21, 22, 23, 24, 25] (.seq (.reg [un (.asg 4 (.c (.bool true)))])
 .ret))))))
abbrev Acj : List RS := [.t 4]
theorem Ack : Bi Try.prog Mn 26 Aca Acj = true := by kernel_rfl
def Sy : ACode :=
 (.seq (.seq (.reg [un (.mov 6 (.t 1)),
 un (.bin 7 .gtr (.t 6) (.c (.int .i64 0)))])
 (.drop [6] (.cond (.t 7) .skip
 (.exit 0))))
 (.drop [6, 7] (.seq (.block 1 (.reg [un (.mov 10 (.t 5)),
 un (.mov 11 (.t 0)),
 un (.bin 12 .mul (.t 10) (.t 11)),
 un (.asg 5 (.t 12))]))
 (.drop [10, 11, 12] (.reg [un (.mov 8 (.t 1)),
 un (.bin 9 .sub (.t 8) (.c (.int .i64 1))),
 un (.asg 1 (.t 9))])))))
def Ahw : ACode :=
 (.seq (.reg [un (.asg 4 (.c (.int .i64 0)))])
 (.seq (.reg [un (.asg 5 (.c (.int .i64 1)))])
 (.seq (.block 0 (.loop Sy))
 (.drop [6, 7, 10, 11, 12, 8, 9] (.seq (.reg [un (.mov 13 (.t 5)),
 un (.asg 4 (.t 13))])
 (.drop [13] .ret))))))
abbrev Ahr : List RS := [.t 4]
theorem Aho : Bi Try.prog D5 14 Ahw Ahr = true := by kernel_rfl
def Q6 : ACode :=
 (.seq (.seq (.reg [un (.mov 13 (.t 8)),
 un (.bin 14 .geq (.t 13) (.c (.int .i64 0)))])
 (.drop [13] (.cond (.t 14) .skip
 (.exit 0))))
 (.drop [13, 14] (.seq (.block 1 (.seq (.reg [un (.mov 17 (.t 7)),
 un (.mov 18 (.t 8)),
 un (.mov 19 (.t 0)),
 un (.mov 20 (.t 2)),
 un (.bin 21 .rem (.t 19) (.t 20)),
 un (.iad 22 1 (.t 17) (.t 18)),
 un (.st 1 (.t 22) (.t 21))])
 (.drop [17, 18, 19, 20, 21, 22] (.reg [un (.mov 23 (.t 0)),
 un (.mov 24 (.t 2)),
 un (.bin 25 .quo (.t 23) (.t 24)),
 un (.asg 0 (.t 25))]))))
 (.drop [17, 18, 19, 20, 21, 22, 23, 24, 25] (.reg [un (.mov 15 (.t 8)),
 un (.bin 16 .sub (.t 15) (.c (.int .i64 1))),
 un (.asg 8 (.t 16))])))))
def Afb : ACode :=
 (.seq (.reg [un (.asg 6 (.c (.nilsl 1)))])
 (.seq (.reg [un (.mov 9 (.t 1)),
 un (.mk 10 1 (.int .i64 0) (.t 9)),
 un (.asg 7 (.t 10))])
 (.drop [9, 10] (.seq (.seq (.reg [un (.mov 11 (.t 1)),
 un (.bin 12 .sub (.t 11) (.c (.int .i64 1))),
 un (.asg 8 (.t 12))])
 (.drop [11, 12] (.block 0 (.loop Q6))))
 (.drop [11, 12, 8, 13, 14, 17, 18, 19, 20, 21, 22, 23, 24, 25, 15, 16] (.seq (.reg [un (.mov 26 (.t 7)),
 un (.asg 6 (.t 26))])
 (.drop [26] .ret)))))))
abbrev Af0 : List RS := [.t 6]
theorem Afk : Bi Try.prog I2 27 Afb Af0 = true := by kernel_rfl
def Jz : ACode :=
 (.seq (.reg [un (.bin 24 .lss (.t 23) (.t 22))])
 (.seq (.cond (.t 24) .skip
 (.exit 2))
 (.seq (.block 3 (.seq (.reg [un (.iad 25 1 (.t 21) (.t 23)),
 un (.ld 26 1 false (.t 25)),
 un (.asg 13 (.t 26))])
 (.drop [25, 26] (.reg [un (.mov 27 (.t 11)),
 un (.mov 28 (.t 0)),
 un (.bin 29 .mul (.t 27) (.t 28)),
 un (.mov 30 (.t 13)),
 un (.mov 31 (.t 10)),
 un (.iad 32 1 (.t 30) (.t 31)),
 un (.ld 33 1 false (.t 32)),
 un (.bin 34 .add (.t 29) (.t 33)),
 un (.asg 11 (.t 34))]))))
 (.drop [25, 26, 13, 27, 28, 29, 30, 31, 32, 33, 34] (.reg [un (.bin 35 .add (.t 23) (.c (.int .i64 1))),
 un (.asg 23 (.t 35))])))))
def J1 : ACode :=
 (.seq (.reg [un (.bin 19 .lss (.t 18) (.t 17))])
 (.seq (.cond (.t 19) .skip
 (.exit 0))
 (.seq (.block 1 (.seq (.reg [un (.mov 20 (.t 18)),
 un (.asg 10 (.t 20))])
 (.drop [20] (.seq (.reg [un (.asg 11 (.c (.int .i64 0)))])
 (.seq (.seq (.reg [un (.mov 21 (.t 2)),
 un (.len 22 (.t 21)),
 un (.mov 23 (.c (.int .i64 0)))])
 (.block 2 (.loop Jz)))
 (.drop [21, 22, 23, 24, 25, 26, 13, 27, 28, 29, 30, 31, 32, 33, 34, 35] (.reg [un (.mov 36 (.t 9)),
 un (.mov 37 (.t 10)),
 un (.fadr 38 1 (.t 5)),
 un (.ld 39 1 false (.t 38)),
 un (.mov 40 (.t 11)),
 un (.iad 41 1 (.t 39) (.t 40)),
 un (.ld 42 1 false (.t 41)),
 un (.iad 43 1 (.t 36) (.t 37)),
 un (.st 1 (.t 43) (.t 42))])))))))
 (.drop [20, 10, 11, 21, 22, 23, 24, 25, 26, 13, 27, 28, 29, 30, 31, 32, 33, 34, 35, 36, 37, 38, 39, 40, 41, 42, 43] (.reg [un (.bin 44 .add (.t 18) (.c (.int .i64 1))),
 un (.asg 18 (.t 44))])))))
def U4 : ACode :=
 (.seq (.reg [un (.box 5 (.t 1)),
 un (.asg 8 (.c (.nilsl 1)))])
 (.seq (.reg [un (.mov 14 (.t 3)),
 un (.mk 15 1 (.int .i64 0) (.t 14)),
 un (.asg 9 (.t 15))])
 (.drop [14, 15] (.seq (.seq (.reg [un (.mov 16 (.t 9)),
 un (.len 17 (.t 16)),
 un (.mov 18 (.c (.int .i64 0)))])
 (.drop [16] (.block 0 (.loop J1))))
 (.drop [16, 17, 18, 19, 20, 10, 11, 21, 22, 23, 24, 25, 26, 13, 27, 28, 29, 30, 31, 32, 33, 34, 35, 36, 37, 38, 39, 40, 41, 42, 43, 44] (.seq (.reg [un (.mov 45 (.t 9)),
 un (.asg 8 (.t 45))])
 (.drop [45] .ret)))))))
abbrev Ur : List RS := [.t 8]
theorem U3 : Bi Try.prog D9 46 U4 Ur = true := by kernel_rfl
def Me : ACode :=
 (.seq (.seq (.reg [un (.mov 19 (.t 12)),
 un (.mov 20 (.t 2)),
 un (.len 21 (.t 20)),
 un (.bin 22 .lss (.t 19) (.t 21))])
 (.drop [19, 20, 21] (.cond (.t 22) .skip
 (.exit 2))))
 (.drop [19, 20, 21, 22] (.seq (.block 3 (.reg [un (.mov 25 (.t 11)),
 un (.mov 26 (.t 0)),
 un (.bin 27 .mul (.t 25) (.t 26)),
 un (.mov 28 (.t 2)),
 un (.mov 29 (.t 12)),
 un (.iad 30 1 (.t 28) (.t 29)),
 un (.ld 31 1 false (.t 30)),
 un (.mov 32 (.t 10)),
 un (.iad 33 1 (.t 31) (.t 32)),
 un (.ld 34 1 false (.t 33)),
 un (.bin 35 .add (.t 27) (.t 34)),
 un (.asg 11 (.t 35))]))
 (.drop [25, 26, 27, 28, 29, 30, 31, 32, 33, 34, 35] (.reg [un (.mov 23 (.t 12)),
 un (.bin 24 .add (.t 23) (.c (.int .i64 1))),
 un (.asg 12 (.t 24))])))))
def Mg : ACode :=
 (.seq (.seq (.reg [un (.mov 14 (.t 10)),
 un (.mov 15 (.t 3)),
 un (.bin 16 .lss (.t 14) (.t 15))])
 (.drop [14, 15] (.cond (.t 16) .skip
 (.exit 0))))
 (.drop [14, 15, 16] (.seq (.block 1 (.seq (.reg [un (.asg 11 (.c (.int .i64 0)))])
 (.seq (.seq (.reg [un (.asg 12 (.c (.int .i64 0)))])
 (.block 2 (.loop Me)))
 (.drop [12, 19, 20, 21, 22, 25, 26, 27, 28, 29, 30, 31, 32, 33, 34, 35, 23, 24] (.reg [un (.mov 36 (.t 9)),
 un (.fadr 37 1 (.t 5)),
 un (.ld 38 1 false (.t 37)),
 un (.mov 39 (.t 11)),
 un (.iad 40 1 (.t 38) (.t 39)),
 un (.ld 41 1 false (.t 40)),
 un (.bsl 42 1 [(.t 41)]),
 un (.app 43 1 (.t 36) (.t 42)),
 un (.asg 9 (.t 43))])))))
 (.drop [11, 12, 19, 20, 21, 22, 25, 26, 27, 28, 29, 30, 31, 32, 33, 34, 35, 23, 24, 36, 37, 38, 39, 40, 41, 42, 43] (.reg [un (.mov 17 (.t 10)),
 un (.bin 18 .add (.t 17) (.c (.int .i64 1))),
 un (.asg 10 (.t 18))])))))
def Y7 : ACode :=
 (.seq (.reg [un (.box 5 (.t 1)),
 un (.asg 8 (.c (.nilsl 1)))])
 (.seq (.reg [un (.bsl 13 1 []),
 un (.asg 9 (.t 13))])
 (.drop [13] (.seq (.seq (.reg [un (.asg 10 (.c (.int .i64 0)))])
 (.block 0 (.loop Mg)))
 (.drop [10, 14, 15, 16, 11, 12, 19, 20, 21, 22, 25, 26, 27, 28, 29, 30, 31, 32, 33, 34, 35, 23, 24, 36, 37, 38, 39, 40, 41, 42, 43, 17, 18] (.seq (.reg [un (.mov 44 (.t 9)),
 un (.asg 8 (.t 44))])
 (.drop [44] .ret)))))))
abbrev Yz : List RS := [.t 8]
theorem Yn : Bi Try.prog Kv 45 Y7 Yz = true := by kernel_rfl
def Af3 : ACode :=
 (.seq (.reg [un (.asg 4 (.c (.int .i64 0)))])
 (.seq (.seq (.reg [un (.mov 5 (.t 0)),
 un (.mov 6 (.t 1)),
 un (.bin 7 .gtr (.t 5) (.t 6))])
 (.drop [5, 6] (.cond (.t 7) (.seq (.reg [un (.mov 8 (.t 0)),
 un (.asg 4 (.t 8))])
 (.drop [8] .ret))
 .skip)))
 (.drop [5, 6, 7, 8] (.seq (.reg [un (.mov 9 (.t 1)),
 un (.asg 4 (.t 9))])
 (.drop [9] .ret)))))
abbrev Afa : List RS := [.t 4]
theorem Afn : Bi Try.prog Qj 10 Af3 Afa = true := by kernel_rfl
def Qy : ACode :=
 (.seq (.reg [un (.bin 10 .lss (.t 9) (.t 8))])
 (.seq (.cond (.t 10) .skip
 (.exit 0))
 (.seq (.block 1 (.seq (.reg [un (.iad 11 1 (.t 7) (.t 9)),
 un (.ld 12 1 false (.t 11)),
 un (.asg 6 (.t 12))])
 (.drop [11, 12] (.seq (.reg [un (.mov 13 (.t 6)),
 un (.bin 14 .lss (.t 13) (.c (.int .i64 0))),
 un (.asg 15 (.t 14)),
 ⟨some (15, false), .mov 16 (.t 6)⟩,
 ⟨some (15, false), .mov 17 (.t 1)⟩,
 ⟨some (15, false), .bin 18 .geq (.t 16) (.t 17)⟩,
 un (.pick 19 (.t 15) (.c (.bool true)) (.t 18))])
 (.drop [13, 14, 15, 16, 17, 18] (.cond (.t 19) (.seq (.reg [un (.asg 4 (.c (.bool false)))])
 .ret)
 .skip))))))
 (.drop [11, 12, 6, 13, 14, 15, 16, 17, 18, 19] (.reg [un (.bin 20 .add (.t 9) (.c (.int .i64 1))),
 un (.asg 9 (.t 20))])))))
def Afi : ACode :=
 (.seq (.reg [un (.asg 4 (.c (.bool false)))])
 (.seq (.seq (.reg [un (.mov 7 (.t 0)),
 un (.len 8 (.t 7)),
 un (.mov 9 (.c (.int .i64 0)))])
 (.block 0 (.loop Qy)))
 (.drop [7, 8, 9, 10, 11, 12, 6, 13, 14, 15, 16, 17, 18, 19, 20] (.seq (.reg [un (.asg 4 (.c (.bool true)))])
 .ret))))
abbrev Afw : List RS := [.t 4]
theorem Afx : Bi Try.prog I6 21 Afi Afw = true := by kernel_rfl
def Akc : ACode :=
 (.seq (.reg [un (.asg 6 (.c (.bool false)))])
 (.seq (.reg [un (.mov 7 (.t 0)),
 un (.mov 8 (.t 1)),
 un (.bin 9 .geq (.t 7) (.t 8)),
 un (.asg 10 (.t 9)),
 ⟨some (10, true), .mov 11 (.t 0)⟩,
 ⟨some (10, true), .mov 12 (.t 2)⟩,
 ⟨some (10, true), .bin 13 .leq (.t 11) (.t 12)⟩,
 un (.pick 14 (.t 10) (.t 13) (.c (.bool false))),
 un (.asg 6 (.t 14))])
 (.drop [7, 8, 9, 10, 11, 12, 13, 14] .ret)))
abbrev Ajt : List RS := [.t 6]
theorem Alf : Bi Try.prog J2 15 Akc Ajt = true := by kernel_rfl
def Tb : ACode :=
 (.seq (.seq (.reg [un (.mov 6 (.t 1)),
 un (.bin 7 .gtr (.t 6) (.c (.int .i64 0)))])
 (.drop [6] (.cond (.t 7) .skip
 (.exit 0))))
 (.drop [6, 7] (.seq (.block 1 (.reg [un (.mov 10 (.t 5)),
 un (.mov 11 (.t 0)),
 un (.bin 12 .mul (.t 10) (.t 11)),
 un (.asg 5 (.t 12))]))
 (.drop [10, 11, 12] (.reg [un (.mov 8 (.t 1)),
 un (.bin 9 .sub (.t 8) (.c (.int .i64 1))),
 un (.asg 1 (.t 9))])))))
def Ahg : ACode :=
 (.seq (.reg [un (.asg 4 (.c (.int .i64 0)))])
 (.seq (.reg [un (.asg 5 (.c (.int .i64 1)))])
 (.seq (.block 0 (.loop Tb))
 (.drop [6, 7, 10, 11, 12, 8, 9] (.seq (.reg [un (.mov 13 (.t 5)),
 un (.asg 4 (.t 13))])
 (.drop [13] .ret))))))
abbrev Ahj : List RS := [.t 4]
theorem Ahs : Bi Try.prog Fr 14 Ahg Ahj = true := by kernel_rfl
def Rp : ACode :=
 (.seq (.seq (.reg [un (.mov 11 (.t 5)),
 un (.mov 12 (.t 0)),
 un (.len 13 (.t 12)),
 un (.bin 14 .lss (.t 11) (.t 13))])
 (.drop [11, 12, 13] (.cond (.t 14) .skip
 (.exit 0))))
 (.drop [11, 12, 13, 14] (.seq (.block 1 (.seq (.dreg [(un (.mov 17 (.t 0)), []),
 (un (.mov 18 (.t 5)), [17]),
 (un (.iad 19 1 (.t 17) (.t 18)), []),
 (un (.ld 20 1 false (.t 19)), []),
 (un (.mov 21 (.t 1)), [17, 18, 19, 20]),
 (un (.mov 22 (.t 5)), [17, 18, 19, 20, 21]),
 (un (.iad 23 1 (.t 21) (.t 22)), [17, 18, 19, 20]),
 (un (.ld 24 1 false (.t 23)), [17, 18, 19, 20])]
 [un (.bin 25 .neq (.t 20) (.t 24))])
 (.drop [17, 18, 19, 20, 21, 22, 23, 24] (.cond (.t 25) (.seq (.reg [un (.asg 4 (.c (.bool false)))])
 .ret)
 .skip))))
 (.drop [17, 18, 19, 20, 21, 22, 23, 24, 25] (.reg [un (.mov 15 (.t 5)),
 un (.bin 16 .add (.t 15) (.c (.int .i64 1))),
 un (.asg 5 (.t 16))])))))
def Af4 : ACode :=
 (.seq (.reg [un (.asg 4 (.c (.bool false)))])
 (.seq (.seq (.reg [un (.mov 6 (.t 0)),
 un (.len 7 (.t 6)),
 un (.mov 8 (.t 1)),
 un (.len 9 (.t 8)),
 un (.bin 10 .neq (.t 7) (.t 9))])
 (.drop [6, 7, 8, 9] (.cond (.t 10) (.seq (.reg [un (.asg 4 (.c (.bool false)))])
 .ret)
 .skip)))
 (.drop [6, 7, 8, 9, 10] (.seq (.seq (.reg [un (.asg 5 (.c (.int .i64 0)))])
 (.block 0 (.loop Rp)))
 (.drop [5, 11, 12, 13, 14, 17, 18, 19, 20, 21, 22, 23, 24, 25, 15, 16] (.seq (.reg [un (.asg 4 (.c (.bool true)))])
 .ret))))))
abbrev Af6 : List RS := [.t 4]
theorem Af1 : Bi Try.prog Qm 26 Af4 Af6 = true := by kernel_rfl
def Ai0 : ACode :=
 (.seq (.reg [un (.asg 2 (.c (.nilsl 1)))])
 (.seq (.reg [un (.bsl 3 1 []),
 un (.mov 4 (.t 0)),
 un (.app 5 1 (.t 3) (.t 4)),
 un (.asg 2 (.t 5))])
 (.drop [3, 4, 5] .ret)))
abbrev Aiw : List RS := [.t 2]
theorem Aio : Bi Try.prog K2 6 Ai0 Aiw = true := by kernel_rfl
def Aij : ACode :=
 (.seq (.reg [un (.asg 2 (.c (.nilsl 1)))])
 (.seq (.reg [un (.bsl 3 1 []),
 un (.mov 4 (.t 0)),
 un (.app 5 1 (.t 3) (.t 4)),
 un (.asg 2 (.t 5))])
 (.drop [3, 4, 5] .ret)))
abbrev Ah1 : List RS := [.t 2]
theorem Ahf : Bi Try.prog Gw 6 Aij Ah1 = true := by kernel_rfl
def Ut : ACode :=
 (.seq (.dreg [(un (.mov 4 (.t 0)), []),
 (un (.nck 5 (.t 4)), []),
 (un (.fadr 6 1 (.t 5)), []),
 (un (.ld 7 1 false (.t 6)), []),
 (un (.mov 8 (.t 0)), [4, 5, 6, 7]),
 (un (.nck 9 (.t 8)), [4, 5, 6, 7]),
 (un (.fadr 10 0 (.t 9)), [4, 5, 6, 7]),
 (un (.ld 11 1 false (.t 10)), [4, 5, 6, 7]),
 (un (.len 12 (.t 11)), [4, 5, 6, 7])]
 [un (.bin 13 .lss (.t 7) (.t 12))])
 (.drop [4, 5, 6, 7, 8, 9, 10, 11, 12] (.cond (.t 13) (.dreg [(un (.mov 14 (.t 0)), []),
 (un (.nck 15 (.t 14)), []),
 (un (.fadr 16 0 (.t 15)), []),
 (un (.ld 17 1 false (.t 16)), []),
 (un (.mov 18 (.t 0)), [14, 15, 16, 17]),
 (un (.nck 19 (.t 18)), [14, 15, 16, 17]),
 (un (.fadr 20 1 (.t 19)), [14, 15, 16, 17]),
 (un (.ld 21 1 false (.t 20)), [14, 15, 16, 17])]
 [un (.iad 22 1 (.t 17) (.t 21)),
 un (.ld 23 1 false (.t 22)),
 un (.cnv 24 .i64 (.t 23)),
 un (.asg 3 (.t 24))])
 .skip)))
def Y3 : ACode :=
 (.seq (.reg [un (.asg 2 (.c (.int .i64 0)))])
 (.seq (.reg [un (.asg 3 (.c (.int .i64 0)))])
 (.seq (.cut Ut)
 (.drop [4, 5, 6, 7, 8, 9, 10, 11, 12, 13, 14, 15, 16, 17, 18, 19, 20, 21, 22, 23, 24] (.seq (.reg [un (.mov 25 (.t 0)),
 un (.nck 26 (.t 25)),
 un (.fadr 27 1 (.t 26)),
 un (.ld 28 1 false (.t 27)),
 un (.bin 29 .add (.t 28) (.c (.int .i64 1))),
 un (.nck 30 (.t 25)),
 un (.fadr 31 1 (.t 30)),
 un (.st 1 (.t 31) (.t 29))])
 (.drop [25, 26, 27, 28, 29, 30, 31] (.seq (.reg [un (.mov 32 (.t 0)),
 un (.mov 33 (.t 0)),
 un (.nck 34 (.t 33)),
 un (.fadr 35 2 (.t 34)),
 un (.ld 36 1 false (.t 35)),
 un (.bin 37 .mul (.t 36) (.c (.int .u64 6364136223846793005))),
 un (.mov 38 (.t 3)),
 un (.cnv 39 .u64 (.t 38)),
 un (.bin 40 .add (.t 37) (.t 39)),
 un (.bin 41 .add (.t 40) (.c (.int .u64 550289))),
 un (.nck 42 (.t 32)),
 un (.fadr 43 2 (.t 42)),
 un (.st 1 (.t 43) (.t 41))])
 (.drop [32, 33, 34, 35, 36, 37, 38, 39, 40, 41, 42, 43] (.seq (.seq (.dreg [(un (.mov 44 (.t 0)), []),
 (un (.nck 45 (.t 44)), []),
 (un (.fadr 46 1 (.t 45)), []),
 (un (.ld 47 1 false (.t 46)), []),
 (un (.mov 48 (.t 0)), [44, 45, 46, 47]),
 (un (.nck 49 (.t 48)), [44, 45, 46, 47]),
 (un (.fadr 50 0 (.t 49)), [44, 45, 46, 47]),
 (un (.ld 51 1 false (.t 50)), [44, 45, 46, 47]),
 (un (.len 52 (.t 51)), [44, 45, 46, 47])]
 [un (.bin 53 .leq (.t 47) (.t 52))])
 (.drop [44, 45, 46, 47, 48, 49, 50, 51, 52] (.cond (.t 53) (.seq (.reg [un (.mov 54 (.t 3)),
 un (.asg 2 (.t 54))])
 (.drop [54] .ret))
 .skip)))
 (.drop [44, 45, 46, 47, 48, 49, 50, 51, 52, 53, 54] (.seq (.reg [un (.mov 55 (.t 0)),
 un (.nck 56 (.t 55)),
 un (.fadr 57 2 (.t 56)),
 un (.ld 58 1 false (.t 57)),
 un (.bin 59 .shr (.t 58) (.c (.int .u64 40))),
 un (.bin 60 .and (.t 59) (.c (.int .u64 255))),
 un (.cnv 61 .i64 (.t 60)),
 un (.asg 2 (.t 61))])
 (.drop [55, 56, 57, 58, 59, 60, 61] .ret))))))))))))
abbrev Zp : List RS := [.t 2]
theorem Yr : Bi Try.prog Hj 62 Y3 Zp = true := by kernel_rfl
def Aeo : ACode :=
 (.seq (.reg [un (.asg 4 (.c (.int .i64 0)))])
 (.seq (.seq (.reg [un (.mov 5 (.t 0)),
 un (.mov 6 (.t 1)),
 un (.bin 7 .lss (.t 5) (.t 6))])
 (.drop [5, 6] (.cond (.t 7) (.seq (.reg [un (.mov 8 (.t 0)),
 un (.asg 4 (.t 8))])
 (.drop [8] .ret))
 .skip)))
 (.drop [5, 6, 7, 8] (.seq (.reg [un (.mov 9 (.t 1)),
 un (.asg 4 (.t 9))])
 (.drop [9] .ret)))))
abbrev Acy : List RS := [.t 4]
theorem Ac2 : Bi Try.prog N7 10 Aeo Acy = true := by kernel_rfl
def Qs : ACode :=
 (.seq (.seq (.reg [un (.mov 13 (.t 8)),
 un (.bin 14 .geq (.t 13) (.c (.int .i64 0)))])
 (.drop [13] (.cond (.t 14) .skip
 (.exit 0))))
 (.drop [13, 14] (.seq (.block 1 (.seq (.reg [un (.mov 17 (.t 7)),
 un (.mov 18 (.t 8)),
 un (.mov 19 (.t 2)),
 un (.mov 20 (.t 0)),
 un (.bin 21 .rem (.t 19) (.t 20)),
 un (.iad 22 1 (.t 17) (.t 18)),
 un (.st 1 (.t 22) (.t 21))])
 (.drop [17, 18, 19, 20, 21, 22] (.reg [un (.mov 23 (.t 2)),
 un (.mov 24 (.t 0)),
 un (.bin 25 .quo (.t 23) (.t 24)),
 un (.asg 2 (.t 25))]))))
 (.drop [17, 18, 19, 20, 21, 22, 23, 24, 25] (.reg [un (.mov 15 (.t 8)),
 un (.bin 16 .sub (.t 15) (.c (.int .i64 1))),
 un (.asg 8 (.t 16))])))))
def Afy : ACode :=
 (.seq (.reg [un (.asg 6 (.c (.nilsl 1)))])
 (.seq (.reg [un (.mov 9 (.t 1)),
 un (.mk 10 1 (.int .i64 0) (.t 9)),
 un (.asg 7 (.t 10))])
 (.drop [9, 10] (.seq (.seq (.reg [un (.mov 11 (.t 1)),
 un (.bin 12 .sub (.t 11) (.c (.int .i64 1))),
 un (.asg 8 (.t 12))])
 (.drop [11, 12] (.block 0 (.loop Qs))))
 (.drop [11, 12, 8, 13, 14, 17, 18, 19, 20, 21, 22, 23, 24, 25, 15, 16] (.seq (.reg [un (.mov 26 (.t 7)),
 un (.asg 6 (.t 26))])
 (.drop [26] .ret)))))))
abbrev Afd : List RS := [.t 6]
theorem Afg : Bi Try.prog Lz 27 Afy Afd = true := by kernel_rfl
def N6 : ACode :=
 (.seq (.seq (.reg [un (.mov 6 (.t 4)),
 un (.mov 7 (.t 0)),
 un (.slen 8 (.t 7)),
 un (.bin 9 .lss (.t 6) (.t 8))])
 (.drop [6, 7, 8] (.cond (.t 9) .skip
 (.exit 0))))
 (.drop [6, 7, 8, 9] (.seq (.block 1 (.dreg [(un (.fadr 12 1 (.t 3)), [18]),
 (un (.ld 13 1 false (.t 12)), [18]),
 (un (.mov 14 (.t 0)), [12, 13]),
 (un (.mov 15 (.t 4)), [12, 13, 14]),
 (un (.sidx 16 (.t 14) (.t 15)), [12, 13]),
 (un (.bin 17 .sub (.t 16) (.c (.int .u8 48))), [12, 13]),
 (un (.cnv 18 .i64 (.t 17)), [12, 13]),
 (un (.bsl 19 1 [(.t 18)]), [12, 13])]
 [un (.app 20 1 (.t 13) (.t 19)),
 un (.fadr 21 1 (.t 3)),
 un (.st 1 (.t 21) (.t 20))]))
 (.drop [12, 13, 14, 15, 16, 17, 18, 19, 20, 21] (.reg [un (.mov 10 (.t 4)),
 un (.bin 11 .add (.t 10) (.c (.int .i64 1))),
 un (.asg 4 (.t 11))])))))
def Abx : ACode :=
 (.seq (.reg [un (.alc 2 (.agg [.int .i64 0, .nilsl 1]))])
 (.seq (.reg [un (.bld 5 [.int .i64 0, .nilsl 1] [(0, 1, (.c (.int .i64 2)))]),
 un (.alc 3 (.agg [.int .i64 0, .nilsl 1])),
 un (.st 2 (.t 3) (.t 5))])
 (.drop [5] (.seq (.seq (.reg [un (.asg 4 (.c (.int .i64 0)))])
 (.block 0 (.loop N6)))
 (.drop [4, 6, 7, 8, 9, 12, 13, 14, 15, 16, 17, 18, 19, 20, 21, 10, 11] (.seq (.reg [un (.ld 22 2 true (.t 3)),
 un (.st 2 (.t 2) (.t 22))])
 (.drop [22] .ret)))))))
abbrev Ach : List RS := [.c 2 2 true]
theorem Ab3 : Bi Try.prog Bf 23 Abx Ach = true := by kernel_rfl
def On : ACode :=
 (.seq (.seq (.reg [un (.mov 6 (.t 4)),
 un (.mov 7 (.t 0)),
 un (.mov 8 (.t 0)),
 un (.bin 9 .mul (.t 7) (.t 8)),
 un (.mov 10 (.t 0)),
 un (.bin 11 .mul (.t 9) (.t 10)),
 un (.bin 12 .lss (.t 6) (.t 11))])
 (.drop [6, 7, 8, 9, 10, 11] (.cond (.t 12) .skip
 (.exit 0))))
 (.drop [6, 7, 8, 9, 10, 11, 12] (.seq (.block 1 (.dreg [(un (.fadr 15 1 (.t 3)), [35]),
 (un (.ld 16 1 false (.t 15)), [35]),
 (un (.mov 17 (.t 4)), [15, 16]),
 (un (.mov 18 (.t 0)), [15, 16, 17]),
 (un (.mov 19 (.t 0)), [15, 16, 17, 18]),
 (un (.bin 20 .mul (.t 18) (.t 19)), [15, 16, 17]),
 (un (.bin 21 .quo (.t 17) (.t 20)), [15, 16]),
 (un (.mov 22 (.t 0)), [15, 16, 17, 18, 19, 20, 21]),
 (un (.bin 23 .add (.t 21) (.t 22)), [15, 16]),
 (un (.mov 24 (.t 4)), [15, 16, 17, 18, 19, 20, 21, 22, 23]),
 (un (.mov 25 (.t 0)), [15, 16, 17, 18, 19, 20, 21, 22, 23, 24]),
 (un (.bin 26 .quo (.t 24) (.t 25)), [15, 16, 17, 18, 19, 20, 21, 22, 23]),
 (un (.mov 27 (.t 0)), [15, 16, 17, 18, 19, 20, 21, 22, 23, 24, 25, 26]),
 (un (.bin 28 .rem (.t 26) (.t 27)), [15, 16, 17, 18, 19, 20, 21, 22, 23]),
 (un (.bin 29 .sub (.t 23) (.t 28)), [15, 16]),
 (un (.mov 30 (.t 4)), [15, 16, 17, 18, 19, 20, 21, 22, 23, 24, 25, 26, 27, 28, 29]),
 (un (.mov 31 (.t 0)), [15, 16, 17, 18, 19, 20, 21, 22, 23, 24, 25, 26, 27, 28, 29, 30]),
 (un (.bin 32 .rem (.t 30) (.t 31)), [15, 16, 17, 18, 19, 20, 21, 22, 23, 24, 25, 26, 27, 28, 29]),
 (un (.bin 33 .add (.t 29) (.t 32)), [15, 16]),
 (un (.mov 34 (.t 0)), [15, 16, 17, 18, 19, 20, 21, 22, 23, 24, 25, 26, 27, 28, 29, 30, 31, 32, 33]),
 (un (.bin 35 .rem (.t 33) (.t 34)), [15, 16]),
 (un (.bsl 36 1 [(.t 35)]), [15, 16])]
 [un (.app 37 1 (.t 16) (.t 36)),
 un (.fadr 38 1 (.t 3)),
 un (.st 1 (.t 38) (.t 37))]))
 (.drop [15, 16, 17, 18, 19, 20, 21, 22, 23, 24, 25, 26, 27, 28, 29, 30, 31, 32, 33, 34, 35, 36, 37, 38] (.reg [un (.mov 13 (.t 4)),
 un (.bin 14 .add (.t 13) (.c (.int .i64 1))),
 un (.asg 4 (.t 14))])))))
def Ab2 : ACode :=
 (.seq (.reg [un (.alc 2 (.agg [.int .i64 0, .nilsl 1]))])
 (.seq (.reg [un (.bld 5 [.int .i64 0, .nilsl 1] [(0, 1, (.c (.int .i64 3)))]),
 un (.alc 3 (.agg [.int .i64 0, .nilsl 1])),
 un (.st 2 (.t 3) (.t 5))])
 (.drop [5] (.seq (.seq (.reg [un (.asg 4 (.c (.int .i64 0)))])
 (.block 0 (.loop On)))
 (.drop [4, 6, 7, 8, 9, 10, 11, 12, 15, 16, 17, 18, 19, 20, 21, 22, 23, 24, 25, 26, 27, 28, 29, 30, 31, 32, 33, 34, 35, 36, 37, 38, 13, 14] (.seq (.reg [un (.ld 39 2 true (.t 3)),
 un (.st 2 (.t 2) (.t 39))])
 (.drop [39] .ret)))))))
abbrev Abu : List RS := [.c 2 2 true]
theorem Acc : Bi Try.prog Jd 40 Ab2 Abu = true := by kernel_rfl
def Nl : ACode :=
 (.seq (.seq (.reg [un (.mov 10 (.t 9)),
 un (.mov 11 (.t 1)),
 un (.bin 12 .lss (.t 10) (.t 11))])
 (.drop [10, 11] (.cond (.t 12) .skip
 (.exit 0))))
 (.drop [10, 11, 12] (.seq (.block 1 (.seq (.seq (.reg [un (.mov 15 (.t 2)),
 un (.mov 16 (.t 0)),
 un (.bin 17 .rem (.t 15) (.t 16)),
 un (.mov 18 (.t 3)),
 un (.bin 19 .geq (.t 17) (.t 18))])
 (.drop [15, 16, 17, 18] (.cond (.t 19) (.seq (.reg [un (.asg 8 (.c (.bool true)))])
 .ret)
 .skip)))
 (.drop [15, 16, 17, 18, 19] (.reg [un (.mov 20 (.t 2)),
 un (.mov 21 (.t 0)),
 un (.bin 22 .quo (.t 20) (.t 21)),
 un (.asg 2 (.t 22))]))))
 (.drop [15, 16, 17, 18, 19, 20, 21, 22] (.reg [un (.mov 13 (.t 9)),
 un (.bin 14 .add (.t 13) (.c (.int .i64 1))),
 un (.asg 9 (.t 14))])))))
def Acm : ACode :=
 (.seq (.reg [un (.asg 8 (.c (.bool false)))])
 (.seq (.seq (.reg [un (.asg 9 (.c (.int .i64 0)))])
 (.block 0 (.loop Nl)))
 (.drop [9, 10, 11, 12, 15, 16, 17, 18, 19, 20, 21, 22, 13, 14] (.seq (.reg [un (.mov 23 (.t 3)),
 un (.bin 24 .eql (.t 23) (.c (.int .i64 0))),
 un (.asg 8 (.t 24))])
 (.drop [23, 24] .ret)))))
abbrev Abz : List RS := [.t 8]
theorem Acg : Bi Try.prog Mq 25 Acm Abz = true := by kernel_rfl
def Rk : ACode :=
 (.seq (.seq (.reg [un (.mov 11 (.t 5)),
 un (.mov 12 (.t 0)),
 un (.len 13 (.t 12)),
 un (.bin 14 .lss (.t 11) (.t 13))])
 (.drop [11, 12, 13] (.cond (.t 14) .skip
 (.exit 0))))
 (.drop [11, 12, 13, 14] (.seq (.block 1 (.seq (.dreg [(un (.mov 17 (.t 0)), []),
 (un (.mov 18 (.t 5)), [17]),
 (un (.iad 19 2 (.t 17) (.t 18)), []),
 (un (.fadr 20 0 (.t 19)), []),
 (un (.ld 21 1 false (.t 20)), []),
 (un (.mov 22 (.t 1)), [17, 18, 19, 20, 21]),
 (un (.mov 23 (.t 5)), [17, 18, 19, 20, 21, 22]),
 (un (.iad 24 2 (.t 22) (.t 23)), [17, 18, 19, 20, 21]),
 (un (.fadr 25 0 (.t 24)), [17, 18, 19, 20, 21]),
 (un (.ld 26 1 false (.t 25)), [17, 18, 19, 20, 21]),
 (un (.bin 27 .neq (.t 21) (.t 26)), []),
 (un (.asg 28 (.t 27)), []),
 (⟨some (28, false), .mov 29 (.t 0)⟩, [27]),
 (⟨some (28, false), .mov 30 (.t 5)⟩, [29, 27]),
 (⟨some (28, false), .iad 31 2 (.t 29) (.t 30)⟩, [27]),
 (⟨some (28, false), .fadr 32 1 (.t 31)⟩, [27]),
 (⟨some (28, false), .ld 33 1 false (.t 32)⟩, [27]),
 (⟨some (28, false), .mov 34 (.t 1)⟩, [29, 30, 31, 32, 33, 27]),
 (⟨some (28, false), .mov 35 (.t 5)⟩, [29, 30, 31, 32, 33, 34, 27]),
 (⟨some (28, false), .iad 36 2 (.t 34) (.t 35)⟩, [29, 30, 31, 32, 33, 27]),
 (⟨some (28, false), .fadr 37 1 (.t 36)⟩, [29, 30, 31, 32, 33, 27]),
 (⟨some (28, false), .ld 38 1 false (.t 37)⟩, [29, 30, 31, 32, 33, 27])]
 [⟨some (28, false), .call 39 Ng [((.t 33), false), ((.t 38), false)]⟩,
 ⟨some (28, false), .un 40 .not (.t 39)⟩,
 un (.pick 41 (.t 28) (.c (.bool true)) (.t 40))])
 (.drop [17, 18, 19, 20, 21, 22, 23, 24, 25, 26, 27, 28, 29, 30, 31, 32, 33, 34, 35, 36, 37, 38, 39, 40] (.cond (.t 41) (.seq (.reg [un (.asg 4 (.c (.bool false)))])
 .ret)
 .skip))))
 (.drop [17, 18, 19, 20, 21, 22, 23, 24, 25, 26, 27, 28, 29, 30, 31, 32, 33, 34, 35, 36, 37, 38, 39, 40, 41] (.reg [un (.mov 15 (.t 5)),
 un (.bin 16 .add (.t 15) (.c (.int .i64 1))),
 un (.asg 5 (.t 16))])))))
def Af2 : ACode :=
 (.seq (.reg [un (.asg 4 (.c (.bool false)))])
 (.seq (.seq (.reg [un (.mov 6 (.t 0)),
 un (.len 7 (.t 6)),
 un (.mov 8 (.t 1)),
 un (.len 9 (.t 8)),
 un (.bin 10 .neq (.t 7) (.t 9))])
 (.drop [6, 7, 8, 9] (.cond (.t 10) (.seq (.reg [un (.asg 4 (.c (.bool false)))])
 .ret)
 .skip)))
 (.drop [6, 7, 8, 9, 10] (.seq (.seq (.reg [un (.asg 5 (.c (.int .i64 0)))])
 (.block 0 (.loop Rk)))
 (.drop [5, 11, 12, 13, 14, 17, 18, 19, 20, 21, 22, 23, 24, 25, 26, 27, 28, 29, 30, 31, 32, 33, 34, 35, 36, 37, 38, 39, 40, 41, 15, 16] (.seq (.reg [un (.asg 4 (.c (.bool true)))])
 .ret))))))
abbrev Aff : List RS := [.t 4]
theorem Afq : Bi Try.prog P5 42 Af2 Aff = true := by kernel_rfl
def Amk : ACode :=
 (.seq (.reg [un (.box 2 (.t 0)),
 un (.box 3 (.t 1)),
 un (.asg 4 (.c (.bool false)))])
 (.seq (.reg [un (.fadr 5 0 (.t 2)),
 un (.ld 6 1 false (.t 5)),
 un (.fadr 7 0 (.t 3)),
 un (.ld 8 1 false (.t 7)),
 un (.bin 9 .eql (.t 6) (.t 8)),
 un (.asg 10 (.t 9)),
 ⟨some (10, true), .fadr 11 1 (.t 2)⟩,
 ⟨some (10, true), .ld 12 1 false (.t 11)⟩,
 ⟨some (10, true), .fadr 13 1 (.t 3)⟩,
 ⟨some (10, true), .ld 14 1 false (.t 13)⟩,
 ⟨some (10, true), .call 15 Ng [((.t 12), false), ((.t 14), false)]⟩,
 un (.pick 16 (.t 10) (.t 15) (.c (.bool false))),
 un (.asg 4 (.t 16))])
 (.drop [5, 6, 7, 8, 9, 10, 11, 12, 13, 14, 15, 16] .ret)))
abbrev Aml : List RS := [.t 4]
theorem Am0 : Bi Try.prog N9 17 Amk Aml = true := by kernel_rfl
def Akh : ACode :=
 (.seq (.reg [un (.box 2 (.t 0)),
 un (.asg 4 (.c (.bool false)))])
 (.seq (.dreg [(un (.fadr 5 0 (.t 2)), []),
 (un (.ld 6 1 false (.t 5)), []),
 (un (.bin 7 .geq (.t 6) (.c (.int .i64 0))), []),
 (un (.asg 8 (.t 7)), []),
 (⟨some (8, true), .fadr 9 0 (.t 2)⟩, [7]),
 (⟨some (8, true), .ld 10 1 false (.t 9)⟩, [7]),
 (⟨some (8, true), .bin 11 .leq (.t 10) (.c (.int .i64 3))⟩, [7]),
 (un (.pick 12 (.t 8) (.t 11) (.c (.bool false))), [7]),
 (un (.asg 13 (.t 12)), [7]),
 (⟨some (13, true), .fadr 14 1 (.t 2)⟩, [7, 12]),
 (⟨some (13, true), .ld 15 1 false (.t 14)⟩, [7, 12]),
 (⟨some (13, true), .len 16 (.t 15)⟩, [7, 12]),
 (⟨some (13, true), .mov 17 (.t 1)⟩, [14, 15, 16, 7, 12]),
 (⟨some (13, true), .fadr 18 0 (.t 2)⟩, [14, 15, 16, 17, 7, 12]),
 (⟨some (13, true), .ld 19 1 false (.t 18)⟩, [14, 15, 16, 17, 7, 12]),
 (⟨some (13, true), .call 20 D5 [((.t 17), false), ((.t 19), false)]⟩, [14, 15, 16, 7, 12]),
 (⟨some (13, true), .bin 21 .eql (.t 16) (.t 20)⟩, [7, 12]),
 (un (.pick 22 (.t 13) (.t 21) (.c (.bool false))), [7, 12]),
 (un (.asg 23 (.t 22)), [7, 12]),
 (⟨some (23, true), .fadr 24 1 (.t 2)⟩, [7, 12, 22]),
 (⟨some (23, true), .ld 25 1 false (.t 24)⟩, [7, 12, 22]),
 (⟨some (23, true), .mov 26 (.t 1)⟩, [24, 25, 7, 12, 22])]
 [⟨some (23, true), .call 27 I6 [((.t 25), false), ((.t 26), false)]⟩,
 un (.pick 28 (.t 23) (.t 27) (.c (.bool false))),
 un (.asg 4 (.t 28))])
 (.drop [5, 6, 7, 8, 9, 10, 11, 12, 13, 14, 15, 16, 17, 18, 19, 20, 21, 22, 23, 24, 25, 26, 27, 28] .ret)))
abbrev Aja : List RS := [.t 4]
theorem Ak1 : Bi Try.prog J7 29 Akh Aja = true := by kernel_rfl
def Nm : ACode :=
 (.seq (.seq (.reg [un (.mov 6 (.t 5)),
 un (.mov 7 (.t 0)),
 un (.len 8 (.t 7)),
 un (.bin 9 .lss (.t 6) (.t 8))])
 (.drop [6, 7, 8] (.cond (.t 9) .skip
 (.exit 0))))
 (.drop [6, 7, 8, 9] (.seq (.block 1 (.seq (.reg [un (.mov 12 (.t 0)),
 un (.mov 13 (.t 5)),
 un (.iad 14 1 (.t 12) (.t 13)),
 un (.ld 15 1 false (.t 14)),
 un (.mov 16 (.t 1)),
 un (.call 17 Qm [((.t 15), false), ((.t 16), false)])])
 (.drop [12, 13, 14, 15, 16] (.cond (.t 17) (.seq (.reg [un (.mov 18 (.t 5)),
 un (.asg 4 (.t 18))])
 (.drop [18] .ret))
 .skip))))
 (.drop [12, 13, 14, 15, 16, 17, 18] (.reg [un (.mov 10 (.t 5)),
 un (.bin 11 .add (.t 10) (.c (.int .i64 1))),
 un (.asg 5 (.t 11))])))))
def Abv : ACode :=
 (.seq (.reg [un (.asg 4 (.c (.int .i64 0)))])
 (.seq (.seq (.reg [un (.asg 5 (.c (.int .i64 0)))])
 (.block 0 (.loop Nm)))
 (.drop [5, 6, 7, 8, 9, 12, 13, 14, 15, 16, 17, 18, 10, 11] (.seq (.reg [un (.asg 4 (.c (.int .i64 (-1))))])
 .ret))))
abbrev Acb : List RS := [.t 4]
theorem Abw : Bi Try.prog G6 19 Abv Acb = true := by kernel_rfl
def Pr : ACode :=
 (.seq (.seq (.reg [un (.mov 6 (.t 4)),
 un (.mov 7 (.t 0)),
 un (.len 8 (.t 7)),
 un (.bin 9 .lss (.t 6) (.t 8))])
 (.drop [6, 7, 8] (.cond (.t 9) .skip
 (.exit 0))))
 (.drop [6, 7, 8, 9] (.seq (.block 1 (.dregl [(0, .mov 12 (.t 3)),
 (1, .mov 13 (.t 0)),
 (2, .mov 14 (.t 4)),
 (3, .iad 15 2 (.t 13) (.t 14)),
 (4, .fadr 16 0 (.t 15)),
 (5, .ld 17 1 false (.t 16)),
 (6, .mov 18 (.t 0)),
 (7, .mov 19 (.t 4)),
 (8, .iad 20 2 (.t 18) (.t 19)),
 (9, .fadr 21 1 (.t 20)),
 (10, .ld 22 1 false (.t 21))]
 (.alt 11 (.call 23 K2 [((.t 22), false)]) [0, 1, 2, 3, 4, 5, 6, 7, 8, 9, 10] [] (.alt 12 (.bld 24 [.int .i64 0, .nilsl 1] [(0, 1, (.t 17)), (1, 1, (.t 23))]) [0, 1, 2, 3, 4, 5] [] (.alt 13 (.bsl 25 2 [(.t 24)]) [0] [] (.alt 14 (.app 26 2 (.t 12) (.t 25)) [0] [12] (.alt 15 (.asg 3 (.t 26)) [] [] .nil .nil) .nil) .nil) .nil) .nil)))
 (.drop [12, 13, 14, 15, 16, 17, 18, 19, 20, 21, 22, 23, 24, 25, 26] (.reg [un (.mov 10 (.t 4)),
 un (.bin 11 .add (.t 10) (.c (.int .i64 1))),
 un (.asg 4 (.t 11))])))))
def Aep : ACode :=
 (.seq (.reg [un (.asg 2 (.c (.nilsl 2)))])
 (.seq (.reg [un (.bsl 5 2 []),
 un (.asg 3 (.t 5))])
 (.drop [5] (.seq (.seq (.reg [un (.asg 4 (.c (.int .i64 0)))])
 (.block 0 (.loop Pr)))
 (.drop [4, 6, 7, 8, 9, 12, 13, 14, 15, 16, 17, 18, 19, 20, 21, 22, 23, 24, 25, 26, 10, 11] (.seq (.reg [un (.mov 27 (.t 3)),
 un (.asg 2 (.t 27))])
 (.drop [27] .ret)))))))
abbrev Aew : List RS := [.t 2]
theorem Aey : Bi Try.prog Oa 28 Aep Aew = true := by kernel_rfl
def V8 : ACode :=
 (.seq (.reg [un (.asg 4 (.c (.bool false)))])
 (.seq (.reg [un (.mov 5 (.t 1)),
 un (.bin 6 .geq (.t 5) (.c (.int .i64 1))),
 un (.asg 7 (.t 6)),
 ⟨some (7, true), .mov 8 (.t 1)⟩,
 ⟨some (7, true), .bin 9 .leq (.t 8) (.c (.int .i64 3))⟩,
 un (.pick 10 (.t 7) (.t 9) (.c (.bool false))),
 un (.asg 11 (.t 10)),
 ⟨some (11, true), .mov 12 (.t 0)⟩,
 ⟨some (11, true), .mov 13 (.t 1)⟩,
 ⟨some (11, true), .call 14 D5 [((.t 12), false), ((.t 13), false)]⟩,
 ⟨some (11, true), .bin 15 .leq (.t 14) (.c (.int .i64 27))⟩,
 un (.pick 16 (.t 11) (.t 15) (.c (.bool false))),
 un (.asg 4 (.t 16))])
 (.drop [5, 6, 7, 8, 9, 10, 11, 12, 13, 14, 15, 16] .ret)))
abbrev Wd : List RS := [.t 4]
theorem Wb : Bi Try.prog Dn 17 V8 Wd = true := by kernel_rfl
def S4 : ACode :=
 (.seq (.reg [un (.bin 12 .lss (.t 11) (.t 10))])
 (.seq (.cond (.t 12) .skip
 (.exit 0))
 (.seq (.block 1 (.seq (.reg [un (.iad 13 1 (.t 9) (.t 11)),
 un (.ld 14 1 false (.t 13)),
 un (.asg 7 (.t 14))])
 (.drop [13, 14] (.reg [un (.mov 15 (.t 5)),
 un (.mov 16 (.t 0)),
 un (.mov 17 (.t 7)),
 un (.call 18 Gw [((.t 17), false)]),
 un (.bld 19 [.int .i64 0, .nilsl 1] [(0, 1, (.t 16)), (1, 1, (.t 18))]),
 un (.bsl 20 2 [(.t 19)]),
 un (.app 21 2 (.t 15) (.t 20)),
 un (.asg 5 (.t 21))]))))
 (.drop [13, 14, 7, 15, 16, 17, 18, 19, 20, 21] (.reg [un (.bin 22 .add (.t 11) (.c (.int .i64 1))),
 un (.asg 11 (.t 22))])))))
def Aid : ACode :=
 (.seq (.reg [un (.asg 4 (.c (.nilsl 2)))])
 (.seq (.reg [un (.bsl 8 2 []),
 un (.asg 5 (.t 8))])
 (.drop [8] (.seq (.seq (.reg [un (.mov 9 (.t 1)),
 un (.len 10 (.t 9)),
 un (.mov 11 (.c (.int .i64 0)))])
 (.block 0 (.loop S4)))
 (.drop [9, 10, 11, 12, 13, 14, 7, 15, 16, 17, 18, 19, 20, 21, 22] (.seq (.reg [un (.mov 23 (.t 5)),
 un (.asg 4 (.t 23))])
 (.drop [23] .ret)))))))
abbrev Aiz : List RS := [.t 4]
theorem Ahn : Bi Try.prog Nd 24 Aid Aiz = true := by kernel_rfl
def Aaz : ACode :=
 (.seq (.reg [un (.asg 4 (.c (.bool false)))])
 (.seq (.reg [un (.mov 5 (.t 1)),
 un (.call 6 J2 [((.t 5), false), ((.c (.int .i64 1)), false), ((.c (.int .i64 3)), false)]),
 un (.asg 7 (.t 6)),
 ⟨some (7, true), .mov 8 (.t 0)⟩,
 ⟨some (7, true), .mov 9 (.t 1)⟩,
 ⟨some (7, true), .call 10 Fr [((.t 8), false), ((.t 9), false)]⟩,
 ⟨some (7, true), .bin 11 .leq (.t 10) (.c (.int .i64 27))⟩,
 un (.pick 12 (.t 7) (.t 11) (.c (.bool false))),
 un (.asg 4 (.t 12))])
 (.drop [5, 6, 7, 8, 9, 10, 11, 12] .ret)))
abbrev Aab : List RS := [.t 4]
theorem Z2 : Bi Try.prog F7 13 Aaz Aab = true := by kernel_rfl
def Ro : ACode :=
 (.seq (.seq (.reg [un (.mov 8 (.t 6)),
 un (.mov 9 (.t 1)),
 un (.len 10 (.t 9)),
 un (.bin 11 .lss (.t 8) (.t 10))])
 (.drop [8, 9, 10] (.cond (.t 11) .skip
 (.exit 0))))
 (.drop [8, 9, 10, 11] (.seq (.block 1 (.reg [un (.mov 14 (.t 5)),
 un (.mov 15 (.t 0)),
 un (.mov 16 (.t 1)),
 un (.mov 17 (.t 6)),
 un (.iad 18 1 (.t 16) (.t 17)),
 un (.ld 19 1 false (.t 18)),
 un (.call 20 K2 [((.t 19), false)]),
 un (.bld 21 [.int .i64 0, .nilsl 1] [(0, 1, (.t 15)), (1, 1, (.t 20))]),
 un (.bsl 22 2 [(.t 21)]),
 un (.app 23 2 (.t 14) (.t 22)),
 un (.asg 5 (.t 23))]))
 (.drop [14, 15, 16, 17, 18, 19, 20, 21, 22, 23] (.reg [un (.mov 12 (.t 6)),
 un (.bin 13 .add (.t 12) (.c (.int .i64 1))),
 un (.asg 6 (.t 13))])))))
def Afu : ACode :=
 (.seq (.reg [un (.asg 4 (.c (.nilsl 2)))])
 (.seq (.reg [un (.bsl 7 2 []),
 un (.asg 5 (.t 7))])
 (.drop [7] (.seq (.seq (.reg [un (.asg 6 (.c (.int .i64 0)))])
 (.block 0 (.loop Ro)))
 (.drop [6, 8, 9, 10, 11, 14, 15, 16, 17, 18, 19, 20, 21, 22, 23, 12, 13] (.seq (.reg [un (.mov 24 (.t 5)),
 un (.asg 4 (.t 24))])
 (.drop [24] .ret)))))))
abbrev Afc : List RS := [.t 4]
theorem Af5 : Bi Try.prog Qg 25 Afu Afc = true := by kernel_rfl
def Mb : ACode :=
 (.seq (.reg [un (.bin 16 .lss (.t 15) (.t 14))])
 (.seq (.cond (.t 16) .skip
 (.exit 0))
 (.seq (.block 1 (.seq (.reg [un (.mov 17 (.t 15)),
 un (.asg 8 (.t 17))])
 (.drop [17] (.reg [un (.mov 18 (.t 7)),
 un (.mov 19 (.t 8)),
 un (.mov 20 (.t 8)),
 un (.mov 21 (.t 1)),
 un (.mov 22 (.t 0)),
 un (.call 23 I2 [((.t 20), false), ((.t 21), false), ((.t 22), false)]),
 un (.mov 24 (.t 2)),
 un (.iad 25 1 (.t 23) (.t 24)),
 un (.ld 26 1 false (.t 25)),
 un (.iad 27 1 (.t 18) (.t 19)),
 un (.st 1 (.t 27) (.t 26))]))))
 (.drop [17, 8, 18, 19, 20, 21, 22, 23, 24, 25, 26, 27] (.reg [un (.bin 28 .add (.t 15) (.c (.int .i64 1))),
 un (.asg 15 (.t 28))])))))
def Yc : ACode :=
 (.seq (.reg [un (.asg 6 (.c (.nilsl 1)))])
 (.seq (.reg [un (.mov 9 (.t 0)),
 un (.mov 10 (.t 1)),
 un (.call 11 D5 [((.t 9), false), ((.t 10), false)]),
 un (.mk 12 1 (.int .i64 0) (.t 11)),
 un (.asg 7 (.t 12))])
 (.drop [9, 10, 11, 12] (.seq (.seq (.reg [un (.mov 13 (.t 7)),
 un (.len 14 (.t 13)),
 un (.mov 15 (.c (.int .i64 0)))])
 (.drop [13] (.block 0 (.loop Mb))))
 (.drop [13, 14, 15, 16, 17, 8, 18, 19, 20, 21, 22, 23, 24, 25, 26, 27, 28] (.seq (.reg [un (.mov 29 (.t 7)),
 un (.asg 6 (.t 29))])
 (.drop [29] .ret)))))))
abbrev Yk : List RS := [.t 6]
theorem Zm : Bi Try.prog Fp 30 Yc Yk = true := by kernel_rfl
def Aem : ACode :=
 (.seq (.dreg [(un (.fadr 6 0 (.t 3)), []),
 (un (.ld 7 1 false (.t 6)), []),
 (un (.call 8 J2 [((.t 7), false), ((.c (.int .i64 0)), false), ((.c (.int .i64 3)), false)]), []),
 (un (.un 9 .not (.t 8)), []),
 (un (.asg 10 (.t 9)), []),
 (⟨some (10, false), .fadr 11 1 (.t 3)⟩, [9]),
 (⟨some (10, false), .ld 12 1 false (.t 11)⟩, [9]),
 (⟨some (10, false), .len 13 (.t 12)⟩, [9]),
 (⟨some (10, false), .mov 14 (.t 0)⟩, [11, 12, 13, 9]),
 (⟨some (10, false), .fadr 15 0 (.t 3)⟩, [11, 12, 13, 14, 9]),
 (⟨some (10, false), .ld 16 1 false (.t 15)⟩, [11, 12, 13, 14, 9]),
 (⟨some (10, false), .call 17 Fr [((.t 14), false), ((.t 16), false)]⟩, [11, 12, 13, 9])]
 [⟨some (10, false), .bin 18 .neq (.t 13) (.t 17)⟩,
 un (.pick 19 (.t 10) (.c (.bool true)) (.t 18))])
 (.drop [6, 7, 8, 9, 10, 11, 12, 13, 14, 15, 16, 17, 18] (.cond (.t 19) (.seq (.reg [un (.asg 4 (.c (.bool false)))])
 .ret)
 .skip)))
def Uv : ACode :=
 (.seq (.seq (.reg [un (.mov 20 (.t 5)),
 un (.fadr 21 1 (.t 3)),
 un (.ld 22 1 false (.t 21)),
 un (.len 23 (.t 22)),
 un (.bin 24 .lss (.t 20) (.t 23))])
 (.drop [20, 21, 22, 23] (.cond (.t 24) .skip
 (.exit 0))))
 (.drop [20, 21, 22, 23, 24] (.seq (.block 1 (.seq (.reg [un (.fadr 27 1 (.t 3)),
 un (.ld 28 1 false (.t 27)),
 un (.mov 29 (.t 5)),
 un (.iad 30 1 (.t 28) (.t 29)),
 un (.ld 31 1 false (.t 30)),
 un (.mov 32 (.t 0)),
 un (.bin 33 .sub (.t 32) (.c (.int .i64 1))),
 un (.call 34 J2 [((.t 31), false), ((.c (.int .i64 0)), false), ((.t 33), false)]),
 un (.un 35 .not (.t 34))])
 (.drop [27, 28, 29, 30, 31, 32, 33, 34] (.cond (.t 35) (.seq (.reg [un (.asg 4 (.c (.bool false)))])
 .ret)
 .skip))))
 (.drop [27, 28, 29, 30, 31, 32, 33, 34, 35] (.reg [un (.mov 25 (.t 5)),
 un (.bin 26 .add (.t 25) (.c (.int .i64 1))),
 un (.asg 5 (.t 26))])))))
def Aju : ACode :=
 (.seq (.reg [un (.box 3 (.t 1)),
 un (.asg 4 (.c (.bool false)))])
 (.seq (.cut Aem)
 (.drop [6, 7, 8, 9, 10, 11, 12, 13, 14, 15, 16, 17, 18, 19] (.seq (.seq (.reg [un (.asg 5 (.c (.int .i64 0)))])
 (.block 0 (.loop Uv)))
 (.drop [5, 20, 21, 22, 23, 24, 27, 28, 29, 30, 31, 32, 33, 34, 35, 25, 26] (.seq (.reg [un (.asg 4 (.c (.bool true)))])
 .ret))))))
abbrev Akl : List RS := [.t 4]
theorem Ak4 : Bi Try.prog O6 36 Aju Akl = true := by kernel_rfl
def X3 : ACode :=
 (.seq (.reg [un (.asg 4 (.c (.int .i64 0)))])
 (.seq (.seq (.reg [un (.mov 6 (.t 1)),
 un (.bin 7 .leq (.t 6) (.c (.int .i64 1)))])
 (.drop [6] (.cond (.t 7) (.seq (.reg [un (.asg 4 (.c (.int .i64 0)))])
 .ret)
 .skip)))
 (.drop [6, 7] (.seq (.reg [un (.mov 8 (.t 0)),
 un (.call 9 Hj [((.t 8), true)]),
 un (.asg 5 (.t 9))])
 (.drop [8, 9] (.seq (.seq (.reg [un (.mov 10 (.t 1)),
 un (.bin 11 .gtr (.t 10) (.c (.int .i64 200)))])
 (.drop [10] (.cond (.t 11) (.reg [un (.mov 12 (.t 5)),
 un (.bin 13 .mul (.t 12) (.c (.int .i64 256))),
 un (.mov 14 (.t 0)),
 un (.call 15 Hj [((.t 14), true)]),
 un (.bin 16 .add (.t 13) (.t 15)),
 un (.asg 5 (.t 16))])
 .skip)))
 (.drop [10, 11, 12, 13, 14, 15, 16] (.seq (.reg [un (.mov 17 (.t 5)),
 un (.mov 18 (.t 1)),
 un (.bin 19 .rem (.t 17) (.t 18)),
 un (.asg 4 (.t 19))])
 (.drop [17, 18, 19] .ret)))))))))
abbrev Yb : List RS := [.t 4]
theorem Zo : Bi Try.prog Ay 20 X3 Yb = true := by kernel_rfl
def Jy : ACode :=
 (.seq (.seq (.reg [un (.mov 10 (.t 8)),
 un (.mov 11 (.t 0)),
 un (.mov 12 (.t 1)),
 un (.call 13 Fr [((.t 11), false), ((.t 12), false)]),
 un (.bin 14 .lss (.t 10) (.t 13))])
 (.drop [10, 11, 12, 13] (.cond (.t 14) .skip
 (.exit 0))))
 (.drop [10, 11, 12, 13, 14] (.seq (.block 1 (.reg [un (.mov 17 (.t 7)),
 un (.mov 18 (.t 0)),
 un (.mov 19 (.t 1)),
 un (.mov 20 (.t 8)),
 un (.call 21 Lz [((.t 18), false), ((.t 19), false), ((.t 20), false)]),
 un (.mov 22 (.t 2)),
 un (.iad 23 1 (.t 21) (.t 22)),
 un (.ld 24 1 false (.t 23)),
 un (.bsl 25 1 [(.t 24)]),
 un (.app 26 1 (.t 17) (.t 25)),
 un (.asg 7 (.t 26))]))
 (.drop [17, 18, 19, 20, 21, 22, 23, 24, 25, 26] (.reg [un (.mov 15 (.t 8)),
 un (.bin 16 .add (.t 15) (.c (.int .i64 1))),
 un (.asg 8 (.t 16))])))))
def Ts : ACode :=
 (.seq (.reg [un (.asg 6 (.c (.nilsl 1)))])
 (.seq (.reg [un (.bsl 9 1 []),
 un (.asg 7 (.t 9))])
 (.drop [9] (.seq (.seq (.reg [un (.asg 8 (.c (.int .i64 0)))])
 (.block 0 (.loop Jy)))
 (.drop [8, 10, 11, 12, 13, 14, 17, 18, 19, 20, 21, 22, 23, 24, 25, 26, 15, 16] (.seq (.reg [un (.mov 27 (.t 7)),
 un (.asg 6 (.t 27))])
 (.drop [27] .ret)))))))
abbrev T8 : List RS := [.t 6]
theorem Ug : Bi Try.prog Fn 28 Ts T8 = true := by kernel_rfl
def Aex : ACode :=
 (.seq (.reg [un (.alc 2 (.agg [.int .i64 0, .nilsl 2]))])
 (.seq (.seq (.reg [un (.mov 3 (.t 0))])
 (.block 0 (.seq (.reg [un (.bin 5 .eql (.t 3) (.c (.int .i64 0))),
 un (.asg 4 (.t 5))])
 (.drop [5] (.cond (.t 4) (.seq (.reg [⟨none, .call 6 Bf [((.c (.str ⟨#[48, 48, 48, 49]⟩)), false)]⟩,
 un (.bsl 7 2 [(.t 6)]),
 un (.bld 8 [.int .i64 0, .nilsl 2] [(0, 1, (.c (.int .i64 2))), (1, 1, (.t 7))]),
 un (.st 2 (.t 2) (.t 8))])
 (.drop [6, 7, 8] .ret))
 (.seq (.reg [un (.bin 10 .eql (.t 3) (.c (.int .i64 1))),
 un (.asg 9 (.t 10))])
 (.drop [10] (.cond (.t 9) (.seq (.reg [⟨none, .call 11 Bf [((.c (.str ⟨#[48, 48, 48, 49]⟩)), false)]⟩,
 ⟨none, .call 12 Bf [((.c (.str ⟨#[48, 49, 49, 49]⟩)), false)]⟩,
 un (.bsl 13 2 [(.t 11), (.t 12)]),
 un (.bld 14 [.int .i64 0, .nilsl 2] [(0, 1, (.c (.int .i64 2))), (1, 1, (.t 13))]),
 un (.st 2 (.t 2) (.t 14))])
 (.drop [11, 12, 13, 14] .ret))
 (.seq (.reg [un (.bin 16 .eql (.t 3) (.c (.int .i64 2))),
 un (.asg 15 (.t 16))])
 (.drop [16] (.cond (.t 15) (.seq (.reg [⟨none, .call 17 Bf [((.c (.str ⟨#[48, 48, 48, 49]⟩)), false)]⟩,
 ⟨none, .call 18 Bf [((.c (.str ⟨#[48, 49, 49, 49]⟩)), false)]⟩,
 un (.bsl 19 1 [(.c (.int .i64 1)), (.c (.int .i64 0))]),
 un (.bld 20 [.int .i64 0, .nilsl 1] [(0, 1, (.c (.int .i64 1))), (1, 1, (.t 19))]),
 un (.bsl 21 2 [(.t 17), (.t 18), (.t 20)]),
 un (.bld 22 [.int .i64 0, .nilsl 2] [(0, 1, (.c (.int .i64 2))), (1, 1, (.t 21))]),
 un (.st 2 (.t 2) (.t 22))])
 (.drop [17, 18, 19, 20, 21, 22] .ret))
 (.seq (.reg [un (.bin 24 .eql (.t 3) (.c (.int .i64 3))),
 un (.asg 23 (.t 24))])
 (.drop [24] (.cond (.t 23) (.seq (.reg [un (.call 25 Jd [((.c (.int .i64 2)), false)]),
 un (.bsl 26 2 [(.t 25)]),
 un (.bld 27 [.int .i64 0, .nilsl 2] [(0, 1, (.c (.int .i64 2))), (1, 1, (.t 26))]),
 un (.st 2 (.t 2) (.t 27))])
 (.drop [25, 26, 27] .ret))
 (.seq (.reg [un (.bin 29 .eql (.t 3) (.c (.int .i64 4))),
 un (.asg 28 (.t 29))])
 (.drop [29] (.cond (.t 28) (.seq (.reg [⟨none, .call 30 Bf [((.c (.str ⟨#[48, 49, 50, 49, 50, 48, 50, 48, 49]⟩)), false)]⟩,
 un (.bsl 31 2 [(.t 30)]),
 un (.bld 32 [.int .i64 0, .nilsl 2] [(0, 1, (.c (.int .i64 3))), (1, 1, (.t 31))]),
 un (.st 2 (.t 2) (.t 32))])
 (.drop [30, 31, 32] .ret))
 (.seq (.reg [un (.bin 34 .eql (.t 3) (.c (.int .i64 5))),
 un (.asg 33 (.t 34))])
 (.drop [34] (.cond (.t 33) (.seq (.reg [⟨none, .call 35 Bf [((.c (.str ⟨#[48, 49, 48, 49, 49, 50, 48, 50, 50]⟩)), false)]⟩,
 un (.bsl 36 2 [(.t 35)]),
 un (.bld 37 [.int .i64 0, .nilsl 2] [(0, 1, (.c (.int .i64 3))), (1, 1, (.t 36))]),
 un (.st 2 (.t 2) (.t 37))])
 (.drop [35, 36, 37] .ret))
 (.seq (.reg [un (.bin 39 .eql (.t 3) (.c (.int .i64 6))),
 un (.asg 38 (.t 39))])
 (.drop [39] (.cond (.t 38) (.seq (.reg [⟨none, .call 40 Bf [((.c (.str ⟨#[48, 49, 50, 51, 49, 48, 51, 50, 50, 51, 48, 49, 51, 50, 49, 48]⟩)), false)]⟩,
 un (.bsl 41 2 [(.t 40)]),
 un (.bld 42 [.int .i64 0, .nilsl 2] [(0, 1, (.c (.int .i64 4))), (1, 1, (.t 41))]),
 un (.st 2 (.t 2) (.t 42))])
 (.drop [40, 41, 42] .ret))
 (.seq (.reg [un (.bin 44 .eql (.t 3) (.c (.int .i64 7))),
 un (.asg 43 (.t 44))])
 (.drop [44] (.cond (.t 43) (.seq (.reg [⟨none, .call 45 Bf [((.c (.str ⟨#[48, 48, 48, 48, 49, 49, 48, 49, 50]⟩)), false)]⟩,
 ⟨none, .call 46 Bf [((.c (.str ⟨#[48, 49, 50, 49, 49, 50, 50, 50, 50]⟩)), false)]⟩,
 un (.bsl 47 2 [(.t 45), (.t 46)]),
 un (.bld 48 [.int .i64 0, .nilsl 2] [(0, 1, (.c (.int .i64 3))), (1, 1, (.t 47))]),
 un (.st 2 (.t 2) (.t 48))])
 (.drop [45, 46, 47, 48] .ret))
 (.seq (.reg [un (.bin 50 .eql (.t 3) (.c (.int .i64 8))),
 un (.asg 49 (.t 50))])
 (.drop [50] (.cond (.t 49) (.seq (.reg [un (.bsl 51 1 [(.c (.int .i64 1)), (.c (.int .i64 2)), (.c (.int .i64 3)), (.c (.int .i64 0))]),
 un (.bld 52 [.int .i64 0, .nilsl 1] [(0, 1, (.c (.int .i64 1))), (1, 1, (.t 51))]),
 un (.bsl 53 2 [(.t 52)]),
 un (.bld 54 [.int .i64 0, .nilsl 2] [(0, 1, (.c (.int .i64 4))), (1, 1, (.t 53))]),
 un (.st 2 (.t 2) (.t 54))])
 (.drop [51, 52, 53, 54] .ret))
 (.seq (.reg [un (.bin 56 .eql (.t 3) (.c (.int .i64 9))),
 un (.asg 55 (.t 56))])
 (.drop [56] (.cond (.t 55) (.seq (.reg [un (.bsl 57 1 [(.c (.int .i64 0)), (.c (.int .i64 0)), (.c (.int .i64 0)), (.c (.int .i64 1)), (.c (.int .i64 0)), (.c (.int .i64 1)), (.c (.int .i64 1)), (.c (.int .i64 1))]),
 un (.bld 58 [.int .i64 0, .nilsl 1] [(0, 1, (.c (.int .i64 3))), (1, 1, (.t 57))]),
 un (.bsl 59 2 [(.t 58)]),
 un (.bld 60 [.int .i64 0, .nilsl 2] [(0, 1, (.c (.int .i64 2))), (1, 1, (.t 59))]),
 un (.st 2 (.t 2) (.t 60))])
 (.drop [57, 58, 59, 60] .ret))
 (.seq (.reg [un (.bin 62 .eql (.t 3) (.c (.int .i64 10))),
 un (.asg 61 (.t 62))])
 (.drop [62] (.cond (.t 61) (.seq (.reg [⟨none, .call 63 Bf [((.c (.str ⟨#[48, 48, 48, 49, 49, 49, 50, 50, 50]⟩)), false)]⟩,
 un (.bsl 64 2 [(.t 63)]),
 un (.bld 65 [.int .i64 0, .nilsl 2] [(0, 1, (.c (.int .i64 3))), (1, 1, (.t 64))]),
 un (.st 2 (.t 2) (.t 65))])
 (.drop [63, 64, 65] .ret))
 (.seq (.reg [un (.bin 67 .eql (.t 3) (.c (.int .i64 11))),
 un (.asg 66 (.t 67))])
 (.drop [67] (.cond (.t 66) (.seq (.reg [⟨none, .call 68 Bf [((.c (.str ⟨#[48, 48, 48, 48, 48, 48, 49, 48, 48, 49, 48, 48, 50, 48, 50, 48, 48, 48, 51, 51, 48, 49, 50, 51, 52]⟩)), false)]⟩,
 ⟨none, .call 69 Bf [((.c (.str ⟨#[48, 49, 50, 51, 52, 49, 49, 52, 52, 52, 50, 52, 50, 52, 52, 51, 52, 52, 51, 52, 52, 52, 52, 52, 52]⟩)), false)]⟩,
 un (.bsl 70 2 [(.t 68), (.t 69)]),
 un (.bld 71 [.int .i64 0, .nilsl 2] [(0, 1, (.c (.int .i64 5))), (1, 1, (.t 70))]),
 un (.st 2 (.t 2) (.t 71))])
 (.drop [68, 69, 70, 71] .ret))
 (.seq (.reg [un (.bin 73 .eql (.t 3) (.c (.int .i64 12))),
 un (.asg 72 (.t 73))])
 (.drop [73] (.cond (.t 72) (.seq (.reg [⟨none, .call 74 Bf [((.c (.str ⟨#[48, 49, 50, 51, 49, 50, 51, 48, 50, 51, 48, 49, 51, 48, 49, 50]⟩)), false)]⟩,
 un (.bsl 75 2 [(.t 74)]),
 un (.bld 76 [.int .i64 0, .nilsl 2] [(0, 1, (.c (.int .i64 4))), (1, 1, (.t 75))]),
 un (.st 2 (.t 2) (.t 76))])
 (.drop [74, 75, 76] .ret))
 (.seq (.reg [un (.bin 78 .eql (.t 3) (.c (.int .i64 13))),
 un (.asg 77 (.t 78))])
 (.drop [78] (.cond (.t 77) (.seq (.reg [un (.bsl 79 1 [(.c (.int .i64 0)), (.c (.int .i64 0)), (.c (.int .i64 1))]),
 un (.bld 80 [.int .i64 0, .nilsl 1] [(0, 1, (.c (.int .i64 1))), (1, 1, (.t 79))]),
 un (.bsl 81 1 [(.c (.int .i64 2))]),
 un (.bld 82 [.int .i64 0, .nilsl 1] [(0, 1, (.c (.int .i64 0))), (1, 1, (.t 81))]),
 un (.bsl 83 2 [(.t 80), (.t 82)]),
 un (.bld 84 [.int .i64 0, .nilsl 2] [(0, 1, (.c (.int .i64 3))), (1, 1, (.t 83))]),
 un (.st 2 (.t 2) (.t 84))])
 (.drop [79, 80, 81, 82, 83, 84] .ret))
 (.seq (.reg [un (.bin 86 .eql (.t 3) (.c (.int .i64 14))),
 un (.asg 85 (.t 86))])
 (.drop [86] (.cond (.t 85) (.seq (.reg [⟨none, .call 87 Bf [((.c (.str ⟨#[48]⟩)), false)]⟩,
 un (.bsl 88 2 [(.t 87)]),
 un (.bld 89 [.int .i64 0, .nilsl 2] [(0, 1, (.c (.int .i64 1))), (1, 1, (.t 88))]),
 un (.st 2 (.t 2) (.t 89))])
 (.drop [87, 88, 89] .ret))
 (.seq (.reg [un (.bin 91 .eql (.t 3) (.c (.int .i64 15))),
 un (.asg 90 (.t 91))])
 (.drop [91] (.cond (.t 90) (.seq (.reg [un (.call 92 Jd [((.c (.int .i64 3)), false)]),
 un (.bsl 93 2 [(.t 92)]),
 un (.bld 94 [.int .i64 0, .nilsl 2] [(0, 1, (.c (.int .i64 3))), (1, 1, (.t 93))]),
 un (.st 2 (.t 2) (.t 94))])
 (.drop [92, 93, 94] .ret))
 .skip))))))))))))))))))))))))))))))))))))))))))))))))))
 (.drop [3, 5, 4, 6, 7, 8, 10, 9, 11, 12, 13, 14, 16, 15, 17, 18, 19, 20, 21, 22, 24, 23, 25, 26, 27, 29, 28, 30, 31, 32, 34, 33, 35, 36, 37, 39, 38, 40, 41, 42, 44, 43, 45, 46, 47, 48, 50, 49, 51, 52, 53, 54, 56, 55, 57, 58, 59, 60, 62, 61, 63, 64, 65, 67, 66, 68, 69, 70, 71, 73, 72, 74, 75, 76, 78, 77, 79, 80, 81, 82, 83, 84, 86, 85, 87, 88, 89, 91, 90, 92, 93, 94] (.seq (.reg [un (.bld 95 [.int .i64 0, .nilsl 2] [(0, 1, (.c (.int .i64 2)))]),
 un (.st 2 (.t 2) (.t 95))])
 (.drop [95] .ret)))))
abbrev Acz : List RS := [.c 2 2 true]
theorem Adh : Bi Try.prog Nx 96 Aex Acz = true := by kernel_rfl
def Aas : ACode :=
 (.seq (.reg [un (.mov 9 (.t 1)),
 un (.call 10 Gp [((.t 9), false)]),
 un (.asg 8 (.t 10))])
 (.drop [9, 10] (.seq (.reg [un (.mov 11 (.t 0)),
 un (.nck 12 (.t 11)),
 un (.fadr 13 2 (.t 12)),
 un (.ld 14 1 false (.t 13)),
 un (.mov 15 (.t 8)),
 un (.mlk 16 (.t 14) (.t 15) (.bool false) false),
 un (.un 17 .not (.t 16))])
 (.drop [11, 12, 13, 14, 15, 16] (.cond (.t 17) (.seq (.reg [un (.mov 18 (.t 0)),
 un (.nck 19 (.t 18)),
 un (.fadr 20 2 (.t 19)),
 un (.ld 21 1 false (.t 20)),
 un (.mov 22 (.t 8)),
 un (.mup (.t 21) (.t 22) (.c (.bool true)))])
 (.drop [18, 19, 20, 21, 22] (.seq (.reg [un (.mov 23 (.t 0)),
 un (.mov 24 (.t 0)),
 un (.nck 25 (.t 24)),
 un (.fadr 26 0 (.t 25)),
 un (.ld 27 1 false (.t 26)),
 un (.mov 28 (.t 1)),
 un (.bsl 29 1 [(.t 28)]),
 un (.app 30 1 (.t 27) (.t 29)),
 un (.nck 31 (.t 23)),
 un (.fadr 32 0 (.t 31)),
 un (.st 1 (.t 32) (.t 30))])
 (.drop [23, 24, 25, 26, 27, 28, 29, 30, 31, 32] (.dregl [(0, .mov 33 (.t 0)),
 (1, .mov 34 (.t 0)),
 (5, .mov 38 (.t 2)),
 (6, .mov 39 (.t 3))]
 (.alt 2 (.nck 35 (.t 34)) [0, 1, 5, 6] [] (.alt 3 (.fadr 36 1 (.t 35)) [0, 5, 6] [] (.alt 4 (.ld 37 1 false (.t 36)) [0, 5, 6] [] (.alt 7 (.call 40 Gw [((.t 39), false)]) [0, 5, 6] [] (.alt 8 (.bld 41 [.int .i64 0, .nilsl 1] [(0, 1, (.t 38)), (1, 1, (.t 40))]) [0, 5] [] (.alt 9 (.bsl 42 2 [(.t 41)]) [0] [] (.alt 10 (.app 43 2 (.t 37) (.t 42)) [0] [] (.alt 11 (.nck 44 (.t 33)) [0] [] (.alt 12 (.fadr 45 1 (.t 44)) [] [] (.alt 13 (.st 1 (.t 45) (.t 43)) [] [] .nil .nil) .nil) .nil) .nil) .nil) .nil) .nil) (.alt 7 (.call 40 Gw [((.t 39), false)]) [0, 5, 6] [] (.alt 4 (.ld 37 1 false (.t 36)) [0, 5] [] (.alt 8 (.bld 41 [.int .i64 0, .nilsl 1] [(0, 1, (.t 38)), (1, 1, (.t 40))]) [0, 5] [] (.alt 9 (.bsl 42 2 [(.t 41)]) [0] [] (.alt 10 (.app 43 2 (.t 37) (.t 42)) [0] [] (.alt 11 (.nck 44 (.t 33)) [0] [] (.alt 12 (.fadr 45 1 (.t 44)) [] [] (.alt 13 (.st 1 (.t 45) (.t 43)) [] [] .nil .nil) .nil) .nil) .nil) .nil) .nil) (.alt 8 (.bld 41 [.int .i64 0, .nilsl 1] [(0, 1, (.t 38)), (1, 1, (.t 40))]) [0, 5] [] (.alt 4 (.ld 37 1 false (.t 36)) [0] [] (.alt 9 (.bsl 42 2 [(.t 41)]) [0] [] (.alt 10 (.app 43 2 (.t 37) (.t 42)) [0] [] (.alt 11 (.nck 44 (.t 33)) [0] [] (.alt 12 (.fadr 45 1 (.t 44)) [] [] (.alt 13 (.st 1 (.t 45) (.t 43)) [] [] .nil .nil) .nil) .nil) .nil) .nil) (.alt 9 (.bsl 42 2 [(.t 41)]) [0] [] (.alt 4 (.ld 37 1 false (.t 36)) [0] [] (.alt 10 (.app 43 2 (.t 37) (.t 42)) [0] [] (.alt 11 (.nck 44 (.t 33)) [0] [] (.alt 12 (.fadr 45 1 (.t 44)) [] [] (.alt 13 (.st 1 (.t 45) (.t 43)) [] [] .nil .nil) .nil) .nil) .nil) .nil) .nil)) .nil)) .nil)) (.alt 7 (.call 40 Gw [((.t 39), false)]) [0, 5, 6] [] (.alt 3 (.fadr 36 1 (.t 35)) [0, 5] [] (.alt 4 (.ld 37 1 false (.t 36)) [0, 5] [] (.alt 8 (.bld 41 [.int .i64 0, .nilsl 1] [(0, 1, (.t 38)), (1, 1, (.t 40))]) [0, 5] [] (.alt 9 (.bsl 42 2 [(.t 41)]) [0] [] (.alt 10 (.app 43 2 (.t 37) (.t 42)) [0] [] (.alt 11 (.nck 44 (.t 33)) [0] [] (.alt 12 (.fadr 45 1 (.t 44)) [] [] (.alt 13 (.st 1 (.t 45) (.t 43)) [] [] .nil .nil) .nil) .nil) .nil) .nil) .nil) (.alt 8 (.bld 41 [.int .i64 0, .nilsl 1] [(0, 1, (.t 38)), (1, 1, (.t 40))]) [0, 5] [] (.alt 4 (.ld 37 1 false (.t 36)) [0] [] (.alt 9 (.bsl 42 2 [(.t 41)]) [0] [] (.alt 10 (.app 43 2 (.t 37) (.t 42)) [0] [] (.alt 11 (.nck 44 (.t 33)) [0] [] (.alt 12 (.fadr 45 1 (.t 44)) [] [] (.alt 13 (.st 1 (.t 45) (.t 43)) [] [] .nil .nil) .nil) .nil) .nil) .nil) (.alt 9 (.bsl 42 2 [(.t 41)]) [0] [] (.alt 4 (.ld 37 1 false (.t 36)) [0] [] (.alt 10 (.app 43 2 (.t 37) (.t 42)) [0] [] (.alt 11 (.nck 44 (.t 33)) [0] [] (.alt 12 (.fadr 45 1 (.t 44)) [] [] (.alt 13 (.st 1 (.t 45) (.t 43)) [] [] .nil .nil) .nil) .nil) .nil) .nil) .nil)) .nil)) (.alt 8 (.bld 41 [.int .i64 0, .nilsl 1] [(0, 1, (.t 38)), (1, 1, (.t 40))]) [0, 5] [] (.alt 3 (.fadr 36 1 (.t 35)) [0] [] (.alt 4 (.ld 37 1 false (.t 36)) [0] [] (.alt 9 (.bsl 42 2 [(.t 41)]) [0] [] (.alt 10 (.app 43 2 (.t 37) (.t 42)) [0] [] (.alt 11 (.nck 44 (.t 33)) [0] [] (.alt 12 (.fadr 45 1 (.t 44)) [] [] (.alt 13 (.st 1 (.t 45) (.t 43)) [] [] .nil .nil) .nil) .nil) .nil) .nil) (.alt 9 (.bsl 42 2 [(.t 41)]) [0] [] (.alt 4 (.ld 37 1 false (.t 36)) [0] [] (.alt 10 (.app 43 2 (.t 37) (.t 42)) [0] [] (.alt 11 (.nck 44 (.t 33)) [0] [] (.alt 12 (.fadr 45 1 (.t 44)) [] [] (.alt 13 (.st 1 (.t 45) (.t 43)) [] [] .nil .nil) .nil) .nil) .nil) .nil) .nil)) (.alt 9 (.bsl 42 2 [(.t 41)]) [0] [] (.alt 3 (.fadr 36 1 (.t 35)) [0] [] (.alt 4 (.ld 37 1 false (.t 36)) [0] [] (.alt 10 (.app 43 2 (.t 37) (.t 42)) [0] [] (.alt 11 (.nck 44 (.t 33)) [0] [] (.alt 12 (.fadr 45 1 (.t 44)) [] [] (.alt 13 (.st 1 (.t 45) (.t 43)) [] [] .nil .nil) .nil) .nil) .nil) .nil) .nil) .nil)) .nil)) .nil)) (.alt 7 (.call 40 Gw [((.t 39), false)]) [0, 1, 5, 6] [] (.alt 2 (.nck 35 (.t 34)) [0, 1, 5] [] (.alt 3 (.fadr 36 1 (.t 35)) [0, 5] [] (.alt 4 (.ld 37 1 false (.t 36)) [0, 5] [] (.alt 8 (.bld 41 [.int .i64 0, .nilsl 1] [(0, 1, (.t 38)), (1, 1, (.t 40))]) [0, 5] [] (.alt 9 (.bsl 42 2 [(.t 41)]) [0] [] (.alt 10 (.app 43 2 (.t 37) (.t 42)) [0] [] (.alt 11 (.nck 44 (.t 33)) [0] [] (.alt 12 (.fadr 45 1 (.t 44)) [] [] (.alt 13 (.st 1 (.t 45) (.t 43)) [] [] .nil .nil) .nil) .nil) .nil) .nil) .nil) (.alt 8 (.bld 41 [.int .i64 0, .nilsl 1] [(0, 1, (.t 38)), (1, 1, (.t 40))]) [0, 5] [] (.alt 4 (.ld 37 1 false (.t 36)) [0] [] (.alt 9 (.bsl 42 2 [(.t 41)]) [0] [] (.alt 10 (.app 43 2 (.t 37) (.t 42)) [0] [] (.alt 11 (.nck 44 (.t 33)) [0] [] (.alt 12 (.fadr 45 1 (.t 44)) [] [] (.alt 13 (.st 1 (.t 45) (.t 43)) [] [] .nil .nil) .nil) .nil) .nil) .nil) (.alt 9 (.bsl 42 2 [(.t 41)]) [0] [] (.alt 4 (.ld 37 1 false (.t 36)) [0] [] (.alt 10 (.app 43 2 (.t 37) (.t 42)) [0] [] (.alt 11 (.nck 44 (.t 33)) [0] [] (.alt 12 (.fadr 45 1 (.t 44)) [] [] (.alt 13 (.st 1 (.t 45) (.t 43)) [] [] .nil .nil) .nil) .nil) .nil) .nil) .nil)) .nil)) (.alt 8 (.bld 41 [.int .i64 0, .nilsl 1] [(0, 1, (.t 38)), (1, 1, (.t 40))]) [0, 5] [] (.alt 3 (.fadr 36 1 (.t 35)) [0] [] (.alt 4 (.ld 37 1 false (.t 36)) [0] [] (.alt 9 (.bsl 42 2 [(.t 41)]) [0] [] (.alt 10 (.app 43 2 (.t 37) (.t 42)) [0] [] (.alt 11 (.nck 44 (.t 33)) [0] [] (.alt 12 (.fadr 45 1 (.t 44)) [] [] (.alt 13 (.st 1 (.t 45) (.t 43)) [] [] .nil .nil) .nil) .nil) .nil) .nil) (.alt 9 (.bsl 42 2 [(.t 41)]) [0] [] (.alt 4 (.ld 37 1 false (.t 36)) [0] [] (.alt 10 (.app 43 2 (.t 37) (.t 42)) [0] [] (.alt 11 (.nck 44 (.t 33)) [0] [] (.alt 12 (.fadr 45 1 (.t 44)) [] [] (.alt 13 (.st 1 (.t 45) (.t 43)) [] [] .nil .nil) .nil) .nil) .nil) .nil) .nil)) (.alt 9 (.bsl 42 2 [(.t 41)]) [0] [] (.alt 3 (.fadr 36 1 (.t 35)) [0] [] (.alt 4 (.ld 37 1 false (.t 36)) [0] [] (.alt 10 (.app 43 2 (.t 37) (.t 42)) [0] [] (.alt 11 (.nck 44 (.t 33)) [0] [] (.alt 12 (.fadr 45 1 (.t 44)) [] [] (.alt 13 (.st 1 (.t 45) (.t 43)) [] [] .nil .nil) .nil) .nil) .nil) .nil) .nil) .nil)) .nil)) (.alt 8 (.bld 41 [.int .i64 0, .nilsl 1] [(0, 1, (.t 38)), (1, 1, (.t 40))]) [0, 1, 5] [] (.alt 2 (.nck 35 (.t 34)) [0, 1] [] (.alt 3 (.fadr 36 1 (.t 35)) [0] [] (.alt 4 (.ld 37 1 false (.t 36)) [0] [] (.alt 9 (.bsl 42 2 [(.t 41)]) [0] [] (.alt 10 (.app 43 2 (.t 37) (.t 42)) [0] [] (.alt 11 (.nck 44 (.t 33)) [0] [] (.alt 12 (.fadr 45 1 (.t 44)) [] [] (.alt 13 (.st 1 (.t 45) (.t 43)) [] [] .nil .nil) .nil) .nil) .nil) .nil) (.alt 9 (.bsl 42 2 [(.t 41)]) [0] [] (.alt 4 (.ld 37 1 false (.t 36)) [0] [] (.alt 10 (.app 43 2 (.t 37) (.t 42)) [0] [] (.alt 11 (.nck 44 (.t 33)) [0] [] (.alt 12 (.fadr 45 1 (.t 44)) [] [] (.alt 13 (.st 1 (.t 45) (.t 43)) [] [] .nil .nil) .nil) .nil) .nil) .nil) .nil)) (.alt 9 (.bsl 42 2 [(.t 41)]) [0] [] (.alt 3 (.fadr 36 1 (.t 35)) [0] [] (.alt 4 (.ld 37 1 false (.t 36)) [0] [] (.alt 10 (.app 43 2 (.t 37) (.t 42)) [0] [] (.alt 11 (.nck 44 (.t 33)) [0] [] (.alt 12 (.fadr 45 1 (.t 44)) [] [] (.alt 13 (.st 1 (.t 45) (.t 43)) [] [] .nil .nil) .nil) .nil) .nil) .nil) .nil) .nil)) (.alt 9 (.bsl 42 2 [(.t 41)]) [0, 1] [] (.alt 2 (.nck 35 (.t 34)) [0, 1] [] (.alt 3 (.fadr 36 1 (.t 35)) [0] [] (.alt 4 (.ld 37 1 false (.t 36)) [0] [] (.alt 10 (.app 43 2 (.t 37) (.t 42)) [0] [] (.alt 11 (.nck 44 (.t 33)) [0] [] (.alt 12 (.fadr 45 1 (.t 44)) [] [] (.alt 13 (.st 1 (.t 45) (.t 43)) [] [] .nil .nil) .nil) .nil) .nil) .nil) .nil) .nil) .nil)) .nil)) .nil)))))))
 .skip)))))
abbrev Zu : List RS := []
theorem Z3 : Bi Try.prog Il 46 Aas Zu = true := by kernel_rfl
def Ue : ACode :=
 (.seq (.seq (.reg [un (.mov 11 (.t 5)),
 un (.mov 12 (.t 0)),
 un (.len 13 (.t 12)),
 un (.bin 14 .lss (.t 11) (.t 13))])
 (.drop [11, 12, 13] (.cond (.t 14) .skip
 (.exit 0))))
 (.drop [11, 12, 13, 14] (.seq (.block 1 (.seq (.dreg [(un (.mov 17 (.t 0)), []),
 (un (.mov 18 (.t 5)), [17]),
 (un (.iad 19 2 (.t 17) (.t 18)), []),
 (un (.ld 20 2 true (.t 19)), []),
 (un (.mov 21 (.t 1)), [17, 18, 19, 20]),
 (un (.mov 22 (.t 5)), [17, 18, 19, 20, 21]),
 (un (.iad 23 2 (.t 21) (.t 22)), [17, 18, 19, 20]),
 (un (.ld 24 2 true (.t 23)), [17, 18, 19, 20])]
 [un (.call 25 N9 [((.t 20), false), ((.t 24), false)]),
 un (.un 26 .not (.t 25))])
 (.drop [17, 18, 19, 20, 21, 22, 23, 24, 25] (.cond (.t 26) (.seq (.reg [un (.asg 4 (.c (.bool false)))])
 .ret)
 .skip))))
 (.drop [17, 18, 19, 20, 21, 22, 23, 24, 25, 26] (.reg [un (.mov 15 (.t 5)),
 un (.bin 16 .add (.t 15) (.c (.int .i64 1))),
 un (.asg 5 (.t 16))])))))
def Aj8 : ACode :=
 (.seq (.reg [un (.asg 4 (.c (.bool false)))])
 (.seq (.seq (.reg [un (.mov 6 (.t 0)),
 un (.len 7 (.t 6)),
 un (.mov 8 (.t 1)),
 un (.len 9 (.t 8)),
 un (.bin 10 .neq (.t 7) (.t 9))])
 (.drop [6, 7, 8, 9] (.cond (.t 10) (.seq (.reg [un (.asg 4 (.c (.bool false)))])
 .ret)
 .skip)))
 (.drop [6, 7, 8, 9, 10] (.seq (.seq (.reg [un (.asg 5 (.c (.int .i64 0)))])
 (.block 0 (.loop Ue)))
 (.drop [5, 11, 12, 13, 14, 17, 18, 19, 20, 21, 22, 23, 24, 25, 26, 15, 16] (.seq (.reg [un (.asg 4 (.c (.bool true)))])
 .ret))))))
abbrev Ajw : List RS := [.t 4]
theorem Aka : Bi Try.prog Tq 27 Aj8 Ajw = true := by kernel_rfl
def Wg : ACode :=
 (.seq (.reg [un (.fadr 5 0 (.t 1)),
 un (.ld 6 1 false (.t 5)),
 un (.bin 7 .lss (.t 6) (.c (.int .i64 1))),
 un (.asg 8 (.t 7)),
 ⟨some (8, false), .fadr 9 0 (.t 1)⟩,
 ⟨some (8, false), .ld 10 1 false (.t 9)⟩,
 ⟨some (8, false), .bin 11 .gtr (.t 10) (.c (.int .i64 8))⟩,
 un (.pick 12 (.t 8) (.c (.bool true)) (.t 11)),
 un (.asg 13 (.t 12)),
 ⟨some (13, false), .fadr 14 1 (.t 1)⟩,
 ⟨some (13, false), .ld 15 1 false (.t 14)⟩,
 ⟨some (13, false), .len 16 (.t 15)⟩,
 ⟨some (13, false), .bin 17 .gtr (.t 16) (.c (.int .i64 4))⟩,
 un (.pick 18 (.t 13) (.c (.bool true)) (.t 17))])
 (.drop [5, 6, 7, 8, 9, 10, 11, 12, 13, 14, 15, 16, 17] (.cond (.t 18) (.seq (.reg [un (.asg 2 (.c (.bool false)))])
 .ret)
 .skip)))
def M3 : ACode :=
 (.seq (.reg [un (.bin 23 .lss (.t 22) (.t 21))])
 (.seq (.cond (.t 23) .skip
 (.exit 0))
 (.seq (.block 1 (.seq (.reg [un (.iad 24 2 (.t 20) (.t 22)),
 un (.ld 25 2 true (.t 24)),
 un (.alc 4 (.agg [.int .i64 0, .nilsl 1])),
 un (.st 2 (.t 4) (.t 25))])
 (.drop [24, 25] (.seq (.reg [un (.ld 26 2 true (.t 4)),
 un (.fadr 27 0 (.t 1)),
 un (.ld 28 1 false (.t 27)),
 un (.call 29 J7 [((.t 26), false), ((.t 28), false)]),
 un (.un 30 .not (.t 29))])
 (.drop [26, 27, 28, 29] (.cond (.t 30) (.seq (.reg [un (.asg 2 (.c (.bool false)))])
 .ret)
 .skip))))))
 (.drop [24, 25, 4, 26, 27, 28, 29, 30] (.reg [un (.bin 31 .add (.t 22) (.c (.int .i64 1))),
 un (.asg 22 (.t 31))])))))
def Aak : ACode :=
 (.seq (.reg [un (.box 1 (.t 0)),
 un (.asg 2 (.c (.bool false)))])
 (.seq (.cut Wg)
 (.drop [5, 6, 7, 8, 9, 10, 11, 12, 13, 14, 15, 16, 17, 18] (.seq (.seq (.reg [un (.fadr 19 1 (.t 1)),
 un (.ld 20 1 false (.t 19)),
 un (.len 21 (.t 20)),
 un (.mov 22 (.c (.int .i64 0)))])
 (.drop [19] (.block 0 (.loop M3))))
 (.drop [19, 20, 21, 22, 23, 24, 25, 4, 26, 27, 28, 29, 30, 31] (.seq (.reg [un (.asg 2 (.c (.bool true)))])
 .ret))))))
abbrev Aap : List RS := [.t 2]
theorem Aat : Bi Try.prog E8 32 Aak Aap = true := by kernel_rfl
def Zl : ACode :=
 (.seq (.reg [un (.fadr 28 1 (.t 10)),
 un (.ld 29 1 false (.t 28)),
 un (.len 30 (.t 29)),
 un (.bin 31 .neq (.t 30) (.c (.int .i64 1))),
 un (.asg 32 (.t 31)),
 ⟨some (32, false), .fadr 33 1 (.t 10)⟩,
 ⟨some (32, false), .ld 34 1 false (.t 33)⟩,
 ⟨some (32, false), .mov 35 (.t 1)⟩,
 ⟨some (32, false), .call 36 I6 [((.t 34), false), ((.t 35), false)]⟩,
 ⟨some (32, false), .un 37 .not (.t 36)⟩,
 un (.pick 38 (.t 32) (.c (.bool true)) (.t 37))])
 (.drop [28, 29, 30, 31, 32, 33, 34, 35, 36, 37] (.cond (.t 38) (.seq (.reg [un (.asg 6 (.c (.nilsl 1))),
 un (.asg 7 (.c (.bool false)))])
 .ret)
 .skip)))
def Y4 : ACode :=
 (.seq (.dreg [(un (.fadr 50 0 (.t 10)), []),
 (un (.ld 51 1 false (.t 50)), []),
 (un (.bin 52 .lss (.t 51) (.c (.int .i64 0))), []),
 (un (.asg 53 (.t 52)), []),
 (⟨some (53, false), .fadr 54 0 (.t 10)⟩, [52]),
 (⟨some (53, false), .ld 55 1 false (.t 54)⟩, [52]),
 (⟨some (53, false), .fadr 56 1 (.t 3)⟩, [54, 55, 52]),
 (⟨some (53, false), .ld 57 1 false (.t 56)⟩, [54, 55, 52]),
 (⟨some (53, false), .len 58 (.t 57)⟩, [54, 55, 52]),
 (⟨some (53, false), .bin 59 .geq (.t 55) (.t 58)⟩, [52]),
 (un (.pick 60 (.t 53) (.c (.bool true)) (.t 59)), [52]),
 (un (.asg 61 (.t 60)), [52]),
 (⟨some (61, false), .fadr 62 1 (.t 10)⟩, [52, 60]),
 (⟨some (61, false), .ld 63 1 false (.t 62)⟩, [52, 60]),
 (⟨some (61, false), .len 64 (.t 63)⟩, [52, 60]),
 (⟨some (61, false), .fadr 65 1 (.t 3)⟩, [62, 63, 64, 52, 60]),
 (⟨some (61, false), .ld 66 1 false (.t 65)⟩, [62, 63, 64, 52, 60]),
 (⟨some (61, false), .fadr 67 0 (.t 10)⟩, [62, 63, 64, 65, 66, 52, 60]),
 (⟨some (61, false), .ld 68 1 false (.t 67)⟩, [62, 63, 64, 65, 66, 52, 60]),
 (⟨some (61, false), .iad 69 2 (.t 66) (.t 68)⟩, [62, 63, 64, 52, 60]),
 (⟨some (61, false), .fadr 70 0 (.t 69)⟩, [62, 63, 64, 52, 60]),
 (⟨some (61, false), .ld 71 1 false (.t 70)⟩, [62, 63, 64, 52, 60]),
 (⟨some (61, false), .bin 72 .neq (.t 64) (.t 71)⟩, [52, 60]),
 (un (.pick 73 (.t 61) (.c (.bool true)) (.t 72)), [52, 60]),
 (un (.asg 74 (.t 73)), [52, 60]),
 (⟨some (74, false), .fadr 75 1 (.t 10)⟩, [52, 60, 73]),
 (⟨some (74, false), .ld 76 1 false (.t 75)⟩, [52, 60, 73]),
 (⟨some (74, false), .mov 77 (.t 9)⟩, [75, 76, 52, 60, 73])]
 [⟨some (74, false), .call 78 I6 [((.t 76), false), ((.t 77), false)]⟩,
 ⟨some (74, false), .un 79 .not (.t 78)⟩,
 un (.pick 80 (.t 74) (.c (.bool true)) (.t 79))])
 (.drop [50, 51, 52, 53, 54, 55, 56, 57, 58, 59, 60, 61, 62, 63, 64, 65, 66, 67, 68, 69, 70, 71, 72, 73, 74, 75, 76, 77, 78, 79] (.cond (.t 80) (.seq (.reg [un (.asg 6 (.c (.nilsl 1))),
 un (.asg 7 (.c (.bool false)))])
 .ret)
 .skip)))
def O9 : ACode :=
 (.seq (.reg [un (.bin 86 .lss (.t 85) (.t 84))])
 (.seq (.cond (.t 86) .skip
 (.exit 2))
 (.seq (.block 3 (.seq (.reg [un (.iad 87 1 (.t 83) (.t 85)),
 un (.ld 88 1 false (.t 87)),
 un (.asg 13 (.t 88))])
 (.drop [87, 88] (.reg [un (.mov 89 (.t 11)),
 un (.mov 90 (.t 8)),
 un (.mov 91 (.t 13)),
 un (.iad 92 1 (.t 90) (.t 91)),
 un (.ld 93 1 false (.t 92)),
 un (.bsl 94 1 [(.t 93)]),
 un (.app 95 1 (.t 89) (.t 94)),
 un (.asg 11 (.t 95))]))))
 (.drop [87, 88, 13, 89, 90, 91, 92, 93, 94, 95] (.reg [un (.bin 96 .add (.t 85) (.c (.int .i64 1))),
 un (.asg 85 (.t 96))])))))
def Pf : ACode :=
 (.seq (.reg [un (.bin 21 .lss (.t 20) (.t 19))])
 (.seq (.cond (.t 21) .skip
 (.exit 0))
 (.seq (.block 1 (.seq (.reg [un (.mov 22 (.t 20)),
 un (.iad 23 2 (.t 18) (.t 20)),
 un (.ld 24 2 true (.t 23)),
 un (.alc 10 (.agg [.int .i64 0, .nilsl 1])),
 un (.asg 9 (.t 22)),
 un (.st 2 (.t 10) (.t 24))])
 (.drop [22, 23, 24] (.seq (.seq (.reg [un (.fadr 25 0 (.t 10)),
 un (.ld 26 1 false (.t 25)),
 un (.bin 27 .eql (.t 26) (.c (.int .i64 (-1))))])
 (.drop [25, 26] (.cond (.t 27) (.seq (.cut Zl)
 (.drop [28, 29, 30, 31, 32, 33, 34, 35, 36, 37, 38] (.seq (.dreg [(un (.mov 39 (.t 8)), [47]),
 (un (.fadr 40 0 (.t 3)), [39]),
 (un (.ld 41 1 false (.t 40)), [39]),
 (un (.mov 42 (.t 1)), [39, 40, 41]),
 (un (.fadr 43 1 (.t 10)), [39, 40, 41, 42]),
 (un (.ld 44 1 false (.t 43)), [39, 40, 41, 42]),
 (un (.iad 45 1 (.t 44) (.c (.int .i64 0))), [39, 40, 41, 42]),
 (un (.ld 46 1 false (.t 45)), [39, 40, 41, 42]),
 (un (.call 47 Fp [((.t 41), false), ((.t 42), false), ((.t 46), false)]), [39]),
 (un (.bsl 48 1 [(.t 47)]), [39])]
 [un (.app 49 1 (.t 39) (.t 48)),
 un (.asg 8 (.t 49))])
 (.drop [39, 40, 41, 42, 43, 44, 45, 46, 47, 48, 49] (.exit 1)))))
 .skip)))
 (.drop [25, 26, 27, 28, 29, 30, 31, 32, 33, 34, 35, 36, 37, 38, 39, 40, 41, 42, 43, 44, 45, 46, 47, 48, 49] (.seq (.cut Y4)
 (.drop [50, 51, 52, 53, 54, 55, 56, 57, 58, 59, 60, 61, 62, 63, 64, 65, 66, 67, 68, 69, 70, 71, 72, 73, 74, 75, 76, 77, 78, 79, 80] (.seq (.reg [un (.bsl 81 1 []),
 un (.asg 11 (.t 81))])
 (.drop [81] (.seq (.seq (.reg [un (.fadr 82 1 (.t 10)),
 un (.ld 83 1 false (.t 82)),
 un (.len 84 (.t 83)),
 un (.mov 85 (.c (.int .i64 0)))])
 (.drop [82] (.block 2 (.loop O9))))
 (.drop [82, 83, 84, 85, 86, 87, 88, 13, 89, 90, 91, 92, 93, 94, 95, 96] (.frz [11] (.dreg [(un (.mov 97 (.t 8)), [111]),
 (un (.fadr 98 0 (.t 3)), [97]),
 (un (.ld 99 1 false (.t 98)), [97]),
 (un (.fadr 100 1 (.t 3)), [97, 98, 99]),
 (un (.ld 101 1 false (.t 100)), [97, 98, 99]),
 (un (.fadr 102 0 (.t 10)), [97, 98, 99, 100, 101]),
 (un (.ld 103 1 false (.t 102)), [97, 98, 99, 100, 101]),
 (un (.iad 104 2 (.t 101) (.t 103)), [97, 98, 99]),
 (un (.ld 105 2 true (.t 104)), [97, 98, 99]),
 (un (.mov 106 (.t 11)), [97, 98, 99, 100, 101, 102, 103, 104, 105]),
 (un (.fadr 107 0 (.t 3)), [97, 98, 99, 100, 101, 102, 103, 104, 105, 106]),
 (un (.ld 108 1 false (.t 107)), [97, 98, 99, 100, 101, 102, 103, 104, 105, 106]),
 (un (.mov 109 (.t 1)), [97, 98, 99, 100, 101, 102, 103, 104, 105, 106, 107, 108]),
 (un (.call 110 D5 [((.t 108), false), ((.t 109), false)]), [97, 98, 99, 100, 101, 102, 103, 104, 105, 106]),
 (un (.call 111 D9 [((.t 99), false), ((.t 105), false), ((.t 106), false), ((.t 110), false)]), [97]),
 (un (.bsl 112 1 [(.t 111)]), [97])]
 [un (.app 113 1 (.t 97) (.t 112)),
 un (.asg 8 (.t 113))])))))))))))))
 (.drop [22, 23, 24, 10, 9, 25, 26, 27, 28, 29, 30, 31, 32, 33, 34, 35, 36, 37, 38, 39, 40, 41, 42, 43, 44, 45, 46, 47, 48, 49, 50, 51, 52, 53, 54, 55, 56, 57, 58, 59, 60, 61, 62, 63, 64, 65, 66, 67, 68, 69, 70, 71, 72, 73, 74, 75, 76, 77, 78, 79, 80, 81, 11, 82, 83, 84, 85, 86, 87, 88, 13, 89, 90, 91, 92, 93, 94, 95, 96, 97, 98, 99, 100, 101, 102, 103, 104, 105, 106, 107, 108, 109, 110, 111, 112, 113] (.reg [un (.bin 114 .add (.t 20) (.c (.int .i64 1))),
 un (.asg 20 (.t 114))])))))
def Adq : ACode :=
 (.seq (.reg [un (.box 3 (.t 0)),
 un (.asg 6 (.c (.nilsl 1))),
 un (.asg 7 (.c (.bool false)))])
 (.seq (.seq (.reg [un (.mov 14 (.t 2)),
 un (.len 15 (.t 14)),
 un (.bin 16 .gtr (.t 15) (.c (.int .i64 60)))])
 (.drop [14, 15] (.cond (.t 16) (.seq (.reg [un (.asg 6 (.c (.nilsl 1))),
 un (.asg 7 (.c (.bool false)))])
 .ret)
 .skip)))
 (.drop [14, 15, 16] (.seq (.reg [un (.bsl 17 1 []),
 un (.asg 8 (.t 17))])
 (.drop [17] (.seq (.seq (.reg [un (.mov 18 (.t 2)),
 un (.len 19 (.t 18)),
 un (.mov 20 (.c (.int .i64 0)))])
 (.block 0 (.loop Pf)))
 (.drop [18, 19, 20, 21, 22, 23, 24, 10, 9, 25, 26, 27, 28, 29, 30, 31, 32, 33, 34, 35, 36, 37, 38, 39, 40, 41, 42, 43, 44, 45, 46, 47, 48, 49, 50, 51, 52, 53, 54, 55, 56, 57, 58, 59, 60, 61, 62, 63, 64, 65, 66, 67, 68, 69, 70, 71, 72, 73, 74, 75, 76, 77, 78, 79, 80, 81, 11, 82, 83, 84, 85, 86, 87, 88, 13, 89, 90, 91, 92, 93, 94, 95, 96, 97, 98, 99, 100, 101, 102, 103, 104, 105, 106, 107, 108, 109, 110, 111, 112, 113, 114] (.seq (.reg [un (.mov 115 (.t 8)),
 un (.asg 6 (.t 115)),
 un (.asg 7 (.c (.bool true)))])
 (.drop [115] .ret)))))))))
abbrev Adl : List RS := [.t 6, .t 7]
theorem Ad3 : Bi Try.prog Kq 116 Adq Adl = true := by kernel_rfl
def Aaw : ACode :=
 (.seq (.reg [un (.fadr 4 0 (.t 1)),
 un (.ld 5 1 false (.t 4)),
 un (.call 6 J2 [((.t 5), false), ((.c (.int .i64 1)), false), ((.c (.int .i64 8)), false)]),
 un (.un 7 .not (.t 6)),
 un (.asg 8 (.t 7)),
 ⟨some (8, false), .fadr 9 1 (.t 1)⟩,
 ⟨some (8, false), .ld 10 1 false (.t 9)⟩,
 ⟨some (8, false), .len 11 (.t 10)⟩,
 ⟨some (8, false), .bin 12 .gtr (.t 11) (.c (.int .i64 4))⟩,
 un (.pick 13 (.t 8) (.c (.bool true)) (.t 12))])
 (.drop [4, 5, 6, 7, 8, 9, 10, 11, 12] (.cond (.t 13) (.seq (.reg [un (.asg 2 (.c (.bool false)))])
 .ret)
 .skip)))
def Qt : ACode :=
 (.seq (.seq (.reg [un (.mov 14 (.t 3)),
 un (.fadr 15 1 (.t 1)),
 un (.ld 16 1 false (.t 15)),
 un (.len 17 (.t 16)),
 un (.bin 18 .lss (.t 14) (.t 17))])
 (.drop [14, 15, 16, 17] (.cond (.t 18) .skip
 (.exit 0))))
 (.drop [14, 15, 16, 17, 18] (.seq (.block 1 (.seq (.dreg [(un (.fadr 21 0 (.t 1)), []),
 (un (.ld 22 1 false (.t 21)), []),
 (un (.fadr 23 1 (.t 1)), [21, 22]),
 (un (.ld 24 1 false (.t 23)), [21, 22]),
 (un (.mov 25 (.t 3)), [21, 22, 23, 24]),
 (un (.iad 26 2 (.t 24) (.t 25)), [21, 22]),
 (un (.ld 27 2 true (.t 26)), [21, 22])]
 [un (.call 28 O6 [((.t 22), false), ((.t 27), false)]),
 un (.un 29 .not (.t 28))])
 (.drop [21, 22, 23, 24, 25, 26, 27, 28] (.cond (.t 29) (.seq (.reg [un (.asg 2 (.c (.bool false)))])
 .ret)
 .skip))))
 (.drop [21, 22, 23, 24, 25, 26, 27, 28, 29] (.reg [un (.mov 19 (.t 3)),
 un (.bin 20 .add (.t 19) (.c (.int .i64 1))),
 un (.asg 3 (.t 20))])))))
def Af8 : ACode :=
 (.seq (.reg [un (.box 1 (.t 0)),
 un (.asg 2 (.c (.bool false)))])
 (.seq (.cut Aaw)
 (.drop [4, 5, 6, 7, 8, 9, 10, 11, 12, 13] (.seq (.seq (.reg [un (.asg 3 (.c (.int .i64 0)))])
 (.block 0 (.loop Qt)))
 (.drop [3, 14, 15, 16, 17, 18, 21, 22, 23, 24, 25, 26, 27, 28, 29, 19, 20] (.seq (.reg [un (.asg 2 (.c (.bool true)))])
 .ret))))))
abbrev Aft : List RS := [.t 2]
theorem Afo : Bi Try.prog I7 30 Af8 Aft = true := by kernel_rfl
def Xt : ACode :=
 (.seq (.reg [un (.asg 4 (.c (.int .i64 0)))])
 (.seq (.reg [un (.mov 5 (.t 1)),
 un (.mov 6 (.t 0)),
 un (.mov 7 (.t 1)),
 un (.len 8 (.t 7)),
 un (.call 9 Ay [((.t 6), true), ((.t 8), false)]),
 un (.iad 10 1 (.t 5) (.t 9)),
 un (.ld 11 1 false (.t 10)),
 un (.asg 4 (.t 11))])
 (.drop [5, 6, 7, 8, 9, 10, 11] .ret)))
abbrev Xu : List RS := [.t 4]
theorem W7 : Bi Try.prog A9 12 Xt Xu = true := by kernel_rfl
def Aag : ACode :=
 (.seq (.reg [un (.asg 4 (.c (.bool false)))])
 (.seq (.reg [un (.mov 5 (.t 0)),
 un (.mov 6 (.t 1)),
 un (.call 7 Ay [((.t 5), true), ((.t 6), false)]),
 un (.bin 8 .eql (.t 7) (.c (.int .i64 0))),
 un (.asg 4 (.t 8))])
 (.drop [5, 6, 7, 8] .ret)))
abbrev Aau : List RS := [.t 4]
theorem Aa7 : Bi Try.prog Ih 9 Aag Aau = true := by kernel_rfl
def P3 : ACode :=
 (.seq (.seq (.reg [un (.mov 21 (.t 9)),
 un (.mov 22 (.t 2)),
 un (.bin 23 .lss (.t 21) (.t 22))])
 (.drop [21, 22] (.cond (.t 23) .skip
 (.exit 0))))
 (.drop [21, 22, 23] (.seq (.block 1 (.reg [un (.mov 26 (.t 8)),
 un (.mov 27 (.t 0)),
 un (.mov 28 (.t 2)),
 un (.mov 29 (.t 9)),
 un (.call 30 Fp [((.t 27), false), ((.t 28), false), ((.t 29), false)]),
 un (.mov 31 (.t 9)),
 un (.bsl 32 1 [(.t 31)]),
 un (.call 33 Il [((.t 26), true), ((.t 30), false), ((.c (.int .i64 (-1))), false), ((.t 32), false)])]))
 (.drop [26, 27, 28, 29, 30, 31, 32, 33] (.reg [un (.mov 24 (.t 9)),
 un (.bin 25 .add (.t 24) (.c (.int .i64 1))),
 un (.asg 9 (.t 25))])))))
def Pz : ACode :=
 (.seq (.reg [un (.bin 72 .lss (.t 71) (.t 70))])
 (.seq (.cond (.t 72) .skip
 (.exit 8))
 (.seq (.block 9 (.seq (.reg [un (.mov 73 (.t 71)),
 un (.iad 74 1 (.t 69) (.t 71)),
 un (.ld 75 1 false (.t 74)),
 un (.asg 16 (.t 73)),
 un (.asg 17 (.t 75))])
 (.drop [73, 74, 75] (.reg [un (.mov 76 (.t 13)),
 un (.mov 77 (.t 16)),
 un (.mov 78 (.t 8)),
 un (.nck 79 (.t 78)),
 un (.fadr 80 0 (.t 79)),
 un (.ld 81 1 false (.t 80)),
 un (.mov 82 (.t 17)),
 un (.iad 83 1 (.t 81) (.t 82)),
 un (.ld 84 1 false (.t 83)),
 un (.iad 85 1 (.t 76) (.t 77)),
 un (.st 1 (.t 85) (.t 84))]))))
 (.drop [73, 74, 75, 16, 17, 76, 77, 78, 79, 80, 81, 82, 83, 84, 85] (.reg [un (.bin 86 .add (.t 71) (.c (.int .i64 1))),
 un (.asg 71 (.t 86))])))))
def Po : ACode :=
 (.seq (.seq (.reg [un (.mov 56 (.t 14)),
 un (.mov 57 (.t 10)),
 un (.fadr 58 0 (.t 12)),
 un (.ld 59 1 false (.t 58)),
 un (.call 60 D5 [((.t 57), false), ((.t 59), false)]),
 un (.bin 61 .lss (.t 56) (.t 60))])
 (.drop [56, 57, 58, 59, 60] (.cond (.t 61) .skip
 (.exit 6))))
 (.drop [56, 57, 58, 59, 60, 61] (.seq (.block 7 (.seq (.reg [un (.mov 64 (.t 14)),
 un (.fadr 65 0 (.t 12)),
 un (.ld 66 1 false (.t 65)),
 un (.mov 67 (.t 10)),
 un (.call 68 I2 [((.t 64), false), ((.t 66), false), ((.t 67), false)]),
 un (.asg 15 (.t 68))])
 (.drop [64, 65, 66, 67, 68] (.seq (.seq (.reg [un (.mov 69 (.t 15)),
 un (.len 70 (.t 69)),
 un (.mov 71 (.c (.int .i64 0)))])
 (.block 8 (.loop Pz)))
 (.drop [69, 70, 71, 72, 73, 74, 75, 16, 17, 76, 77, 78, 79, 80, 81, 82, 83, 84, 85, 86] (.seq (.frz [15] (.dreg [(un (.mov 87 (.t 8)), []),
 (un (.mov 88 (.t 0)), [87]),
 (un (.ld 89 2 true (.t 12)), [87, 88]),
 (un (.mov 90 (.t 13)), [87, 88, 89]),
 (un (.mov 91 (.t 0)), [87, 88, 89, 90]),
 (un (.mov 92 (.t 2)), [87, 88, 89, 90, 91]),
 (un (.call 93 D5 [((.t 91), false), ((.t 92), false)]), [87, 88, 89, 90]),
 (un (.call 94 D9 [((.t 88), false), ((.t 89), false), ((.t 90), false), ((.t 93), false)]), [87]),
 (un (.mov 95 (.t 11)), [87, 88, 89, 90, 91, 92, 93, 94]),
 (un (.mov 96 (.t 15)), [87, 88, 89, 90, 91, 92, 93, 94, 95])]
 [un (.call 97 Il [((.t 87), true), ((.t 94), false), ((.t 95), false), ((.t 96), false)])]))
 (.drop [87, 88, 89, 90, 91, 92, 93, 94, 95, 96, 97] (.seq (.reg [un (.mov 98 (.t 8)),
 un (.nck 99 (.t 98)),
 un (.fadr 100 0 (.t 99)),
 un (.ld 101 1 false (.t 100)),
 un (.len 102 (.t 101)),
 un (.bin 103 .gtr (.t 102) (.c (.int .i64 60)))])
 (.drop [98, 99, 100, 101, 102] (.cond (.t 103) (.seq (.reg [un (.asg 6 (.c (.nilp))),
 un (.asg 7 (.c (.bool false)))])
 .ret)
 .skip))))))))))
 (.drop [64, 65, 66, 67, 68, 15, 69, 70, 71, 72, 73, 74, 75, 16, 17, 76, 77, 78, 79, 80, 81, 82, 83, 84, 85, 86, 87, 88, 89, 90, 91, 92, 93, 94, 95, 96, 97, 98, 99, 100, 101, 102, 103] (.reg [un (.mov 62 (.t 14)),
 un (.bin 63 .add (.t 62) (.c (.int .i64 1))),
 un (.asg 14 (.t 63))])))))
def Py : ACode :=
 (.seq (.reg [un (.bin 49 .lss (.t 48) (.t 47))])
 (.seq (.cond (.t 49) .skip
 (.exit 4))
 (.seq (.block 5 (.seq (.reg [un (.mov 50 (.t 48)),
 un (.iad 51 2 (.t 46) (.t 48)),
 un (.ld 52 2 true (.t 51)),
 un (.alc 12 (.agg [.int .i64 0, .nilsl 1])),
 un (.asg 11 (.t 50)),
 un (.st 2 (.t 12) (.t 52))])
 (.drop [50, 51, 52] (.seq (.reg [un (.fadr 53 0 (.t 12)),
 un (.ld 54 1 false (.t 53)),
 un (.mk 55 1 (.nilsl 1) (.t 54)),
 un (.asg 13 (.t 55))])
 (.drop [53, 54, 55] (.seq (.reg [un (.asg 14 (.c (.int .i64 0)))])
 (.frz [100013] (.block 6 (.loop Po)))))))))
 (.drop [50, 51, 52, 12, 11, 53, 54, 55, 13, 14, 56, 57, 58, 59, 60, 61, 64, 65, 66, 67, 68, 15, 69, 70, 71, 72, 73, 74, 75, 16, 17, 76, 77, 78, 79, 80, 81, 82, 83, 84, 85, 86, 87, 88, 89, 90, 91, 92, 93, 94, 95, 96, 97, 98, 99, 100, 101, 102, 103, 62, 63] (.reg [un (.bin 104 .add (.t 48) (.c (.int .i64 1))),
 un (.asg 48 (.t 104))])))))
def O8 : ACode :=
 (.seq (.seq (.reg [un (.mov 34 (.t 10)),
 un (.mov 35 (.t 8)),
 un (.nck 36 (.t 35)),
 un (.fadr 37 0 (.t 36)),
 un (.ld 38 1 false (.t 37)),
 un (.len 39 (.t 38)),
 un (.bin 40 .lss (.t 34) (.t 39))])
 (.drop [34, 35, 36, 37, 38, 39] (.cond (.t 40) .skip
 (.exit 2))))
 (.drop [34, 35, 36, 37, 38, 39, 40] (.block 3 (.seq (.reg [un (.mov 41 (.t 8)),
 un (.nck 42 (.t 41)),
 un (.fadr 43 0 (.t 42)),
 un (.ld 44 1 false (.t 43)),
 un (.len 45 (.t 44)),
 un (.asg 10 (.t 45))])
 (.drop [41, 42, 43, 44, 45] (.seq (.reg [un (.mov 46 (.t 1)),
 un (.len 47 (.t 46)),
 un (.mov 48 (.c (.int .i64 0)))])
 (.block 4 (.loop Py))))))))
def Acw : ACode :=
 (.seq (.reg [un (.asg 6 (.c (.nilp))),
 un (.asg 7 (.c (.bool false)))])
 (.seq (.reg [un (.mkm 18),
 un (.bld 19 [.nilsl 1, .nilsl 2, .dead] [(2, 1, (.t 18))]),
 un (.box 20 (.t 19)),
 un (.asg 8 (.t 20))])
 (.drop [18, 19, 20] (.seq (.seq (.reg [un (.asg 9 (.c (.int .i64 0)))])
 (.block 0 (.loop P3)))
 (.drop [9, 21, 22, 23, 26, 27, 28, 29, 30, 31, 32, 33, 24, 25] (.seq (.seq (.reg [un (.asg 10 (.c (.int .i64 (-1))))])
 (.block 2 (.loop O8)))
 (.drop [10, 34, 35, 36, 37, 38, 39, 40, 41, 42, 43, 44, 45, 46, 47, 48, 49, 50, 51, 52, 12, 11, 53, 54, 55, 13, 14, 56, 57, 58, 59, 60, 61, 64, 65, 66, 67, 68, 15, 69, 70, 71, 72, 73, 74, 75, 16, 17, 76, 77, 78, 79, 80, 81, 82, 83, 84, 85, 86, 87, 88, 89, 90, 91, 92, 93, 94, 95, 96, 97, 98, 99, 100, 101, 102, 103, 62, 63, 104] (.seq (.reg [un (.mov 105 (.t 8)),
 un (.asg 6 (.t 105)),
 un (.asg 7 (.c (.bool true)))])
 (.drop [105] .ret)))))))))
abbrev Add : List RS := [.t 6, .t 7]
theorem Ad9 : Bi Try.prog Oj 106 Acw Add = true := by kernel_rfl
def Aax : ACode :=
 (.seq (.reg [un (.fadr 7 2 (.t 3)),
 un (.ld 8 1 false (.t 7)),
 un (.asg 9 (.t 8)),
 ⟨some (9, false), .fadr 10 0 (.t 3)⟩,
 ⟨some (9, false), .ld 11 1 false (.t 10)⟩,
 ⟨some (9, false), .mov 12 (.t 1)⟩,
 ⟨some (9, false), .call 13 G6 [((.t 11), false), ((.t 12), false)]⟩,
 ⟨some (9, false), .bin 14 .geq (.t 13) (.c (.int .i64 0))⟩,
 un (.pick 15 (.t 9) (.c (.bool true)) (.t 14))])
 (.drop [7, 8, 9, 10, 11, 12, 13, 14] (.cond (.t 15) (.seq (.reg [un (.ld 16 3 true (.t 3)),
 un (.st 3 (.t 6) (.t 16))])
 (.drop [16] .ret))
 .skip)))
def Afj : ACode :=
 (.seq (.reg [un (.box 3 (.t 0)),
 un (.box 5 (.t 2)),
 un (.alc 6 (.agg [.nilsl 1, .nilsl 2, .bool false]))])
 (.seq (.cut Aax)
 (.drop [7, 8, 9, 10, 11, 12, 13, 14, 15, 16] (.seq (.seq (.reg [un (.fadr 17 0 (.t 3)),
 un (.ld 18 1 false (.t 17)),
 un (.len 19 (.t 18)),
 un (.bin 20 .eql (.t 19) (.c (.int .i64 60)))])
 (.drop [17, 18, 19] (.cond (.t 20) (.seq (.reg [un (.fadr 21 2 (.t 3)),
 un (.st 1 (.t 21) (.c (.bool true)))])
 (.drop [21] (.seq (.reg [un (.ld 22 3 true (.t 3)),
 un (.st 3 (.t 6) (.t 22))])
 (.drop [22] .ret))))
 .skip)))
 (.drop [17, 18, 19, 20, 21, 22] (.seq (.reg [un (.fadr 23 0 (.t 3)),
 un (.ld 24 1 false (.t 23)),
 un (.mov 25 (.t 1)),
 un (.bsl 26 1 [(.t 25)]),
 un (.app 27 1 (.t 24) (.t 26)),
 un (.fadr 28 0 (.t 3)),
 un (.st 1 (.t 28) (.t 27))])
 (.drop [23, 24, 25, 26, 27, 28] (.seq (.reg [un (.fadr 29 1 (.t 3)),
 un (.ld 30 1 false (.t 29)),
 un (.ld 31 2 true (.t 5)),
 un (.bsl 32 2 [(.t 31)]),
 un (.app 33 2 (.t 30) (.t 32)),
 un (.fadr 34 1 (.t 3)),
 un (.st 1 (.t 34) (.t 33))])
 (.drop [29, 30, 31, 32, 33, 34] (.seq (.reg [un (.ld 35 3 true (.t 3)),
 un (.st 3 (.t 6) (.t 35))])
 (.drop [35] .ret)))))))))))
abbrev Afv : List RS := [.c 6 3 true]
theorem Ae6 : Bi Try.prog L0 36 Afj Afv = true := by kernel_rfl
def Sm : ACode :=
 (.seq (.reg [un (.ld 10 2 true (.t 3)),
 un (.call 11 E8 [((.t 10), false)]),
 un (.un 12 .not (.t 11)),
 un (.asg 13 (.t 12)),
 ⟨some (13, false), .fadr 14 0 (.t 3)⟩,
 ⟨some (13, false), .ld 15 1 false (.t 14)⟩,
 ⟨some (13, false), .mov 16 (.t 1)⟩,
 ⟨some (13, false), .call 17 Dn [((.t 15), false), ((.t 16), false)]⟩,
 ⟨some (13, false), .un 18 .not (.t 17)⟩,
 un (.pick 19 (.t 13) (.c (.bool true)) (.t 18))])
 (.drop [10, 11, 12, 13, 14, 15, 16, 17, 18] (.cond (.t 19) (.seq (.reg [un (.asg 6 (.c (.bool false))),
 un (.asg 7 (.c (.bool false)))])
 .ret)
 .skip)))
def Wl : ACode :=
 (.seq (.reg [un (.box 3 (.t 0)),
 un (.asg 6 (.c (.bool false))),
 un (.asg 7 (.c (.bool false)))])
 (.seq (.cut Sm)
 (.drop [10, 11, 12, 13, 14, 15, 16, 17, 18, 19] (.seq (.reg [un (.ld 21 2 true (.t 3)),
 un (.mov 22 (.t 1)),
 un (.mov 23 (.t 2)),
 un (.call 24 Kq [((.t 21), false), ((.t 22), false), ((.t 23), false)]),
 un (.asg 20 (.t 24)),
 un (.ext 25 (.t 20) 0),
 un (.ext 26 (.t 20) 1),
 un (.asg 8 (.t 25)),
 un (.asg 9 (.t 26))])
 (.drop [21, 22, 23, 24, 20, 25, 26, 8] (.seq (.reg [un (.mov 27 (.t 9)),
 un (.asg 6 (.t 27)),
 un (.asg 7 (.c (.bool true)))])
 (.drop [27] .ret)))))))
abbrev V9 : List RS := [.t 6, .t 7]
theorem V5 : Bi Try.prog Iy 28 Wl V9 = true := by kernel_rfl
def Om : ACode :=
 (.seq (.reg [un (.ld 10 2 true (.t 3)),
 un (.call 11 E8 [((.t 10), false)]),
 un (.un 12 .not (.t 11)),
 un (.asg 13 (.t 12)),
 ⟨some (13, false), .fadr 14 0 (.t 3)⟩,
 ⟨some (13, false), .ld 15 1 false (.t 14)⟩,
 ⟨some (13, false), .mov 16 (.t 1)⟩,
 ⟨some (13, false), .call 17 Dn [((.t 15), false), ((.t 16), false)]⟩,
 ⟨some (13, false), .un 18 .not (.t 17)⟩,
 un (.pick 19 (.t 13) (.c (.bool true)) (.t 18))])
 (.drop [10, 11, 12, 13, 14, 15, 16, 17, 18] (.cond (.t 19) (.seq (.reg [un (.bsl 20 2 []),
 un (.asg 6 (.t 20)),
 un (.asg 7 (.c (.bool false)))])
 (.drop [20] .ret))
 .skip)))
def Re : ACode :=
 (.seq (.reg [un (.box 3 (.t 0)),
 un (.asg 6 (.c (.nilsl 2))),
 un (.asg 7 (.c (.bool false)))])
 (.seq (.cut Om)
 (.drop [10, 11, 12, 13, 14, 15, 16, 17, 18, 19, 20] (.seq (.reg [un (.ld 22 2 true (.t 3)),
 un (.mov 23 (.t 1)),
 un (.mov 24 (.t 2)),
 un (.call 25 Kq [((.t 22), false), ((.t 23), false), ((.t 24), false)]),
 un (.asg 21 (.t 25)),
 un (.ext 26 (.t 21) 0),
 un (.ext 27 (.t 21) 1),
 un (.asg 8 (.t 26)),
 un (.asg 9 (.t 27))])
 (.drop [22, 23, 24, 25, 21, 26, 27] (.seq (.seq (.reg [un (.mov 28 (.t 9)),
 un (.un 29 .not (.t 28))])
 (.drop [28] (.cond (.t 29) (.seq (.reg [un (.bsl 30 2 []),
 un (.asg 6 (.t 30)),
 un (.asg 7 (.c (.bool false)))])
 (.drop [30] .ret))
 .skip)))
 (.drop [28, 29, 30] (.seq (.reg [un (.mov 31 (.t 1)),
 un (.mov 32 (.t 8)),
 un (.call 33 Nd [((.t 31), false), ((.t 32), false)]),
 un (.asg 6 (.t 33)),
 un (.asg 7 (.c (.bool true)))])
 (.drop [31, 32, 33] .ret)))))))))
abbrev Qx : List RS := [.t 6, .t 7]
theorem Qn : Bi Try.prog F9 34 Re Qx = true := by kernel_rfl
def Sc : ACode :=
 (.seq (.reg [un (.ld 18 2 true (.t 3)),
 un (.call 19 E8 [((.t 18), false)]),
 un (.un 20 .not (.t 19)),
 un (.asg 21 (.t 20)),
 ⟨some (21, false), .fadr 22 0 (.t 3)⟩,
 ⟨some (21, false), .ld 23 1 false (.t 22)⟩,
 ⟨some (21, false), .mov 24 (.t 1)⟩,
 ⟨some (21, false), .call 25 Dn [((.t 23), false), ((.t 24), false)]⟩,
 ⟨some (21, false), .un 26 .not (.t 25)⟩,
 un (.pick 27 (.t 21) (.c (.bool true)) (.t 26)),
 un (.asg 28 (.t 27)),
 ⟨some (28, false), .mov 29 (.t 2)⟩,
 ⟨some (28, false), .len 30 (.t 29)⟩,
 ⟨some (28, false), .bin 31 .gtr (.t 30) (.c (.int .i64 60))⟩,
 un (.pick 32 (.t 28) (.c (.bool true)) (.t 31))])
 (.drop [18, 19, 20, 21, 22, 23, 24, 25, 26, 27, 28, 29, 30, 31] (.cond (.t 32) (.seq (.reg [un (.asg 6 (.c (.bool false))),
 un (.asg 7 (.c (.bool false)))])
 .ret)
 .skip)))
def K3 : ACode :=
 (.seq (.reg [un (.bin 37 .lss (.t 36) (.t 35))])
 (.seq (.cond (.t 37) .skip
 (.exit 0))
 (.seq (.block 1 (.seq (.reg [un (.iad 38 2 (.t 34) (.t 36)),
 un (.ld 39 2 true (.t 38)),
 un (.alc 10 (.agg [.int .i64 0, .nilsl 1])),
 un (.st 2 (.t 10) (.t 39))])
 (.drop [38, 39] (.seq (.seq (.reg [un (.fadr 40 0 (.t 10)),
 un (.ld 41 1 false (.t 40)),
 un (.mov 42 (.t 1)),
 un (.bin 43 .neq (.t 41) (.t 42)),
 un (.asg 44 (.t 43)),
 ⟨some (44, false), .ld 45 2 true (.t 10)⟩,
 ⟨some (44, false), .fadr 46 0 (.t 3)⟩,
 ⟨some (44, false), .ld 47 1 false (.t 46)⟩,
 ⟨some (44, false), .call 48 J7 [((.t 45), false), ((.t 47), false)]⟩,
 ⟨some (44, false), .un 49 .not (.t 48)⟩,
 un (.pick 50 (.t 44) (.c (.bool true)) (.t 49))])
 (.drop [40, 41, 42, 43, 44, 45, 46, 47, 48, 49] (.cond (.t 50) (.seq (.reg [un (.asg 6 (.c (.bool false))),
 un (.asg 7 (.c (.bool false)))])
 .ret)
 .skip)))
 (.drop [40, 41, 42, 43, 44, 45, 46, 47, 48, 49, 50] (.reg [un (.mov 51 (.t 8)),
 un (.fadr 52 1 (.t 10)),
 un (.ld 53 1 false (.t 52)),
 un (.call 54 Gp [((.t 53), false)]),
 un (.mup (.t 51) (.t 54) (.c (.bool true)))]))))))
 (.drop [38, 39, 10, 40, 41, 42, 43, 44, 45, 46, 47, 48, 49, 50, 51, 52, 53, 54] (.reg [un (.bin 55 .add (.t 36) (.c (.int .i64 1))),
 un (.asg 36 (.t 55))])))))
def Ko : ACode :=
 (.seq (.seq (.reg [un (.mov 56 (.t 11)),
 un (.mov 57 (.t 1)),
 un (.bin 58 .lss (.t 56) (.t 57))])
 (.drop [56, 57] (.cond (.t 58) .skip
 (.exit 2))))
 (.drop [56, 57, 58] (.seq (.block 3 (.seq (.reg [un (.mov 61 (.t 8)),
 un (.fadr 62 0 (.t 3)),
 un (.ld 63 1 false (.t 62)),
 un (.mov 64 (.t 1)),
 un (.mov 65 (.t 11)),
 un (.call 66 Fp [((.t 63), false), ((.t 64), false), ((.t 65), false)]),
 un (.call 67 Gp [((.t 66), false)]),
 un (.mlk 68 (.t 61) (.t 67) (.bool false) false),
 un (.un 69 .not (.t 68))])
 (.drop [61, 62, 63, 64, 65, 66, 67, 68] (.cond (.t 69) (.seq (.reg [un (.asg 6 (.c (.bool false))),
 un (.asg 7 (.c (.bool true)))])
 .ret)
 .skip))))
 (.drop [61, 62, 63, 64, 65, 66, 67, 68, 69] (.reg [un (.mov 59 (.t 11)),
 un (.bin 60 .add (.t 59) (.c (.int .i64 1))),
 un (.asg 11 (.t 60))])))))
def Kt : ACode :=
 (.seq (.reg [un (.bin 97 .lss (.t 96) (.t 95))])
 (.seq (.cond (.t 97) .skip
 (.exit 8))
 (.seq (.block 9 (.seq (.reg [un (.mov 98 (.t 96)),
 un (.iad 99 1 (.t 94) (.t 96)),
 un (.ld 100 1 false (.t 99)),
 un (.asg 16 (.t 98)),
 un (.asg 17 (.t 100))])
 (.drop [98, 99, 100] (.reg [un (.mov 101 (.t 14)),
 un (.mov 102 (.t 16)),
 un (.mov 103 (.t 2)),
 un (.mov 104 (.t 17)),
 un (.iad 105 2 (.t 103) (.t 104)),
 un (.fadr 106 1 (.t 105)),
 un (.ld 107 1 false (.t 106)),
 un (.iad 108 1 (.t 101) (.t 102)),
 un (.st 1 (.t 108) (.t 107))]))))
 (.drop [98, 99, 100, 16, 17, 101, 102, 103, 104, 105, 106, 107, 108] (.reg [un (.bin 109 .add (.t 96) (.c (.int .i64 1))),
 un (.asg 96 (.t 109))])))))
def Kl : ACode :=
 (.seq (.seq (.reg [un (.mov 80 (.t 15)),
 un (.mov 81 (.t 2)),
 un (.len 82 (.t 81)),
 un (.fadr 83 0 (.t 13)),
 un (.ld 84 1 false (.t 83)),
 un (.call 85 D5 [((.t 82), false), ((.t 84), false)]),
 un (.bin 86 .lss (.t 80) (.t 85))])
 (.drop [80, 81, 82, 83, 84, 85] (.cond (.t 86) .skip
 (.exit 6))))
 (.drop [80, 81, 82, 83, 84, 85, 86] (.seq (.block 7 (.seq (.seq (.reg [un (.mov 89 (.t 15)),
 un (.fadr 90 0 (.t 13)),
 un (.ld 91 1 false (.t 90)),
 un (.mov 92 (.t 2)),
 un (.len 93 (.t 92)),
 un (.call 94 I2 [((.t 89), false), ((.t 91), false), ((.t 93), false)]),
 un (.len 95 (.t 94)),
 un (.mov 96 (.c (.int .i64 0)))])
 (.drop [89, 90, 91, 92, 93] (.block 8 (.loop Kt))))
 (.drop [89, 90, 91, 92, 93, 94, 95, 96, 97, 98, 99, 100, 16, 17, 101, 102, 103, 104, 105, 106, 107, 108, 109] (.seq (.dreg [(un (.mov 110 (.t 8)), []),
 (un (.fadr 111 0 (.t 3)), [110]),
 (un (.ld 112 1 false (.t 111)), [110]),
 (un (.ld 113 2 true (.t 13)), [110, 111, 112]),
 (un (.mov 114 (.t 14)), [110, 111, 112, 113]),
 (un (.fadr 115 0 (.t 3)), [110, 111, 112, 113, 114]),
 (un (.ld 116 1 false (.t 115)), [110, 111, 112, 113, 114]),
 (un (.mov 117 (.t 1)), [110, 111, 112, 113, 114, 115, 116]),
 (un (.call 118 D5 [((.t 116), false), ((.t 117), false)]), [110, 111, 112, 113, 114]),
 (un (.call 119 D9 [((.t 112), false), ((.t 113), false), ((.t 114), false), ((.t 118), false)]), [110]),
 (un (.call 120 Gp [((.t 119), false)]), [110])]
 [un (.mlk 121 (.t 110) (.t 120) (.bool false) false),
 un (.un 122 .not (.t 121))])
 (.drop [110, 111, 112, 113, 114, 115, 116, 117, 118, 119, 120, 121] (.cond (.t 122) (.seq (.reg [un (.asg 6 (.c (.bool false))),
 un (.asg 7 (.c (.bool true)))])
 .ret)
 .skip))))))
 (.drop [89, 90, 91, 92, 93, 94, 95, 96, 97, 98, 99, 100, 16, 17, 101, 102, 103, 104, 105, 106, 107, 108, 109, 110, 111, 112, 113, 114, 115, 116, 117, 118, 119, 120, 121, 122] (.reg [un (.mov 87 (.t 15)),
 un (.bin 88 .add (.t 87) (.c (.int .i64 1))),
 un (.asg 15 (.t 88))])))))
def Ku : ACode :=
 (.seq (.reg [un (.bin 74 .lss (.t 73) (.t 72))])
 (.seq (.cond (.t 74) .skip
 (.exit 4))
 (.seq (.block 5 (.seq (.reg [un (.iad 75 2 (.t 71) (.t 73)),
 un (.ld 76 2 true (.t 75)),
 un (.alc 13 (.agg [.int .i64 0, .nilsl 1])),
 un (.st 2 (.t 13) (.t 76))])
 (.drop [75, 76] (.seq (.reg [un (.fadr 77 0 (.t 13)),
 un (.ld 78 1 false (.t 77)),
 un (.mk 79 1 (.nilsl 1) (.t 78)),
 un (.asg 14 (.t 79))])
 (.drop [77, 78, 79] (.seq (.reg [un (.asg 15 (.c (.int .i64 0)))])
 (.frz [100014] (.block 6 (.loop Kl)))))))))
 (.drop [75, 76, 13, 77, 78, 79, 14, 15, 80, 81, 82, 83, 84, 85, 86, 89, 90, 91, 92, 93, 94, 95, 96, 97, 98, 99, 100, 16, 17, 101, 102, 103, 104, 105, 106, 107, 108, 109, 110, 111, 112, 113, 114, 115, 116, 117, 118, 119, 120, 121, 122, 87, 88] (.reg [un (.bin 123 .add (.t 73) (.c (.int .i64 1))),
 un (.asg 73 (.t 123))])))))
def Vz : ACode :=
 (.seq (.reg [un (.box 3 (.t 0)),
 un (.asg 6 (.c (.bool false))),
 un (.asg 7 (.c (.bool false)))])
 (.seq (.cut Sc)
 (.drop [18, 19, 20, 21, 22, 23, 24, 25, 26, 27, 28, 29, 30, 31, 32] (.seq (.reg [un (.mkm 33),
 un (.asg 8 (.t 33))])
 (.drop [33] (.seq (.seq (.reg [un (.mov 34 (.t 2)),
 un (.len 35 (.t 34)),
 un (.mov 36 (.c (.int .i64 0)))])
 (.block 0 (.loop K3)))
 (.drop [34, 35, 36, 37, 38, 39, 10, 40, 41, 42, 43, 44, 45, 46, 47, 48, 49, 50, 51, 52, 53, 54, 55] (.seq (.seq (.reg [un (.asg 11 (.c (.int .i64 0)))])
 (.block 2 (.loop Ko)))
 (.drop [11, 56, 57, 58, 61, 62, 63, 64, 65, 66, 67, 68, 69, 59, 60] (.seq (.seq (.reg [un (.fadr 70 1 (.t 3)),
 un (.ld 71 1 false (.t 70)),
 un (.len 72 (.t 71)),
 un (.mov 73 (.c (.int .i64 0)))])
 (.drop [70] (.block 4 (.loop Ku))))
 (.drop [70, 71, 72, 73, 74, 75, 76, 13, 77, 78, 79, 14, 15, 80, 81, 82, 83, 84, 85, 86, 89, 90, 91, 92, 93, 94, 95, 96, 97, 98, 99, 100, 16, 17, 101, 102, 103, 104, 105, 106, 107, 108, 109, 110, 111, 112, 113, 114, 115, 116, 117, 118, 119, 120, 121, 122, 87, 88, 123] (.seq (.reg [un (.asg 6 (.c (.bool true))),
 un (.asg 7 (.c (.bool true)))])
 .ret))))))))))))
abbrev Wm : List RS := [.t 6, .t 7]
theorem V3 : Bi Try.prog Iz 124 Vz Wm = true := by kernel_rfl
end Go.Proofs.Ytoaojijoefljaaa.Ax
