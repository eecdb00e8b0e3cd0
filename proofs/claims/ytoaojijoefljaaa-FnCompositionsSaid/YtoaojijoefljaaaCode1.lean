/-
  The small code of the functions, written by program; that the program's code is this one, the kernel looks at.
-/
import Derived.Test.YtoaojijoefljaaaAx3
import Derived.Test.YtoaojijoefljaaaProg
import Derived.KernelRfl
import Derived.Test.YtoaojijoefljaaaNum
namespace Go.Proofs.Ytoaojijoefljaaa.Ax
open Go
set_option maxRecDepth 100000
def Aob : ACode :=
 (.seq (.reg [un (.asg 2 (.c (.bool false)))])
 (.seq (.reg [un (.mov 3 (.t 0)),
 un (.len 4 (.t 3)),
 un (.bin 5 .gtr (.t 4) (.c (.int .i64 65536))),
 un (.asg 2 (.t 5))])
 (.drop [3, 4, 5] .ret)))
abbrev Aol : List RS := [.t 2]
theorem Ant : Bd Try.prog Xt 6 Aob Aol = true := by kernel_rfl
def Vc : ACode :=
 (.seq (.seq (.reg [un (.mov 11 (.t 5)),
 un (.mov 12 (.t 0)),
 un (.len 13 (.t 12)),
 un (.bin 14 .lss (.t 11) (.t 13))])
 (.drop [11, 12, 13] (.cond (.t 14) .skip
 (.exit 0))))
 (.drop [11, 12, 13, 14] (.seq (.block 1 (.seq (.dreg [(un (.mov 17 (.t 0)), []),
 (un (.mov 18 (.t 5)), [17]),
 (un (.iad 19 1 (.t 17) (.t 18)), []),
 (un (.ld 20 1 false (.t 19)), []),
 (un (.mov 21 (.t 1)), [17, 18, 19, 20]),
 (un (.mov 22 (.t 5)), [17, 18, 19, 20, 21]),
 (un (.iad 23 1 (.t 21) (.t 22)), [17, 18, 19, 20]),
 (un (.ld 24 1 false (.t 23)), [17, 18, 19, 20])]
 [un (.bin 25 .neq (.t 20) (.t 24))])
 (.drop [17, 18, 19, 20, 21, 22, 23, 24] (.cond (.t 25) (.seq (.reg [un (.asg 4 (.c (.bool false)))])
 .ret)
 .skip))))
 (.drop [17, 18, 19, 20, 21, 22, 23, 24, 25] (.reg [un (.mov 15 (.t 5)),
 un (.bin 16 .add (.t 15) (.c (.int .i64 1))),
 un (.asg 5 (.t 16))])))))
def Al9 : ACode :=
 (.seq (.reg [un (.asg 4 (.c (.bool false)))])
 (.seq (.seq (.reg [un (.mov 6 (.t 0)),
 un (.len 7 (.t 6)),
 un (.mov 8 (.t 1)),
 un (.len 9 (.t 8)),
 un (.bin 10 .neq (.t 7) (.t 9))])
 (.drop [6, 7, 8, 9] (.cond (.t 10) (.seq (.reg [un (.asg 4 (.c (.bool false)))])
 .ret)
 .skip)))
 (.drop [6, 7, 8, 9, 10] (.seq (.seq (.reg [un (.asg 5 (.c (.int .i64 0)))])
 (.block 0 (.loop Vc)))
 (.drop [5, 11, 12, 13, 14, 17, 18, 19, 20, 21, 22, 23, 24, 25, 15, 16] (.seq (.reg [un (.asg 4 (.c (.bool true)))])
 .ret))))))
abbrev Al0 : List RS := [.t 4]
theorem Aki : Bd Try.prog Oy 26 Al9 Al0 = true := by kernel_rfl
def Wy : ACode :=
 (.seq (.seq (.reg [un (.mov 6 (.t 5)),
 un (.mov 7 (.t 0)),
 un (.len 8 (.t 7)),
 un (.bin 9 .lss (.t 6) (.t 8))])
 (.drop [6, 7, 8] (.cond (.t 9) .skip
 (.exit 0))))
 (.drop [6, 7, 8, 9] (.seq (.block 1 (.seq (.reg [un (.mov 12 (.t 0)),
 un (.mov 13 (.t 5)),
 un (.iad 14 1 (.t 12) (.t 13)),
 un (.ld 15 1 false (.t 14)),
 un (.mov 16 (.t 1)),
 un (.bin 17 .eql (.t 15) (.t 16))])
 (.drop [12, 13, 14, 15, 16] (.cond (.t 17) (.seq (.reg [un (.asg 4 (.c (.bool true)))])
 .ret)
 .skip))))
 (.drop [12, 13, 14, 15, 16, 17] (.reg [un (.mov 10 (.t 5)),
 un (.bin 11 .add (.t 10) (.c (.int .i64 1))),
 un (.asg 5 (.t 11))])))))
def Amm : ACode :=
 (.seq (.reg [un (.asg 4 (.c (.bool false)))])
 (.seq (.seq (.reg [un (.asg 5 (.c (.int .i64 0)))])
 (.block 0 (.loop Wy)))
 (.drop [5, 6, 7, 8, 9, 12, 13, 14, 15, 16, 17, 10, 11] (.seq (.reg [un (.asg 4 (.c (.bool false)))])
 .ret))))
abbrev Amv : List RS := [.t 4]
theorem Ane : Bd Try.prog Xd 18 Amm Amv = true := by kernel_rfl
def Vu : ACode :=
 (.seq (.reg [un (.bin 13 .lss (.t 12) (.t 11))])
 (.seq (.cond (.t 13) .skip
 (.exit 0))
 (.seq (.block 1 (.seq (.reg [un (.iad 14 1 (.t 10) (.t 12)),
 un (.ld 15 1 false (.t 14)),
 un (.asg 5 (.t 15))])
 (.drop [14, 15] (.reg [un (.mov 16 (.t 3)),
 un (.mov 17 (.t 5)),
 un (.bin 18 .shr (.t 17) (.c (.int .u64 8))),
 un (.cnv 19 .u8 (.t 18)),
 un (.mov 20 (.t 5)),
 un (.cnv 21 .u8 (.t 20)),
 un (.bsl 22 1 [(.t 19), (.t 21)]),
 un (.app 23 1 (.t 16) (.t 22)),
 un (.asg 3 (.t 23))]))))
 (.drop [14, 15, 5, 16, 17, 18, 19, 20, 21, 22, 23] (.reg [un (.bin 24 .add (.t 12) (.c (.int .i64 1))),
 un (.asg 12 (.t 24))])))))
def Ak4 : ACode :=
 (.seq (.reg [⟨none, .asg 2 (.c (.str ⟨#[]⟩))⟩])
 (.seq (.reg [un (.mov 6 (.t 0)),
 un (.len 7 (.t 6)),
 un (.bin 8 .mul (.c (.int .i64 2)) (.t 7)),
 un (.mkc 9 1 (.int .u8 0) (.t 8)),
 un (.asg 3 (.t 9))])
 (.drop [6, 7, 8, 9] (.seq (.seq (.reg [un (.mov 10 (.t 0)),
 un (.len 11 (.t 10)),
 un (.mov 12 (.c (.int .i64 0)))])
 (.block 0 (.loop Vu)))
 (.drop [10, 11, 12, 13, 14, 15, 5, 16, 17, 18, 19, 20, 21, 22, 23, 24] (.seq (.reg [un (.mov 25 (.t 3)),
 un (.bstr 26 (.t 25)),
 un (.asg 2 (.t 26))])
 (.drop [25, 26] .ret)))))))
abbrev Akp : List RS := [.t 2]
theorem Amb : Bd Try.prog O9 27 Ak4 Akp = true := by kernel_rfl
def P3 : ACode :=
 (.seq (.reg [un (.bin 15 .lss (.t 14) (.t 13))])
 (.seq (.cond (.t 15) .skip
 (.exit 0))
 (.seq (.block 1 (.seq (.reg [un (.mov 16 (.t 14)),
 un (.iad 17 1 (.t 12) (.t 14)),
 un (.ld 18 1 false (.t 17)),
 un (.asg 5 (.t 16)),
 un (.asg 6 (.t 18))])
 (.drop [16, 17, 18] (.seq (.reg [un (.mov 19 (.t 1)),
 un (.mov 20 (.t 5)),
 un (.iad 21 1 (.t 19) (.t 20)),
 un (.ld 22 1 false (.t 21)),
 un (.mov 23 (.t 6)),
 un (.bin 24 .neq (.t 22) (.t 23))])
 (.drop [19, 20, 21, 22, 23] (.cond (.t 24) (.seq (.reg [un (.asg 4 (.c (.bool false)))])
 .ret)
 .skip))))))
 (.drop [16, 17, 18, 5, 6, 19, 20, 21, 22, 23, 24] (.reg [un (.bin 25 .add (.t 14) (.c (.int .i64 1))),
 un (.asg 14 (.t 25))])))))
def Ael : ACode :=
 (.seq (.reg [un (.asg 4 (.c (.bool false)))])
 (.seq (.seq (.reg [un (.mov 7 (.t 0)),
 un (.len 8 (.t 7)),
 un (.mov 9 (.t 1)),
 un (.len 10 (.t 9)),
 un (.bin 11 .neq (.t 8) (.t 10))])
 (.drop [7, 8, 9, 10] (.cond (.t 11) (.seq (.reg [un (.asg 4 (.c (.bool false)))])
 .ret)
 .skip)))
 (.drop [7, 8, 9, 10, 11] (.seq (.seq (.reg [un (.mov 12 (.t 0)),
 un (.len 13 (.t 12)),
 un (.mov 14 (.c (.int .i64 0)))])
 (.block 0 (.loop P3)))
 (.drop [12, 13, 14, 15, 16, 17, 18, 5, 6, 19, 20, 21, 22, 23, 24, 25] (.seq (.reg [un (.asg 4 (.c (.bool true)))])
 .ret))))))
abbrev Aem : List RS := [.t 4]
theorem Aeo : Bd Try.prog Oh 26 Ael Aem = true := by kernel_rfl
def Vg : ACode :=
 (.seq (.seq (.reg [un (.mov 6 (.t 1)),
 un (.bin 7 .gtr (.t 6) (.c (.int .i64 0)))])
 (.drop [6] (.cond (.t 7) .skip
 (.exit 0))))
 (.drop [6, 7] (.seq (.block 1 (.reg [un (.mov 10 (.t 5)),
 un (.mov 11 (.t 0)),
 un (.bin 12 .mul (.t 10) (.t 11)),
 un (.asg 5 (.t 12))]))
 (.drop [10, 11, 12] (.reg [un (.mov 8 (.t 1)),
 un (.bin 9 .sub (.t 8) (.c (.int .i64 1))),
 un (.asg 1 (.t 9))])))))
def Aly : ACode :=
 (.seq (.reg [un (.asg 4 (.c (.int .i64 0)))])
 (.seq (.reg [un (.asg 5 (.c (.int .i64 1)))])
 (.seq (.block 0 (.loop Vg))
 (.drop [6, 7, 10, 11, 12, 8, 9] (.seq (.reg [un (.mov 13 (.t 5)),
 un (.asg 4 (.t 13))])
 (.drop [13] .ret))))))
abbrev Ak1 : List RS := [.t 4]
theorem Akx : Bd Try.prog Eo 14 Aly Ak1 = true := by kernel_rfl
def Th : ACode :=
 (.seq (.seq (.reg [un (.mov 13 (.t 8)),
 un (.bin 14 .geq (.t 13) (.c (.int .i64 0)))])
 (.drop [13] (.cond (.t 14) .skip
 (.exit 0))))
 (.drop [13, 14] (.seq (.block 1 (.seq (.reg [un (.mov 17 (.t 7)),
 un (.mov 18 (.t 8)),
 un (.mov 19 (.t 0)),
 un (.mov 20 (.t 2)),
 un (.bin 21 .rem (.t 19) (.t 20)),
 un (.iad 22 1 (.t 17) (.t 18)),
 un (.st 1 (.t 22) (.t 21))])
 (.drop [17, 18, 19, 20, 21, 22] (.reg [un (.mov 23 (.t 0)),
 un (.mov 24 (.t 2)),
 un (.bin 25 .quo (.t 23) (.t 24)),
 un (.asg 0 (.t 25))]))))
 (.drop [17, 18, 19, 20, 21, 22, 23, 24, 25] (.reg [un (.mov 15 (.t 8)),
 un (.bin 16 .sub (.t 15) (.c (.int .i64 1))),
 un (.asg 8 (.t 16))])))))
def Ajf : ACode :=
 (.seq (.reg [un (.asg 6 (.c (.nilsl 1)))])
 (.seq (.reg [un (.mov 9 (.t 1)),
 un (.mk 10 1 (.int .i64 0) (.t 9)),
 un (.asg 7 (.t 10))])
 (.drop [9, 10] (.seq (.seq (.reg [un (.mov 11 (.t 1)),
 un (.bin 12 .sub (.t 11) (.c (.int .i64 1))),
 un (.asg 8 (.t 12))])
 (.drop [11, 12] (.block 0 (.loop Th))))
 (.drop [11, 12, 8, 13, 14, 17, 18, 19, 20, 21, 22, 23, 24, 25, 15, 16] (.seq (.reg [un (.mov 26 (.t 7)),
 un (.asg 6 (.t 26))])
 (.drop [26] .ret)))))))
abbrev Ajd : List RS := [.t 6]
theorem Aiu : Bd Try.prog Kl 27 Ajf Ajd = true := by kernel_rfl
def K3 : ACode :=
 (.seq (.reg [un (.bin 24 .lss (.t 23) (.t 22))])
 (.seq (.cond (.t 24) .skip
 (.exit 2))
 (.seq (.block 3 (.seq (.reg [un (.iad 25 1 (.t 21) (.t 23)),
 un (.ld 26 1 false (.t 25)),
 un (.asg 13 (.t 26))])
 (.drop [25, 26] (.reg [un (.mov 27 (.t 11)),
 un (.mov 28 (.t 0)),
 un (.bin 29 .mul (.t 27) (.t 28)),
 un (.mov 30 (.t 13)),
 un (.mov 31 (.t 10)),
 un (.iad 32 1 (.t 30) (.t 31)),
 un (.ld 33 1 false (.t 32)),
 un (.bin 34 .add (.t 29) (.t 33)),
 un (.asg 11 (.t 34))]))))
 (.drop [25, 26, 13, 27, 28, 29, 30, 31, 32, 33, 34] (.reg [un (.bin 35 .add (.t 23) (.c (.int .i64 1))),
 un (.asg 23 (.t 35))])))))
def Lh : ACode :=
 (.seq (.reg [un (.bin 19 .lss (.t 18) (.t 17))])
 (.seq (.cond (.t 19) .skip
 (.exit 0))
 (.seq (.block 1 (.seq (.reg [un (.mov 20 (.t 18)),
 un (.asg 10 (.t 20))])
 (.drop [20] (.seq (.reg [un (.asg 11 (.c (.int .i64 0)))])
 (.seq (.seq (.reg [un (.mov 21 (.t 2)),
 un (.len 22 (.t 21)),
 un (.mov 23 (.c (.int .i64 0)))])
 (.block 2 (.loop K3)))
 (.drop [21, 22, 23, 24, 25, 26, 13, 27, 28, 29, 30, 31, 32, 33, 34, 35] (.reg [un (.mov 36 (.t 9)),
 un (.mov 37 (.t 10)),
 un (.fadr 38 1 (.t 5)),
 un (.ld 39 1 false (.t 38)),
 un (.mov 40 (.t 11)),
 un (.iad 41 1 (.t 39) (.t 40)),
 un (.ld 42 1 false (.t 41)),
 un (.iad 43 1 (.t 36) (.t 37)),
 un (.st 1 (.t 43) (.t 42))])))))))
 (.drop [20, 10, 11, 21, 22, 23, 24, 25, 26, 13, 27, 28, 29, 30, 31, 32, 33, 34, 35, 36, 37, 38, 39, 40, 41, 42, 43] (.reg [un (.bin 44 .add (.t 18) (.c (.int .i64 1))),
 un (.asg 18 (.t 44))])))))
def Xo : ACode :=
 (.seq (.reg [un (.box 5 (.t 1)),
 un (.asg 8 (.c (.nilsl 1)))])
 (.seq (.reg [un (.mov 14 (.t 3)),
 un (.mk 15 1 (.int .i64 0) (.t 14)),
 un (.asg 9 (.t 15))])
 (.drop [14, 15] (.seq (.seq (.reg [un (.mov 16 (.t 9)),
 un (.len 17 (.t 16)),
 un (.mov 18 (.c (.int .i64 0)))])
 (.drop [16] (.block 0 (.loop Lh))))
 (.drop [16, 17, 18, 19, 20, 10, 11, 21, 22, 23, 24, 25, 26, 13, 27, 28, 29, 30, 31, 32, 33, 34, 35, 36, 37, 38, 39, 40, 41, 42, 43, 44] (.seq (.reg [un (.mov 45 (.t 9)),
 un (.asg 8 (.t 45))])
 (.drop [45] .ret)))))))
abbrev W7 : List RS := [.t 8]
theorem Xy : Bd Try.prog Gu 46 Xo W7 = true := by kernel_rfl
def Aiy : ACode :=
 (.seq (.reg [un (.asg 2 (.c (.bool false)))])
 (.seq (.reg [un (.mov 3 (.t 0)),
 un (.bin 4 .geq (.t 3) (.c (.int .i64 1))),
 un (.asg 5 (.t 4)),
 ⟨some (5, true), .mov 6 (.t 0)⟩,
 ⟨some (5, true), .bin 7 .leq (.t 6) (.c (.int .i64 8))⟩,
 un (.pick 8 (.t 5) (.t 7) (.c (.bool false))),
 un (.asg 2 (.t 8))])
 (.drop [3, 4, 5, 6, 7, 8] .ret)))
abbrev Aiw : List RS := [.t 2]
theorem Ail : Bd Try.prog Ih 9 Aiy Aiw = true := by kernel_rfl
def Nh : ACode :=
 (.seq (.seq (.reg [un (.mov 19 (.t 12)),
 un (.mov 20 (.t 2)),
 un (.len 21 (.t 20)),
 un (.bin 22 .lss (.t 19) (.t 21))])
 (.drop [19, 20, 21] (.cond (.t 22) .skip
 (.exit 2))))
 (.drop [19, 20, 21, 22] (.seq (.block 3 (.reg [un (.mov 25 (.t 11)),
 un (.mov 26 (.t 0)),
 un (.bin 27 .mul (.t 25) (.t 26)),
 un (.mov 28 (.t 2)),
 un (.mov 29 (.t 12)),
 un (.iad 30 1 (.t 28) (.t 29)),
 un (.ld 31 1 false (.t 30)),
 un (.mov 32 (.t 10)),
 un (.iad 33 1 (.t 31) (.t 32)),
 un (.ld 34 1 false (.t 33)),
 un (.bin 35 .add (.t 27) (.t 34)),
 un (.asg 11 (.t 35))]))
 (.drop [25, 26, 27, 28, 29, 30, 31, 32, 33, 34, 35] (.reg [un (.mov 23 (.t 12)),
 un (.bin 24 .add (.t 23) (.c (.int .i64 1))),
 un (.asg 12 (.t 24))])))))
def N1 : ACode :=
 (.seq (.seq (.reg [un (.mov 14 (.t 10)),
 un (.mov 15 (.t 3)),
 un (.bin 16 .lss (.t 14) (.t 15))])
 (.drop [14, 15] (.cond (.t 16) .skip
 (.exit 0))))
 (.drop [14, 15, 16] (.seq (.block 1 (.seq (.reg [un (.asg 11 (.c (.int .i64 0)))])
 (.seq (.seq (.reg [un (.asg 12 (.c (.int .i64 0)))])
 (.block 2 (.loop Nh)))
 (.drop [12, 19, 20, 21, 22, 25, 26, 27, 28, 29, 30, 31, 32, 33, 34, 35, 23, 24] (.reg [un (.mov 36 (.t 9)),
 un (.fadr 37 1 (.t 5)),
 un (.ld 38 1 false (.t 37)),
 un (.mov 39 (.t 11)),
 un (.iad 40 1 (.t 38) (.t 39)),
 un (.ld 41 1 false (.t 40)),
 un (.bsl 42 1 [(.t 41)]),
 un (.app 43 1 (.t 36) (.t 42)),
 un (.asg 9 (.t 43))])))))
 (.drop [11, 12, 19, 20, 21, 22, 25, 26, 27, 28, 29, 30, 31, 32, 33, 34, 35, 23, 24, 36, 37, 38, 39, 40, 41, 42, 43] (.reg [un (.mov 17 (.t 10)),
 un (.bin 18 .add (.t 17) (.c (.int .i64 1))),
 un (.asg 10 (.t 18))])))))
def Aby : ACode :=
 (.seq (.reg [un (.box 5 (.t 1)),
 un (.asg 8 (.c (.nilsl 1)))])
 (.seq (.reg [un (.bsl 13 1 []),
 un (.asg 9 (.t 13))])
 (.drop [13] (.seq (.seq (.reg [un (.asg 10 (.c (.int .i64 0)))])
 (.block 0 (.loop N1)))
 (.drop [10, 14, 15, 16, 11, 12, 19, 20, 21, 22, 25, 26, 27, 28, 29, 30, 31, 32, 33, 34, 35, 23, 24, 36, 37, 38, 39, 40, 41, 42, 43, 17, 18] (.seq (.reg [un (.mov 44 (.t 9)),
 un (.asg 8 (.t 44))])
 (.drop [44] .ret)))))))
abbrev Abf : List RS := [.t 8]
theorem Aaz : Bd Try.prog Gv 45 Aby Abf = true := by kernel_rfl
def Ajc : ACode :=
 (.seq (.reg [un (.asg 4 (.c (.int .i64 0)))])
 (.seq (.seq (.reg [un (.mov 5 (.t 0)),
 un (.mov 6 (.t 1)),
 un (.bin 7 .gtr (.t 5) (.t 6))])
 (.drop [5, 6] (.cond (.t 7) (.seq (.reg [un (.mov 8 (.t 0)),
 un (.asg 4 (.t 8))])
 (.drop [8] .ret))
 .skip)))
 (.drop [5, 6, 7, 8] (.seq (.reg [un (.mov 9 (.t 1)),
 un (.asg 4 (.t 9))])
 (.drop [9] .ret)))))
abbrev Ajj : List RS := [.t 4]
theorem Air : Bd Try.prog Kd 10 Ajc Ajj = true := by kernel_rfl
def Tu : ACode :=
 (.seq (.reg [un (.bin 10 .lss (.t 9) (.t 8))])
 (.seq (.cond (.t 10) .skip
 (.exit 0))
 (.seq (.block 1 (.seq (.reg [un (.iad 11 1 (.t 7) (.t 9)),
 un (.ld 12 1 false (.t 11)),
 un (.asg 6 (.t 12))])
 (.drop [11, 12] (.seq (.reg [un (.mov 13 (.t 6)),
 un (.bin 14 .lss (.t 13) (.c (.int .i64 0))),
 un (.asg 15 (.t 14)),
 ⟨some (15, false), .mov 16 (.t 6)⟩,
 ⟨some (15, false), .mov 17 (.t 1)⟩,
 ⟨some (15, false), .bin 18 .geq (.t 16) (.t 17)⟩,
 un (.pick 19 (.t 15) (.c (.bool true)) (.t 18))])
 (.drop [13, 14, 15, 16, 17, 18] (.cond (.t 19) (.seq (.reg [un (.asg 4 (.c (.bool false)))])
 .ret)
 .skip))))))
 (.drop [11, 12, 6, 13, 14, 15, 16, 17, 18, 19] (.reg [un (.bin 20 .add (.t 9) (.c (.int .i64 1))),
 un (.asg 9 (.t 20))])))))
def Aiq : ACode :=
 (.seq (.reg [un (.asg 4 (.c (.bool false)))])
 (.seq (.seq (.reg [un (.mov 7 (.t 0)),
 un (.len 8 (.t 7)),
 un (.mov 9 (.c (.int .i64 0)))])
 (.block 0 (.loop Tu)))
 (.drop [7, 8, 9, 10, 11, 12, 6, 13, 14, 15, 16, 17, 18, 19, 20] (.seq (.reg [un (.asg 4 (.c (.bool true)))])
 .ret))))
abbrev Aiv : List RS := [.t 4]
theorem Ai6 : Bd Try.prog M7 21 Aiq Aiv = true := by kernel_rfl
def Amx : ACode :=
 (.seq (.reg [un (.asg 6 (.c (.bool false)))])
 (.seq (.reg [un (.mov 7 (.t 0)),
 un (.mov 8 (.t 1)),
 un (.bin 9 .geq (.t 7) (.t 8)),
 un (.asg 10 (.t 9)),
 ⟨some (10, true), .mov 11 (.t 0)⟩,
 ⟨some (10, true), .mov 12 (.t 2)⟩,
 ⟨some (10, true), .bin 13 .leq (.t 11) (.t 12)⟩,
 un (.pick 14 (.t 10) (.t 13) (.c (.bool false))),
 un (.asg 6 (.t 14))])
 (.drop [7, 8, 9, 10, 11, 12, 13, 14] .ret)))
abbrev Aou : List RS := [.t 6]
theorem Ams : Bd Try.prog Gh 15 Amx Aou = true := by kernel_rfl
def Vq : ACode :=
 (.seq (.seq (.reg [un (.mov 6 (.t 1)),
 un (.bin 7 .gtr (.t 6) (.c (.int .i64 0)))])
 (.drop [6] (.cond (.t 7) .skip
 (.exit 0))))
 (.drop [6, 7] (.seq (.block 1 (.reg [un (.mov 10 (.t 5)),
 un (.mov 11 (.t 0)),
 un (.bin 12 .mul (.t 10) (.t 11)),
 un (.asg 5 (.t 12))]))
 (.drop [10, 11, 12] (.reg [un (.mov 8 (.t 1)),
 un (.bin 9 .sub (.t 8) (.c (.int .i64 1))),
 un (.asg 1 (.t 9))])))))
def Ak2 : ACode :=
 (.seq (.reg [un (.asg 4 (.c (.int .i64 0)))])
 (.seq (.reg [un (.asg 5 (.c (.int .i64 1)))])
 (.seq (.block 0 (.loop Vq))
 (.drop [6, 7, 10, 11, 12, 8, 9] (.seq (.reg [un (.mov 13 (.t 5)),
 un (.asg 4 (.t 13))])
 (.drop [13] .ret))))))
abbrev Ak8 : List RS := [.t 4]
theorem Alv : Bd Try.prog Ep 14 Ak2 Ak8 = true := by kernel_rfl
def T0 : ACode :=
 (.seq (.seq (.reg [un (.mov 11 (.t 5)),
 un (.mov 12 (.t 0)),
 un (.len 13 (.t 12)),
 un (.bin 14 .lss (.t 11) (.t 13))])
 (.drop [11, 12, 13] (.cond (.t 14) .skip
 (.exit 0))))
 (.drop [11, 12, 13, 14] (.seq (.block 1 (.seq (.dreg [(un (.mov 17 (.t 0)), []),
 (un (.mov 18 (.t 5)), [17]),
 (un (.iad 19 1 (.t 17) (.t 18)), []),
 (un (.ld 20 1 false (.t 19)), []),
 (un (.mov 21 (.t 1)), [17, 18, 19, 20]),
 (un (.mov 22 (.t 5)), [17, 18, 19, 20, 21]),
 (un (.iad 23 1 (.t 21) (.t 22)), [17, 18, 19, 20]),
 (un (.ld 24 1 false (.t 23)), [17, 18, 19, 20])]
 [un (.bin 25 .neq (.t 20) (.t 24))])
 (.drop [17, 18, 19, 20, 21, 22, 23, 24] (.cond (.t 25) (.seq (.reg [un (.asg 4 (.c (.bool false)))])
 .ret)
 .skip))))
 (.drop [17, 18, 19, 20, 21, 22, 23, 24, 25] (.reg [un (.mov 15 (.t 5)),
 un (.bin 16 .add (.t 15) (.c (.int .i64 1))),
 un (.asg 5 (.t 16))])))))
def Ajg : ACode :=
 (.seq (.reg [un (.asg 4 (.c (.bool false)))])
 (.seq (.seq (.reg [un (.mov 6 (.t 0)),
 un (.len 7 (.t 6)),
 un (.mov 8 (.t 1)),
 un (.len 9 (.t 8)),
 un (.bin 10 .neq (.t 7) (.t 9))])
 (.drop [6, 7, 8, 9] (.cond (.t 10) (.seq (.reg [un (.asg 4 (.c (.bool false)))])
 .ret)
 .skip)))
 (.drop [6, 7, 8, 9, 10] (.seq (.seq (.reg [un (.asg 5 (.c (.int .i64 0)))])
 (.block 0 (.loop T0)))
 (.drop [5, 11, 12, 13, 14, 17, 18, 19, 20, 21, 22, 23, 24, 25, 15, 16] (.seq (.reg [un (.asg 4 (.c (.bool true)))])
 .ret))))))
abbrev Ais : List RS := [.t 4]
theorem Ai1 : Bd Try.prog Na 26 Ajg Ais = true := by kernel_rfl
def R7 : ACode :=
 (.seq (.reg [un (.bin 11 .lss (.t 10) (.t 9))])
 (.seq (.cond (.t 11) .skip
 (.exit 0))
 (.seq (.block 1 (.seq (.reg [un (.iad 12 1 (.t 8) (.t 10)),
 un (.ld 13 1 false (.t 12)),
 un (.asg 7 (.t 13))])
 (.drop [12, 13] (.reg [un (.mov 14 (.t 5)),
 un (.mov 15 (.t 1)),
 un (.bin 16 .mul (.t 14) (.t 15)),
 un (.mov 17 (.t 7)),
 un (.bin 18 .add (.t 16) (.t 17)),
 un (.asg 5 (.t 18))]))))
 (.drop [12, 13, 7, 14, 15, 16, 17, 18] (.reg [un (.bin 19 .add (.t 10) (.c (.int .i64 1))),
 un (.asg 10 (.t 19))])))))
def Ag1 : ACode :=
 (.seq (.reg [un (.asg 4 (.c (.int .i64 0)))])
 (.seq (.reg [un (.asg 5 (.c (.int .i64 0)))])
 (.seq (.seq (.reg [un (.mov 8 (.t 0)),
 un (.len 9 (.t 8)),
 un (.mov 10 (.c (.int .i64 0)))])
 (.block 0 (.loop R7)))
 (.drop [8, 9, 10, 11, 12, 13, 7, 14, 15, 16, 17, 18, 19] (.seq (.reg [un (.mov 20 (.t 5)),
 un (.asg 4 (.t 20))])
 (.drop [20] .ret))))))
abbrev Ahm : List RS := [.t 4]
theorem Ahw : Bd Try.prog Qd 21 Ag1 Ahm = true := by kernel_rfl
def Ama : ACode :=
 (.seq (.reg [un (.asg 2 (.c (.nilsl 1)))])
 (.seq (.reg [un (.bsl 3 1 []),
 un (.mov 4 (.t 0)),
 un (.app 5 1 (.t 3) (.t 4)),
 un (.asg 2 (.t 5))])
 (.drop [3, 4, 5] .ret)))
abbrev Al7 : List RS := [.t 2]
theorem Al8 : Bd Try.prog O6 6 Ama Al7 = true := by kernel_rfl
def Akk : ACode :=
 (.seq (.reg [un (.asg 2 (.c (.nilsl 1)))])
 (.seq (.reg [un (.bsl 3 1 []),
 un (.mov 4 (.t 0)),
 un (.app 5 1 (.t 3) (.t 4)),
 un (.asg 2 (.t 5))])
 (.drop [3, 4, 5] .ret)))
abbrev Alu : List RS := [.t 2]
theorem Alo : Bd Try.prog H3 6 Akk Alu = true := by kernel_rfl
def W2 : ACode :=
 (.seq (.dreg [(un (.mov 4 (.t 0)), []),
 (un (.nck 5 (.t 4)), []),
 (un (.fadr 6 1 (.t 5)), []),
 (un (.ld 7 1 false (.t 6)), []),
 (un (.mov 8 (.t 0)), [4, 5, 6, 7]),
 (un (.nck 9 (.t 8)), [4, 5, 6, 7]),
 (un (.fadr 10 0 (.t 9)), [4, 5, 6, 7]),
 (un (.ld 11 1 false (.t 10)), [4, 5, 6, 7]),
 (un (.len 12 (.t 11)), [4, 5, 6, 7])]
 [un (.bin 13 .lss (.t 7) (.t 12))])
 (.drop [4, 5, 6, 7, 8, 9, 10, 11, 12] (.cond (.t 13) (.dreg [(un (.mov 14 (.t 0)), []),
 (un (.nck 15 (.t 14)), []),
 (un (.fadr 16 0 (.t 15)), []),
 (un (.ld 17 1 false (.t 16)), []),
 (un (.mov 18 (.t 0)), [14, 15, 16, 17]),
 (un (.nck 19 (.t 18)), [14, 15, 16, 17]),
 (un (.fadr 20 1 (.t 19)), [14, 15, 16, 17]),
 (un (.ld 21 1 false (.t 20)), [14, 15, 16, 17])]
 [un (.iad 22 1 (.t 17) (.t 21)),
 un (.ld 23 1 false (.t 22)),
 un (.cnv 24 .i64 (.t 23)),
 un (.asg 3 (.t 24))])
 .skip)))
def Aax : ACode :=
 (.seq (.reg [un (.asg 2 (.c (.int .i64 0)))])
 (.seq (.reg [un (.asg 3 (.c (.int .i64 0)))])
 (.seq (.cut W2)
 (.drop [4, 5, 6, 7, 8, 9, 10, 11, 12, 13, 14, 15, 16, 17, 18, 19, 20, 21, 22, 23, 24] (.seq (.reg [un (.mov 25 (.t 0)),
 un (.nck 26 (.t 25)),
 un (.fadr 27 1 (.t 26)),
 un (.ld 28 1 false (.t 27)),
 un (.bin 29 .add (.t 28) (.c (.int .i64 1))),
 un (.nck 30 (.t 25)),
 un (.fadr 31 1 (.t 30)),
 un (.st 1 (.t 31) (.t 29))])
 (.drop [25, 26, 27, 28, 29, 30, 31] (.seq (.reg [un (.mov 32 (.t 0)),
 un (.mov 33 (.t 0)),
 un (.nck 34 (.t 33)),
 un (.fadr 35 2 (.t 34)),
 un (.ld 36 1 false (.t 35)),
 un (.bin 37 .mul (.t 36) (.c (.int .u64 6364136223846793005))),
 un (.mov 38 (.t 3)),
 un (.cnv 39 .u64 (.t 38)),
 un (.bin 40 .add (.t 37) (.t 39)),
 un (.bin 41 .add (.t 40) (.c (.int .u64 550289))),
 un (.nck 42 (.t 32)),
 un (.fadr 43 2 (.t 42)),
 un (.st 1 (.t 43) (.t 41))])
 (.drop [32, 33, 34, 35, 36, 37, 38, 39, 40, 41, 42, 43] (.seq (.seq (.dreg [(un (.mov 44 (.t 0)), []),
 (un (.nck 45 (.t 44)), []),
 (un (.fadr 46 1 (.t 45)), []),
 (un (.ld 47 1 false (.t 46)), []),
 (un (.mov 48 (.t 0)), [44, 45, 46, 47]),
 (un (.nck 49 (.t 48)), [44, 45, 46, 47]),
 (un (.fadr 50 0 (.t 49)), [44, 45, 46, 47]),
 (un (.ld 51 1 false (.t 50)), [44, 45, 46, 47]),
 (un (.len 52 (.t 51)), [44, 45, 46, 47])]
 [un (.bin 53 .leq (.t 47) (.t 52))])
 (.drop [44, 45, 46, 47, 48, 49, 50, 51, 52] (.cond (.t 53) (.seq (.reg [un (.mov 54 (.t 3)),
 un (.asg 2 (.t 54))])
 (.drop [54] .ret))
 .skip)))
 (.drop [44, 45, 46, 47, 48, 49, 50, 51, 52, 53, 54] (.seq (.reg [un (.mov 55 (.t 0)),
 un (.nck 56 (.t 55)),
 un (.fadr 57 2 (.t 56)),
 un (.ld 58 1 false (.t 57)),
 un (.bin 59 .shr (.t 58) (.c (.int .u64 40))),
 un (.bin 60 .and (.t 59) (.c (.int .u64 255))),
 un (.cnv 61 .i64 (.t 60)),
 un (.asg 2 (.t 61))])
 (.drop [55, 56, 57, 58, 59, 60, 61] .ret))))))))))))
abbrev Aat : List RS := [.t 2]
theorem Abv : Bd Try.prog Ip 62 Aax Aat = true := by kernel_rfl
def Ahf : ACode :=
 (.seq (.reg [un (.asg 4 (.c (.int .i64 0)))])
 (.seq (.seq (.reg [un (.mov 5 (.t 0)),
 un (.mov 6 (.t 1)),
 un (.bin 7 .lss (.t 5) (.t 6))])
 (.drop [5, 6] (.cond (.t 7) (.seq (.reg [un (.mov 8 (.t 0)),
 un (.asg 4 (.t 8))])
 (.drop [8] .ret))
 .skip)))
 (.drop [5, 6, 7, 8] (.seq (.reg [un (.mov 9 (.t 1)),
 un (.asg 4 (.t 9))])
 (.drop [9] .ret)))))
abbrev Ahn : List RS := [.t 4]
theorem Ahc : Bd Try.prog Qe 10 Ahf Ahn = true := by kernel_rfl
def Rh : ACode :=
 (.seq (.reg [un (.bin 14 .lss (.t 13) (.t 12))])
 (.seq (.cond (.t 14) .skip
 (.exit 0))
 (.seq (.block 1 (.seq (.reg [un (.mov 15 (.t 13)),
 un (.iad 16 1 (.t 11) (.t 13)),
 un (.ld 17 1 false (.t 16)),
 un (.asg 6 (.t 15)),
 un (.asg 7 (.t 17))])
 (.drop [15, 16, 17] (.reg [un (.mov 18 (.t 5)),
 un (.mov 19 (.t 6)),
 un (.mov 20 (.t 1)),
 un (.mov 21 (.t 7)),
 un (.iad 22 1 (.t 20) (.t 21)),
 un (.ld 23 1 false (.t 22)),
 un (.iad 24 1 (.t 18) (.t 19)),
 un (.st 1 (.t 24) (.t 23))]))))
 (.drop [15, 16, 17, 6, 7, 18, 19, 20, 21, 22, 23, 24] (.reg [un (.bin 25 .add (.t 13) (.c (.int .i64 1))),
 un (.asg 13 (.t 25))])))))
def Ahg : ACode :=
 (.seq (.reg [un (.asg 4 (.c (.nilsl 1)))])
 (.seq (.reg [un (.mov 8 (.t 0)),
 un (.len 9 (.t 8)),
 un (.mk 10 1 (.int .i64 0) (.t 9)),
 un (.asg 5 (.t 10))])
 (.drop [8, 9, 10] (.seq (.seq (.reg [un (.mov 11 (.t 0)),
 un (.len 12 (.t 11)),
 un (.mov 13 (.c (.int .i64 0)))])
 (.block 0 (.loop Rh)))
 (.drop [11, 12, 13, 14, 15, 16, 17, 6, 7, 18, 19, 20, 21, 22, 23, 24, 25] (.seq (.reg [un (.mov 26 (.t 5)),
 un (.asg 4 (.t 26))])
 (.drop [26] .ret)))))))
abbrev Aha : List RS := [.t 4]
theorem Af8 : Bd Try.prog Pl 27 Ahg Aha = true := by kernel_rfl
def Tq : ACode :=
 (.seq (.seq (.reg [un (.mov 13 (.t 8)),
 un (.bin 14 .geq (.t 13) (.c (.int .i64 0)))])
 (.drop [13] (.cond (.t 14) .skip
 (.exit 0))))
 (.drop [13, 14] (.seq (.block 1 (.seq (.reg [un (.mov 17 (.t 7)),
 un (.mov 18 (.t 8)),
 un (.mov 19 (.t 2)),
 un (.mov 20 (.t 0)),
 un (.bin 21 .rem (.t 19) (.t 20)),
 un (.iad 22 1 (.t 17) (.t 18)),
 un (.st 1 (.t 22) (.t 21))])
 (.drop [17, 18, 19, 20, 21, 22] (.reg [un (.mov 23 (.t 2)),
 un (.mov 24 (.t 0)),
 un (.bin 25 .quo (.t 23) (.t 24)),
 un (.asg 2 (.t 25))]))))
 (.drop [17, 18, 19, 20, 21, 22, 23, 24, 25] (.reg [un (.mov 15 (.t 8)),
 un (.bin 16 .sub (.t 15) (.c (.int .i64 1))),
 un (.asg 8 (.t 16))])))))
def Ai4 : ACode :=
 (.seq (.reg [un (.asg 6 (.c (.nilsl 1)))])
 (.seq (.reg [un (.mov 9 (.t 1)),
 un (.mk 10 1 (.int .i64 0) (.t 9)),
 un (.asg 7 (.t 10))])
 (.drop [9, 10] (.seq (.seq (.reg [un (.mov 11 (.t 1)),
 un (.bin 12 .sub (.t 11) (.c (.int .i64 1))),
 un (.asg 8 (.t 12))])
 (.drop [11, 12] (.block 0 (.loop Tq))))
 (.drop [11, 12, 8, 13, 14, 17, 18, 19, 20, 21, 22, 23, 24, 25, 15, 16] (.seq (.reg [un (.mov 26 (.t 7)),
 un (.asg 6 (.t 26))])
 (.drop [26] .ret)))))))
abbrev Ai0 : List RS := [.t 6]
theorem Ai7 : Bd Try.prog Nb 27 Ai4 Ai0 = true := by kernel_rfl
def Qi : ACode :=
 (.seq (.seq (.reg [un (.mov 6 (.t 4)),
 un (.mov 7 (.t 0)),
 un (.slen 8 (.t 7)),
 un (.bin 9 .lss (.t 6) (.t 8))])
 (.drop [6, 7, 8] (.cond (.t 9) .skip
 (.exit 0))))
 (.drop [6, 7, 8, 9] (.seq (.block 1 (.dreg [(un (.fadr 12 1 (.t 3)), [18]),
 (un (.ld 13 1 false (.t 12)), [18]),
 (un (.mov 14 (.t 0)), [12, 13]),
 (un (.mov 15 (.t 4)), [12, 13, 14]),
 (un (.sidx 16 (.t 14) (.t 15)), [12, 13]),
 (un (.bin 17 .sub (.t 16) (.c (.int .u8 48))), [12, 13]),
 (un (.cnv 18 .i64 (.t 17)), [12, 13]),
 (un (.bsl 19 1 [(.t 18)]), [12, 13])]
 [un (.app 20 1 (.t 13) (.t 19)),
 un (.fadr 21 1 (.t 3)),
 un (.st 1 (.t 21) (.t 20))]))
 (.drop [12, 13, 14, 15, 16, 17, 18, 19, 20, 21] (.reg [un (.mov 10 (.t 4)),
 un (.bin 11 .add (.t 10) (.c (.int .i64 1))),
 un (.asg 4 (.t 11))])))))
def Ae5 : ACode :=
 (.seq (.reg [un (.alc 2 (.agg [.int .i64 0, .nilsl 1]))])
 (.seq (.reg [un (.bld 5 [.int .i64 0, .nilsl 1] [(0, 1, (.c (.int .i64 2)))]),
 un (.alc 3 (.agg [.int .i64 0, .nilsl 1])),
 un (.st 2 (.t 3) (.t 5))])
 (.drop [5] (.seq (.seq (.reg [un (.asg 4 (.c (.int .i64 0)))])
 (.block 0 (.loop Qi)))
 (.drop [4, 6, 7, 8, 9, 12, 13, 14, 15, 16, 17, 18, 19, 20, 21, 10, 11] (.seq (.reg [un (.ld 22 2 true (.t 3)),
 un (.st 2 (.t 2) (.t 22))])
 (.drop [22] .ret)))))))
abbrev Afi : List RS := [.c 2 2 true]
theorem Afh : Bd Try.prog Bj 23 Ae5 Afi = true := by kernel_rfl
def Pv : ACode :=
 (.seq (.seq (.reg [un (.mov 6 (.t 4)),
 un (.mov 7 (.t 0)),
 un (.mov 8 (.t 0)),
 un (.bin 9 .mul (.t 7) (.t 8)),
 un (.mov 10 (.t 0)),
 un (.bin 11 .mul (.t 9) (.t 10)),
 un (.bin 12 .lss (.t 6) (.t 11))])
 (.drop [6, 7, 8, 9, 10, 11] (.cond (.t 12) .skip
 (.exit 0))))
 (.drop [6, 7, 8, 9, 10, 11, 12] (.seq (.block 1 (.dreg [(un (.fadr 15 1 (.t 3)), [35]),
 (un (.ld 16 1 false (.t 15)), [35]),
 (un (.mov 17 (.t 4)), [15, 16]),
 (un (.mov 18 (.t 0)), [15, 16, 17]),
 (un (.mov 19 (.t 0)), [15, 16, 17, 18]),
 (un (.bin 20 .mul (.t 18) (.t 19)), [15, 16, 17]),
 (un (.bin 21 .quo (.t 17) (.t 20)), [15, 16]),
 (un (.mov 22 (.t 0)), [15, 16, 17, 18, 19, 20, 21]),
 (un (.bin 23 .add (.t 21) (.t 22)), [15, 16]),
 (un (.mov 24 (.t 4)), [15, 16, 17, 18, 19, 20, 21, 22, 23]),
 (un (.mov 25 (.t 0)), [15, 16, 17, 18, 19, 20, 21, 22, 23, 24]),
 (un (.bin 26 .quo (.t 24) (.t 25)), [15, 16, 17, 18, 19, 20, 21, 22, 23]),
 (un (.mov 27 (.t 0)), [15, 16, 17, 18, 19, 20, 21, 22, 23, 24, 25, 26]),
 (un (.bin 28 .rem (.t 26) (.t 27)), [15, 16, 17, 18, 19, 20, 21, 22, 23]),
 (un (.bin 29 .sub (.t 23) (.t 28)), [15, 16]),
 (un (.mov 30 (.t 4)), [15, 16, 17, 18, 19, 20, 21, 22, 23, 24, 25, 26, 27, 28, 29]),
 (un (.mov 31 (.t 0)), [15, 16, 17, 18, 19, 20, 21, 22, 23, 24, 25, 26, 27, 28, 29, 30]),
 (un (.bin 32 .rem (.t 30) (.t 31)), [15, 16, 17, 18, 19, 20, 21, 22, 23, 24, 25, 26, 27, 28, 29]),
 (un (.bin 33 .add (.t 29) (.t 32)), [15, 16]),
 (un (.mov 34 (.t 0)), [15, 16, 17, 18, 19, 20, 21, 22, 23, 24, 25, 26, 27, 28, 29, 30, 31, 32, 33]),
 (un (.bin 35 .rem (.t 33) (.t 34)), [15, 16]),
 (un (.bsl 36 1 [(.t 35)]), [15, 16])]
 [un (.app 37 1 (.t 16) (.t 36)),
 un (.fadr 38 1 (.t 3)),
 un (.st 1 (.t 38) (.t 37))]))
 (.drop [15, 16, 17, 18, 19, 20, 21, 22, 23, 24, 25, 26, 27, 28, 29, 30, 31, 32, 33, 34, 35, 36, 37, 38] (.reg [un (.mov 13 (.t 4)),
 un (.bin 14 .add (.t 13) (.c (.int .i64 1))),
 un (.asg 4 (.t 14))])))))
def Ae2 : ACode :=
 (.seq (.reg [un (.alc 2 (.agg [.int .i64 0, .nilsl 1]))])
 (.seq (.reg [un (.bld 5 [.int .i64 0, .nilsl 1] [(0, 1, (.c (.int .i64 3)))]),
 un (.alc 3 (.agg [.int .i64 0, .nilsl 1])),
 un (.st 2 (.t 3) (.t 5))])
 (.drop [5] (.seq (.seq (.reg [un (.asg 4 (.c (.int .i64 0)))])
 (.block 0 (.loop Pv)))
 (.drop [4, 6, 7, 8, 9, 10, 11, 12, 15, 16, 17, 18, 19, 20, 21, 22, 23, 24, 25, 26, 27, 28, 29, 30, 31, 32, 33, 34, 35, 36, 37, 38, 13, 14] (.seq (.reg [un (.ld 39 2 true (.t 3)),
 un (.st 2 (.t 2) (.t 39))])
 (.drop [39] .ret)))))))
abbrev Afe : List RS := [.c 2 2 true]
theorem Aeq : Bd Try.prog Kn 40 Ae2 Afe = true := by kernel_rfl
def Qf : ACode :=
 (.seq (.seq (.reg [un (.mov 10 (.t 9)),
 un (.mov 11 (.t 1)),
 un (.bin 12 .lss (.t 10) (.t 11))])
 (.drop [10, 11] (.cond (.t 12) .skip
 (.exit 0))))
 (.drop [10, 11, 12] (.seq (.block 1 (.seq (.seq (.reg [un (.mov 15 (.t 2)),
 un (.mov 16 (.t 0)),
 un (.bin 17 .rem (.t 15) (.t 16)),
 un (.mov 18 (.t 3)),
 un (.bin 19 .geq (.t 17) (.t 18))])
 (.drop [15, 16, 17, 18] (.cond (.t 19) (.seq (.reg [un (.asg 8 (.c (.bool true)))])
 .ret)
 .skip)))
 (.drop [15, 16, 17, 18, 19] (.reg [un (.mov 20 (.t 2)),
 un (.mov 21 (.t 0)),
 un (.bin 22 .quo (.t 20) (.t 21)),
 un (.asg 2 (.t 22))]))))
 (.drop [15, 16, 17, 18, 19, 20, 21, 22] (.reg [un (.mov 13 (.t 9)),
 un (.bin 14 .add (.t 13) (.c (.int .i64 1))),
 un (.asg 9 (.t 14))])))))
def Afd : ACode :=
 (.seq (.reg [un (.asg 8 (.c (.bool false)))])
 (.seq (.seq (.reg [un (.asg 9 (.c (.int .i64 0)))])
 (.block 0 (.loop Qf)))
 (.drop [9, 10, 11, 12, 15, 16, 17, 18, 19, 20, 21, 22, 13, 14] (.seq (.reg [un (.mov 23 (.t 3)),
 un (.bin 24 .eql (.t 23) (.c (.int .i64 0))),
 un (.asg 8 (.t 24))])
 (.drop [23, 24] .ret)))))
abbrev Aes : List RS := [.t 8]
theorem Aen : Bd Try.prog N7 25 Afd Aes = true := by kernel_rfl
def Ap3 : ACode :=
 (.seq (.reg [un (.box 2 (.t 0)),
 un (.box 3 (.t 1)),
 un (.asg 4 (.c (.bool false)))])
 (.seq (.reg [un (.fadr 5 0 (.t 2)),
 un (.ld 6 1 false (.t 5)),
 un (.fadr 7 0 (.t 3)),
 un (.ld 8 1 false (.t 7)),
 un (.bin 9 .eql (.t 6) (.t 8)),
 un (.asg 10 (.t 9)),
 ⟨some (10, true), .fadr 11 1 (.t 2)⟩,
 ⟨some (10, true), .ld 12 1 false (.t 11)⟩,
 ⟨some (10, true), .fadr 13 1 (.t 3)⟩,
 ⟨some (10, true), .ld 14 1 false (.t 13)⟩,
 ⟨some (10, true), .call 15 Oy [((.t 12), false), ((.t 14), false)]⟩,
 un (.pick 16 (.t 10) (.t 15) (.c (.bool false))),
 un (.asg 4 (.t 16))])
 (.drop [5, 6, 7, 8, 9, 10, 11, 12, 13, 14, 15, 16] .ret)))
abbrev Api : List RS := [.t 4]
theorem Aqn : Bd Try.prog Ps 17 Ap3 Api = true := by kernel_rfl
def Amy : ACode :=
 (.seq (.reg [un (.box 2 (.t 0)),
 un (.asg 4 (.c (.bool false)))])
 (.seq (.dreg [(un (.fadr 5 0 (.t 2)), []),
 (un (.ld 6 1 false (.t 5)), []),
 (un (.bin 7 .geq (.t 6) (.c (.int .i64 0))), []),
 (un (.asg 8 (.t 7)), []),
 (⟨some (8, true), .fadr 9 0 (.t 2)⟩, [7]),
 (⟨some (8, true), .ld 10 1 false (.t 9)⟩, [7]),
 (⟨some (8, true), .bin 11 .leq (.t 10) (.c (.int .i64 3))⟩, [7]),
 (un (.pick 12 (.t 8) (.t 11) (.c (.bool false))), [7]),
 (un (.asg 13 (.t 12)), [7]),
 (⟨some (13, true), .fadr 14 1 (.t 2)⟩, [7, 12]),
 (⟨some (13, true), .ld 15 1 false (.t 14)⟩, [7, 12]),
 (⟨some (13, true), .len 16 (.t 15)⟩, [7, 12]),
 (⟨some (13, true), .mov 17 (.t 1)⟩, [14, 15, 16, 7, 12]),
 (⟨some (13, true), .fadr 18 0 (.t 2)⟩, [14, 15, 16, 17, 7, 12]),
 (⟨some (13, true), .ld 19 1 false (.t 18)⟩, [14, 15, 16, 17, 7, 12]),
 (⟨some (13, true), .call 20 Eo [((.t 17), false), ((.t 19), false)]⟩, [14, 15, 16, 7, 12]),
 (⟨some (13, true), .bin 21 .eql (.t 16) (.t 20)⟩, [7, 12]),
 (un (.pick 22 (.t 13) (.t 21) (.c (.bool false))), [7, 12]),
 (un (.asg 23 (.t 22)), [7, 12]),
 (⟨some (23, true), .fadr 24 1 (.t 2)⟩, [7, 12, 22]),
 (⟨some (23, true), .ld 25 1 false (.t 24)⟩, [7, 12, 22]),
 (⟨some (23, true), .mov 26 (.t 1)⟩, [24, 25, 7, 12, 22])]
 [⟨some (23, true), .call 27 M7 [((.t 25), false), ((.t 26), false)]⟩,
 un (.pick 28 (.t 23) (.t 27) (.c (.bool false))),
 un (.asg 4 (.t 28))])
 (.drop [5, 6, 7, 8, 9, 10, 11, 12, 13, 14, 15, 16, 17, 18, 19, 20, 21, 22, 23, 24, 25, 26, 27, 28] .ret)))
abbrev Ao6 : List RS := [.t 4]
theorem Anp : Bd Try.prog Gj 29 Amy Ao6 = true := by kernel_rfl
def Pw : ACode :=
 (.seq (.seq (.reg [un (.mov 6 (.t 5)),
 un (.mov 7 (.t 0)),
 un (.len 8 (.t 7)),
 un (.bin 9 .lss (.t 6) (.t 8))])
 (.drop [6, 7, 8] (.cond (.t 9) .skip
 (.exit 0))))
 (.drop [6, 7, 8, 9] (.seq (.block 1 (.seq (.reg [un (.mov 12 (.t 0)),
 un (.mov 13 (.t 5)),
 un (.iad 14 1 (.t 12) (.t 13)),
 un (.ld 15 1 false (.t 14)),
 un (.mov 16 (.t 1)),
 un (.call 17 Na [((.t 15), false), ((.t 16), false)])])
 (.drop [12, 13, 14, 15, 16] (.cond (.t 17) (.seq (.reg [un (.mov 18 (.t 5)),
 un (.asg 4 (.t 18))])
 (.drop [18] .ret))
 .skip))))
 (.drop [12, 13, 14, 15, 16, 17, 18] (.reg [un (.mov 10 (.t 5)),
 un (.bin 11 .add (.t 10) (.c (.int .i64 1))),
 un (.asg 5 (.t 11))])))))
def Ae9 : ACode :=
 (.seq (.reg [un (.asg 4 (.c (.int .i64 0)))])
 (.seq (.seq (.reg [un (.asg 5 (.c (.int .i64 0)))])
 (.block 0 (.loop Pw)))
 (.drop [5, 6, 7, 8, 9, 12, 13, 14, 15, 16, 17, 18, 10, 11] (.seq (.reg [un (.asg 4 (.c (.int .i64 (-1))))])
 .ret))))
abbrev Aer : List RS := [.t 4]
theorem Aex : Bd Try.prog Ko 19 Ae9 Aer = true := by kernel_rfl
def Yx : ACode :=
 (.seq (.reg [un (.asg 4 (.c (.bool false)))])
 (.seq (.reg [un (.mov 5 (.t 1)),
 un (.bin 6 .geq (.t 5) (.c (.int .i64 1))),
 un (.asg 7 (.t 6)),
 ⟨some (7, true), .mov 8 (.t 1)⟩,
 ⟨some (7, true), .bin 9 .leq (.t 8) (.c (.int .i64 3))⟩,
 un (.pick 10 (.t 7) (.t 9) (.c (.bool false))),
 un (.asg 11 (.t 10)),
 ⟨some (11, true), .mov 12 (.t 0)⟩,
 ⟨some (11, true), .mov 13 (.t 1)⟩,
 ⟨some (11, true), .call 14 Eo [((.t 12), false), ((.t 13), false)]⟩,
 ⟨some (11, true), .bin 15 .leq (.t 14) (.c (.int .i64 27))⟩,
 un (.pick 16 (.t 11) (.t 15) (.c (.bool false))),
 un (.asg 4 (.t 16))])
 (.drop [5, 6, 7, 8, 9, 10, 11, 12, 13, 14, 15, 16] .ret)))
abbrev Yq : List RS := [.t 4]
theorem Yo : Bd Try.prog J8 17 Yx Yq = true := by kernel_rfl
def Vn : ACode :=
 (.seq (.reg [un (.bin 12 .lss (.t 11) (.t 10))])
 (.seq (.cond (.t 12) .skip
 (.exit 0))
 (.seq (.block 1 (.seq (.reg [un (.iad 13 1 (.t 9) (.t 11)),
 un (.ld 14 1 false (.t 13)),
 un (.asg 7 (.t 14))])
 (.drop [13, 14] (.reg [un (.mov 15 (.t 5)),
 un (.mov 16 (.t 0)),
 un (.mov 17 (.t 7)),
 un (.call 18 H3 [((.t 17), false)]),
 un (.bld 19 [.int .i64 0, .nilsl 1] [(0, 1, (.t 16)), (1, 1, (.t 18))]),
 un (.bsl 20 2 [(.t 19)]),
 un (.app 21 2 (.t 15) (.t 20)),
 un (.asg 5 (.t 21))]))))
 (.drop [13, 14, 7, 15, 16, 17, 18, 19, 20, 21] (.reg [un (.bin 22 .add (.t 11) (.c (.int .i64 1))),
 un (.asg 11 (.t 22))])))))
def Akl : ACode :=
 (.seq (.reg [un (.asg 4 (.c (.nilsl 2)))])
 (.seq (.reg [un (.bsl 8 2 []),
 un (.asg 5 (.t 8))])
 (.drop [8] (.seq (.seq (.reg [un (.mov 9 (.t 1)),
 un (.len 10 (.t 9)),
 un (.mov 11 (.c (.int .i64 0)))])
 (.block 0 (.loop Vn)))
 (.drop [9, 10, 11, 12, 13, 14, 7, 15, 16, 17, 18, 19, 20, 21, 22] (.seq (.reg [un (.mov 23 (.t 5)),
 un (.asg 4 (.t 23))])
 (.drop [23] .ret)))))))
abbrev Aks : List RS := [.t 4]
theorem Amj : Bd Try.prog Ug 24 Akl Aks = true := by kernel_rfl
def Ada : ACode :=
 (.seq (.reg [un (.asg 4 (.c (.bool false)))])
 (.seq (.reg [un (.mov 5 (.t 1)),
 un (.call 6 Gh [((.t 5), false), ((.c (.int .i64 1)), false), ((.c (.int .i64 3)), false)]),
 un (.asg 7 (.t 6)),
 ⟨some (7, true), .mov 8 (.t 0)⟩,
 ⟨some (7, true), .mov 9 (.t 1)⟩,
 ⟨some (7, true), .call 10 Ep [((.t 8), false), ((.t 9), false)]⟩,
 ⟨some (7, true), .bin 11 .leq (.t 10) (.c (.int .i64 27))⟩,
 un (.pick 12 (.t 7) (.t 11) (.c (.bool false))),
 un (.asg 4 (.t 12))])
 (.drop [5, 6, 7, 8, 9, 10, 11, 12] .ret)))
abbrev Ado : List RS := [.t 4]
theorem Adn : Bd Try.prog He 13 Ada Ado = true := by kernel_rfl
def Tl : ACode :=
 (.seq (.seq (.reg [un (.mov 8 (.t 6)),
 un (.mov 9 (.t 1)),
 un (.len 10 (.t 9)),
 un (.bin 11 .lss (.t 8) (.t 10))])
 (.drop [8, 9, 10] (.cond (.t 11) .skip
 (.exit 0))))
 (.drop [8, 9, 10, 11] (.seq (.block 1 (.reg [un (.mov 14 (.t 5)),
 un (.mov 15 (.t 0)),
 un (.mov 16 (.t 1)),
 un (.mov 17 (.t 6)),
 un (.iad 18 1 (.t 16) (.t 17)),
 un (.ld 19 1 false (.t 18)),
 un (.call 20 O6 [((.t 19), false)]),
 un (.bld 21 [.int .i64 0, .nilsl 1] [(0, 1, (.t 15)), (1, 1, (.t 20))]),
 un (.bsl 22 2 [(.t 21)]),
 un (.app 23 2 (.t 14) (.t 22)),
 un (.asg 5 (.t 23))]))
 (.drop [14, 15, 16, 17, 18, 19, 20, 21, 22, 23] (.reg [un (.mov 12 (.t 6)),
 un (.bin 13 .add (.t 12) (.c (.int .i64 1))),
 un (.asg 6 (.t 13))])))))
def Aio : ACode :=
 (.seq (.reg [un (.asg 4 (.c (.nilsl 2)))])
 (.seq (.reg [un (.bsl 7 2 []),
 un (.asg 5 (.t 7))])
 (.drop [7] (.seq (.seq (.reg [un (.asg 6 (.c (.int .i64 0)))])
 (.block 0 (.loop Tl)))
 (.drop [6, 8, 9, 10, 11, 14, 15, 16, 17, 18, 19, 20, 21, 22, 23, 12, 13] (.seq (.reg [un (.mov 24 (.t 5)),
 un (.asg 4 (.t 24))])
 (.drop [24] .ret)))))))
abbrev Aik : List RS := [.t 4]
theorem Aiz : Bd Try.prog Sd 25 Aio Aik = true := by kernel_rfl
def Nt : ACode :=
 (.seq (.reg [un (.bin 16 .lss (.t 15) (.t 14))])
 (.seq (.cond (.t 16) .skip
 (.exit 0))
 (.seq (.block 1 (.seq (.reg [un (.mov 17 (.t 15)),
 un (.asg 8 (.t 17))])
 (.drop [17] (.reg [un (.mov 18 (.t 7)),
 un (.mov 19 (.t 8)),
 un (.mov 20 (.t 8)),
 un (.mov 21 (.t 1)),
 un (.mov 22 (.t 0)),
 un (.call 23 Kl [((.t 20), false), ((.t 21), false), ((.t 22), false)]),
 un (.mov 24 (.t 2)),
 un (.iad 25 1 (.t 23) (.t 24)),
 un (.ld 26 1 false (.t 25)),
 un (.iad 27 1 (.t 18) (.t 19)),
 un (.st 1 (.t 27) (.t 26))]))))
 (.drop [17, 8, 18, 19, 20, 21, 22, 23, 24, 25, 26, 27] (.reg [un (.bin 28 .add (.t 15) (.c (.int .i64 1))),
 un (.asg 15 (.t 28))])))))
def Aar : ACode :=
 (.seq (.reg [un (.asg 6 (.c (.nilsl 1)))])
 (.seq (.reg [un (.mov 9 (.t 0)),
 un (.mov 10 (.t 1)),
 un (.call 11 Eo [((.t 9), false), ((.t 10), false)]),
 un (.mk 12 1 (.int .i64 0) (.t 11)),
 un (.asg 7 (.t 12))])
 (.drop [9, 10, 11, 12] (.seq (.seq (.reg [un (.mov 13 (.t 7)),
 un (.len 14 (.t 13)),
 un (.mov 15 (.c (.int .i64 0)))])
 (.drop [13] (.block 0 (.loop Nt))))
 (.drop [13, 14, 15, 16, 17, 8, 18, 19, 20, 21, 22, 23, 24, 25, 26, 27, 28] (.seq (.reg [un (.mov 29 (.t 7)),
 un (.asg 6 (.t 29))])
 (.drop [29] .ret)))))))
abbrev Aal : List RS := [.t 6]
theorem Ab4 : Bd Try.prog Io 30 Aar Aal = true := by kernel_rfl
def Agj : ACode :=
 (.seq (.reg [un (.asg 2 (.c (.bool false)))])
 (.seq (.reg [un (.mov 3 (.t 0)),
 un (.call 4 Gh [((.t 3), false), ((.c (.int .i64 1)), false), ((.c (.int .i64 8)), false)]),
 un (.asg 2 (.t 4))])
 (.drop [3, 4] .ret)))
abbrev Ah6 : List RS := [.t 2]
theorem Ahs : Bd Try.prog Fp 5 Agj Ah6 = true := by kernel_rfl
def Agx : ACode :=
 (.seq (.dreg [(un (.fadr 6 0 (.t 3)), []),
 (un (.ld 7 1 false (.t 6)), []),
 (un (.call 8 Gh [((.t 7), false), ((.c (.int .i64 0)), false), ((.c (.int .i64 3)), false)]), []),
 (un (.un 9 .not (.t 8)), []),
 (un (.asg 10 (.t 9)), []),
 (⟨some (10, false), .fadr 11 1 (.t 3)⟩, [9]),
 (⟨some (10, false), .ld 12 1 false (.t 11)⟩, [9]),
 (⟨some (10, false), .len 13 (.t 12)⟩, [9]),
 (⟨some (10, false), .mov 14 (.t 0)⟩, [11, 12, 13, 9]),
 (⟨some (10, false), .fadr 15 0 (.t 3)⟩, [11, 12, 13, 14, 9]),
 (⟨some (10, false), .ld 16 1 false (.t 15)⟩, [11, 12, 13, 14, 9]),
 (⟨some (10, false), .call 17 Ep [((.t 14), false), ((.t 16), false)]⟩, [11, 12, 13, 9])]
 [⟨some (10, false), .bin 18 .neq (.t 13) (.t 17)⟩,
 un (.pick 19 (.t 10) (.c (.bool true)) (.t 18))])
 (.drop [6, 7, 8, 9, 10, 11, 12, 13, 14, 15, 16, 17, 18] (.cond (.t 19) (.seq (.reg [un (.asg 4 (.c (.bool false)))])
 .ret)
 .skip)))
def Xn : ACode :=
 (.seq (.seq (.reg [un (.mov 20 (.t 5)),
 un (.fadr 21 1 (.t 3)),
 un (.ld 22 1 false (.t 21)),
 un (.len 23 (.t 22)),
 un (.bin 24 .lss (.t 20) (.t 23))])
 (.drop [20, 21, 22, 23] (.cond (.t 24) .skip
 (.exit 0))))
 (.drop [20, 21, 22, 23, 24] (.seq (.block 1 (.seq (.reg [un (.fadr 27 1 (.t 3)),
 un (.ld 28 1 false (.t 27)),
 un (.mov 29 (.t 5)),
 un (.iad 30 1 (.t 28) (.t 29)),
 un (.ld 31 1 false (.t 30)),
 un (.mov 32 (.t 0)),
 un (.bin 33 .sub (.t 32) (.c (.int .i64 1))),
 un (.call 34 Gh [((.t 31), false), ((.c (.int .i64 0)), false), ((.t 33), false)]),
 un (.un 35 .not (.t 34))])
 (.drop [27, 28, 29, 30, 31, 32, 33, 34] (.cond (.t 35) (.seq (.reg [un (.asg 4 (.c (.bool false)))])
 .ret)
 .skip))))
 (.drop [27, 28, 29, 30, 31, 32, 33, 34, 35] (.reg [un (.mov 25 (.t 5)),
 un (.bin 26 .add (.t 25) (.c (.int .i64 1))),
 un (.asg 5 (.t 26))])))))
def Anv : ACode :=
 (.seq (.reg [un (.box 3 (.t 1)),
 un (.asg 4 (.c (.bool false)))])
 (.seq (.cut Agx)
 (.drop [6, 7, 8, 9, 10, 11, 12, 13, 14, 15, 16, 17, 18, 19] (.seq (.seq (.reg [un (.asg 5 (.c (.int .i64 0)))])
 (.block 0 (.loop Xn)))
 (.drop [5, 20, 21, 22, 23, 24, 27, 28, 29, 30, 31, 32, 33, 34, 35, 25, 26] (.seq (.reg [un (.asg 4 (.c (.bool true)))])
 .ret))))))
abbrev Ana : List RS := [.t 4]
theorem Any : Bd Try.prog Fk 36 Anv Ana = true := by kernel_rfl
def Aa1 : ACode :=
 (.seq (.reg [un (.asg 4 (.c (.int .i64 0)))])
 (.seq (.seq (.reg [un (.mov 6 (.t 1)),
 un (.bin 7 .leq (.t 6) (.c (.int .i64 1)))])
 (.drop [6] (.cond (.t 7) (.seq (.reg [un (.asg 4 (.c (.int .i64 0)))])
 .ret)
 .skip)))
 (.drop [6, 7] (.seq (.reg [un (.mov 8 (.t 0)),
 un (.call 9 Ip [((.t 8), true)]),
 un (.asg 5 (.t 9))])
 (.drop [8, 9] (.seq (.seq (.reg [un (.mov 10 (.t 1)),
 un (.bin 11 .gtr (.t 10) (.c (.int .i64 200)))])
 (.drop [10] (.cond (.t 11) (.reg [un (.mov 12 (.t 5)),
 un (.bin 13 .mul (.t 12) (.c (.int .i64 256))),
 un (.mov 14 (.t 0)),
 un (.call 15 Ip [((.t 14), true)]),
 un (.bin 16 .add (.t 13) (.t 15)),
 un (.asg 5 (.t 16))])
 .skip)))
 (.drop [10, 11, 12, 13, 14, 15, 16] (.seq (.reg [un (.mov 17 (.t 5)),
 un (.mov 18 (.t 1)),
 un (.bin 19 .rem (.t 17) (.t 18)),
 un (.asg 4 (.t 19))])
 (.drop [17, 18, 19] .ret)))))))))
abbrev Ab9 : List RS := [.t 4]
theorem Aa7 : Bd Try.prog As 20 Aa1 Ab9 = true := by kernel_rfl
def Vh : ACode :=
 (.seq (.seq (.reg [un (.mov 13 (.t 10)),
 un (.mov 14 (.t 0)),
 un (.mov 15 (.t 3)),
 un (.call 16 Eo [((.t 14), false), ((.t 15), false)]),
 un (.bin 17 .lss (.t 13) (.t 16))])
 (.drop [13, 14, 15, 16] (.cond (.t 17) .skip
 (.exit 0))))
 (.drop [13, 14, 15, 16, 17] (.seq (.block 1 (.dreg [(un (.fadr 20 1 (.t 9)), [33]),
 (un (.ld 21 1 false (.t 20)), [33]),
 (un (.fadr 22 1 (.t 5)), [20, 21]),
 (un (.ld 23 1 false (.t 22)), [20, 21]),
 (un (.mov 24 (.t 2)), [20, 21, 22, 23]),
 (un (.mov 25 (.t 10)), [20, 21, 22, 23, 24]),
 (un (.mov 26 (.t 3)), [20, 21, 22, 23, 24, 25]),
 (un (.mov 27 (.t 0)), [20, 21, 22, 23, 24, 25, 26]),
 (un (.call 28 Kl [((.t 25), false), ((.t 26), false), ((.t 27), false)]), [20, 21, 22, 23, 24]),
 (un (.call 29 Pl [((.t 24), false), ((.t 28), false)]), [20, 21, 22, 23]),
 (un (.mov 30 (.t 0)), [20, 21, 22, 23, 24, 25, 26, 27, 28, 29]),
 (un (.call 31 Qd [((.t 29), false), ((.t 30), false)]), [20, 21, 22, 23]),
 (un (.iad 32 1 (.t 23) (.t 31)), [20, 21]),
 (un (.ld 33 1 false (.t 32)), [20, 21]),
 (un (.bsl 34 1 [(.t 33)]), [20, 21])]
 [un (.app 35 1 (.t 21) (.t 34)),
 un (.fadr 36 1 (.t 9)),
 un (.st 1 (.t 36) (.t 35))]))
 (.drop [20, 21, 22, 23, 24, 25, 26, 27, 28, 29, 30, 31, 32, 33, 34, 35, 36] (.reg [un (.mov 18 (.t 10)),
 un (.bin 19 .add (.t 18) (.c (.int .i64 1))),
 un (.asg 10 (.t 19))])))))
def Aml : ACode :=
 (.seq (.reg [un (.box 5 (.t 1)),
 un (.alc 8 (.agg [.int .i64 0, .nilsl 1]))])
 (.seq (.reg [un (.mov 11 (.t 3)),
 un (.bld 12 [.int .i64 0, .nilsl 1] [(0, 1, (.t 11))]),
 un (.alc 9 (.agg [.int .i64 0, .nilsl 1])),
 un (.st 2 (.t 9) (.t 12))])
 (.drop [11, 12] (.seq (.seq (.reg [un (.asg 10 (.c (.int .i64 0)))])
 (.block 0 (.loop Vh)))
 (.drop [10, 13, 14, 15, 16, 17, 20, 21, 22, 23, 24, 25, 26, 27, 28, 29, 30, 31, 32, 33, 34, 35, 36, 18, 19] (.seq (.reg [un (.ld 37 2 true (.t 9)),
 un (.st 2 (.t 8) (.t 37))])
 (.drop [37] .ret)))))))
abbrev Akr : List RS := [.c 8 2 true]
theorem Alm : Bd Try.prog Uc 38 Aml Akr = true := by kernel_rfl
def Nf : ACode :=
 (.seq (.seq (.reg [un (.mov 6 (.t 5)),
 un (.mov 7 (.t 1)),
 un (.len 8 (.t 7)),
 un (.bin 9 .lss (.t 6) (.t 8))])
 (.drop [6, 7, 8] (.cond (.t 9) .skip
 (.exit 0))))
 (.drop [6, 7, 8, 9] (.seq (.block 1 (.seq (.reg [un (.mov 12 (.t 1)),
 un (.mov 13 (.t 5)),
 un (.iad 14 1 (.t 12) (.t 13)),
 un (.ld 15 1 false (.t 14)),
 un (.mov 16 (.t 0)),
 un (.bin 17 .sub (.t 16) (.c (.int .i64 1))),
 un (.call 18 Gh [((.t 15), false), ((.c (.int .i64 0)), false), ((.t 17), false)]),
 un (.un 19 .not (.t 18))])
 (.drop [12, 13, 14, 15, 16, 17, 18] (.cond (.t 19) (.seq (.reg [un (.asg 4 (.c (.bool false)))])
 .ret)
 .skip))))
 (.drop [12, 13, 14, 15, 16, 17, 18, 19] (.reg [un (.mov 10 (.t 5)),
 un (.bin 11 .add (.t 10) (.c (.int .i64 1))),
 un (.asg 5 (.t 11))])))))
def Aa8 : ACode :=
 (.seq (.reg [un (.asg 4 (.c (.bool false)))])
 (.seq (.seq (.reg [un (.asg 5 (.c (.int .i64 0)))])
 (.block 0 (.loop Nf)))
 (.drop [5, 6, 7, 8, 9, 12, 13, 14, 15, 16, 17, 18, 19, 10, 11] (.seq (.reg [un (.asg 4 (.c (.bool true)))])
 .ret))))
abbrev Aau : List RS := [.t 4]
theorem Ab1 : Bd Try.prog L7 20 Aa8 Aau = true := by kernel_rfl
def Lj : ACode :=
 (.seq (.seq (.reg [un (.mov 10 (.t 8)),
 un (.mov 11 (.t 0)),
 un (.mov 12 (.t 1)),
 un (.call 13 Ep [((.t 11), false), ((.t 12), false)]),
 un (.bin 14 .lss (.t 10) (.t 13))])
 (.drop [10, 11, 12, 13] (.cond (.t 14) .skip
 (.exit 0))))
 (.drop [10, 11, 12, 13, 14] (.seq (.block 1 (.reg [un (.mov 17 (.t 7)),
 un (.mov 18 (.t 0)),
 un (.mov 19 (.t 1)),
 un (.mov 20 (.t 8)),
 un (.call 21 Nb [((.t 18), false), ((.t 19), false), ((.t 20), false)]),
 un (.mov 22 (.t 2)),
 un (.iad 23 1 (.t 21) (.t 22)),
 un (.ld 24 1 false (.t 23)),
 un (.bsl 25 1 [(.t 24)]),
 un (.app 26 1 (.t 17) (.t 25)),
 un (.asg 7 (.t 26))]))
 (.drop [17, 18, 19, 20, 21, 22, 23, 24, 25, 26] (.reg [un (.mov 15 (.t 8)),
 un (.bin 16 .add (.t 15) (.c (.int .i64 1))),
 un (.asg 8 (.t 16))])))))
def W6 : ACode :=
 (.seq (.reg [un (.asg 6 (.c (.nilsl 1)))])
 (.seq (.reg [un (.bsl 9 1 []),
 un (.asg 7 (.t 9))])
 (.drop [9] (.seq (.seq (.reg [un (.asg 8 (.c (.int .i64 0)))])
 (.block 0 (.loop Lj)))
 (.drop [8, 10, 11, 12, 13, 14, 17, 18, 19, 20, 21, 22, 23, 24, 25, 26, 15, 16] (.seq (.reg [un (.mov 27 (.t 7)),
 un (.asg 6 (.t 27))])
 (.drop [27] .ret)))))))
abbrev Xs : List RS := [.t 6]
theorem Wn : Bd Try.prog Di 28 W6 Xs = true := by kernel_rfl
def Af0 : ACode :=
 (.seq (.reg [un (.alc 2 (.agg [.int .i64 0, .nilsl 2]))])
 (.seq (.seq (.reg [un (.mov 3 (.t 0))])
 (.block 0 (.seq (.reg [un (.bin 5 .eql (.t 3) (.c (.int .i64 0))),
 un (.asg 4 (.t 5))])
 (.drop [5] (.cond (.t 4) (.seq (.reg [⟨none, .call 6 Bj [((.c (.str ⟨#[48, 48, 48, 49]⟩)), false)]⟩,
 un (.bsl 7 2 [(.t 6)]),
 un (.bld 8 [.int .i64 0, .nilsl 2] [(0, 1, (.c (.int .i64 2))), (1, 1, (.t 7))]),
 un (.st 2 (.t 2) (.t 8))])
 (.drop [6, 7, 8] .ret))
 (.seq (.reg [un (.bin 10 .eql (.t 3) (.c (.int .i64 1))),
 un (.asg 9 (.t 10))])
 (.drop [10] (.cond (.t 9) (.seq (.reg [⟨none, .call 11 Bj [((.c (.str ⟨#[48, 48, 48, 49]⟩)), false)]⟩,
 ⟨none, .call 12 Bj [((.c (.str ⟨#[48, 49, 49, 49]⟩)), false)]⟩,
 un (.bsl 13 2 [(.t 11), (.t 12)]),
 un (.bld 14 [.int .i64 0, .nilsl 2] [(0, 1, (.c (.int .i64 2))), (1, 1, (.t 13))]),
 un (.st 2 (.t 2) (.t 14))])
 (.drop [11, 12, 13, 14] .ret))
 (.seq (.reg [un (.bin 16 .eql (.t 3) (.c (.int .i64 2))),
 un (.asg 15 (.t 16))])
 (.drop [16] (.cond (.t 15) (.seq (.reg [⟨none, .call 17 Bj [((.c (.str ⟨#[48, 48, 48, 49]⟩)), false)]⟩,
 ⟨none, .call 18 Bj [((.c (.str ⟨#[48, 49, 49, 49]⟩)), false)]⟩,
 un (.bsl 19 1 [(.c (.int .i64 1)), (.c (.int .i64 0))]),
 un (.bld 20 [.int .i64 0, .nilsl 1] [(0, 1, (.c (.int .i64 1))), (1, 1, (.t 19))]),
 un (.bsl 21 2 [(.t 17), (.t 18), (.t 20)]),
 un (.bld 22 [.int .i64 0, .nilsl 2] [(0, 1, (.c (.int .i64 2))), (1, 1, (.t 21))]),
 un (.st 2 (.t 2) (.t 22))])
 (.drop [17, 18, 19, 20, 21, 22] .ret))
 (.seq (.reg [un (.bin 24 .eql (.t 3) (.c (.int .i64 3))),
 un (.asg 23 (.t 24))])
 (.drop [24] (.cond (.t 23) (.seq (.reg [un (.call 25 Kn [((.c (.int .i64 2)), false)]),
 un (.bsl 26 2 [(.t 25)]),
 un (.bld 27 [.int .i64 0, .nilsl 2] [(0, 1, (.c (.int .i64 2))), (1, 1, (.t 26))]),
 un (.st 2 (.t 2) (.t 27))])
 (.drop [25, 26, 27] .ret))
 (.seq (.reg [un (.bin 29 .eql (.t 3) (.c (.int .i64 4))),
 un (.asg 28 (.t 29))])
 (.drop [29] (.cond (.t 28) (.seq (.reg [⟨none, .call 30 Bj [((.c (.str ⟨#[48, 49, 50, 49, 50, 48, 50, 48, 49]⟩)), false)]⟩,
 un (.bsl 31 2 [(.t 30)]),
 un (.bld 32 [.int .i64 0, .nilsl 2] [(0, 1, (.c (.int .i64 3))), (1, 1, (.t 31))]),
 un (.st 2 (.t 2) (.t 32))])
 (.drop [30, 31, 32] .ret))
 (.seq (.reg [un (.bin 34 .eql (.t 3) (.c (.int .i64 5))),
 un (.asg 33 (.t 34))])
 (.drop [34] (.cond (.t 33) (.seq (.reg [⟨none, .call 35 Bj [((.c (.str ⟨#[48, 49, 48, 49, 49, 50, 48, 50, 50]⟩)), false)]⟩,
 un (.bsl 36 2 [(.t 35)]),
 un (.bld 37 [.int .i64 0, .nilsl 2] [(0, 1, (.c (.int .i64 3))), (1, 1, (.t 36))]),
 un (.st 2 (.t 2) (.t 37))])
 (.drop [35, 36, 37] .ret))
 (.seq (.reg [un (.bin 39 .eql (.t 3) (.c (.int .i64 6))),
 un (.asg 38 (.t 39))])
 (.drop [39] (.cond (.t 38) (.seq (.reg [⟨none, .call 40 Bj [((.c (.str ⟨#[48, 49, 50, 51, 49, 48, 51, 50, 50, 51, 48, 49, 51, 50, 49, 48]⟩)), false)]⟩,
 un (.bsl 41 2 [(.t 40)]),
 un (.bld 42 [.int .i64 0, .nilsl 2] [(0, 1, (.c (.int .i64 4))), (1, 1, (.t 41))]),
 un (.st 2 (.t 2) (.t 42))])
 (.drop [40, 41, 42] .ret))
 (.seq (.reg [un (.bin 44 .eql (.t 3) (.c (.int .i64 7))),
 un (.asg 43 (.t 44))])
 (.drop [44] (.cond (.t 43) (.seq (.reg [⟨none, .call 45 Bj [((.c (.str ⟨#[48, 48, 48, 48, 49, 49, 48, 49, 50]⟩)), false)]⟩,
 ⟨none, .call 46 Bj [((.c (.str ⟨#[48, 49, 50, 49, 49, 50, 50, 50, 50]⟩)), false)]⟩,
 un (.bsl 47 2 [(.t 45), (.t 46)]),
 un (.bld 48 [.int .i64 0, .nilsl 2] [(0, 1, (.c (.int .i64 3))), (1, 1, (.t 47))]),
 un (.st 2 (.t 2) (.t 48))])
 (.drop [45, 46, 47, 48] .ret))
 (.seq (.reg [un (.bin 50 .eql (.t 3) (.c (.int .i64 8))),
 un (.asg 49 (.t 50))])
 (.drop [50] (.cond (.t 49) (.seq (.reg [un (.bsl 51 1 [(.c (.int .i64 1)), (.c (.int .i64 2)), (.c (.int .i64 3)), (.c (.int .i64 0))]),
 un (.bld 52 [.int .i64 0, .nilsl 1] [(0, 1, (.c (.int .i64 1))), (1, 1, (.t 51))]),
 un (.bsl 53 2 [(.t 52)]),
 un (.bld 54 [.int .i64 0, .nilsl 2] [(0, 1, (.c (.int .i64 4))), (1, 1, (.t 53))]),
 un (.st 2 (.t 2) (.t 54))])
 (.drop [51, 52, 53, 54] .ret))
 (.seq (.reg [un (.bin 56 .eql (.t 3) (.c (.int .i64 9))),
 un (.asg 55 (.t 56))])
 (.drop [56] (.cond (.t 55) (.seq (.reg [un (.bsl 57 1 [(.c (.int .i64 0)), (.c (.int .i64 0)), (.c (.int .i64 0)), (.c (.int .i64 1)), (.c (.int .i64 0)), (.c (.int .i64 1)), (.c (.int .i64 1)), (.c (.int .i64 1))]),
 un (.bld 58 [.int .i64 0, .nilsl 1] [(0, 1, (.c (.int .i64 3))), (1, 1, (.t 57))]),
 un (.bsl 59 2 [(.t 58)]),
 un (.bld 60 [.int .i64 0, .nilsl 2] [(0, 1, (.c (.int .i64 2))), (1, 1, (.t 59))]),
 un (.st 2 (.t 2) (.t 60))])
 (.drop [57, 58, 59, 60] .ret))
 (.seq (.reg [un (.bin 62 .eql (.t 3) (.c (.int .i64 10))),
 un (.asg 61 (.t 62))])
 (.drop [62] (.cond (.t 61) (.seq (.reg [⟨none, .call 63 Bj [((.c (.str ⟨#[48, 48, 48, 49, 49, 49, 50, 50, 50]⟩)), false)]⟩,
 un (.bsl 64 2 [(.t 63)]),
 un (.bld 65 [.int .i64 0, .nilsl 2] [(0, 1, (.c (.int .i64 3))), (1, 1, (.t 64))]),
 un (.st 2 (.t 2) (.t 65))])
 (.drop [63, 64, 65] .ret))
 (.seq (.reg [un (.bin 67 .eql (.t 3) (.c (.int .i64 11))),
 un (.asg 66 (.t 67))])
 (.drop [67] (.cond (.t 66) (.seq (.reg [⟨none, .call 68 Bj [((.c (.str ⟨#[48, 48, 48, 48, 48, 48, 49, 48, 48, 49, 48, 48, 50, 48, 50, 48, 48, 48, 51, 51, 48, 49, 50, 51, 52]⟩)), false)]⟩,
 ⟨none, .call 69 Bj [((.c (.str ⟨#[48, 49, 50, 51, 52, 49, 49, 52, 52, 52, 50, 52, 50, 52, 52, 51, 52, 52, 51, 52, 52, 52, 52, 52, 52]⟩)), false)]⟩,
 un (.bsl 70 2 [(.t 68), (.t 69)]),
 un (.bld 71 [.int .i64 0, .nilsl 2] [(0, 1, (.c (.int .i64 5))), (1, 1, (.t 70))]),
 un (.st 2 (.t 2) (.t 71))])
 (.drop [68, 69, 70, 71] .ret))
 (.seq (.reg [un (.bin 73 .eql (.t 3) (.c (.int .i64 12))),
 un (.asg 72 (.t 73))])
 (.drop [73] (.cond (.t 72) (.seq (.reg [⟨none, .call 74 Bj [((.c (.str ⟨#[48, 49, 50, 51, 49, 50, 51, 48, 50, 51, 48, 49, 51, 48, 49, 50]⟩)), false)]⟩,
 un (.bsl 75 2 [(.t 74)]),
 un (.bld 76 [.int .i64 0, .nilsl 2] [(0, 1, (.c (.int .i64 4))), (1, 1, (.t 75))]),
 un (.st 2 (.t 2) (.t 76))])
 (.drop [74, 75, 76] .ret))
 (.seq (.reg [un (.bin 78 .eql (.t 3) (.c (.int .i64 13))),
 un (.asg 77 (.t 78))])
 (.drop [78] (.cond (.t 77) (.seq (.reg [un (.bsl 79 1 [(.c (.int .i64 0)), (.c (.int .i64 0)), (.c (.int .i64 1))]),
 un (.bld 80 [.int .i64 0, .nilsl 1] [(0, 1, (.c (.int .i64 1))), (1, 1, (.t 79))]),
 un (.bsl 81 1 [(.c (.int .i64 2))]),
 un (.bld 82 [.int .i64 0, .nilsl 1] [(0, 1, (.c (.int .i64 0))), (1, 1, (.t 81))]),
 un (.bsl 83 2 [(.t 80), (.t 82)]),
 un (.bld 84 [.int .i64 0, .nilsl 2] [(0, 1, (.c (.int .i64 3))), (1, 1, (.t 83))]),
 un (.st 2 (.t 2) (.t 84))])
 (.drop [79, 80, 81, 82, 83, 84] .ret))
 (.seq (.reg [un (.bin 86 .eql (.t 3) (.c (.int .i64 14))),
 un (.asg 85 (.t 86))])
 (.drop [86] (.cond (.t 85) (.seq (.reg [⟨none, .call 87 Bj [((.c (.str ⟨#[48]⟩)), false)]⟩,
 un (.bsl 88 2 [(.t 87)]),
 un (.bld 89 [.int .i64 0, .nilsl 2] [(0, 1, (.c (.int .i64 1))), (1, 1, (.t 88))]),
 un (.st 2 (.t 2) (.t 89))])
 (.drop [87, 88, 89] .ret))
 (.seq (.reg [un (.bin 91 .eql (.t 3) (.c (.int .i64 15))),
 un (.asg 90 (.t 91))])
 (.drop [91] (.cond (.t 90) (.seq (.reg [un (.call 92 Kn [((.c (.int .i64 3)), false)]),
 un (.bsl 93 2 [(.t 92)]),
 un (.bld 94 [.int .i64 0, .nilsl 2] [(0, 1, (.c (.int .i64 3))), (1, 1, (.t 93))]),
 un (.st 2 (.t 2) (.t 94))])
 (.drop [92, 93, 94] .ret))
 .skip))))))))))))))))))))))))))))))))))))))))))))))))))
 (.drop [3, 5, 4, 6, 7, 8, 10, 9, 11, 12, 13, 14, 16, 15, 17, 18, 19, 20, 21, 22, 24, 23, 25, 26, 27, 29, 28, 30, 31, 32, 34, 33, 35, 36, 37, 39, 38, 40, 41, 42, 44, 43, 45, 46, 47, 48, 50, 49, 51, 52, 53, 54, 56, 55, 57, 58, 59, 60, 62, 61, 63, 64, 65, 67, 66, 68, 69, 70, 71, 73, 72, 74, 75, 76, 78, 77, 79, 80, 81, 82, 83, 84, 86, 85, 87, 88, 89, 91, 90, 92, 93, 94] (.seq (.reg [un (.bld 95 [.int .i64 0, .nilsl 2] [(0, 1, (.c (.int .i64 2)))]),
 un (.st 2 (.t 2) (.t 95))])
 (.drop [95] .ret)))))
abbrev Agf : List RS := [.c 2 2 true]
theorem Ahu : Bd Try.prog P6 96 Af0 Agf = true := by kernel_rfl
def Acf : ACode :=
 (.seq (.reg [un (.mov 9 (.t 1)),
 un (.call 10 O9 [((.t 9), false)]),
 un (.asg 8 (.t 10))])
 (.drop [9, 10] (.seq (.reg [un (.mov 11 (.t 0)),
 un (.nck 12 (.t 11)),
 un (.fadr 13 2 (.t 12)),
 un (.ld 14 1 false (.t 13)),
 un (.mov 15 (.t 8)),
 un (.mlk 16 (.t 14) (.t 15) (.bool false) false),
 un (.un 17 .not (.t 16))])
 (.drop [11, 12, 13, 14, 15, 16] (.cond (.t 17) (.seq (.reg [un (.mov 18 (.t 0)),
 un (.nck 19 (.t 18)),
 un (.fadr 20 2 (.t 19)),
 un (.ld 21 1 false (.t 20)),
 un (.mov 22 (.t 8)),
 un (.mup (.t 21) (.t 22) (.c (.bool true)))])
 (.drop [18, 19, 20, 21, 22] (.seq (.reg [un (.mov 23 (.t 0)),
 un (.mov 24 (.t 0)),
 un (.nck 25 (.t 24)),
 un (.fadr 26 0 (.t 25)),
 un (.ld 27 1 false (.t 26)),
 un (.mov 28 (.t 1)),
 un (.bsl 29 1 [(.t 28)]),
 un (.app 30 1 (.t 27) (.t 29)),
 un (.nck 31 (.t 23)),
 un (.fadr 32 0 (.t 31)),
 un (.st 1 (.t 32) (.t 30))])
 (.drop [23, 24, 25, 26, 27, 28, 29, 30, 31, 32] (.dregl [(0, .mov 33 (.t 0)),
 (1, .mov 34 (.t 0)),
 (5, .mov 38 (.t 2)),
 (6, .mov 39 (.t 3))]
 (.alt 2 (.nck 35 (.t 34)) [0, 1, 5, 6] [] (.alt 3 (.fadr 36 1 (.t 35)) [0, 5, 6] [] (.alt 4 (.ld 37 1 false (.t 36)) [0, 5, 6] [] (.alt 7 (.call 40 H3 [((.t 39), false)]) [0, 5, 6] [] (.alt 8 (.bld 41 [.int .i64 0, .nilsl 1] [(0, 1, (.t 38)), (1, 1, (.t 40))]) [0, 5] [] (.alt 9 (.bsl 42 2 [(.t 41)]) [0] [] (.alt 10 (.app 43 2 (.t 37) (.t 42)) [0] [] (.alt 11 (.nck 44 (.t 33)) [0] [] (.alt 12 (.fadr 45 1 (.t 44)) [] [] (.alt 13 (.st 1 (.t 45) (.t 43)) [] [] .nil .nil) .nil) .nil) .nil) .nil) .nil) .nil) (.alt 7 (.call 40 H3 [((.t 39), false)]) [0, 5, 6] [] (.alt 4 (.ld 37 1 false (.t 36)) [0, 5] [] (.alt 8 (.bld 41 [.int .i64 0, .nilsl 1] [(0, 1, (.t 38)), (1, 1, (.t 40))]) [0, 5] [] (.alt 9 (.bsl 42 2 [(.t 41)]) [0] [] (.alt 10 (.app 43 2 (.t 37) (.t 42)) [0] [] (.alt 11 (.nck 44 (.t 33)) [0] [] (.alt 12 (.fadr 45 1 (.t 44)) [] [] (.alt 13 (.st 1 (.t 45) (.t 43)) [] [] .nil .nil) .nil) .nil) .nil) .nil) .nil) (.alt 8 (.bld 41 [.int .i64 0, .nilsl 1] [(0, 1, (.t 38)), (1, 1, (.t 40))]) [0, 5] [] (.alt 4 (.ld 37 1 false (.t 36)) [0] [] (.alt 9 (.bsl 42 2 [(.t 41)]) [0] [] (.alt 10 (.app 43 2 (.t 37) (.t 42)) [0] [] (.alt 11 (.nck 44 (.t 33)) [0] [] (.alt 12 (.fadr 45 1 (.t 44)) [] [] (.alt 13 (.st 1 (.t 45) (.t 43)) [] [] .nil .nil) .nil) .nil) .nil) .nil) (.alt 9 (.bsl 42 2 [(.t 41)]) [0] [] (.alt 4 (.ld 37 1 false (.t 36)) [0] [] (.alt 10 (.app 43 2 (.t 37) (.t 42)) [0] [] (.alt 11 (.nck 44 (.t 33)) [0] [] (.alt 12 (.fadr 45 1 (.t 44)) [] [] (.alt 13 (.st 1 (.t 45) (.t 43)) [] [] .nil .nil) .nil) .nil) .nil) .nil) .nil)) .nil)) .nil)) (.alt 7 (.call 40 H3 [((.t 39), false)]) [0, 5, 6] [] (.alt 3 (.fadr 36 1 (.t 35)) [0, 5] [] (.alt 4 (.ld 37 1 false (.t 36)) [0, 5] [] (.alt 8 (.bld 41 [.int .i64 0, .nilsl 1] [(0, 1, (.t 38)), (1, 1, (.t 40))]) [0, 5] [] (.alt 9 (.bsl 42 2 [(.t 41)]) [0] [] (.alt 10 (.app 43 2 (.t 37) (.t 42)) [0] [] (.alt 11 (.nck 44 (.t 33)) [0] [] (.alt 12 (.fadr 45 1 (.t 44)) [] [] (.alt 13 (.st 1 (.t 45) (.t 43)) [] [] .nil .nil) .nil) .nil) .nil) .nil) .nil) (.alt 8 (.bld 41 [.int .i64 0, .nilsl 1] [(0, 1, (.t 38)), (1, 1, (.t 40))]) [0, 5] [] (.alt 4 (.ld 37 1 false (.t 36)) [0] [] (.alt 9 (.bsl 42 2 [(.t 41)]) [0] [] (.alt 10 (.app 43 2 (.t 37) (.t 42)) [0] [] (.alt 11 (.nck 44 (.t 33)) [0] [] (.alt 12 (.fadr 45 1 (.t 44)) [] [] (.alt 13 (.st 1 (.t 45) (.t 43)) [] [] .nil .nil) .nil) .nil) .nil) .nil) (.alt 9 (.bsl 42 2 [(.t 41)]) [0] [] (.alt 4 (.ld 37 1 false (.t 36)) [0] [] (.alt 10 (.app 43 2 (.t 37) (.t 42)) [0] [] (.alt 11 (.nck 44 (.t 33)) [0] [] (.alt 12 (.fadr 45 1 (.t 44)) [] [] (.alt 13 (.st 1 (.t 45) (.t 43)) [] [] .nil .nil) .nil) .nil) .nil) .nil) .nil)) .nil)) (.alt 8 (.bld 41 [.int .i64 0, .nilsl 1] [(0, 1, (.t 38)), (1, 1, (.t 40))]) [0, 5] [] (.alt 3 (.fadr 36 1 (.t 35)) [0] [] (.alt 4 (.ld 37 1 false (.t 36)) [0] [] (.alt 9 (.bsl 42 2 [(.t 41)]) [0] [] (.alt 10 (.app 43 2 (.t 37) (.t 42)) [0] [] (.alt 11 (.nck 44 (.t 33)) [0] [] (.alt 12 (.fadr 45 1 (.t 44)) [] [] (.alt 13 (.st 1 (.t 45) (.t 43)) [] [] .nil .nil) .nil) .nil) .nil) .nil) (.alt 9 (.bsl 42 2 [(.t 41)]) [0] [] (.alt 4 (.ld 37 1 false (.t 36)) [0] [] (.alt 10 (.app 43 2 (.t 37) (.t 42)) [0] [] (.alt 11 (.nck 44 (.t 33)) [0] [] (.alt 12 (.fadr 45 1 (.t 44)) [] [] (.alt 13 (.st 1 (.t 45) (.t 43)) [] [] .nil .nil) .nil) .nil) .nil) .nil) .nil)) (.alt 9 (.bsl 42 2 [(.t 41)]) [0] [] (.alt 3 (.fadr 36 1 (.t 35)) [0] [] (.alt 4 (.ld 37 1 false (.t 36)) [0] [] (.alt 10 (.app 43 2 (.t 37) (.t 42)) [0] [] (.alt 11 (.nck 44 (.t 33)) [0] [] (.alt 12 (.fadr 45 1 (.t 44)) [] [] (.alt 13 (.st 1 (.t 45) (.t 43)) [] [] .nil .nil) .nil) .nil) .nil) .nil) .nil) .nil)) .nil)) .nil)) (.alt 7 (.call 40 H3 [((.t 39), false)]) [0, 1, 5, 6] [] (.alt 2 (.nck 35 (.t 34)) [0, 1, 5] [] (.alt 3 (.fadr 36 1 (.t 35)) [0, 5] [] (.alt 4 (.ld 37 1 false (.t 36)) [0, 5] [] (.alt 8 (.bld 41 [.int .i64 0, .nilsl 1] [(0, 1, (.t 38)), (1, 1, (.t 40))]) [0, 5] [] (.alt 9 (.bsl 42 2 [(.t 41)]) [0] [] (.alt 10 (.app 43 2 (.t 37) (.t 42)) [0] [] (.alt 11 (.nck 44 (.t 33)) [0] [] (.alt 12 (.fadr 45 1 (.t 44)) [] [] (.alt 13 (.st 1 (.t 45) (.t 43)) [] [] .nil .nil) .nil) .nil) .nil) .nil) .nil) (.alt 8 (.bld 41 [.int .i64 0, .nilsl 1] [(0, 1, (.t 38)), (1, 1, (.t 40))]) [0, 5] [] (.alt 4 (.ld 37 1 false (.t 36)) [0] [] (.alt 9 (.bsl 42 2 [(.t 41)]) [0] [] (.alt 10 (.app 43 2 (.t 37) (.t 42)) [0] [] (.alt 11 (.nck 44 (.t 33)) [0] [] (.alt 12 (.fadr 45 1 (.t 44)) [] [] (.alt 13 (.st 1 (.t 45) (.t 43)) [] [] .nil .nil) .nil) .nil) .nil) .nil) (.alt 9 (.bsl 42 2 [(.t 41)]) [0] [] (.alt 4 (.ld 37 1 false (.t 36)) [0] [] (.alt 10 (.app 43 2 (.t 37) (.t 42)) [0] [] (.alt 11 (.nck 44 (.t 33)) [0] [] (.alt 12 (.fadr 45 1 (.t 44)) [] [] (.alt 13 (.st 1 (.t 45) (.t 43)) [] [] .nil .nil) .nil) .nil) .nil) .nil) .nil)) .nil)) (.alt 8 (.bld 41 [.int .i64 0, .nilsl 1] [(0, 1, (.t 38)), (1, 1, (.t 40))]) [0, 5] [] (.alt 3 (.fadr 36 1 (.t 35)) [0] [] (.alt 4 (.ld 37 1 false (.t 36)) [0] [] (.alt 9 (.bsl 42 2 [(.t 41)]) [0] [] (.alt 10 (.app 43 2 (.t 37) (.t 42)) [0] [] (.alt 11 (.nck 44 (.t 33)) [0] [] (.alt 12 (.fadr 45 1 (.t 44)) [] [] (.alt 13 (.st 1 (.t 45) (.t 43)) [] [] .nil .nil) .nil) .nil) .nil) .nil) (.alt 9 (.bsl 42 2 [(.t 41)]) [0] [] (.alt 4 (.ld 37 1 false (.t 36)) [0] [] (.alt 10 (.app 43 2 (.t 37) (.t 42)) [0] [] (.alt 11 (.nck 44 (.t 33)) [0] [] (.alt 12 (.fadr 45 1 (.t 44)) [] [] (.alt 13 (.st 1 (.t 45) (.t 43)) [] [] .nil .nil) .nil) .nil) .nil) .nil) .nil)) (.alt 9 (.bsl 42 2 [(.t 41)]) [0] [] (.alt 3 (.fadr 36 1 (.t 35)) [0] [] (.alt 4 (.ld 37 1 false (.t 36)) [0] [] (.alt 10 (.app 43 2 (.t 37) (.t 42)) [0] [] (.alt 11 (.nck 44 (.t 33)) [0] [] (.alt 12 (.fadr 45 1 (.t 44)) [] [] (.alt 13 (.st 1 (.t 45) (.t 43)) [] [] .nil .nil) .nil) .nil) .nil) .nil) .nil) .nil)) .nil)) (.alt 8 (.bld 41 [.int .i64 0, .nilsl 1] [(0, 1, (.t 38)), (1, 1, (.t 40))]) [0, 1, 5] [] (.alt 2 (.nck 35 (.t 34)) [0, 1] [] (.alt 3 (.fadr 36 1 (.t 35)) [0] [] (.alt 4 (.ld 37 1 false (.t 36)) [0] [] (.alt 9 (.bsl 42 2 [(.t 41)]) [0] [] (.alt 10 (.app 43 2 (.t 37) (.t 42)) [0] [] (.alt 11 (.nck 44 (.t 33)) [0] [] (.alt 12 (.fadr 45 1 (.t 44)) [] [] (.alt 13 (.st 1 (.t 45) (.t 43)) [] [] .nil .nil) .nil) .nil) .nil) .nil) (.alt 9 (.bsl 42 2 [(.t 41)]) [0] [] (.alt 4 (.ld 37 1 false (.t 36)) [0] [] (.alt 10 (.app 43 2 (.t 37) (.t 42)) [0] [] (.alt 11 (.nck 44 (.t 33)) [0] [] (.alt 12 (.fadr 45 1 (.t 44)) [] [] (.alt 13 (.st 1 (.t 45) (.t 43)) [] [] .nil .nil) .nil) .nil) .nil) .nil) .nil)) (.alt 9 (.bsl 42 2 [(.t 41)]) [0] [] (.alt 3 (.fadr 36 1 (.t 35)) [0] [] (.alt 4 (.ld 37 1 false (.t 36)) [0] [] (.alt 10 (.app 43 2 (.t 37) (.t 42)) [0] [] (.alt 11 (.nck 44 (.t 33)) [0] [] (.alt 12 (.fadr 45 1 (.t 44)) [] [] (.alt 13 (.st 1 (.t 45) (.t 43)) [] [] .nil .nil) .nil) .nil) .nil) .nil) .nil) .nil)) (.alt 9 (.bsl 42 2 [(.t 41)]) [0, 1] [] (.alt 2 (.nck 35 (.t 34)) [0, 1] [] (.alt 3 (.fadr 36 1 (.t 35)) [0] [] (.alt 4 (.ld 37 1 false (.t 36)) [0] [] (.alt 10 (.app 43 2 (.t 37) (.t 42)) [0] [] (.alt 11 (.nck 44 (.t 33)) [0] [] (.alt 12 (.fadr 45 1 (.t 44)) [] [] (.alt 13 (.st 1 (.t 45) (.t 43)) [] [] .nil .nil) .nil) .nil) .nil) .nil) .nil) .nil) .nil)) .nil)) .nil)))))))
 .skip)))))
abbrev Ac8 : List RS := []
theorem Acj : Bd Try.prog Jk 46 Acf Ac8 = true := by kernel_rfl
def X2 : ACode :=
 (.seq (.seq (.reg [un (.mov 11 (.t 5)),
 un (.mov 12 (.t 0)),
 un (.len 13 (.t 12)),
 un (.bin 14 .lss (.t 11) (.t 13))])
 (.drop [11, 12, 13] (.cond (.t 14) .skip
 (.exit 0))))
 (.drop [11, 12, 13, 14] (.seq (.block 1 (.seq (.dreg [(un (.mov 17 (.t 0)), []),
 (un (.mov 18 (.t 5)), [17]),
 (un (.iad 19 2 (.t 17) (.t 18)), []),
 (un (.ld 20 2 true (.t 19)), []),
 (un (.mov 21 (.t 1)), [17, 18, 19, 20]),
 (un (.mov 22 (.t 5)), [17, 18, 19, 20, 21]),
 (un (.iad 23 2 (.t 21) (.t 22)), [17, 18, 19, 20]),
 (un (.ld 24 2 true (.t 23)), [17, 18, 19, 20])]
 [un (.call 25 Ps [((.t 20), false), ((.t 24), false)]),
 un (.un 26 .not (.t 25))])
 (.drop [17, 18, 19, 20, 21, 22, 23, 24, 25] (.cond (.t 26) (.seq (.reg [un (.asg 4 (.c (.bool false)))])
 .ret)
 .skip))))
 (.drop [17, 18, 19, 20, 21, 22, 23, 24, 25, 26] (.reg [un (.mov 15 (.t 5)),
 un (.bin 16 .add (.t 15) (.c (.int .i64 1))),
 un (.asg 5 (.t 16))])))))
def An6 : ACode :=
 (.seq (.reg [un (.asg 4 (.c (.bool false)))])
 (.seq (.seq (.reg [un (.mov 6 (.t 0)),
 un (.len 7 (.t 6)),
 un (.mov 8 (.t 1)),
 un (.len 9 (.t 8)),
 un (.bin 10 .neq (.t 7) (.t 9))])
 (.drop [6, 7, 8, 9] (.cond (.t 10) (.seq (.reg [un (.asg 4 (.c (.bool false)))])
 .ret)
 .skip)))
 (.drop [6, 7, 8, 9, 10] (.seq (.seq (.reg [un (.asg 5 (.c (.int .i64 0)))])
 (.block 0 (.loop X2)))
 (.drop [5, 11, 12, 13, 14, 17, 18, 19, 20, 21, 22, 23, 24, 25, 26, 15, 16] (.seq (.reg [un (.asg 4 (.c (.bool true)))])
 .ret))))))
abbrev Am1 : List RS := [.t 4]
theorem Anm : Bd Try.prog Xx 27 An6 Am1 = true := by kernel_rfl
def Qb : ACode :=
 (.seq (.reg [un (.mov 12 (.t 0)),
 un (.call 13 Ih [((.t 12), false)]),
 un (.un 14 .not (.t 13)),
 un (.asg 15 (.t 14)),
 ⟨some (15, false), .ld 16 2 true (.t 4)⟩,
 ⟨some (15, false), .mov 17 (.t 0)⟩,
 ⟨some (15, false), .call 18 Gj [((.t 16), false), ((.t 17), false)]⟩,
 ⟨some (15, false), .un 19 .not (.t 18)⟩,
 un (.pick 20 (.t 15) (.c (.bool true)) (.t 19)),
 un (.asg 21 (.t 20)),
 ⟨some (21, false), .fadr 22 0 (.t 4)⟩,
 ⟨some (21, false), .ld 23 1 false (.t 22)⟩,
 ⟨some (21, false), .bin 24 .lss (.t 23) (.c (.int .i64 1))⟩,
 un (.pick 25 (.t 21) (.c (.bool true)) (.t 24)),
 un (.asg 26 (.t 25)),
 ⟨some (26, false), .mov 27 (.t 2)⟩,
 ⟨some (26, false), .len 28 (.t 27)⟩,
 ⟨some (26, false), .fadr 29 0 (.t 4)⟩,
 ⟨some (26, false), .ld 30 1 false (.t 29)⟩,
 ⟨some (26, false), .bin 31 .neq (.t 28) (.t 30)⟩,
 un (.pick 32 (.t 26) (.c (.bool true)) (.t 31))])
 (.drop [12, 13, 14, 15, 16, 17, 18, 19, 20, 21, 22, 23, 24, 25, 26, 27, 28, 29, 30, 31] (.cond (.t 32) (.seq (.reg [un (.bld 33 [.int .i64 0, .nilsl 1] []),
 un (.st 2 (.t 6) (.t 33)),
 un (.asg 7 (.c (.bool false)))])
 (.drop [33] .ret))
 .skip)))
def Iu : ACode :=
 (.seq (.reg [un (.bin 42 .lss (.t 41) (.t 40))])
 (.seq (.cond (.t 42) .skip
 (.exit 0))
 (.seq (.block 1 (.seq (.reg [un (.iad 43 2 (.t 39) (.t 41)),
 un (.ld 44 2 true (.t 43)),
 un (.alc 11 (.agg [.int .i64 0, .nilsl 1])),
 un (.st 2 (.t 11) (.t 44))])
 (.drop [43, 44] (.seq (.seq (.reg [un (.fadr 45 0 (.t 11)),
 un (.ld 46 1 false (.t 45)),
 un (.mov 47 (.t 8)),
 un (.bin 48 .neq (.t 46) (.t 47)),
 un (.asg 49 (.t 48)),
 ⟨some (49, false), .mov 50 (.t 8)⟩,
 ⟨some (49, false), .bin 51 .lss (.t 50) (.c (.int .i64 1))⟩,
 un (.pick 52 (.t 49) (.c (.bool true)) (.t 51)),
 un (.asg 53 (.t 52)),
 ⟨some (53, false), .ld 54 2 true (.t 11)⟩,
 ⟨some (53, false), .mov 55 (.t 0)⟩,
 ⟨some (53, false), .call 56 Gj [((.t 54), false), ((.t 55), false)]⟩,
 ⟨some (53, false), .un 57 .not (.t 56)⟩,
 un (.pick 58 (.t 53) (.c (.bool true)) (.t 57))])
 (.drop [45, 46, 47, 48, 49, 50, 51, 52, 53, 54, 55, 56, 57] (.cond (.t 58) (.seq (.reg [un (.bld 59 [.int .i64 0, .nilsl 1] []),
 un (.st 2 (.t 6) (.t 59)),
 un (.asg 7 (.c (.bool false)))])
 (.drop [59] .ret))
 .skip)))
 (.drop [45, 46, 47, 48, 49, 50, 51, 52, 53, 54, 55, 56, 57, 58, 59] (.reg [un (.mov 60 (.t 9)),
 un (.fadr 61 1 (.t 11)),
 un (.ld 62 1 false (.t 61)),
 un (.bsl 63 1 [(.t 62)]),
 un (.app 64 1 (.t 60) (.t 63)),
 un (.asg 9 (.t 64))]))))))
 (.drop [43, 44, 11, 45, 46, 47, 48, 49, 50, 51, 52, 53, 54, 55, 56, 57, 58, 59, 60, 61, 62, 63, 64] (.reg [un (.bin 65 .add (.t 41) (.c (.int .i64 1))),
 un (.asg 41 (.t 65))])))))
def Ua : ACode :=
 (.seq (.reg [un (.box 4 (.t 1)),
 un (.alc 6 (.agg [.int .i64 0, .nilsl 1])),
 un (.asg 7 (.c (.bool false)))])
 (.seq (.cut Qb)
 (.drop [12, 13, 14, 15, 16, 17, 18, 19, 20, 21, 22, 23, 24, 25, 26, 27, 28, 29, 30, 31, 32, 33] (.seq (.reg [un (.mov 34 (.t 2)),
 un (.iad 35 2 (.t 34) (.c (.int .i64 0))),
 un (.fadr 36 0 (.t 35)),
 un (.ld 37 1 false (.t 36)),
 un (.asg 8 (.t 37))])
 (.drop [34, 35, 36, 37] (.seq (.reg [un (.bsl 38 1 []),
 un (.asg 9 (.t 38))])
 (.drop [38] (.seq (.seq (.reg [un (.mov 39 (.t 2)),
 un (.len 40 (.t 39)),
 un (.mov 41 (.c (.int .i64 0)))])
 (.block 0 (.loop Iu)))
 (.drop [39, 40, 41, 42, 43, 44, 11, 45, 46, 47, 48, 49, 50, 51, 52, 53, 54, 55, 56, 57, 58, 59, 60, 61, 62, 63, 64, 65] (.seq (.dreg [(un (.mov 66 (.t 8)), []),
 (un (.mov 67 (.t 0)), [66]),
 (un (.ld 68 2 true (.t 4)), [66, 67]),
 (un (.mov 69 (.t 9)), [66, 67, 68]),
 (un (.mov 70 (.t 0)), [66, 67, 68, 69]),
 (un (.mov 71 (.t 8)), [66, 67, 68, 69, 70]),
 (un (.call 72 Eo [((.t 70), false), ((.t 71), false)]), [66, 67, 68, 69]),
 (un (.call 73 Gu [((.t 67), false), ((.t 68), false), ((.t 69), false), ((.t 72), false)]), [66])]
 [un (.bld 74 [.int .i64 0, .nilsl 1] [(0, 1, (.t 66)), (1, 1, (.t 73))]),
 un (.st 2 (.t 6) (.t 74)),
 un (.asg 7 (.c (.bool true)))])
 (.drop [66, 67, 68, 69, 70, 71, 72, 73, 74] .ret)))))))))))
abbrev Tf : List RS := [.c 6 2 true, .t 7]
theorem Td : Bd Try.prog G5 75 Ua Tf = true := by kernel_rfl
def Qq : ACode :=
 (.seq (.reg [un (.mov 10 (.t 0)),
 un (.call 11 Fp [((.t 10), false)]),
 un (.un 12 .not (.t 11)),
 un (.asg 13 (.t 12)),
 ⟨some (13, false), .mov 14 (.t 0)⟩,
 ⟨some (13, false), .ld 15 2 true (.t 4)⟩,
 ⟨some (13, false), .call 16 Fk [((.t 14), false), ((.t 15), false)]⟩,
 ⟨some (13, false), .un 17 .not (.t 16)⟩,
 un (.pick 18 (.t 13) (.c (.bool true)) (.t 17)),
 un (.asg 19 (.t 18)),
 ⟨some (19, false), .fadr 20 0 (.t 4)⟩,
 ⟨some (19, false), .ld 21 1 false (.t 20)⟩,
 ⟨some (19, false), .bin 22 .lss (.t 21) (.c (.int .i64 1))⟩,
 un (.pick 23 (.t 19) (.c (.bool true)) (.t 22)),
 un (.asg 24 (.t 23)),
 ⟨some (24, false), .mov 25 (.t 2)⟩,
 ⟨some (24, false), .len 26 (.t 25)⟩,
 ⟨some (24, false), .fadr 27 0 (.t 4)⟩,
 ⟨some (24, false), .ld 28 1 false (.t 27)⟩,
 ⟨some (24, false), .bin 29 .neq (.t 26) (.t 28)⟩,
 un (.pick 30 (.t 24) (.c (.bool true)) (.t 29))])
 (.drop [10, 11, 12, 13, 14, 15, 16, 17, 18, 19, 20, 21, 22, 23, 24, 25, 26, 27, 28, 29] (.cond (.t 30) (.seq (.reg [un (.bld 31 [.int .i64 0, .nilsl 1] []),
 un (.st 2 (.t 6) (.t 31)),
 un (.asg 7 (.c (.bool false)))])
 (.drop [31] .ret))
 .skip)))
def Pu : ACode :=
 (.seq (.dreg [(un (.mov 39 (.t 0)), []),
 (un (.mov 40 (.t 2)), [39]),
 (un (.mov 41 (.t 9)), [39, 40]),
 (un (.iad 42 2 (.t 40) (.t 41)), [39]),
 (un (.ld 43 2 true (.t 42)), [39]),
 (un (.call 44 Fk [((.t 39), false), ((.t 43), false)]), []),
 (un (.un 45 .not (.t 44)), []),
 (un (.asg 46 (.t 45)), []),
 (⟨some (46, false), .mov 47 (.t 2)⟩, [45]),
 (⟨some (46, false), .mov 48 (.t 9)⟩, [47, 45]),
 (⟨some (46, false), .iad 49 2 (.t 47) (.t 48)⟩, [45]),
 (⟨some (46, false), .fadr 50 0 (.t 49)⟩, [45]),
 (⟨some (46, false), .ld 51 1 false (.t 50)⟩, [45]),
 (⟨some (46, false), .bin 52 .lss (.t 51) (.c (.int .i64 1))⟩, [45]),
 (un (.pick 53 (.t 46) (.c (.bool true)) (.t 52)), [45]),
 (un (.asg 54 (.t 53)), [45]),
 (⟨some (54, false), .mov 55 (.t 2)⟩, [45, 53]),
 (⟨some (54, false), .mov 56 (.t 9)⟩, [55, 45, 53]),
 (⟨some (54, false), .iad 57 2 (.t 55) (.t 56)⟩, [45, 53]),
 (⟨some (54, false), .fadr 58 0 (.t 57)⟩, [45, 53]),
 (⟨some (54, false), .ld 59 1 false (.t 58)⟩, [45, 53]),
 (⟨some (54, false), .mov 60 (.t 2)⟩, [55, 56, 57, 58, 59, 45, 53]),
 (⟨some (54, false), .iad 61 2 (.t 60) (.c (.int .i64 0))⟩, [55, 56, 57, 58, 59, 45, 53]),
 (⟨some (54, false), .fadr 62 0 (.t 61)⟩, [55, 56, 57, 58, 59, 45, 53]),
 (⟨some (54, false), .ld 63 1 false (.t 62)⟩, [55, 56, 57, 58, 59, 45, 53])]
 [⟨some (54, false), .bin 64 .neq (.t 59) (.t 63)⟩,
 un (.pick 65 (.t 54) (.c (.bool true)) (.t 64))])
 (.drop [39, 40, 41, 42, 43, 44, 45, 46, 47, 48, 49, 50, 51, 52, 53, 54, 55, 56, 57, 58, 59, 60, 61, 62, 63, 64] (.cond (.t 65) (.seq (.reg [un (.bld 66 [.int .i64 0, .nilsl 1] []),
 un (.st 2 (.t 6) (.t 66)),
 un (.asg 7 (.c (.bool false)))])
 (.drop [66] .ret))
 .skip)))
def Iz : ACode :=
 (.seq (.seq (.reg [un (.mov 33 (.t 9)),
 un (.mov 34 (.t 2)),
 un (.len 35 (.t 34)),
 un (.bin 36 .lss (.t 33) (.t 35))])
 (.drop [33, 34, 35] (.cond (.t 36) .skip
 (.exit 0))))
 (.drop [33, 34, 35, 36] (.seq (.block 1 (.seq (.cut Pu)
 (.drop [39, 40, 41, 42, 43, 44, 45, 46, 47, 48, 49, 50, 51, 52, 53, 54, 55, 56, 57, 58, 59, 60, 61, 62, 63, 64, 65, 66] (.reg [un (.mov 67 (.t 8)),
 un (.mov 68 (.t 2)),
 un (.mov 69 (.t 9)),
 un (.iad 70 2 (.t 68) (.t 69)),
 un (.fadr 71 1 (.t 70)),
 un (.ld 72 1 false (.t 71)),
 un (.bsl 73 1 [(.t 72)]),
 un (.app 74 1 (.t 67) (.t 73)),
 un (.asg 8 (.t 74))]))))
 (.drop [39, 40, 41, 42, 43, 44, 45, 46, 47, 48, 49, 50, 51, 52, 53, 54, 55, 56, 57, 58, 59, 60, 61, 62, 63, 64, 65, 66, 67, 68, 69, 70, 71, 72, 73, 74] (.reg [un (.mov 37 (.t 9)),
 un (.bin 38 .add (.t 37) (.c (.int .i64 1))),
 un (.asg 9 (.t 38))])))))
def Tj : ACode :=
 (.seq (.reg [un (.box 4 (.t 1)),
 un (.alc 6 (.agg [.int .i64 0, .nilsl 1])),
 un (.asg 7 (.c (.bool false)))])
 (.seq (.cut Qq)
 (.drop [10, 11, 12, 13, 14, 15, 16, 17, 18, 19, 20, 21, 22, 23, 24, 25, 26, 27, 28, 29, 30, 31] (.seq (.reg [un (.bsl 32 1 []),
 un (.asg 8 (.t 32))])
 (.drop [32] (.seq (.seq (.reg [un (.asg 9 (.c (.int .i64 0)))])
 (.block 0 (.loop Iz)))
 (.drop [9, 33, 34, 35, 36, 39, 40, 41, 42, 43, 44, 45, 46, 47, 48, 49, 50, 51, 52, 53, 54, 55, 56, 57, 58, 59, 60, 61, 62, 63, 64, 65, 66, 67, 68, 69, 70, 71, 72, 73, 74, 37, 38] (.seq (.dreg [(un (.mov 75 (.t 2)), []),
 (un (.iad 76 2 (.t 75) (.c (.int .i64 0))), []),
 (un (.fadr 77 0 (.t 76)), []),
 (un (.ld 78 1 false (.t 77)), []),
 (un (.mov 79 (.t 0)), [75, 76, 77, 78]),
 (un (.ld 80 2 true (.t 4)), [75, 76, 77, 78, 79]),
 (un (.mov 81 (.t 8)), [75, 76, 77, 78, 79, 80]),
 (un (.mov 82 (.t 2)), [75, 76, 77, 78, 79, 80, 81]),
 (un (.iad 83 2 (.t 82) (.c (.int .i64 0))), [75, 76, 77, 78, 79, 80, 81]),
 (un (.fadr 84 1 (.t 83)), [75, 76, 77, 78, 79, 80, 81]),
 (un (.ld 85 1 false (.t 84)), [75, 76, 77, 78, 79, 80, 81]),
 (un (.len 86 (.t 85)), [75, 76, 77, 78, 79, 80, 81]),
 (un (.call 87 Gv [((.t 79), false), ((.t 80), false), ((.t 81), false), ((.t 86), false)]), [75, 76, 77, 78])]
 [un (.bld 88 [.int .i64 0, .nilsl 1] [(0, 1, (.t 78)), (1, 1, (.t 87))]),
 un (.st 2 (.t 6) (.t 88)),
 un (.asg 7 (.c (.bool true)))])
 (.drop [75, 76, 77, 78, 79, 80, 81, 82, 83, 84, 85, 86, 87, 88] .ret)))))))))
abbrev Tr : List RS := [.c 6 2 true, .t 7]
theorem Ta : Bd Try.prog Ha 89 Tj Tr = true := by kernel_rfl
def Ahj : ACode :=
 (.seq (.reg [un (.box 5 (.t 1)),
 un (.alc 8 (.agg [.int .i64 0, .nilsl 1])),
 un (.asg 9 (.c (.bool false)))])
 (.seq (.seq (.reg [un (.mov 10 (.t 0)),
 un (.call 11 Ih [((.t 10), false)]),
 un (.un 12 .not (.t 11)),
 un (.asg 13 (.t 12)),
 ⟨some (13, false), .ld 14 2 true (.t 5)⟩,
 ⟨some (13, false), .mov 15 (.t 0)⟩,
 ⟨some (13, false), .call 16 Gj [((.t 14), false), ((.t 15), false)]⟩,
 ⟨some (13, false), .un 17 .not (.t 16)⟩,
 un (.pick 18 (.t 13) (.c (.bool true)) (.t 17)),
 un (.asg 19 (.t 18)),
 ⟨some (19, false), .mov 20 (.t 3)⟩,
 ⟨some (19, false), .bin 21 .lss (.t 20) (.c (.int .i64 1))⟩,
 un (.pick 22 (.t 19) (.c (.bool true)) (.t 21)),
 un (.asg 23 (.t 22)),
 ⟨some (23, false), .mov 24 (.t 3)⟩,
 ⟨some (23, false), .bin 25 .gtr (.t 24) (.c (.int .i64 3))⟩,
 un (.pick 26 (.t 23) (.c (.bool true)) (.t 25)),
 un (.asg 27 (.t 26)),
 ⟨some (27, false), .mov 28 (.t 2)⟩,
 ⟨some (27, false), .len 29 (.t 28)⟩,
 ⟨some (27, false), .fadr 30 0 (.t 5)⟩,
 ⟨some (27, false), .ld 31 1 false (.t 30)⟩,
 ⟨some (27, false), .bin 32 .neq (.t 29) (.t 31)⟩,
 un (.pick 33 (.t 27) (.c (.bool true)) (.t 32)),
 un (.asg 34 (.t 33)),
 ⟨some (34, false), .mov 35 (.t 2)⟩,
 ⟨some (34, false), .mov 36 (.t 3)⟩,
 ⟨some (34, false), .call 37 M7 [((.t 35), false), ((.t 36), false)]⟩,
 ⟨some (34, false), .un 38 .not (.t 37)⟩,
 un (.pick 39 (.t 34) (.c (.bool true)) (.t 38))])
 (.drop [10, 11, 12, 13, 14, 15, 16, 17, 18, 19, 20, 21, 22, 23, 24, 25, 26, 27, 28, 29, 30, 31, 32, 33, 34, 35, 36, 37, 38] (.cond (.t 39) (.seq (.reg [un (.bld 40 [.int .i64 0, .nilsl 1] []),
 un (.st 2 (.t 8) (.t 40)),
 un (.asg 9 (.c (.bool false)))])
 (.drop [40] .ret))
 .skip)))
 (.drop [10, 11, 12, 13, 14, 15, 16, 17, 18, 19, 20, 21, 22, 23, 24, 25, 26, 27, 28, 29, 30, 31, 32, 33, 34, 35, 36, 37, 38, 39, 40] (.seq (.reg [un (.mov 41 (.t 0)),
 un (.ld 42 2 true (.t 5)),
 un (.mov 43 (.t 2)),
 un (.mov 44 (.t 3)),
 un (.call 45 Uc [((.t 41), false), ((.t 42), false), ((.t 43), false), ((.t 44), false)]),
 un (.st 2 (.t 8) (.t 45)),
 un (.asg 9 (.c (.bool true)))])
 (.drop [41, 42, 43, 44, 45] .ret)))))
abbrev Agm : List RS := [.c 8 2 true, .t 9]
theorem Ahe : Bd Try.prog Ql 46 Ahj Agm = true := by kernel_rfl
def Q7 : ACode :=
 (.seq (.reg [un (.mov 11 (.t 0)),
 un (.call 12 Ih [((.t 11), false)]),
 un (.un 13 .not (.t 12)),
 un (.asg 14 (.t 13)),
 ⟨some (14, false), .ld 15 2 true (.t 3)⟩,
 ⟨some (14, false), .mov 16 (.t 0)⟩,
 ⟨some (14, false), .call 17 Gj [((.t 15), false), ((.t 16), false)]⟩,
 ⟨some (14, false), .un 18 .not (.t 17)⟩,
 un (.pick 19 (.t 14) (.c (.bool true)) (.t 18))])
 (.drop [11, 12, 13, 14, 15, 16, 17, 18] (.cond (.t 19) (.seq (.reg [un (.bsl 20 1 []),
 un (.asg 4 (.t 20)),
 un (.asg 5 (.c (.bool false)))])
 (.drop [20] .ret))
 .skip)))
def Jv : ACode :=
 (.seq (.reg [un (.bin 39 .lss (.t 38) (.t 37))])
 (.seq (.cond (.t 39) .skip
 (.exit 2))
 (.seq (.block 3 (.seq (.reg [un (.mov 40 (.t 38)),
 un (.iad 41 1 (.t 36) (.t 38)),
 un (.ld 42 1 false (.t 41)),
 un (.asg 9 (.t 40)),
 un (.asg 10 (.t 42))])
 (.drop [40, 41, 42] (.seq (.dreg [(un (.mov 43 (.t 10)), []),
 (un (.fadr 44 1 (.t 3)), [43]),
 (un (.ld 45 1 false (.t 44)), [43]),
 (un (.mov 46 (.t 9)), [43, 44, 45]),
 (un (.mov 47 (.t 9)), [43, 44, 45, 46]),
 (un (.mov 48 (.t 8)), [43, 44, 45, 46, 47]),
 (un (.bin 49 .quo (.t 47) (.t 48)), [43, 44, 45, 46]),
 (un (.mov 50 (.t 0)), [43, 44, 45, 46, 47, 48, 49]),
 (un (.bin 51 .rem (.t 49) (.t 50)), [43, 44, 45, 46]),
 (un (.mov 52 (.t 8)), [43, 44, 45, 46, 47, 48, 49, 50, 51]),
 (un (.bin 53 .mul (.t 51) (.t 52)), [43, 44, 45, 46]),
 (un (.bin 54 .sub (.t 46) (.t 53)), [43, 44, 45]),
 (un (.iad 55 1 (.t 45) (.t 54)), [43]),
 (un (.ld 56 1 false (.t 55)), [43])]
 [un (.bin 57 .neq (.t 43) (.t 56))])
 (.drop [43, 44, 45, 46, 47, 48, 49, 50, 51, 52, 53, 54, 55, 56] (.cond (.t 57) (.seq (.reg [un (.mov 58 (.t 6)),
 un (.mov 59 (.t 7)),
 un (.bsl 60 1 [(.t 59)]),
 un (.app 61 1 (.t 58) (.t 60)),
 un (.asg 6 (.t 61))])
 (.drop [58, 59, 60, 61] (.exit 2)))
 .skip))))))
 (.drop [40, 41, 42, 9, 10, 43, 44, 45, 46, 47, 48, 49, 50, 51, 52, 53, 54, 55, 56, 57, 58, 59, 60, 61] (.reg [un (.bin 62 .add (.t 38) (.c (.int .i64 1))),
 un (.asg 38 (.t 62))])))))
def Jt : ACode :=
 (.seq (.seq (.reg [un (.mov 22 (.t 7)),
 un (.fadr 23 0 (.t 3)),
 un (.ld 24 1 false (.t 23)),
 un (.bin 25 .lss (.t 22) (.t 24))])
 (.drop [22, 23, 24] (.cond (.t 25) .skip
 (.exit 0))))
 (.drop [22, 23, 24, 25] (.seq (.block 1 (.seq (.reg [un (.mov 28 (.t 0)),
 un (.fadr 29 0 (.t 3)),
 un (.ld 30 1 false (.t 29)),
 un (.bin 31 .sub (.t 30) (.c (.int .i64 1))),
 un (.mov 32 (.t 7)),
 un (.bin 33 .sub (.t 31) (.t 32)),
 un (.call 34 Eo [((.t 28), false), ((.t 33), false)]),
 un (.asg 8 (.t 34))])
 (.drop [28, 29, 30, 31, 32, 33, 34] (.seq (.reg [un (.fadr 35 1 (.t 3)),
 un (.ld 36 1 false (.t 35)),
 un (.len 37 (.t 36)),
 un (.mov 38 (.c (.int .i64 0)))])
 (.drop [35] (.block 2 (.loop Jv)))))))
 (.drop [28, 29, 30, 31, 32, 33, 34, 8, 35, 36, 37, 38, 39, 40, 41, 42, 9, 10, 43, 44, 45, 46, 47, 48, 49, 50, 51, 52, 53, 54, 55, 56, 57, 58, 59, 60, 61, 62] (.reg [un (.mov 26 (.t 7)),
 un (.bin 27 .add (.t 26) (.c (.int .i64 1))),
 un (.asg 7 (.t 27))])))))
def Ur : ACode :=
 (.seq (.reg [un (.box 3 (.t 1)),
 un (.asg 4 (.c (.nilsl 1))),
 un (.asg 5 (.c (.bool false)))])
 (.seq (.cut Q7)
 (.drop [11, 12, 13, 14, 15, 16, 17, 18, 19, 20] (.seq (.reg [un (.bsl 21 1 []),
 un (.asg 6 (.t 21))])
 (.drop [21] (.seq (.seq (.reg [un (.asg 7 (.c (.int .i64 0)))])
 (.block 0 (.loop Jt)))
 (.drop [7, 22, 23, 24, 25, 28, 29, 30, 31, 32, 33, 34, 8, 35, 36, 37, 38, 39, 40, 41, 42, 9, 10, 43, 44, 45, 46, 47, 48, 49, 50, 51, 52, 53, 54, 55, 56, 57, 58, 59, 60, 61, 62, 26, 27] (.seq (.reg [un (.mov 63 (.t 6)),
 un (.asg 4 (.t 63)),
 un (.asg 5 (.c (.bool true)))])
 (.drop [63] .ret)))))))))
abbrev U6 : List RS := [.t 4, .t 5]
theorem U3 : Bd Try.prog Fh 64 Ur U6 = true := by kernel_rfl
def Q0 : ACode :=
 (.seq (.reg [un (.mov 13 (.t 0)),
 un (.call 14 Fp [((.t 13), false)]),
 un (.un 15 .not (.t 14)),
 un (.asg 16 (.t 15)),
 ⟨some (16, false), .mov 17 (.t 0)⟩,
 ⟨some (16, false), .ld 18 2 true (.t 3)⟩,
 ⟨some (16, false), .call 19 Fk [((.t 17), false), ((.t 18), false)]⟩,
 ⟨some (16, false), .un 20 .not (.t 19)⟩,
 un (.pick 21 (.t 16) (.c (.bool true)) (.t 20))])
 (.drop [13, 14, 15, 16, 17, 18, 19, 20] (.cond (.t 21) (.seq (.reg [un (.mov 22 (.t 6)),
 un (.asg 4 (.t 22)),
 un (.asg 5 (.c (.bool false)))])
 (.drop [22] .ret))
 .skip)))
def J1 : ACode :=
 (.seq (.seq (.reg [un (.mov 36 (.t 10)),
 un (.fadr 37 1 (.t 3)),
 un (.ld 38 1 false (.t 37)),
 un (.len 39 (.t 38)),
 un (.bin 40 .lss (.t 36) (.t 39))])
 (.drop [36, 37, 38, 39] (.cond (.t 40) .skip
 (.exit 2))))
 (.drop [36, 37, 38, 39, 40] (.seq (.block 3 (.seq (.reg [un (.mov 43 (.t 10)),
 un (.mov 44 (.t 10)),
 un (.mov 45 (.t 8)),
 un (.bin 46 .quo (.t 44) (.t 45)),
 un (.mov 47 (.t 0)),
 un (.bin 48 .rem (.t 46) (.t 47)),
 un (.mov 49 (.t 8)),
 un (.bin 50 .mul (.t 48) (.t 49)),
 un (.bin 51 .sub (.t 43) (.t 50)),
 un (.asg 11 (.t 51))])
 (.drop [43, 44, 45, 46, 47, 48, 49, 50, 51] (.dreg [(un (.mov 52 (.t 9)), []),
 (un (.asg 53 (.t 52)), []),
 (⟨some (53, false), .fadr 54 1 (.t 3)⟩, [52]),
 (⟨some (53, false), .ld 55 1 false (.t 54)⟩, [52]),
 (⟨some (53, false), .mov 56 (.t 10)⟩, [54, 55, 52]),
 (⟨some (53, false), .iad 57 1 (.t 55) (.t 56)⟩, [52]),
 (⟨some (53, false), .ld 58 1 false (.t 57)⟩, [52]),
 (⟨some (53, false), .fadr 59 1 (.t 3)⟩, [54, 55, 56, 57, 58, 52]),
 (⟨some (53, false), .ld 60 1 false (.t 59)⟩, [54, 55, 56, 57, 58, 52]),
 (⟨some (53, false), .mov 61 (.t 11)⟩, [54, 55, 56, 57, 58, 59, 60, 52]),
 (⟨some (53, false), .iad 62 1 (.t 60) (.t 61)⟩, [54, 55, 56, 57, 58, 52]),
 (⟨some (53, false), .ld 63 1 false (.t 62)⟩, [54, 55, 56, 57, 58, 52])]
 [⟨some (53, false), .bin 64 .neq (.t 58) (.t 63)⟩,
 un (.pick 65 (.t 53) (.c (.bool true)) (.t 64)),
 un (.asg 9 (.t 65))]))))
 (.drop [43, 44, 45, 46, 47, 48, 49, 50, 51, 11, 52, 53, 54, 55, 56, 57, 58, 59, 60, 61, 62, 63, 64, 65] (.reg [un (.mov 41 (.t 10)),
 un (.bin 42 .add (.t 41) (.c (.int .i64 1))),
 un (.asg 10 (.t 42))])))))
def Jw : ACode :=
 (.seq (.seq (.reg [un (.mov 23 (.t 7)),
 un (.fadr 24 0 (.t 3)),
 un (.ld 25 1 false (.t 24)),
 un (.bin 26 .lss (.t 23) (.t 25))])
 (.drop [23, 24, 25] (.cond (.t 26) .skip
 (.exit 0))))
 (.drop [23, 24, 25, 26] (.seq (.block 1 (.seq (.reg [un (.mov 29 (.t 0)),
 un (.fadr 30 0 (.t 3)),
 un (.ld 31 1 false (.t 30)),
 un (.bin 32 .sub (.t 31) (.c (.int .i64 1))),
 un (.mov 33 (.t 7)),
 un (.bin 34 .sub (.t 32) (.t 33)),
 un (.call 35 Ep [((.t 29), false), ((.t 34), false)]),
 un (.asg 8 (.t 35))])
 (.drop [29, 30, 31, 32, 33, 34, 35] (.seq (.reg [un (.asg 9 (.c (.bool false)))])
 (.seq (.seq (.reg [un (.asg 10 (.c (.int .i64 0)))])
 (.block 2 (.loop J1)))
 (.drop [10, 36, 37, 38, 39, 40, 43, 44, 45, 46, 47, 48, 49, 50, 51, 11, 52, 53, 54, 55, 56, 57, 58, 59, 60, 61, 62, 63, 64, 65, 41, 42] (.seq (.reg [un (.mov 66 (.t 9))])
 (.cond (.t 66) (.reg [un (.mov 67 (.t 6)),
 un (.mov 68 (.t 7)),
 un (.bsl 69 1 [(.t 68)]),
 un (.app 70 1 (.t 67) (.t 69)),
 un (.asg 6 (.t 70))])
 .skip))))))))
 (.drop [29, 30, 31, 32, 33, 34, 35, 8, 9, 10, 36, 37, 38, 39, 40, 43, 44, 45, 46, 47, 48, 49, 50, 51, 11, 52, 53, 54, 55, 56, 57, 58, 59, 60, 61, 62, 63, 64, 65, 41, 42, 66, 67, 68, 69, 70] (.reg [un (.mov 27 (.t 7)),
 un (.bin 28 .add (.t 27) (.c (.int .i64 1))),
 un (.asg 7 (.t 28))])))))
def Uq : ACode :=
 (.seq (.reg [un (.box 3 (.t 1)),
 un (.asg 4 (.c (.nilsl 1))),
 un (.asg 5 (.c (.bool false)))])
 (.seq (.reg [un (.bsl 12 1 []),
 un (.asg 6 (.t 12))])
 (.drop [12] (.seq (.cut Q0)
 (.drop [13, 14, 15, 16, 17, 18, 19, 20, 21, 22] (.seq (.seq (.reg [un (.asg 7 (.c (.int .i64 0)))])
 (.block 0 (.loop Jw)))
 (.drop [7, 23, 24, 25, 26, 29, 30, 31, 32, 33, 34, 35, 8, 9, 10, 36, 37, 38, 39, 40, 43, 44, 45, 46, 47, 48, 49, 50, 51, 11, 52, 53, 54, 55, 56, 57, 58, 59, 60, 61, 62, 63, 64, 65, 41, 42, 66, 67, 68, 69, 70, 27, 28] (.seq (.reg [un (.mov 71 (.t 6)),
 un (.asg 4 (.t 71)),
 un (.asg 5 (.c (.bool true)))])
 (.drop [71] .ret)))))))))
abbrev Ud : List RS := [.t 4, .t 5]
theorem U0 : Bd Try.prog Hu 72 Uq Ud = true := by kernel_rfl
def Un : ACode :=
 (.seq (.reg [un (.mov 7 (.t 0)),
 un (.call 8 Ih [((.t 7), false)]),
 un (.un 9 .not (.t 8)),
 un (.asg 10 (.t 9)),
 ⟨some (10, false), .ld 11 2 true (.t 3)⟩,
 ⟨some (10, false), .mov 12 (.t 0)⟩,
 ⟨some (10, false), .call 13 Gj [((.t 11), false), ((.t 12), false)]⟩,
 ⟨some (10, false), .un 14 .not (.t 13)⟩,
 un (.pick 15 (.t 10) (.c (.bool true)) (.t 14))])
 (.drop [7, 8, 9, 10, 11, 12, 13, 14] (.cond (.t 15) (.seq (.reg [un (.asg 4 (.c (.bool false))),
 un (.asg 5 (.c (.bool false)))])
 .ret)
 .skip)))
def Ll : ACode :=
 (.seq (.seq (.reg [un (.mov 16 (.t 6)),
 un (.fadr 17 0 (.t 3)),
 un (.ld 18 1 false (.t 17)),
 un (.bin 19 .lss (.t 16) (.t 18))])
 (.drop [16, 17, 18] (.cond (.t 19) .skip
 (.exit 0))))
 (.drop [16, 17, 18, 19] (.seq (.block 1 (.seq (.dreg [(un (.fadr 22 1 (.t 3)), []),
 (un (.ld 23 1 false (.t 22)), []),
 (un (.mov 24 (.t 0)), [22, 23]),
 (un (.fadr 25 0 (.t 3)), [22, 23, 24]),
 (un (.ld 26 1 false (.t 25)), [22, 23, 24]),
 (un (.mov 27 (.t 6)), [22, 23, 24, 25, 26]),
 (un (.call 28 Io [((.t 24), false), ((.t 26), false), ((.t 27), false)]), [22, 23])]
 [un (.call 29 Oh [((.t 23), false), ((.t 28), false)])])
 (.drop [22, 23, 24, 25, 26, 27, 28] (.cond (.t 29) (.seq (.reg [un (.asg 4 (.c (.bool true))),
 un (.asg 5 (.c (.bool true)))])
 .ret)
 .skip))))
 (.drop [22, 23, 24, 25, 26, 27, 28, 29] (.reg [un (.mov 20 (.t 6)),
 un (.bin 21 .add (.t 20) (.c (.int .i64 1))),
 un (.asg 6 (.t 21))])))))
def Ym : ACode :=
 (.seq (.reg [un (.box 3 (.t 1)),
 un (.asg 4 (.c (.bool false))),
 un (.asg 5 (.c (.bool false)))])
 (.seq (.cut Un)
 (.drop [7, 8, 9, 10, 11, 12, 13, 14, 15] (.seq (.seq (.reg [un (.asg 6 (.c (.int .i64 0)))])
 (.block 0 (.loop Ll)))
 (.drop [6, 16, 17, 18, 19, 22, 23, 24, 25, 26, 27, 28, 29, 20, 21] (.seq (.reg [un (.asg 4 (.c (.bool false))),
 un (.asg 5 (.c (.bool true)))])
 .ret))))))
abbrev Yn : List RS := [.t 4, .t 5]
theorem Yl : Bd Try.prog J5 30 Ym Yn = true := by kernel_rfl
def Ue : ACode :=
 (.seq (.reg [un (.mov 7 (.t 0)),
 un (.call 8 Fp [((.t 7), false)]),
 un (.un 9 .not (.t 8)),
 un (.asg 10 (.t 9)),
 ⟨some (10, false), .mov 11 (.t 0)⟩,
 ⟨some (10, false), .ld 12 2 true (.t 3)⟩,
 ⟨some (10, false), .call 13 Fk [((.t 11), false), ((.t 12), false)]⟩,
 ⟨some (10, false), .un 14 .not (.t 13)⟩,
 un (.pick 15 (.t 10) (.c (.bool true)) (.t 14))])
 (.drop [7, 8, 9, 10, 11, 12, 13, 14] (.cond (.t 15) (.seq (.reg [un (.asg 4 (.c (.bool false))),
 un (.asg 5 (.c (.bool false)))])
 .ret)
 .skip)))
def Lw : ACode :=
 (.seq (.seq (.reg [un (.mov 16 (.t 6)),
 un (.fadr 17 0 (.t 3)),
 un (.ld 18 1 false (.t 17)),
 un (.bin 19 .lss (.t 16) (.t 18))])
 (.drop [16, 17, 18] (.cond (.t 19) .skip
 (.exit 0))))
 (.drop [16, 17, 18, 19] (.seq (.block 1 (.seq (.dreg [(un (.fadr 22 1 (.t 3)), []),
 (un (.ld 23 1 false (.t 22)), []),
 (un (.mov 24 (.t 0)), [22, 23]),
 (un (.fadr 25 0 (.t 3)), [22, 23, 24]),
 (un (.ld 26 1 false (.t 25)), [22, 23, 24]),
 (un (.mov 27 (.t 6)), [22, 23, 24, 25, 26]),
 (un (.call 28 Di [((.t 24), false), ((.t 26), false), ((.t 27), false)]), [22, 23])]
 [un (.call 29 Na [((.t 23), false), ((.t 28), false)])])
 (.drop [22, 23, 24, 25, 26, 27, 28] (.cond (.t 29) (.seq (.reg [un (.asg 4 (.c (.bool true))),
 un (.asg 5 (.c (.bool true)))])
 .ret)
 .skip))))
 (.drop [22, 23, 24, 25, 26, 27, 28, 29] (.reg [un (.mov 20 (.t 6)),
 un (.bin 21 .add (.t 20) (.c (.int .i64 1))),
 un (.asg 6 (.t 21))])))))
def Yi : ACode :=
 (.seq (.reg [un (.box 3 (.t 1)),
 un (.asg 4 (.c (.bool false))),
 un (.asg 5 (.c (.bool false)))])
 (.seq (.cut Ue)
 (.drop [7, 8, 9, 10, 11, 12, 13, 14, 15] (.seq (.seq (.reg [un (.asg 6 (.c (.int .i64 0)))])
 (.block 0 (.loop Lw)))
 (.drop [6, 16, 17, 18, 19, 22, 23, 24, 25, 26, 27, 28, 29, 20, 21] (.seq (.reg [un (.asg 4 (.c (.bool false))),
 un (.asg 5 (.c (.bool true)))])
 .ret))))))
abbrev Yt : List RS := [.t 4, .t 5]
theorem Yp : Bd Try.prog J9 30 Yi Yt = true := by kernel_rfl
def Y2 : ACode :=
 (.seq (.reg [un (.fadr 5 0 (.t 1)),
 un (.ld 6 1 false (.t 5)),
 un (.bin 7 .lss (.t 6) (.c (.int .i64 1))),
 un (.asg 8 (.t 7)),
 ⟨some (8, false), .fadr 9 0 (.t 1)⟩,
 ⟨some (8, false), .ld 10 1 false (.t 9)⟩,
 ⟨some (8, false), .bin 11 .gtr (.t 10) (.c (.int .i64 8))⟩,
 un (.pick 12 (.t 8) (.c (.bool true)) (.t 11)),
 un (.asg 13 (.t 12)),
 ⟨some (13, false), .fadr 14 1 (.t 1)⟩,
 ⟨some (13, false), .ld 15 1 false (.t 14)⟩,
 ⟨some (13, false), .len 16 (.t 15)⟩,
 ⟨some (13, false), .bin 17 .gtr (.t 16) (.c (.int .i64 4))⟩,
 un (.pick 18 (.t 13) (.c (.bool true)) (.t 17))])
 (.drop [5, 6, 7, 8, 9, 10, 11, 12, 13, 14, 15, 16, 17] (.cond (.t 18) (.seq (.reg [un (.asg 2 (.c (.bool false)))])
 .ret)
 .skip)))
def Ot : ACode :=
 (.seq (.reg [un (.bin 23 .lss (.t 22) (.t 21))])
 (.seq (.cond (.t 23) .skip
 (.exit 0))
 (.seq (.block 1 (.seq (.reg [un (.iad 24 2 (.t 20) (.t 22)),
 un (.ld 25 2 true (.t 24)),
 un (.alc 4 (.agg [.int .i64 0, .nilsl 1])),
 un (.st 2 (.t 4) (.t 25))])
 (.drop [24, 25] (.seq (.reg [un (.ld 26 2 true (.t 4)),
 un (.fadr 27 0 (.t 1)),
 un (.ld 28 1 false (.t 27)),
 un (.call 29 Gj [((.t 26), false), ((.t 28), false)]),
 un (.un 30 .not (.t 29))])
 (.drop [26, 27, 28, 29] (.cond (.t 30) (.seq (.reg [un (.asg 2 (.c (.bool false)))])
 .ret)
 .skip))))))
 (.drop [24, 25, 4, 26, 27, 28, 29, 30] (.reg [un (.bin 31 .add (.t 22) (.c (.int .i64 1))),
 un (.asg 22 (.t 31))])))))
def Aci : ACode :=
 (.seq (.reg [un (.box 1 (.t 0)),
 un (.asg 2 (.c (.bool false)))])
 (.seq (.cut Y2)
 (.drop [5, 6, 7, 8, 9, 10, 11, 12, 13, 14, 15, 16, 17, 18] (.seq (.seq (.reg [un (.fadr 19 1 (.t 1)),
 un (.ld 20 1 false (.t 19)),
 un (.len 21 (.t 20)),
 un (.mov 22 (.c (.int .i64 0)))])
 (.drop [19] (.block 0 (.loop Ot))))
 (.drop [19, 20, 21, 22, 23, 24, 25, 4, 26, 27, 28, 29, 30, 31] (.seq (.reg [un (.asg 2 (.c (.bool true)))])
 .ret))))))
abbrev Acx : List RS := [.t 2]
theorem Adk : Bd Try.prog My 32 Aci Acx = true := by kernel_rfl
def Adr : ACode :=
 (.seq (.reg [un (.fadr 4 0 (.t 1)),
 un (.ld 5 1 false (.t 4)),
 un (.call 6 Gh [((.t 5), false), ((.c (.int .i64 1)), false), ((.c (.int .i64 8)), false)]),
 un (.un 7 .not (.t 6)),
 un (.asg 8 (.t 7)),
 ⟨some (8, false), .fadr 9 1 (.t 1)⟩,
 ⟨some (8, false), .ld 10 1 false (.t 9)⟩,
 ⟨some (8, false), .len 11 (.t 10)⟩,
 ⟨some (8, false), .bin 12 .gtr (.t 11) (.c (.int .i64 4))⟩,
 un (.pick 13 (.t 8) (.c (.bool true)) (.t 12))])
 (.drop [4, 5, 6, 7, 8, 9, 10, 11, 12] (.cond (.t 13) (.seq (.reg [un (.asg 2 (.c (.bool false)))])
 .ret)
 .skip)))
def T7 : ACode :=
 (.seq (.seq (.reg [un (.mov 14 (.t 3)),
 un (.fadr 15 1 (.t 1)),
 un (.ld 16 1 false (.t 15)),
 un (.len 17 (.t 16)),
 un (.bin 18 .lss (.t 14) (.t 17))])
 (.drop [14, 15, 16, 17] (.cond (.t 18) .skip
 (.exit 0))))
 (.drop [14, 15, 16, 17, 18] (.seq (.block 1 (.seq (.dreg [(un (.fadr 21 0 (.t 1)), []),
 (un (.ld 22 1 false (.t 21)), []),
 (un (.fadr 23 1 (.t 1)), [21, 22]),
 (un (.ld 24 1 false (.t 23)), [21, 22]),
 (un (.mov 25 (.t 3)), [21, 22, 23, 24]),
 (un (.iad 26 2 (.t 24) (.t 25)), [21, 22]),
 (un (.ld 27 2 true (.t 26)), [21, 22])]
 [un (.call 28 Fk [((.t 22), false), ((.t 27), false)]),
 un (.un 29 .not (.t 28))])
 (.drop [21, 22, 23, 24, 25, 26, 27, 28] (.cond (.t 29) (.seq (.reg [un (.asg 2 (.c (.bool false)))])
 .ret)
 .skip))))
 (.drop [21, 22, 23, 24, 25, 26, 27, 28, 29] (.reg [un (.mov 19 (.t 3)),
 un (.bin 20 .add (.t 19) (.c (.int .i64 1))),
 un (.asg 3 (.t 20))])))))
def Aim : ACode :=
 (.seq (.reg [un (.box 1 (.t 0)),
 un (.asg 2 (.c (.bool false)))])
 (.seq (.cut Adr)
 (.drop [4, 5, 6, 7, 8, 9, 10, 11, 12, 13] (.seq (.seq (.reg [un (.asg 3 (.c (.int .i64 0)))])
 (.block 0 (.loop T7)))
 (.drop [3, 14, 15, 16, 17, 18, 21, 22, 23, 24, 25, 26, 27, 28, 29, 19, 20] (.seq (.reg [un (.asg 2 (.c (.bool true)))])
 .ret))))))
abbrev Aja : List RS := [.t 2]
theorem Ain : Bd Try.prog Kj 30 Aim Aja = true := by kernel_rfl
def Z7 : ACode :=
 (.seq (.reg [un (.asg 4 (.c (.int .i64 0)))])
 (.seq (.reg [un (.mov 5 (.t 1)),
 un (.mov 6 (.t 0)),
 un (.mov 7 (.t 1)),
 un (.len 8 (.t 7)),
 un (.call 9 As [((.t 6), true), ((.t 8), false)]),
 un (.iad 10 1 (.t 5) (.t 9)),
 un (.ld 11 1 false (.t 10)),
 un (.asg 4 (.t 11))])
 (.drop [5, 6, 7, 8, 9, 10, 11] .ret)))
abbrev Aai : List RS := [.t 4]
theorem Aae : Bd Try.prog A5 12 Z7 Aai = true := by kernel_rfl
def Adm : ACode :=
 (.seq (.reg [un (.asg 4 (.c (.bool false)))])
 (.seq (.reg [un (.mov 5 (.t 0)),
 un (.mov 6 (.t 1)),
 un (.call 7 As [((.t 5), true), ((.t 6), false)]),
 un (.bin 8 .eql (.t 7) (.c (.int .i64 0))),
 un (.asg 4 (.t 8))])
 (.drop [5, 6, 7, 8] .ret)))
abbrev Acn : List RS := [.t 4]
theorem Adx : Bd Try.prog Fn 9 Adm Acn = true := by kernel_rfl
def Pp : ACode :=
 (.seq (.seq (.reg [un (.mov 12 (.t 10)),
 un (.mov 13 (.t 2)),
 un (.len 14 (.t 13)),
 un (.bin 15 .lss (.t 12) (.t 14))])
 (.drop [12, 13, 14] (.cond (.t 15) .skip
 (.exit 0))))
 (.drop [12, 13, 14, 15] (.seq (.block 1 (.reg [un (.mov 18 (.t 9)),
 un (.mov 19 (.t 0)),
 un (.mov 20 (.t 3)),
 un (.mov 21 (.t 2)),
 un (.mov 22 (.t 10)),
 un (.iad 23 1 (.t 21) (.t 22)),
 un (.ld 24 1 false (.t 23)),
 un (.call 25 Di [((.t 19), false), ((.t 20), false), ((.t 24), false)]),
 un (.bsl 26 1 [(.t 25)]),
 un (.app 27 1 (.t 18) (.t 26)),
 un (.asg 9 (.t 27))]))
 (.drop [18, 19, 20, 21, 22, 23, 24, 25, 26, 27] (.reg [un (.mov 16 (.t 10)),
 un (.bin 17 .add (.t 16) (.c (.int .i64 1))),
 un (.asg 10 (.t 17))])))))
def Aff : ACode :=
 (.seq (.reg [un (.box 5 (.t 1)),
 un (.alc 8 (.agg [.int .i64 0, .nilsl 1]))])
 (.seq (.reg [un (.bsl 11 1 []),
 un (.asg 9 (.t 11))])
 (.drop [11] (.seq (.seq (.reg [un (.asg 10 (.c (.int .i64 0)))])
 (.block 0 (.loop Pp)))
 (.drop [10, 12, 13, 14, 15, 18, 19, 20, 21, 22, 23, 24, 25, 26, 27, 16, 17] (.seq (.dreg [(un (.mov 28 (.t 3)), []),
 (un (.mov 29 (.t 0)), [28]),
 (un (.ld 30 2 true (.t 5)), [28, 29]),
 (un (.mov 31 (.t 9)), [28, 29, 30]),
 (un (.mov 32 (.t 0)), [28, 29, 30, 31]),
 (un (.mov 33 (.t 3)), [28, 29, 30, 31, 32]),
 (un (.call 34 Ep [((.t 32), false), ((.t 33), false)]), [28, 29, 30, 31]),
 (un (.call 35 Gv [((.t 29), false), ((.t 30), false), ((.t 31), false), ((.t 34), false)]), [28])]
 [un (.bld 36 [.int .i64 0, .nilsl 1] [(0, 1, (.t 28)), (1, 1, (.t 35))]),
 un (.st 2 (.t 8) (.t 36))])
 (.drop [28, 29, 30, 31, 32, 33, 34, 35, 36] .ret)))))))
abbrev Afb : List RS := [.c 8 2 true]
theorem Aez : Bd Try.prog Kp 37 Aff Afb = true := by kernel_rfl
end Go.Proofs.Ytoaojijoefljaaa.Ax
