/-
  The small code of the functions, written by program; that the program's code is this one, the kernel looks at.
-/
import Derived.Test.YtcpgnfohmeineaaAx3
import Derived.Test.YtcpgnfohmeineaaProg
import Derived.KernelRfl
import Derived.Test.YtcpgnfohmeineaaNum
namespace Go.Proofs.Ytcpgnfohmeineaa.Ax
open Go
set_option maxRecDepth 100000
def Ahh : ACode :=
 (.seq (.reg [un (.asg 2 (.c (.bool false)))])
 (.seq (.reg [un (.mov 3 (.t 0)),
 un (.len 4 (.t 3)),
 un (.bin 5 .gtr (.t 4) (.c (.int .i64 65536))),
 un (.asg 2 (.t 5))])
 (.drop [3, 4, 5] .ret)))
abbrev Ahr : List RS := [.t 2]
theorem Aiz : Ba Try.prog Se 6 Ahh Ahr = true := by kernel_rfl
def Ql : ACode :=
 (.seq (.seq (.reg [un (.mov 11 (.t 5)),
 un (.mov 12 (.t 0)),
 un (.len 13 (.t 12)),
 un (.bin 14 .lss (.t 11) (.t 13))])
 (.drop [11, 12, 13] (.cond (.t 14) .skip
 (.exit 0))))
 (.drop [11, 12, 13, 14] (.seq (.block 1 (.seq (.dreg [(un (.mov 17 (.t 0)), []),
 (un (.mov 18 (.t 5)), [17]),
 (un (.iad 19 1 (.t 17) (.t 18)), []),
 (un (.ld 20 1 false (.t 19)), []),
 (un (.mov 21 (.t 1)), [17, 18, 19, 20]),
 (un (.mov 22 (.t 5)), [17, 18, 19, 20, 21]),
 (un (.iad 23 1 (.t 21) (.t 22)), [17, 18, 19, 20]),
 (un (.ld 24 1 false (.t 23)), [17, 18, 19, 20])]
 [un (.bin 25 .neq (.t 20) (.t 24))])
 (.drop [17, 18, 19, 20, 21, 22, 23, 24] (.cond (.t 25) (.seq (.reg [un (.asg 4 (.c (.bool false)))])
 .ret)
 .skip))))
 (.drop [17, 18, 19, 20, 21, 22, 23, 24, 25] (.reg [un (.mov 15 (.t 5)),
 un (.bin 16 .add (.t 15) (.c (.int .i64 1))),
 un (.asg 5 (.t 16))])))))
def Aeo : ACode :=
 (.seq (.reg [un (.asg 4 (.c (.bool false)))])
 (.seq (.seq (.reg [un (.mov 6 (.t 0)),
 un (.len 7 (.t 6)),
 un (.mov 8 (.t 1)),
 un (.len 9 (.t 8)),
 un (.bin 10 .neq (.t 7) (.t 9))])
 (.drop [6, 7, 8, 9] (.cond (.t 10) (.seq (.reg [un (.asg 4 (.c (.bool false)))])
 .ret)
 .skip)))
 (.drop [6, 7, 8, 9, 10] (.seq (.seq (.reg [un (.asg 5 (.c (.int .i64 0)))])
 (.block 0 (.loop Ql)))
 (.drop [5, 11, 12, 13, 14, 17, 18, 19, 20, 21, 22, 23, 24, 25, 15, 16] (.seq (.reg [un (.asg 4 (.c (.bool true)))])
 .ret))))))
abbrev Ael : List RS := [.t 4]
theorem Afc : Ba Try.prog Pz 26 Aeo Ael = true := by kernel_rfl
def Qo : ACode :=
 (.seq (.seq (.reg [un (.mov 6 (.t 1)),
 un (.bin 7 .gtr (.t 6) (.c (.int .i64 0)))])
 (.drop [6] (.cond (.t 7) .skip
 (.exit 0))))
 (.drop [6, 7] (.seq (.block 1 (.reg [un (.mov 10 (.t 5)),
 un (.mov 11 (.t 0)),
 un (.bin 12 .mul (.t 10) (.t 11)),
 un (.asg 5 (.t 12))]))
 (.drop [10, 11, 12] (.reg [un (.mov 8 (.t 1)),
 un (.bin 9 .sub (.t 8) (.c (.int .i64 1))),
 un (.asg 1 (.t 9))])))))
def Ago : ACode :=
 (.seq (.reg [un (.asg 4 (.c (.int .i64 0)))])
 (.seq (.reg [un (.asg 5 (.c (.int .i64 1)))])
 (.seq (.block 0 (.loop Qo))
 (.drop [6, 7, 10, 11, 12, 8, 9] (.seq (.reg [un (.mov 13 (.t 5)),
 un (.asg 4 (.t 13))])
 (.drop [13] .ret))))))
abbrev Afl : List RS := [.t 4]
theorem Af7 : Ba Try.prog Gv 14 Ago Afl = true := by kernel_rfl
def Pn : ACode :=
 (.seq (.seq (.reg [un (.mov 13 (.t 8)),
 un (.bin 14 .geq (.t 13) (.c (.int .i64 0)))])
 (.drop [13] (.cond (.t 14) .skip
 (.exit 0))))
 (.drop [13, 14] (.seq (.block 1 (.seq (.reg [un (.mov 17 (.t 7)),
 un (.mov 18 (.t 8)),
 un (.mov 19 (.t 0)),
 un (.mov 20 (.t 2)),
 un (.bin 21 .rem (.t 19) (.t 20)),
 un (.iad 22 1 (.t 17) (.t 18)),
 un (.st 1 (.t 22) (.t 21))])
 (.drop [17, 18, 19, 20, 21, 22] (.reg [un (.mov 23 (.t 0)),
 un (.mov 24 (.t 2)),
 un (.bin 25 .quo (.t 23) (.t 24)),
 un (.asg 0 (.t 25))]))))
 (.drop [17, 18, 19, 20, 21, 22, 23, 24, 25] (.reg [un (.mov 15 (.t 8)),
 un (.bin 16 .sub (.t 15) (.c (.int .i64 1))),
 un (.asg 8 (.t 16))])))))
def Adg : ACode :=
 (.seq (.reg [un (.asg 6 (.c (.nilsl 1)))])
 (.seq (.reg [un (.mov 9 (.t 1)),
 un (.mk 10 1 (.int .i64 0) (.t 9)),
 un (.asg 7 (.t 10))])
 (.drop [9, 10] (.seq (.seq (.reg [un (.mov 11 (.t 1)),
 un (.bin 12 .sub (.t 11) (.c (.int .i64 1))),
 un (.asg 8 (.t 12))])
 (.drop [11, 12] (.block 0 (.loop Pn))))
 (.drop [11, 12, 8, 13, 14, 17, 18, 19, 20, 21, 22, 23, 24, 25, 15, 16] (.seq (.reg [un (.mov 26 (.t 7)),
 un (.asg 6 (.t 26))])
 (.drop [26] .ret)))))))
abbrev Acx : List RS := [.t 6]
theorem Ab4 : Ba Try.prog Jv 27 Adg Acx = true := by kernel_rfl
def Nd : ACode :=
 (.seq (.reg [un (.bin 11 .lss (.t 10) (.t 9))])
 (.seq (.cond (.t 11) .skip
 (.exit 0))
 (.seq (.block 1 (.seq (.reg [un (.iad 12 1 (.t 8) (.t 10)),
 un (.ld 13 1 false (.t 12)),
 un (.asg 7 (.t 13))])
 (.drop [12, 13] (.reg [un (.mov 14 (.t 5)),
 un (.mov 15 (.t 1)),
 un (.bin 16 .mul (.t 14) (.t 15)),
 un (.mov 17 (.t 7)),
 un (.bin 18 .add (.t 16) (.t 17)),
 un (.asg 5 (.t 18))]))))
 (.drop [12, 13, 7, 14, 15, 16, 17, 18] (.reg [un (.bin 19 .add (.t 10) (.c (.int .i64 1))),
 un (.asg 10 (.t 19))])))))
def Abz : ACode :=
 (.seq (.reg [un (.asg 4 (.c (.int .i64 0)))])
 (.seq (.reg [un (.asg 5 (.c (.int .i64 0)))])
 (.seq (.seq (.reg [un (.mov 8 (.t 0)),
 un (.len 9 (.t 8)),
 un (.mov 10 (.c (.int .i64 0)))])
 (.block 0 (.loop Nd)))
 (.drop [8, 9, 10, 11, 12, 13, 7, 14, 15, 16, 17, 18, 19] (.seq (.reg [un (.mov 20 (.t 5)),
 un (.asg 4 (.t 20))])
 (.drop [20] .ret))))))
abbrev Z0 : List RS := [.t 4]
theorem Aal : Ba Try.prog Ma 21 Abz Z0 = true := by kernel_rfl
def Ahs : ACode :=
 (.seq (.reg [un (.asg 6 (.c (.bool false)))])
 (.seq (.reg [un (.mov 7 (.t 0)),
 un (.mov 8 (.t 1)),
 un (.bin 9 .geq (.t 7) (.t 8)),
 un (.asg 10 (.t 9)),
 ⟨some (10, true), .mov 11 (.t 0)⟩,
 ⟨some (10, true), .mov 12 (.t 2)⟩,
 ⟨some (10, true), .bin 13 .leq (.t 11) (.t 12)⟩,
 un (.pick 14 (.t 10) (.t 13) (.c (.bool false))),
 un (.asg 6 (.t 14))])
 (.drop [7, 8, 9, 10, 11, 12, 13, 14] .ret)))
abbrev Aik : List RS := [.t 6]
theorem Ah0 : Ba Try.prog E6 15 Ahs Aik = true := by kernel_rfl
def Adj : ACode :=
 (.seq (.reg [un (.asg 2 (.c (.bool false)))])
 (.seq (.reg [un (.mov 3 (.t 0)),
 un (.bin 4 .geq (.t 3) (.c (.int .i64 1))),
 un (.asg 5 (.t 4)),
 ⟨some (5, true), .mov 6 (.t 0)⟩,
 ⟨some (5, true), .bin 7 .leq (.t 6) (.c (.int .i64 8))⟩,
 un (.pick 8 (.t 5) (.t 7) (.c (.bool false))),
 un (.asg 2 (.t 8))])
 (.drop [3, 4, 5, 6, 7, 8] .ret)))
abbrev Ac9 : List RS := [.t 2]
theorem Acf : Ba Try.prog Ju 9 Adj Ac9 = true := by kernel_rfl
def Pj : ACode :=
 (.seq (.seq (.reg [un (.mov 13 (.t 8)),
 un (.bin 14 .geq (.t 13) (.c (.int .i64 0)))])
 (.drop [13] (.cond (.t 14) .skip
 (.exit 0))))
 (.drop [13, 14] (.seq (.block 1 (.seq (.reg [un (.mov 17 (.t 7)),
 un (.mov 18 (.t 8)),
 un (.mov 19 (.t 2)),
 un (.mov 20 (.t 0)),
 un (.bin 21 .rem (.t 19) (.t 20)),
 un (.iad 22 1 (.t 17) (.t 18)),
 un (.st 1 (.t 22) (.t 21))])
 (.drop [17, 18, 19, 20, 21, 22] (.reg [un (.mov 23 (.t 2)),
 un (.mov 24 (.t 0)),
 un (.bin 25 .quo (.t 23) (.t 24)),
 un (.asg 2 (.t 25))]))))
 (.drop [17, 18, 19, 20, 21, 22, 23, 24, 25] (.reg [un (.mov 15 (.t 8)),
 un (.bin 16 .sub (.t 15) (.c (.int .i64 1))),
 un (.asg 8 (.t 16))])))))
def Adc : ACode :=
 (.seq (.reg [un (.asg 6 (.c (.nilsl 1)))])
 (.seq (.reg [un (.mov 9 (.t 1)),
 un (.mk 10 1 (.int .i64 0) (.t 9)),
 un (.asg 7 (.t 10))])
 (.drop [9, 10] (.seq (.seq (.reg [un (.mov 11 (.t 1)),
 un (.bin 12 .sub (.t 11) (.c (.int .i64 1))),
 un (.asg 8 (.t 12))])
 (.drop [11, 12] (.block 0 (.loop Pj))))
 (.drop [11, 12, 8, 13, 14, 17, 18, 19, 20, 21, 22, 23, 24, 25, 15, 16] (.seq (.reg [un (.mov 26 (.t 7)),
 un (.asg 6 (.t 26))])
 (.drop [26] .ret)))))))
abbrev Acr : List RS := [.t 6]
theorem Acl : Ba Try.prog Fq 27 Adc Acr = true := by kernel_rfl
def Qs : ACode :=
 (.seq (.reg [un (.bin 13 .lss (.t 12) (.t 11))])
 (.seq (.cond (.t 13) .skip
 (.exit 0))
 (.seq (.block 1 (.seq (.reg [un (.iad 14 1 (.t 10) (.t 12)),
 un (.ld 15 1 false (.t 14)),
 un (.asg 5 (.t 15))])
 (.drop [14, 15] (.reg [un (.mov 16 (.t 3)),
 un (.mov 17 (.t 5)),
 un (.bin 18 .shr (.t 17) (.c (.int .u64 8))),
 un (.cnv 19 .u8 (.t 18)),
 un (.mov 20 (.t 5)),
 un (.cnv 21 .u8 (.t 20)),
 un (.bsl 22 1 [(.t 19), (.t 21)]),
 un (.app 23 1 (.t 16) (.t 22)),
 un (.asg 3 (.t 23))]))))
 (.drop [14, 15, 5, 16, 17, 18, 19, 20, 21, 22, 23] (.reg [un (.bin 24 .add (.t 12) (.c (.int .i64 1))),
 un (.asg 12 (.t 24))])))))
def Afr : ACode :=
 (.seq (.reg [⟨none, .asg 2 (.c (.str ⟨#[]⟩))⟩])
 (.seq (.reg [un (.mov 6 (.t 0)),
 un (.len 7 (.t 6)),
 un (.bin 8 .mul (.c (.int .i64 2)) (.t 7)),
 un (.mkc 9 1 (.int .u8 0) (.t 8)),
 un (.asg 3 (.t 9))])
 (.drop [6, 7, 8, 9] (.seq (.seq (.reg [un (.mov 10 (.t 0)),
 un (.len 11 (.t 10)),
 un (.mov 12 (.c (.int .i64 0)))])
 (.block 0 (.loop Qs)))
 (.drop [10, 11, 12, 13, 14, 15, 5, 16, 17, 18, 19, 20, 21, 22, 23, 24] (.seq (.reg [un (.mov 25 (.t 3)),
 un (.bstr 26 (.t 25)),
 un (.asg 2 (.t 26))])
 (.drop [25, 26] .ret)))))))
abbrev Afw : List RS := [.t 2]
theorem Afe : Ba Try.prog Lz 27 Afr Afw = true := by kernel_rfl
def Me : ACode :=
 (.seq (.reg [un (.bin 15 .lss (.t 14) (.t 13))])
 (.seq (.cond (.t 15) .skip
 (.exit 0))
 (.seq (.block 1 (.seq (.reg [un (.mov 16 (.t 14)),
 un (.iad 17 1 (.t 12) (.t 14)),
 un (.ld 18 1 false (.t 17)),
 un (.asg 5 (.t 16)),
 un (.asg 6 (.t 18))])
 (.drop [16, 17, 18] (.seq (.reg [un (.mov 19 (.t 1)),
 un (.mov 20 (.t 5)),
 un (.iad 21 1 (.t 19) (.t 20)),
 un (.ld 22 1 false (.t 21)),
 un (.mov 23 (.t 6)),
 un (.bin 24 .neq (.t 22) (.t 23))])
 (.drop [19, 20, 21, 22, 23] (.cond (.t 24) (.seq (.reg [un (.asg 4 (.c (.bool false)))])
 .ret)
 .skip))))))
 (.drop [16, 17, 18, 5, 6, 19, 20, 21, 22, 23, 24] (.reg [un (.bin 25 .add (.t 14) (.c (.int .i64 1))),
 un (.asg 14 (.t 25))])))))
def Yc : ACode :=
 (.seq (.reg [un (.asg 4 (.c (.bool false)))])
 (.seq (.seq (.reg [un (.mov 7 (.t 0)),
 un (.len 8 (.t 7)),
 un (.mov 9 (.t 1)),
 un (.len 10 (.t 9)),
 un (.bin 11 .neq (.t 8) (.t 10))])
 (.drop [7, 8, 9, 10] (.cond (.t 11) (.seq (.reg [un (.asg 4 (.c (.bool false)))])
 .ret)
 .skip)))
 (.drop [7, 8, 9, 10, 11] (.seq (.seq (.reg [un (.mov 12 (.t 0)),
 un (.len 13 (.t 12)),
 un (.mov 14 (.c (.int .i64 0)))])
 (.block 0 (.loop Me)))
 (.drop [12, 13, 14, 15, 16, 17, 18, 5, 6, 19, 20, 21, 22, 23, 24, 25] (.seq (.reg [un (.asg 4 (.c (.bool true)))])
 .ret))))))
abbrev Yv : List RS := [.t 4]
theorem Yt : Ba Try.prog K5 26 Yc Yv = true := by kernel_rfl
def Ab8 : ACode :=
 (.seq (.reg [un (.asg 4 (.c (.int .i64 0)))])
 (.seq (.seq (.reg [un (.mov 5 (.t 0)),
 un (.mov 6 (.t 1)),
 un (.bin 7 .gtr (.t 5) (.t 6))])
 (.drop [5, 6] (.cond (.t 7) (.seq (.reg [un (.mov 8 (.t 0)),
 un (.asg 4 (.t 8))])
 (.drop [8] .ret))
 .skip)))
 (.drop [5, 6, 7, 8] (.seq (.reg [un (.mov 9 (.t 1)),
 un (.asg 4 (.t 9))])
 (.drop [9] .ret)))))
abbrev Adl : List RS := [.t 4]
theorem Acq : Ba Try.prog N7 10 Ab8 Adl = true := by kernel_rfl
def Pf : ACode :=
 (.seq (.reg [un (.bin 10 .lss (.t 9) (.t 8))])
 (.seq (.cond (.t 10) .skip
 (.exit 0))
 (.seq (.block 1 (.seq (.reg [un (.iad 11 1 (.t 7) (.t 9)),
 un (.ld 12 1 false (.t 11)),
 un (.asg 6 (.t 12))])
 (.drop [11, 12] (.seq (.reg [un (.mov 13 (.t 6)),
 un (.bin 14 .lss (.t 13) (.c (.int .i64 0))),
 un (.asg 15 (.t 14)),
 ⟨some (15, false), .mov 16 (.t 6)⟩,
 ⟨some (15, false), .mov 17 (.t 1)⟩,
 ⟨some (15, false), .bin 18 .geq (.t 16) (.t 17)⟩,
 un (.pick 19 (.t 15) (.c (.bool true)) (.t 18))])
 (.drop [13, 14, 15, 16, 17, 18] (.cond (.t 19) (.seq (.reg [un (.asg 4 (.c (.bool false)))])
 .ret)
 .skip))))))
 (.drop [11, 12, 6, 13, 14, 15, 16, 17, 18, 19] (.reg [un (.bin 20 .add (.t 9) (.c (.int .i64 1))),
 un (.asg 9 (.t 20))])))))
def Ac3 : ACode :=
 (.seq (.reg [un (.asg 4 (.c (.bool false)))])
 (.seq (.seq (.reg [un (.mov 7 (.t 0)),
 un (.len 8 (.t 7)),
 un (.mov 9 (.c (.int .i64 0)))])
 (.block 0 (.loop Pf)))
 (.drop [7, 8, 9, 10, 11, 12, 6, 13, 14, 15, 16, 17, 18, 19, 20] (.seq (.reg [un (.asg 4 (.c (.bool true)))])
 .ret))))
abbrev Ac5 : List RS := [.t 4]
theorem Acm : Ba Try.prog Hd 21 Ac3 Ac5 = true := by kernel_rfl
def Qq : ACode :=
 (.seq (.seq (.reg [un (.mov 6 (.t 1)),
 un (.bin 7 .gtr (.t 6) (.c (.int .i64 0)))])
 (.drop [6] (.cond (.t 7) .skip
 (.exit 0))))
 (.drop [6, 7] (.seq (.block 1 (.reg [un (.mov 10 (.t 5)),
 un (.mov 11 (.t 0)),
 un (.bin 12 .mul (.t 10) (.t 11)),
 un (.asg 5 (.t 12))]))
 (.drop [10, 11, 12] (.reg [un (.mov 8 (.t 1)),
 un (.bin 9 .sub (.t 8) (.c (.int .i64 1))),
 un (.asg 1 (.t 9))])))))
def Agw : ACode :=
 (.seq (.reg [un (.asg 4 (.c (.int .i64 0)))])
 (.seq (.reg [un (.asg 5 (.c (.int .i64 1)))])
 (.seq (.block 0 (.loop Qq))
 (.drop [6, 7, 10, 11, 12, 8, 9] (.seq (.reg [un (.mov 13 (.t 5)),
 un (.asg 4 (.t 13))])
 (.drop [13] .ret))))))
abbrev Af4 : List RS := [.t 4]
theorem Agk : Ba Try.prog Fc 14 Agw Af4 = true := by kernel_rfl
def Ou : ACode :=
 (.seq (.seq (.reg [un (.mov 11 (.t 5)),
 un (.mov 12 (.t 0)),
 un (.len 13 (.t 12)),
 un (.bin 14 .lss (.t 11) (.t 13))])
 (.drop [11, 12, 13] (.cond (.t 14) .skip
 (.exit 0))))
 (.drop [11, 12, 13, 14] (.seq (.block 1 (.seq (.dreg [(un (.mov 17 (.t 0)), []),
 (un (.mov 18 (.t 5)), [17]),
 (un (.iad 19 1 (.t 17) (.t 18)), []),
 (un (.ld 20 1 false (.t 19)), []),
 (un (.mov 21 (.t 1)), [17, 18, 19, 20]),
 (un (.mov 22 (.t 5)), [17, 18, 19, 20, 21]),
 (un (.iad 23 1 (.t 21) (.t 22)), [17, 18, 19, 20]),
 (un (.ld 24 1 false (.t 23)), [17, 18, 19, 20])]
 [un (.bin 25 .neq (.t 20) (.t 24))])
 (.drop [17, 18, 19, 20, 21, 22, 23, 24] (.cond (.t 25) (.seq (.reg [un (.asg 4 (.c (.bool false)))])
 .ret)
 .skip))))
 (.drop [17, 18, 19, 20, 21, 22, 23, 24, 25] (.reg [un (.mov 15 (.t 5)),
 un (.bin 16 .add (.t 15) (.c (.int .i64 1))),
 un (.asg 5 (.t 16))])))))
def Ace : ACode :=
 (.seq (.reg [un (.asg 4 (.c (.bool false)))])
 (.seq (.seq (.reg [un (.mov 6 (.t 0)),
 un (.len 7 (.t 6)),
 un (.mov 8 (.t 1)),
 un (.len 9 (.t 8)),
 un (.bin 10 .neq (.t 7) (.t 9))])
 (.drop [6, 7, 8, 9] (.cond (.t 10) (.seq (.reg [un (.asg 4 (.c (.bool false)))])
 .ret)
 .skip)))
 (.drop [6, 7, 8, 9, 10] (.seq (.seq (.reg [un (.asg 5 (.c (.int .i64 0)))])
 (.block 0 (.loop Ou)))
 (.drop [5, 11, 12, 13, 14, 17, 18, 19, 20, 21, 22, 23, 24, 25, 15, 16] (.seq (.reg [un (.asg 4 (.c (.bool true)))])
 .ret))))))
abbrev Acy : List RS := [.t 4]
theorem Ach : Ba Try.prog Oi 26 Ace Acy = true := by kernel_rfl
def Abx : ACode :=
 (.seq (.reg [un (.asg 4 (.c (.int .i64 0)))])
 (.seq (.seq (.reg [un (.mov 5 (.t 0)),
 un (.mov 6 (.t 1)),
 un (.bin 7 .lss (.t 5) (.t 6))])
 (.drop [5, 6] (.cond (.t 7) (.seq (.reg [un (.mov 8 (.t 0)),
 un (.asg 4 (.t 8))])
 (.drop [8] .ret))
 .skip)))
 (.drop [5, 6, 7, 8] (.seq (.reg [un (.mov 9 (.t 1)),
 un (.asg 4 (.t 9))])
 (.drop [9] .ret)))))
abbrev Aaq : List RS := [.t 4]
theorem Z2 : Ba Try.prog Ml 10 Abx Aaq = true := by kernel_rfl
def R6 : ACode :=
 (.seq (.dreg [(un (.mov 4 (.t 0)), []),
 (un (.nck 5 (.t 4)), []),
 (un (.fadr 6 1 (.t 5)), []),
 (un (.ld 7 1 false (.t 6)), []),
 (un (.mov 8 (.t 0)), [4, 5, 6, 7]),
 (un (.nck 9 (.t 8)), [4, 5, 6, 7]),
 (un (.fadr 10 0 (.t 9)), [4, 5, 6, 7]),
 (un (.ld 11 1 false (.t 10)), [4, 5, 6, 7]),
 (un (.len 12 (.t 11)), [4, 5, 6, 7])]
 [un (.bin 13 .lss (.t 7) (.t 12))])
 (.drop [4, 5, 6, 7, 8, 9, 10, 11, 12] (.cond (.t 13) (.dreg [(un (.mov 14 (.t 0)), []),
 (un (.nck 15 (.t 14)), []),
 (un (.fadr 16 0 (.t 15)), []),
 (un (.ld 17 1 false (.t 16)), []),
 (un (.mov 18 (.t 0)), [14, 15, 16, 17]),
 (un (.nck 19 (.t 18)), [14, 15, 16, 17]),
 (un (.fadr 20 1 (.t 19)), [14, 15, 16, 17]),
 (un (.ld 21 1 false (.t 20)), [14, 15, 16, 17])]
 [un (.iad 22 1 (.t 17) (.t 21)),
 un (.ld 23 1 false (.t 22)),
 un (.cnv 24 .i64 (.t 23)),
 un (.asg 3 (.t 24))])
 .skip)))
def Vk : ACode :=
 (.seq (.reg [un (.asg 2 (.c (.int .i64 0)))])
 (.seq (.reg [un (.asg 3 (.c (.int .i64 0)))])
 (.seq (.cut R6)
 (.drop [4, 5, 6, 7, 8, 9, 10, 11, 12, 13, 14, 15, 16, 17, 18, 19, 20, 21, 22, 23, 24] (.seq (.reg [un (.mov 25 (.t 0)),
 un (.nck 26 (.t 25)),
 un (.fadr 27 1 (.t 26)),
 un (.ld 28 1 false (.t 27)),
 un (.bin 29 .add (.t 28) (.c (.int .i64 1))),
 un (.nck 30 (.t 25)),
 un (.fadr 31 1 (.t 30)),
 un (.st 1 (.t 31) (.t 29))])
 (.drop [25, 26, 27, 28, 29, 30, 31] (.seq (.reg [un (.mov 32 (.t 0)),
 un (.mov 33 (.t 0)),
 un (.nck 34 (.t 33)),
 un (.fadr 35 2 (.t 34)),
 un (.ld 36 1 false (.t 35)),
 un (.bin 37 .mul (.t 36) (.c (.int .u64 6364136223846793005))),
 un (.mov 38 (.t 3)),
 un (.cnv 39 .u64 (.t 38)),
 un (.bin 40 .add (.t 37) (.t 39)),
 un (.bin 41 .add (.t 40) (.c (.int .u64 550289))),
 un (.nck 42 (.t 32)),
 un (.fadr 43 2 (.t 42)),
 un (.st 1 (.t 43) (.t 41))])
 (.drop [32, 33, 34, 35, 36, 37, 38, 39, 40, 41, 42, 43] (.seq (.seq (.dreg [(un (.mov 44 (.t 0)), []),
 (un (.nck 45 (.t 44)), []),
 (un (.fadr 46 1 (.t 45)), []),
 (un (.ld 47 1 false (.t 46)), []),
 (un (.mov 48 (.t 0)), [44, 45, 46, 47]),
 (un (.nck 49 (.t 48)), [44, 45, 46, 47]),
 (un (.fadr 50 0 (.t 49)), [44, 45, 46, 47]),
 (un (.ld 51 1 false (.t 50)), [44, 45, 46, 47]),
 (un (.len 52 (.t 51)), [44, 45, 46, 47])]
 [un (.bin 53 .leq (.t 47) (.t 52))])
 (.drop [44, 45, 46, 47, 48, 49, 50, 51, 52] (.cond (.t 53) (.seq (.reg [un (.mov 54 (.t 3)),
 un (.asg 2 (.t 54))])
 (.drop [54] .ret))
 .skip)))
 (.drop [44, 45, 46, 47, 48, 49, 50, 51, 52, 53, 54] (.seq (.reg [un (.mov 55 (.t 0)),
 un (.nck 56 (.t 55)),
 un (.fadr 57 2 (.t 56)),
 un (.ld 58 1 false (.t 57)),
 un (.bin 59 .shr (.t 58) (.c (.int .u64 40))),
 un (.bin 60 .and (.t 59) (.c (.int .u64 255))),
 un (.cnv 61 .i64 (.t 60)),
 un (.asg 2 (.t 61))])
 (.drop [55, 56, 57, 58, 59, 60, 61] .ret))))))))))))
abbrev Vi : List RS := [.t 2]
theorem Vj : Ba Try.prog Ft 62 Vk Vi = true := by kernel_rfl
def Aek : ACode :=
 (.seq (.reg [un (.asg 2 (.c (.nilsl 1)))])
 (.seq (.reg [un (.bsl 3 1 []),
 un (.mov 4 (.t 0)),
 un (.app 5 1 (.t 3) (.t 4)),
 un (.asg 2 (.t 5))])
 (.drop [3, 4, 5] .ret)))
abbrev Af3 : List RS := [.t 2]
theorem Agl : Ba Try.prog P2 6 Aek Af3 = true := by kernel_rfl
def P7 : ACode :=
 (.seq (.reg [un (.mov 6 (.t 5)),
 un (.mov 7 (.t 0)),
 un (.len 8 (.t 7)),
 un (.bin 9 .lss (.t 6) (.t 8)),
 un (.asg 10 (.t 9)),
 ⟨some (10, true), .mov 11 (.t 5)⟩,
 ⟨some (10, true), .mov 12 (.t 1)⟩,
 ⟨some (10, true), .len 13 (.t 12)⟩,
 ⟨some (10, true), .bin 14 .lss (.t 11) (.t 13)⟩,
 un (.pick 15 (.t 10) (.t 14) (.c (.bool false)))])
 (.drop [6, 7, 8, 9, 10, 11, 12, 13, 14] (.cond (.t 15) .skip
 (.exit 0))))
def H7 : ACode :=
 (.seq (.cut P7)
 (.drop [6, 7, 8, 9, 10, 11, 12, 13, 14, 15] (.seq (.block 1 (.seq (.dreg [(un (.mov 18 (.t 0)), []),
 (un (.mov 19 (.t 5)), [18]),
 (un (.iad 20 1 (.t 18) (.t 19)), []),
 (un (.ld 21 1 false (.t 20)), []),
 (un (.mov 22 (.t 1)), [18, 19, 20, 21]),
 (un (.mov 23 (.t 5)), [18, 19, 20, 21, 22]),
 (un (.iad 24 1 (.t 22) (.t 23)), [18, 19, 20, 21]),
 (un (.ld 25 1 false (.t 24)), [18, 19, 20, 21])]
 [un (.bin 26 .neq (.t 21) (.t 25))])
 (.drop [18, 19, 20, 21, 22, 23, 24, 25] (.cond (.t 26) (.seq (.seq (.dreg [(un (.mov 27 (.t 0)), []),
 (un (.mov 28 (.t 5)), [27]),
 (un (.iad 29 1 (.t 27) (.t 28)), []),
 (un (.ld 30 1 false (.t 29)), []),
 (un (.mov 31 (.t 1)), [27, 28, 29, 30]),
 (un (.mov 32 (.t 5)), [27, 28, 29, 30, 31]),
 (un (.iad 33 1 (.t 31) (.t 32)), [27, 28, 29, 30]),
 (un (.ld 34 1 false (.t 33)), [27, 28, 29, 30])]
 [un (.bin 35 .lss (.t 30) (.t 34))])
 (.drop [27, 28, 29, 30, 31, 32, 33, 34] (.cond (.t 35) (.seq (.reg [un (.asg 4 (.c (.int .i64 (-1))))])
 .ret)
 .skip)))
 (.drop [27, 28, 29, 30, 31, 32, 33, 34, 35] (.seq (.reg [un (.asg 4 (.c (.int .i64 1)))])
 .ret)))
 .skip))))
 (.drop [18, 19, 20, 21, 22, 23, 24, 25, 26, 27, 28, 29, 30, 31, 32, 33, 34, 35] (.reg [un (.mov 16 (.t 5)),
 un (.bin 17 .add (.t 16) (.c (.int .i64 1))),
 un (.asg 5 (.t 17))])))))
def S4 : ACode :=
 (.seq (.reg [un (.asg 4 (.c (.int .i64 0)))])
 (.seq (.seq (.reg [un (.asg 5 (.c (.int .i64 0)))])
 (.block 0 (.loop H7)))
 (.drop [5, 6, 7, 8, 9, 10, 11, 12, 13, 14, 15, 18, 19, 20, 21, 22, 23, 24, 25, 26, 27, 28, 29, 30, 31, 32, 33, 34, 35, 16, 17] (.seq (.block 2 (.seq (.reg [un (.mov 37 (.t 0)),
 un (.len 38 (.t 37)),
 un (.mov 39 (.t 1)),
 un (.len 40 (.t 39)),
 un (.bin 41 .lss (.t 38) (.t 40)),
 un (.asg 36 (.t 41))])
 (.drop [37, 38, 39, 40, 41] (.cond (.t 36) (.seq (.reg [un (.asg 4 (.c (.int .i64 (-1))))])
 .ret)
 (.seq (.reg [un (.mov 43 (.t 0)),
 un (.len 44 (.t 43)),
 un (.mov 45 (.t 1)),
 un (.len 46 (.t 45)),
 un (.bin 47 .gtr (.t 44) (.t 46)),
 un (.asg 42 (.t 47))])
 (.drop [43, 44, 45, 46, 47] (.cond (.t 42) (.seq (.reg [un (.asg 4 (.c (.int .i64 1)))])
 .ret)
 .skip)))))))
 (.drop [37, 38, 39, 40, 41, 36, 43, 44, 45, 46, 47, 42] (.seq (.reg [un (.asg 4 (.c (.int .i64 0)))])
 .ret))))))
abbrev Sv : List RS := [.t 4]
theorem Sr : Ba Try.prog G5 48 S4 Sv = true := by kernel_rfl
def Mp : ACode :=
 (.seq (.seq (.reg [un (.mov 6 (.t 4)),
 un (.mov 7 (.t 0)),
 un (.slen 8 (.t 7)),
 un (.bin 9 .lss (.t 6) (.t 8))])
 (.drop [6, 7, 8] (.cond (.t 9) .skip
 (.exit 0))))
 (.drop [6, 7, 8, 9] (.seq (.block 1 (.dreg [(un (.fadr 12 1 (.t 3)), [18]),
 (un (.ld 13 1 false (.t 12)), [18]),
 (un (.mov 14 (.t 0)), [12, 13]),
 (un (.mov 15 (.t 4)), [12, 13, 14]),
 (un (.sidx 16 (.t 14) (.t 15)), [12, 13]),
 (un (.bin 17 .sub (.t 16) (.c (.int .u8 48))), [12, 13]),
 (un (.cnv 18 .i64 (.t 17)), [12, 13]),
 (un (.bsl 19 1 [(.t 18)]), [12, 13])]
 [un (.app 20 1 (.t 13) (.t 19)),
 un (.fadr 21 1 (.t 3)),
 un (.st 1 (.t 21) (.t 20))]))
 (.drop [12, 13, 14, 15, 16, 17, 18, 19, 20, 21] (.reg [un (.mov 10 (.t 4)),
 un (.bin 11 .add (.t 10) (.c (.int .i64 1))),
 un (.asg 4 (.t 11))])))))
def Ys : ACode :=
 (.seq (.reg [un (.alc 2 (.agg [.int .i64 0, .nilsl 1]))])
 (.seq (.reg [un (.bld 5 [.int .i64 0, .nilsl 1] [(0, 1, (.c (.int .i64 2)))]),
 un (.alc 3 (.agg [.int .i64 0, .nilsl 1])),
 un (.st 2 (.t 3) (.t 5))])
 (.drop [5] (.seq (.seq (.reg [un (.asg 4 (.c (.int .i64 0)))])
 (.block 0 (.loop Mp)))
 (.drop [4, 6, 7, 8, 9, 12, 13, 14, 15, 16, 17, 18, 19, 20, 21, 10, 11] (.seq (.reg [un (.ld 22 2 true (.t 3)),
 un (.st 2 (.t 2) (.t 22))])
 (.drop [22] .ret)))))))
abbrev Yy : List RS := [.c 2 2 true]
theorem Yl : Ba Try.prog A8 23 Ys Yy = true := by kernel_rfl
def Mz : ACode :=
 (.seq (.seq (.reg [un (.mov 6 (.t 4)),
 un (.mov 7 (.t 0)),
 un (.mov 8 (.t 0)),
 un (.bin 9 .mul (.t 7) (.t 8)),
 un (.mov 10 (.t 0)),
 un (.bin 11 .mul (.t 9) (.t 10)),
 un (.bin 12 .lss (.t 6) (.t 11))])
 (.drop [6, 7, 8, 9, 10, 11] (.cond (.t 12) .skip
 (.exit 0))))
 (.drop [6, 7, 8, 9, 10, 11, 12] (.seq (.block 1 (.dreg [(un (.fadr 15 1 (.t 3)), [35]),
 (un (.ld 16 1 false (.t 15)), [35]),
 (un (.mov 17 (.t 4)), [15, 16]),
 (un (.mov 18 (.t 0)), [15, 16, 17]),
 (un (.mov 19 (.t 0)), [15, 16, 17, 18]),
 (un (.bin 20 .mul (.t 18) (.t 19)), [15, 16, 17]),
 (un (.bin 21 .quo (.t 17) (.t 20)), [15, 16]),
 (un (.mov 22 (.t 0)), [15, 16, 17, 18, 19, 20, 21]),
 (un (.bin 23 .add (.t 21) (.t 22)), [15, 16]),
 (un (.mov 24 (.t 4)), [15, 16, 17, 18, 19, 20, 21, 22, 23]),
 (un (.mov 25 (.t 0)), [15, 16, 17, 18, 19, 20, 21, 22, 23, 24]),
 (un (.bin 26 .quo (.t 24) (.t 25)), [15, 16, 17, 18, 19, 20, 21, 22, 23]),
 (un (.mov 27 (.t 0)), [15, 16, 17, 18, 19, 20, 21, 22, 23, 24, 25, 26]),
 (un (.bin 28 .rem (.t 26) (.t 27)), [15, 16, 17, 18, 19, 20, 21, 22, 23]),
 (un (.bin 29 .sub (.t 23) (.t 28)), [15, 16]),
 (un (.mov 30 (.t 4)), [15, 16, 17, 18, 19, 20, 21, 22, 23, 24, 25, 26, 27, 28, 29]),
 (un (.mov 31 (.t 0)), [15, 16, 17, 18, 19, 20, 21, 22, 23, 24, 25, 26, 27, 28, 29, 30]),
 (un (.bin 32 .rem (.t 30) (.t 31)), [15, 16, 17, 18, 19, 20, 21, 22, 23, 24, 25, 26, 27, 28, 29]),
 (un (.bin 33 .add (.t 29) (.t 32)), [15, 16]),
 (un (.mov 34 (.t 0)), [15, 16, 17, 18, 19, 20, 21, 22, 23, 24, 25, 26, 27, 28, 29, 30, 31, 32, 33]),
 (un (.bin 35 .rem (.t 33) (.t 34)), [15, 16]),
 (un (.bsl 36 1 [(.t 35)]), [15, 16])]
 [un (.app 37 1 (.t 16) (.t 36)),
 un (.fadr 38 1 (.t 3)),
 un (.st 1 (.t 38) (.t 37))]))
 (.drop [15, 16, 17, 18, 19, 20, 21, 22, 23, 24, 25, 26, 27, 28, 29, 30, 31, 32, 33, 34, 35, 36, 37, 38] (.reg [un (.mov 13 (.t 4)),
 un (.bin 14 .add (.t 13) (.c (.int .i64 1))),
 un (.asg 4 (.t 14))])))))
def X5 : ACode :=
 (.seq (.reg [un (.alc 2 (.agg [.int .i64 0, .nilsl 1]))])
 (.seq (.reg [un (.bld 5 [.int .i64 0, .nilsl 1] [(0, 1, (.c (.int .i64 3)))]),
 un (.alc 3 (.agg [.int .i64 0, .nilsl 1])),
 un (.st 2 (.t 3) (.t 5))])
 (.drop [5] (.seq (.seq (.reg [un (.asg 4 (.c (.int .i64 0)))])
 (.block 0 (.loop Mz)))
 (.drop [4, 6, 7, 8, 9, 10, 11, 12, 15, 16, 17, 18, 19, 20, 21, 22, 23, 24, 25, 26, 27, 28, 29, 30, 31, 32, 33, 34, 35, 36, 37, 38, 13, 14] (.seq (.reg [un (.ld 39 2 true (.t 3)),
 un (.st 2 (.t 2) (.t 39))])
 (.drop [39] .ret)))))))
abbrev Y0 : List RS := [.c 2 2 true]
theorem Yn : Ba Try.prog Hk 40 X5 Y0 = true := by kernel_rfl
def Km : ACode :=
 (.seq (.seq (.reg [un (.mov 14 (.t 13)),
 un (.mov 15 (.t 1)),
 un (.bin 16 .lss (.t 14) (.t 15))])
 (.drop [14, 15] (.cond (.t 16) .skip
 (.exit 0))))
 (.drop [14, 15, 16] (.seq (.block 1 (.seq (.reg [un (.mov 19 (.t 11)),
 un (.mov 20 (.t 4)),
 un (.mov 21 (.t 0)),
 un (.fadr 22 0 (.t 7)),
 un (.ld 23 1 false (.t 22)),
 un (.bin 24 .rem (.t 21) (.t 23)),
 un (.iad 25 1 (.t 20) (.t 24)),
 un (.ld 26 1 false (.t 25)),
 un (.mov 27 (.t 12)),
 un (.bin 28 .mul (.t 26) (.t 27)),
 un (.bin 29 .add (.t 19) (.t 28)),
 un (.asg 11 (.t 29))])
 (.drop [19, 20, 21, 22, 23, 24, 25, 26, 27, 28, 29] (.seq (.reg [un (.mov 30 (.t 0)),
 un (.fadr 31 0 (.t 7)),
 un (.ld 32 1 false (.t 31)),
 un (.bin 33 .quo (.t 30) (.t 32)),
 un (.asg 0 (.t 33))])
 (.drop [30, 31, 32, 33] (.reg [un (.mov 34 (.t 12)),
 un (.fadr 35 0 (.t 8)),
 un (.ld 36 1 false (.t 35)),
 un (.bin 37 .mul (.t 34) (.t 36)),
 un (.asg 12 (.t 37))]))))))
 (.drop [19, 20, 21, 22, 23, 24, 25, 26, 27, 28, 29, 30, 31, 32, 33, 34, 35, 36, 37] (.reg [un (.mov 17 (.t 13)),
 un (.bin 18 .add (.t 17) (.c (.int .i64 1))),
 un (.asg 13 (.t 18))])))))
def U6 : ACode :=
 (.seq (.reg [un (.box 7 (.t 2)),
 un (.box 8 (.t 3)),
 un (.asg 10 (.c (.int .i64 0)))])
 (.seq (.reg [un (.asg 11 (.c (.int .i64 0))),
 un (.asg 12 (.c (.int .i64 1)))])
 (.seq (.seq (.reg [un (.asg 13 (.c (.int .i64 0)))])
 (.block 0 (.loop Km)))
 (.drop [13, 14, 15, 16, 19, 20, 21, 22, 23, 24, 25, 26, 27, 28, 29, 30, 31, 32, 33, 34, 35, 36, 37, 17, 18] (.seq (.reg [un (.mov 38 (.t 11)),
 un (.asg 10 (.t 38))])
 (.drop [38] .ret))))))
abbrev Wb : List RS := [.t 10]
theorem Vt : Ba Try.prog I0 39 U6 Wb = true := by kernel_rfl
def Pk : ACode :=
 (.seq (.seq (.reg [un (.mov 6 (.t 4)),
 un (.fadr 7 1 (.t 1)),
 un (.ld 8 1 false (.t 7)),
 un (.len 9 (.t 8)),
 un (.bin 10 .lss (.t 6) (.t 9))])
 (.drop [6, 7, 8, 9] (.cond (.t 10) .skip
 (.exit 0))))
 (.drop [6, 7, 8, 9, 10] (.seq (.block 1 (.reg [un (.mov 13 (.t 3)),
 un (.fadr 14 1 (.t 1)),
 un (.ld 15 1 false (.t 14)),
 un (.mov 16 (.t 4)),
 un (.iad 17 2 (.t 15) (.t 16)),
 un (.fadr 18 0 (.t 17)),
 un (.ld 19 1 false (.t 18)),
 un (.bsl 20 1 [(.t 19)]),
 un (.app 21 1 (.t 13) (.t 20)),
 un (.asg 3 (.t 21))]))
 (.drop [13, 14, 15, 16, 17, 18, 19, 20, 21] (.reg [un (.mov 11 (.t 4)),
 un (.bin 12 .add (.t 11) (.c (.int .i64 1))),
 un (.asg 4 (.t 12))])))))
def Ac6 : ACode :=
 (.seq (.reg [un (.box 1 (.t 0)),
 un (.asg 2 (.c (.nilsl 1)))])
 (.seq (.reg [un (.bsl 5 1 []),
 un (.asg 3 (.t 5))])
 (.drop [5] (.seq (.seq (.reg [un (.asg 4 (.c (.int .i64 0)))])
 (.block 0 (.loop Pk)))
 (.drop [4, 6, 7, 8, 9, 10, 13, 14, 15, 16, 17, 18, 19, 20, 21, 11, 12] (.seq (.reg [un (.mov 22 (.t 3)),
 un (.asg 2 (.t 22))])
 (.drop [22] .ret)))))))
abbrev Acp : List RS := [.t 2]
theorem Adb : Ba Try.prog Jx 23 Ac6 Acp = true := by kernel_rfl
def Np : ACode :=
 (.seq (.seq (.reg [un (.mov 9 (.t 8)),
 un (.mov 10 (.t 2)),
 un (.len 11 (.t 10)),
 un (.bin 12 .lss (.t 9) (.t 11))])
 (.drop [9, 10, 11] (.cond (.t 12) .skip
 (.exit 0))))
 (.drop [9, 10, 11, 12] (.seq (.block 1 (.dreg [(un (.mov 15 (.t 7)), []),
 (un (.fadr 16 0 (.t 3)), [15]),
 (un (.ld 17 1 false (.t 16)), [15]),
 (un (.bin 18 .mul (.t 15) (.t 17)), []),
 (un (.mov 19 (.t 2)), [15, 16, 17, 18]),
 (un (.mov 20 (.t 8)), [15, 16, 17, 18, 19]),
 (un (.iad 21 1 (.t 19) (.t 20)), [15, 16, 17, 18]),
 (un (.ld 22 1 false (.t 21)), [15, 16, 17, 18])]
 [un (.bin 23 .add (.t 18) (.t 22)),
 un (.asg 7 (.t 23))]))
 (.drop [15, 16, 17, 18, 19, 20, 21, 22, 23] (.reg [un (.mov 13 (.t 8)),
 un (.bin 14 .add (.t 13) (.c (.int .i64 1))),
 un (.asg 8 (.t 14))])))))
def Aae : ACode :=
 (.seq (.reg [un (.box 3 (.t 0)),
 un (.asg 6 (.c (.int .i64 0)))])
 (.seq (.reg [un (.asg 7 (.c (.int .i64 0)))])
 (.seq (.seq (.reg [un (.asg 8 (.c (.int .i64 0)))])
 (.block 0 (.loop Np)))
 (.drop [8, 9, 10, 11, 12, 15, 16, 17, 18, 19, 20, 21, 22, 23, 13, 14] (.seq (.reg [un (.fadr 24 1 (.t 3)),
 un (.ld 25 1 false (.t 24)),
 un (.mov 26 (.t 1)),
 un (.iad 27 2 (.t 25) (.t 26)),
 un (.fadr 28 1 (.t 27)),
 un (.ld 29 1 false (.t 28)),
 un (.mov 30 (.t 7)),
 un (.iad 31 1 (.t 29) (.t 30)),
 un (.ld 32 1 false (.t 31)),
 un (.asg 6 (.t 32))])
 (.drop [24, 25, 26, 27, 28, 29, 30, 31, 32] .ret))))))
abbrev Abc : List RS := [.t 6]
theorem Aa1 : Ba Try.prog Mg 33 Aae Abc = true := by kernel_rfl
def Mc : ACode :=
 (.seq (.seq (.reg [un (.mov 8 (.t 6)),
 un (.mov 9 (.t 1)),
 un (.len 10 (.t 9)),
 un (.bin 11 .lss (.t 8) (.t 10))])
 (.drop [8, 9, 10] (.cond (.t 11) .skip
 (.exit 0))))
 (.drop [8, 9, 10, 11] (.seq (.block 1 (.reg [un (.mov 14 (.t 5)),
 un (.mov 15 (.t 0)),
 un (.mov 16 (.t 1)),
 un (.mov 17 (.t 6)),
 un (.iad 18 1 (.t 16) (.t 17)),
 un (.ld 19 1 false (.t 18)),
 un (.iad 20 1 (.t 15) (.t 19)),
 un (.ld 21 1 false (.t 20)),
 un (.bsl 22 1 [(.t 21)]),
 un (.app 23 1 (.t 14) (.t 22)),
 un (.asg 5 (.t 23))]))
 (.drop [14, 15, 16, 17, 18, 19, 20, 21, 22, 23] (.reg [un (.mov 12 (.t 6)),
 un (.bin 13 .add (.t 12) (.c (.int .i64 1))),
 un (.asg 6 (.t 13))])))))
def Yi : ACode :=
 (.seq (.reg [un (.asg 4 (.c (.nilsl 1)))])
 (.seq (.reg [un (.bsl 7 1 []),
 un (.asg 5 (.t 7))])
 (.drop [7] (.seq (.seq (.reg [un (.asg 6 (.c (.int .i64 0)))])
 (.block 0 (.loop Mc)))
 (.drop [6, 8, 9, 10, 11, 14, 15, 16, 17, 18, 19, 20, 21, 22, 23, 12, 13] (.seq (.reg [un (.mov 24 (.t 5)),
 un (.asg 4 (.t 24))])
 (.drop [24] .ret)))))))
abbrev Y2 : List RS := [.t 4]
theorem Yx : Ba Try.prog K6 25 Yi Y2 = true := by kernel_rfl
def O7 : ACode :=
 (.seq (.reg [un (.bin 11 .lss (.t 10) (.t 9))])
 (.seq (.cond (.t 11) .skip
 (.exit 0))
 (.seq (.block 1 (.seq (.reg [un (.iad 12 2 (.t 8) (.t 10)),
 un (.ld 13 2 true (.t 12)),
 un (.alc 5 (.agg [.int .i64 0, .nilsl 1])),
 un (.st 2 (.t 5) (.t 13))])
 (.drop [12, 13] (.reg [un (.mov 14 (.t 3)),
 un (.fadr 15 0 (.t 5)),
 un (.ld 16 1 false (.t 15)),
 un (.bsl 17 1 [(.t 16)]),
 un (.app 18 1 (.t 14) (.t 17)),
 un (.asg 3 (.t 18))]))))
 (.drop [12, 13, 5, 14, 15, 16, 17, 18] (.reg [un (.bin 19 .add (.t 10) (.c (.int .i64 1))),
 un (.asg 10 (.t 19))])))))
def Adh : ACode :=
 (.seq (.reg [un (.box 1 (.t 0)),
 un (.asg 2 (.c (.nilsl 1)))])
 (.seq (.reg [un (.bsl 6 1 []),
 un (.asg 3 (.t 6))])
 (.drop [6] (.seq (.seq (.reg [un (.fadr 7 1 (.t 1)),
 un (.ld 8 1 false (.t 7)),
 un (.len 9 (.t 8)),
 un (.mov 10 (.c (.int .i64 0)))])
 (.drop [7] (.block 0 (.loop O7))))
 (.drop [7, 8, 9, 10, 11, 12, 13, 5, 14, 15, 16, 17, 18, 19] (.seq (.reg [un (.mov 20 (.t 3)),
 un (.asg 2 (.t 20))])
 (.drop [20] .ret)))))))
abbrev Acd : List RS := [.t 2]
theorem Ab3 : Ba Try.prog J2 21 Adh Acd = true := by kernel_rfl
def O3 : ACode :=
 (.seq (.seq (.reg [un (.mov 11 (.t 5)),
 un (.mov 12 (.t 0)),
 un (.len 13 (.t 12)),
 un (.bin 14 .lss (.t 11) (.t 13))])
 (.drop [11, 12, 13] (.cond (.t 14) .skip
 (.exit 0))))
 (.drop [11, 12, 13, 14] (.seq (.block 1 (.seq (.dreg [(un (.mov 17 (.t 0)), []),
 (un (.mov 18 (.t 5)), [17]),
 (un (.iad 19 1 (.t 17) (.t 18)), []),
 (un (.ld 20 1 false (.t 19)), []),
 (un (.mov 21 (.t 1)), [17, 18, 19, 20]),
 (un (.mov 22 (.t 5)), [17, 18, 19, 20, 21]),
 (un (.iad 23 1 (.t 21) (.t 22)), [17, 18, 19, 20]),
 (un (.ld 24 1 false (.t 23)), [17, 18, 19, 20])]
 [un (.call 25 Pz [((.t 20), false), ((.t 24), false)]),
 un (.un 26 .not (.t 25))])
 (.drop [17, 18, 19, 20, 21, 22, 23, 24, 25] (.cond (.t 26) (.seq (.reg [un (.asg 4 (.c (.bool false)))])
 .ret)
 .skip))))
 (.drop [17, 18, 19, 20, 21, 22, 23, 24, 25, 26] (.reg [un (.mov 15 (.t 5)),
 un (.bin 16 .add (.t 15) (.c (.int .i64 1))),
 un (.asg 5 (.t 16))])))))
def Acs : ACode :=
 (.seq (.reg [un (.asg 4 (.c (.bool false)))])
 (.seq (.seq (.reg [un (.mov 6 (.t 0)),
 un (.len 7 (.t 6)),
 un (.mov 8 (.t 1)),
 un (.len 9 (.t 8)),
 un (.bin 10 .neq (.t 7) (.t 9))])
 (.drop [6, 7, 8, 9] (.cond (.t 10) (.seq (.reg [un (.asg 4 (.c (.bool false)))])
 .ret)
 .skip)))
 (.drop [6, 7, 8, 9, 10] (.seq (.seq (.reg [un (.asg 5 (.c (.int .i64 0)))])
 (.block 0 (.loop O3)))
 (.drop [5, 11, 12, 13, 14, 17, 18, 19, 20, 21, 22, 23, 24, 25, 26, 15, 16] (.seq (.reg [un (.asg 4 (.c (.bool true)))])
 .ret))))))
abbrev Ab5 : List RS := [.t 4]
theorem Acj : Ba Try.prog Of 27 Acs Ab5 = true := by kernel_rfl
def Um : ACode :=
 (.seq (.reg [un (.asg 4 (.c (.int .i64 0)))])
 (.seq (.seq (.reg [un (.mov 6 (.t 1)),
 un (.bin 7 .leq (.t 6) (.c (.int .i64 1)))])
 (.drop [6] (.cond (.t 7) (.seq (.reg [un (.asg 4 (.c (.int .i64 0)))])
 .ret)
 .skip)))
 (.drop [6, 7] (.seq (.reg [un (.mov 8 (.t 0)),
 un (.call 9 Ft [((.t 8), true)]),
 un (.asg 5 (.t 9))])
 (.drop [8, 9] (.seq (.seq (.reg [un (.mov 10 (.t 1)),
 un (.bin 11 .gtr (.t 10) (.c (.int .i64 200)))])
 (.drop [10] (.cond (.t 11) (.reg [un (.mov 12 (.t 5)),
 un (.bin 13 .mul (.t 12) (.c (.int .i64 256))),
 un (.mov 14 (.t 0)),
 un (.call 15 Ft [((.t 14), true)]),
 un (.bin 16 .add (.t 13) (.t 15)),
 un (.asg 5 (.t 16))])
 .skip)))
 (.drop [10, 11, 12, 13, 14, 15, 16] (.seq (.reg [un (.mov 17 (.t 5)),
 un (.mov 18 (.t 1)),
 un (.bin 19 .rem (.t 17) (.t 18)),
 un (.asg 4 (.t 19))])
 (.drop [17, 18, 19] .ret)))))))))
abbrev Uy : List RS := [.t 4]
theorem U4 : Ba Try.prog As 20 Um Uy = true := by kernel_rfl
def Acn : ACode :=
 (.seq (.reg [un (.box 1 (.t 0)),
 un (.alc 2 (.agg [.int .i64 0, .nilsl 1]))])
 (.seq (.dreg [(un (.fadr 3 0 (.t 1)), []),
 (un (.ld 4 1 false (.t 3)), []),
 (un (.fadr 5 1 (.t 1)), [3, 4]),
 (un (.ld 6 1 false (.t 5)), [3, 4]),
 (un (.call 7 P2 [((.t 6), false)]), [3, 4])]
 [un (.bld 8 [.int .i64 0, .nilsl 1] [(0, 1, (.t 4)), (1, 1, (.t 7))]),
 un (.st 2 (.t 2) (.t 8))])
 (.drop [3, 4, 5, 6, 7, 8] .ret)))
abbrev Ac1 : List RS := [.c 2 2 true]
theorem Acg : Ba Try.prog J0 9 Acn Ac1 = true := by kernel_rfl
def Ah8 : ACode :=
 (.seq (.reg [un (.box 2 (.t 0)),
 un (.asg 4 (.c (.bool false)))])
 (.seq (.dreg [(un (.fadr 5 0 (.t 2)), []),
 (un (.ld 6 1 false (.t 5)), []),
 (un (.bin 7 .geq (.t 6) (.c (.int .i64 0))), []),
 (un (.asg 8 (.t 7)), []),
 (⟨some (8, true), .fadr 9 0 (.t 2)⟩, [7]),
 (⟨some (8, true), .ld 10 1 false (.t 9)⟩, [7]),
 (⟨some (8, true), .bin 11 .leq (.t 10) (.c (.int .i64 3))⟩, [7]),
 (un (.pick 12 (.t 8) (.t 11) (.c (.bool false))), [7]),
 (un (.asg 13 (.t 12)), [7]),
 (⟨some (13, true), .fadr 14 1 (.t 2)⟩, [7, 12]),
 (⟨some (13, true), .ld 15 1 false (.t 14)⟩, [7, 12]),
 (⟨some (13, true), .len 16 (.t 15)⟩, [7, 12]),
 (⟨some (13, true), .mov 17 (.t 1)⟩, [14, 15, 16, 7, 12]),
 (⟨some (13, true), .fadr 18 0 (.t 2)⟩, [14, 15, 16, 17, 7, 12]),
 (⟨some (13, true), .ld 19 1 false (.t 18)⟩, [14, 15, 16, 17, 7, 12]),
 (⟨some (13, true), .call 20 Gv [((.t 17), false), ((.t 19), false)]⟩, [14, 15, 16, 7, 12]),
 (⟨some (13, true), .bin 21 .eql (.t 16) (.t 20)⟩, [7, 12]),
 (un (.pick 22 (.t 13) (.t 21) (.c (.bool false))), [7, 12]),
 (un (.asg 23 (.t 22)), [7, 12]),
 (⟨some (23, true), .fadr 24 1 (.t 2)⟩, [7, 12, 22]),
 (⟨some (23, true), .ld 25 1 false (.t 24)⟩, [7, 12, 22]),
 (⟨some (23, true), .mov 26 (.t 1)⟩, [24, 25, 7, 12, 22])]
 [⟨some (23, true), .call 27 Hd [((.t 25), false), ((.t 26), false)]⟩,
 un (.pick 28 (.t 23) (.t 27) (.c (.bool false))),
 un (.asg 4 (.t 28))])
 (.drop [5, 6, 7, 8, 9, 10, 11, 12, 13, 14, 15, 16, 17, 18, 19, 20, 21, 22, 23, 24, 25, 26, 27, 28] .ret)))
abbrev Ag0 : List RS := [.t 4]
theorem Aiy : Ba Try.prog F3 29 Ah8 Ag0 = true := by kernel_rfl
def Zf : ACode :=
 (.seq (.dreg [(un (.fadr 6 0 (.t 3)), []),
 (un (.ld 7 1 false (.t 6)), []),
 (un (.call 8 E6 [((.t 7), false), ((.c (.int .i64 0)), false), ((.c (.int .i64 3)), false)]), []),
 (un (.un 9 .not (.t 8)), []),
 (un (.asg 10 (.t 9)), []),
 (⟨some (10, false), .fadr 11 1 (.t 3)⟩, [9]),
 (⟨some (10, false), .ld 12 1 false (.t 11)⟩, [9]),
 (⟨some (10, false), .len 13 (.t 12)⟩, [9]),
 (⟨some (10, false), .mov 14 (.t 0)⟩, [11, 12, 13, 9]),
 (⟨some (10, false), .fadr 15 0 (.t 3)⟩, [11, 12, 13, 14, 9]),
 (⟨some (10, false), .ld 16 1 false (.t 15)⟩, [11, 12, 13, 14, 9]),
 (⟨some (10, false), .call 17 Fc [((.t 14), false), ((.t 16), false)]⟩, [11, 12, 13, 9])]
 [⟨some (10, false), .bin 18 .neq (.t 13) (.t 17)⟩,
 un (.pick 19 (.t 10) (.c (.bool true)) (.t 18))])
 (.drop [6, 7, 8, 9, 10, 11, 12, 13, 14, 15, 16, 17, 18] (.cond (.t 19) (.seq (.reg [un (.asg 4 (.c (.bool false)))])
 .ret)
 .skip)))
def R5 : ACode :=
 (.seq (.seq (.reg [un (.mov 20 (.t 5)),
 un (.fadr 21 1 (.t 3)),
 un (.ld 22 1 false (.t 21)),
 un (.len 23 (.t 22)),
 un (.bin 24 .lss (.t 20) (.t 23))])
 (.drop [20, 21, 22, 23] (.cond (.t 24) .skip
 (.exit 0))))
 (.drop [20, 21, 22, 23, 24] (.seq (.block 1 (.seq (.reg [un (.fadr 27 1 (.t 3)),
 un (.ld 28 1 false (.t 27)),
 un (.mov 29 (.t 5)),
 un (.iad 30 1 (.t 28) (.t 29)),
 un (.ld 31 1 false (.t 30)),
 un (.mov 32 (.t 0)),
 un (.bin 33 .sub (.t 32) (.c (.int .i64 1))),
 un (.call 34 E6 [((.t 31), false), ((.c (.int .i64 0)), false), ((.t 33), false)]),
 un (.un 35 .not (.t 34))])
 (.drop [27, 28, 29, 30, 31, 32, 33, 34] (.cond (.t 35) (.seq (.reg [un (.asg 4 (.c (.bool false)))])
 .ret)
 .skip))))
 (.drop [27, 28, 29, 30, 31, 32, 33, 34, 35] (.reg [un (.mov 25 (.t 5)),
 un (.bin 26 .add (.t 25) (.c (.int .i64 1))),
 un (.asg 5 (.t 26))])))))
def Ahn : ACode :=
 (.seq (.reg [un (.box 3 (.t 1)),
 un (.asg 4 (.c (.bool false)))])
 (.seq (.cut Zf)
 (.drop [6, 7, 8, 9, 10, 11, 12, 13, 14, 15, 16, 17, 18, 19] (.seq (.seq (.reg [un (.asg 5 (.c (.int .i64 0)))])
 (.block 0 (.loop R5)))
 (.drop [5, 20, 21, 22, 23, 24, 27, 28, 29, 30, 31, 32, 33, 34, 35, 25, 26] (.seq (.reg [un (.asg 4 (.c (.bool true)))])
 .ret))))))
abbrev Ah7 : List RS := [.t 4]
theorem Aiq : Ba Try.prog Hx 36 Ahn Ah7 = true := by kernel_rfl
def Ky : ACode :=
 (.seq (.seq (.reg [un (.mov 43 (.t 15)),
 un (.mov 44 (.t 8)),
 un (.bin 45 .lss (.t 43) (.t 44))])
 (.drop [43, 44] (.cond (.t 45) .skip
 (.exit 4))))
 (.drop [43, 44, 45] (.seq (.block 5 (.reg [un (.mov 48 (.t 14)),
 un (.mov 49 (.t 0)),
 un (.bin 50 .mul (.t 48) (.t 49)),
 un (.mov 51 (.t 10)),
 un (.mov 52 (.t 13)),
 un (.mov 53 (.t 8)),
 un (.bin 54 .mul (.t 52) (.t 53)),
 un (.mov 55 (.t 15)),
 un (.bin 56 .add (.t 54) (.t 55)),
 un (.iad 57 1 (.t 51) (.t 56)),
 un (.ld 58 1 false (.t 57)),
 un (.bin 59 .add (.t 50) (.t 58)),
 un (.asg 14 (.t 59))]))
 (.drop [48, 49, 50, 51, 52, 53, 54, 55, 56, 57, 58, 59] (.reg [un (.mov 46 (.t 15)),
 un (.bin 47 .add (.t 46) (.c (.int .i64 1))),
 un (.asg 15 (.t 47))])))))
def Ke : ACode :=
 (.seq (.seq (.reg [un (.mov 38 (.t 13)),
 un (.mov 39 (.t 7)),
 un (.bin 40 .lss (.t 38) (.t 39))])
 (.drop [38, 39] (.cond (.t 40) .skip
 (.exit 2))))
 (.drop [38, 39, 40] (.seq (.block 3 (.seq (.reg [un (.asg 14 (.c (.int .i64 0)))])
 (.seq (.seq (.reg [un (.asg 15 (.c (.int .i64 0)))])
 (.block 4 (.loop Ky)))
 (.drop [15, 43, 44, 45, 48, 49, 50, 51, 52, 53, 54, 55, 56, 57, 58, 59, 46, 47] (.reg [un (.mov 60 (.t 11)),
 un (.mov 61 (.t 0)),
 un (.bin 62 .mul (.t 60) (.t 61)),
 un (.fadr 63 1 (.t 5)),
 un (.ld 64 1 false (.t 63)),
 un (.mov 65 (.t 14)),
 un (.iad 66 1 (.t 64) (.t 65)),
 un (.ld 67 1 false (.t 66)),
 un (.bin 68 .add (.t 62) (.t 67)),
 un (.asg 11 (.t 68))])))))
 (.drop [14, 15, 43, 44, 45, 48, 49, 50, 51, 52, 53, 54, 55, 56, 57, 58, 59, 46, 47, 60, 61, 62, 63, 64, 65, 66, 67, 68] (.reg [un (.mov 41 (.t 13)),
 un (.bin 42 .add (.t 41) (.c (.int .i64 1))),
 un (.asg 13 (.t 42))])))))
def Kt : ACode :=
 (.seq (.seq (.reg [un (.mov 74 (.t 18)),
 un (.mov 75 (.t 7)),
 un (.bin 76 .lss (.t 74) (.t 75))])
 (.drop [74, 75] (.cond (.t 76) .skip
 (.exit 8))))
 (.drop [74, 75, 76] (.seq (.block 9 (.reg [un (.mov 79 (.t 17)),
 un (.mov 80 (.t 0)),
 un (.bin 81 .mul (.t 79) (.t 80)),
 un (.mov 82 (.t 10)),
 un (.mov 83 (.t 18)),
 un (.mov 84 (.t 8)),
 un (.bin 85 .mul (.t 83) (.t 84)),
 un (.mov 86 (.t 16)),
 un (.bin 87 .add (.t 85) (.t 86)),
 un (.iad 88 1 (.t 82) (.t 87)),
 un (.ld 89 1 false (.t 88)),
 un (.bin 90 .add (.t 81) (.t 89)),
 un (.asg 17 (.t 90))]))
 (.drop [79, 80, 81, 82, 83, 84, 85, 86, 87, 88, 89, 90] (.reg [un (.mov 77 (.t 18)),
 un (.bin 78 .add (.t 77) (.c (.int .i64 1))),
 un (.asg 18 (.t 78))])))))
def Ka : ACode :=
 (.seq (.seq (.reg [un (.mov 69 (.t 16)),
 un (.mov 70 (.t 8)),
 un (.bin 71 .lss (.t 69) (.t 70))])
 (.drop [69, 70] (.cond (.t 71) .skip
 (.exit 6))))
 (.drop [69, 70, 71] (.seq (.block 7 (.seq (.reg [un (.asg 17 (.c (.int .i64 0)))])
 (.seq (.seq (.reg [un (.asg 18 (.c (.int .i64 0)))])
 (.block 8 (.loop Kt)))
 (.drop [18, 74, 75, 76, 79, 80, 81, 82, 83, 84, 85, 86, 87, 88, 89, 90, 77, 78] (.reg [un (.mov 91 (.t 12)),
 un (.mov 92 (.t 0)),
 un (.bin 93 .mul (.t 91) (.t 92)),
 un (.fadr 94 1 (.t 4)),
 un (.ld 95 1 false (.t 94)),
 un (.mov 96 (.t 17)),
 un (.iad 97 1 (.t 95) (.t 96)),
 un (.ld 98 1 false (.t 97)),
 un (.bin 99 .add (.t 93) (.t 98)),
 un (.asg 12 (.t 99))])))))
 (.drop [17, 18, 74, 75, 76, 79, 80, 81, 82, 83, 84, 85, 86, 87, 88, 89, 90, 77, 78, 91, 92, 93, 94, 95, 96, 97, 98, 99] (.reg [un (.mov 72 (.t 16)),
 un (.bin 73 .add (.t 72) (.c (.int .i64 1))),
 un (.asg 16 (.t 73))])))))
def Kh : ACode :=
 (.seq (.seq (.reg [un (.mov 23 (.t 9)),
 un (.mov 24 (.t 0)),
 un (.mov 25 (.t 7)),
 un (.mov 26 (.t 8)),
 un (.bin 27 .mul (.t 25) (.t 26)),
 un (.call 28 Fc [((.t 24), false), ((.t 27), false)]),
 un (.bin 29 .lss (.t 23) (.t 28))])
 (.drop [23, 24, 25, 26, 27, 28] (.cond (.t 29) .skip
 (.exit 0))))
 (.drop [23, 24, 25, 26, 27, 28, 29] (.seq (.block 1 (.seq (.reg [un (.mov 32 (.t 0)),
 un (.mov 33 (.t 7)),
 un (.mov 34 (.t 8)),
 un (.bin 35 .mul (.t 33) (.t 34)),
 un (.mov 36 (.t 9)),
 un (.call 37 Fq [((.t 32), false), ((.t 35), false), ((.t 36), false)]),
 un (.asg 10 (.t 37))])
 (.drop [32, 33, 34, 35, 36, 37] (.seq (.reg [un (.asg 11 (.c (.int .i64 0))),
 un (.asg 12 (.c (.int .i64 0)))])
 (.seq (.seq (.reg [un (.asg 13 (.c (.int .i64 0)))])
 (.block 2 (.loop Ke)))
 (.drop [13, 38, 39, 40, 14, 15, 43, 44, 45, 48, 49, 50, 51, 52, 53, 54, 55, 56, 57, 58, 59, 46, 47, 60, 61, 62, 63, 64, 65, 66, 67, 68, 41, 42] (.seq (.seq (.reg [un (.asg 16 (.c (.int .i64 0)))])
 (.block 6 (.loop Ka)))
 (.drop [16, 69, 70, 71, 17, 18, 74, 75, 76, 79, 80, 81, 82, 83, 84, 85, 86, 87, 88, 89, 90, 77, 78, 91, 92, 93, 94, 95, 96, 97, 98, 99, 72, 73] (.seq (.dreg [(un (.fadr 100 1 (.t 4)), []),
 (un (.ld 101 1 false (.t 100)), []),
 (un (.mov 102 (.t 11)), [100, 101]),
 (un (.iad 103 1 (.t 101) (.t 102)), []),
 (un (.ld 104 1 false (.t 103)), []),
 (un (.fadr 105 1 (.t 5)), [100, 101, 102, 103, 104]),
 (un (.ld 106 1 false (.t 105)), [100, 101, 102, 103, 104]),
 (un (.mov 107 (.t 12)), [100, 101, 102, 103, 104, 105, 106]),
 (un (.iad 108 1 (.t 106) (.t 107)), [100, 101, 102, 103, 104]),
 (un (.ld 109 1 false (.t 108)), [100, 101, 102, 103, 104])]
 [un (.bin 110 .neq (.t 104) (.t 109))])
 (.drop [100, 101, 102, 103, 104, 105, 106, 107, 108, 109] (.cond (.t 110) (.seq (.reg [un (.asg 6 (.c (.bool false)))])
 .ret)
 .skip)))))))))))
 (.drop [32, 33, 34, 35, 36, 37, 10, 11, 12, 13, 38, 39, 40, 14, 15, 43, 44, 45, 48, 49, 50, 51, 52, 53, 54, 55, 56, 57, 58, 59, 46, 47, 60, 61, 62, 63, 64, 65, 66, 67, 68, 41, 42, 16, 69, 70, 71, 17, 18, 74, 75, 76, 79, 80, 81, 82, 83, 84, 85, 86, 87, 88, 89, 90, 77, 78, 91, 92, 93, 94, 95, 96, 97, 98, 99, 72, 73, 100, 101, 102, 103, 104, 105, 106, 107, 108, 109, 110] (.reg [un (.mov 30 (.t 9)),
 un (.bin 31 .add (.t 30) (.c (.int .i64 1))),
 un (.asg 9 (.t 31))])))))
def Wd : ACode :=
 (.seq (.reg [un (.box 4 (.t 1)),
 un (.box 5 (.t 2)),
 un (.asg 6 (.c (.bool false)))])
 (.seq (.dregp 0 [7] [(un (.fadr 19 0 (.t 4)), []),
 (un (.ld 20 1 false (.t 19)), []),
 (un (.fadr 21 0 (.t 5)), [19, 20, 20]),
 (un (.ld 22 1 false (.t 21)), [19, 20, 20]),
 (un (.asg 7 (.t 20)), [21, 22])]
 [un (.asg 8 (.t 22))])
 (.drop [19, 20, 21, 22] (.seq (.seq (.reg [un (.asg 9 (.c (.int .i64 0)))])
 (.block 0 (.loop Kh)))
 (.drop [9, 23, 24, 25, 26, 27, 28, 29, 32, 33, 34, 35, 36, 37, 10, 11, 12, 13, 38, 39, 40, 14, 15, 43, 44, 45, 48, 49, 50, 51, 52, 53, 54, 55, 56, 57, 58, 59, 46, 47, 60, 61, 62, 63, 64, 65, 66, 67, 68, 41, 42, 16, 69, 70, 71, 17, 18, 74, 75, 76, 79, 80, 81, 82, 83, 84, 85, 86, 87, 88, 89, 90, 77, 78, 91, 92, 93, 94, 95, 96, 97, 98, 99, 72, 73, 100, 101, 102, 103, 104, 105, 106, 107, 108, 109, 110, 30, 31] (.seq (.reg [un (.asg 6 (.c (.bool true)))])
 .ret))))))
abbrev Vz : List RS := [.t 6]
theorem U1 : Ba Try.prog Is 111 Wd Vz = true := by kernel_rfl
def Acb : ACode :=
 (.seq (.reg [un (.asg 2 (.c (.bool false)))])
 (.seq (.reg [un (.mov 3 (.t 0)),
 un (.call 4 E6 [((.t 3), false), ((.c (.int .i64 1)), false), ((.c (.int .i64 8)), false)]),
 un (.asg 2 (.t 4))])
 (.drop [3, 4] .ret)))
abbrev Acv : List RS := [.t 2]
theorem Acc : Ba Try.prog Oa 5 Acb Acv = true := by kernel_rfl
def Kx : ACode :=
 (.seq (.seq (.reg [un (.mov 6 (.t 5)),
 un (.mov 7 (.t 1)),
 un (.len 8 (.t 7)),
 un (.bin 9 .lss (.t 6) (.t 8))])
 (.drop [6, 7, 8] (.cond (.t 9) .skip
 (.exit 0))))
 (.drop [6, 7, 8, 9] (.seq (.block 1 (.seq (.reg [un (.mov 12 (.t 1)),
 un (.mov 13 (.t 5)),
 un (.iad 14 1 (.t 12) (.t 13)),
 un (.ld 15 1 false (.t 14)),
 un (.mov 16 (.t 0)),
 un (.bin 17 .sub (.t 16) (.c (.int .i64 1))),
 un (.call 18 E6 [((.t 15), false), ((.c (.int .i64 0)), false), ((.t 17), false)]),
 un (.un 19 .not (.t 18))])
 (.drop [12, 13, 14, 15, 16, 17, 18] (.cond (.t 19) (.seq (.reg [un (.asg 4 (.c (.bool false)))])
 .ret)
 .skip))))
 (.drop [12, 13, 14, 15, 16, 17, 18, 19] (.reg [un (.mov 10 (.t 5)),
 un (.bin 11 .add (.t 10) (.c (.int .i64 1))),
 un (.asg 5 (.t 11))])))))
def Uo : ACode :=
 (.seq (.reg [un (.asg 4 (.c (.bool false)))])
 (.seq (.seq (.reg [un (.asg 5 (.c (.int .i64 0)))])
 (.block 0 (.loop Kx)))
 (.drop [5, 6, 7, 8, 9, 12, 13, 14, 15, 16, 17, 18, 19, 10, 11] (.seq (.reg [un (.asg 4 (.c (.bool true)))])
 .ret))))
abbrev Vg : List RS := [.t 4]
theorem Vb : Ba Try.prog I1 20 Uo Vg = true := by kernel_rfl
def Hw : ACode :=
 (.seq (.seq (.reg [un (.mov 10 (.t 8)),
 un (.mov 11 (.t 0)),
 un (.mov 12 (.t 1)),
 un (.call 13 Fc [((.t 11), false), ((.t 12), false)]),
 un (.bin 14 .lss (.t 10) (.t 13))])
 (.drop [10, 11, 12, 13] (.cond (.t 14) .skip
 (.exit 0))))
 (.drop [10, 11, 12, 13, 14] (.seq (.block 1 (.reg [un (.mov 17 (.t 7)),
 un (.mov 18 (.t 0)),
 un (.mov 19 (.t 1)),
 un (.mov 20 (.t 8)),
 un (.call 21 Fq [((.t 18), false), ((.t 19), false), ((.t 20), false)]),
 un (.mov 22 (.t 2)),
 un (.iad 23 1 (.t 21) (.t 22)),
 un (.ld 24 1 false (.t 23)),
 un (.bsl 25 1 [(.t 24)]),
 un (.app 26 1 (.t 17) (.t 25)),
 un (.asg 7 (.t 26))]))
 (.drop [17, 18, 19, 20, 21, 22, 23, 24, 25, 26] (.reg [un (.mov 15 (.t 8)),
 un (.bin 16 .add (.t 15) (.c (.int .i64 1))),
 un (.asg 8 (.t 16))])))))
def Rh : ACode :=
 (.seq (.reg [un (.asg 6 (.c (.nilsl 1)))])
 (.seq (.reg [un (.bsl 9 1 []),
 un (.asg 7 (.t 9))])
 (.drop [9] (.seq (.seq (.reg [un (.asg 8 (.c (.int .i64 0)))])
 (.block 0 (.loop Hw)))
 (.drop [8, 10, 11, 12, 13, 14, 17, 18, 19, 20, 21, 22, 23, 24, 25, 26, 15, 16] (.seq (.reg [un (.mov 27 (.t 7)),
 un (.asg 6 (.t 27))])
 (.drop [27] .ret)))))))
abbrev R3 : List RS := [.t 6]
theorem Rz : Ba Try.prog Gt 28 Rh R3 = true := by kernel_rfl
def Q7 : ACode :=
 (.seq (.reg [un (.fadr 7 0 (.t 3)),
 un (.ld 8 1 false (.t 7)),
 un (.bin 9 .lss (.t 8) (.c (.int .i64 1))),
 un (.asg 10 (.t 9)),
 ⟨some (10, false), .fadr 11 0 (.t 3)⟩,
 ⟨some (10, false), .ld 12 1 false (.t 11)⟩,
 ⟨some (10, false), .bin 13 .gtr (.t 12) (.c (.int .i64 3))⟩,
 un (.pick 14 (.t 10) (.c (.bool true)) (.t 13))])
 (.drop [7, 8, 9, 10, 11, 12, 13] (.cond (.t 14) (.seq (.reg [un (.asg 4 (.c (.bool false)))])
 .ret)
 .skip)))
def Kr : ACode :=
 (.seq (.reg [un (.bin 19 .lss (.t 18) (.t 17))])
 (.seq (.cond (.t 19) .skip
 (.exit 0))
 (.seq (.block 1 (.seq (.reg [un (.mov 20 (.t 18)),
 un (.iad 21 1 (.t 16) (.t 18)),
 un (.ld 22 1 false (.t 21)),
 un (.asg 5 (.t 20)),
 un (.asg 6 (.t 22))])
 (.drop [20, 21, 22] (.seq (.reg [un (.mov 23 (.t 6)),
 un (.len 24 (.t 23)),
 un (.fadr 25 0 (.t 3)),
 un (.ld 26 1 false (.t 25)),
 un (.bin 27 .neq (.t 24) (.t 26)),
 un (.asg 28 (.t 27)),
 ⟨some (28, false), .mov 29 (.t 6)⟩,
 ⟨some (28, false), .mov 30 (.t 0)⟩,
 ⟨some (28, false), .call 31 Hd [((.t 29), false), ((.t 30), false)]⟩,
 ⟨some (28, false), .un 32 .not (.t 31)⟩,
 un (.pick 33 (.t 28) (.c (.bool true)) (.t 32)),
 un (.asg 34 (.t 33)),
 ⟨some (34, false), .mov 35 (.t 5)⟩,
 ⟨some (34, false), .bin 36 .gtr (.t 35) (.c (.int .i64 0))⟩,
 ⟨some (34, false), .asg 37 (.t 36)⟩,
 ⟨some (37, true), .fadr 38 1 (.t 3)⟩,
 ⟨some (37, true), .ld 39 1 false (.t 38)⟩,
 ⟨some (37, true), .mov 40 (.t 5)⟩,
 ⟨some (37, true), .bin 41 .sub (.t 40) (.c (.int .i64 1))⟩,
 ⟨some (37, true), .iad 42 1 (.t 39) (.t 41)⟩,
 ⟨some (37, true), .ld 43 1 false (.t 42)⟩,
 ⟨some (37, true), .mov 44 (.t 6)⟩,
 ⟨some (37, true), .call 45 G5 [((.t 43), false), ((.t 44), false)]⟩,
 ⟨some (37, true), .bin 46 .geq (.t 45) (.c (.int .i64 0))⟩,
 ⟨some (34, false), .pick 47 (.t 37) (.t 46) (.c (.bool false))⟩,
 un (.pick 48 (.t 34) (.c (.bool true)) (.t 47))])
 (.drop [23, 24, 25, 26, 27, 28, 29, 30, 31, 32, 33, 34, 35, 36, 37, 38, 39, 40, 41, 42, 43, 44, 45, 46, 47] (.cond (.t 48) (.seq (.reg [un (.asg 4 (.c (.bool false)))])
 .ret)
 .skip))))))
 (.drop [20, 21, 22, 5, 6, 23, 24, 25, 26, 27, 28, 29, 30, 31, 32, 33, 34, 35, 36, 37, 38, 39, 40, 41, 42, 43, 44, 45, 46, 47, 48] (.reg [un (.bin 49 .add (.t 18) (.c (.int .i64 1))),
 un (.asg 18 (.t 49))])))))
def U5 : ACode :=
 (.seq (.reg [un (.box 3 (.t 1)),
 un (.asg 4 (.c (.bool false)))])
 (.seq (.cut Q7)
 (.drop [7, 8, 9, 10, 11, 12, 13, 14] (.seq (.seq (.reg [un (.fadr 15 1 (.t 3)),
 un (.ld 16 1 false (.t 15)),
 un (.len 17 (.t 16)),
 un (.mov 18 (.c (.int .i64 0)))])
 (.drop [15] (.block 0 (.loop Kr))))
 (.drop [15, 16, 17, 18, 19, 20, 21, 22, 5, 6, 23, 24, 25, 26, 27, 28, 29, 30, 31, 32, 33, 34, 35, 36, 37, 38, 39, 40, 41, 42, 43, 44, 45, 46, 47, 48, 49] (.seq (.reg [un (.asg 4 (.c (.bool true)))])
 .ret))))))
abbrev V1 : List RS := [.t 4]
theorem Vp : Ba Try.prog Im 50 U5 V1 = true := by kernel_rfl
def Aa4 : ACode :=
 (.seq (.reg [un (.alc 2 (.agg [.int .i64 0, .nilsl 2]))])
 (.seq (.seq (.reg [un (.mov 3 (.t 0))])
 (.block 0 (.seq (.reg [un (.bin 5 .eql (.t 3) (.c (.int .i64 0))),
 un (.asg 4 (.t 5))])
 (.drop [5] (.cond (.t 4) (.seq (.reg [⟨none, .call 6 A8 [((.c (.str ⟨#[48, 48, 48, 49]⟩)), false)]⟩,
 un (.bsl 7 2 [(.t 6)]),
 un (.bld 8 [.int .i64 0, .nilsl 2] [(0, 1, (.c (.int .i64 2))), (1, 1, (.t 7))]),
 un (.st 2 (.t 2) (.t 8))])
 (.drop [6, 7, 8] .ret))
 (.seq (.reg [un (.bin 10 .eql (.t 3) (.c (.int .i64 1))),
 un (.asg 9 (.t 10))])
 (.drop [10] (.cond (.t 9) (.seq (.reg [⟨none, .call 11 A8 [((.c (.str ⟨#[48, 48, 48, 49]⟩)), false)]⟩,
 ⟨none, .call 12 A8 [((.c (.str ⟨#[48, 49, 49, 49]⟩)), false)]⟩,
 un (.bsl 13 2 [(.t 11), (.t 12)]),
 un (.bld 14 [.int .i64 0, .nilsl 2] [(0, 1, (.c (.int .i64 2))), (1, 1, (.t 13))]),
 un (.st 2 (.t 2) (.t 14))])
 (.drop [11, 12, 13, 14] .ret))
 (.seq (.reg [un (.bin 16 .eql (.t 3) (.c (.int .i64 2))),
 un (.asg 15 (.t 16))])
 (.drop [16] (.cond (.t 15) (.seq (.reg [⟨none, .call 17 A8 [((.c (.str ⟨#[48, 48, 48, 49]⟩)), false)]⟩,
 ⟨none, .call 18 A8 [((.c (.str ⟨#[48, 49, 49, 49]⟩)), false)]⟩,
 un (.bsl 19 1 [(.c (.int .i64 1)), (.c (.int .i64 0))]),
 un (.bld 20 [.int .i64 0, .nilsl 1] [(0, 1, (.c (.int .i64 1))), (1, 1, (.t 19))]),
 un (.bsl 21 2 [(.t 17), (.t 18), (.t 20)]),
 un (.bld 22 [.int .i64 0, .nilsl 2] [(0, 1, (.c (.int .i64 2))), (1, 1, (.t 21))]),
 un (.st 2 (.t 2) (.t 22))])
 (.drop [17, 18, 19, 20, 21, 22] .ret))
 (.seq (.reg [un (.bin 24 .eql (.t 3) (.c (.int .i64 3))),
 un (.asg 23 (.t 24))])
 (.drop [24] (.cond (.t 23) (.seq (.reg [un (.call 25 Hk [((.c (.int .i64 2)), false)]),
 un (.bsl 26 2 [(.t 25)]),
 un (.bld 27 [.int .i64 0, .nilsl 2] [(0, 1, (.c (.int .i64 2))), (1, 1, (.t 26))]),
 un (.st 2 (.t 2) (.t 27))])
 (.drop [25, 26, 27] .ret))
 (.seq (.reg [un (.bin 29 .eql (.t 3) (.c (.int .i64 4))),
 un (.asg 28 (.t 29))])
 (.drop [29] (.cond (.t 28) (.seq (.reg [⟨none, .call 30 A8 [((.c (.str ⟨#[48, 49, 50, 49, 50, 48, 50, 48, 49]⟩)), false)]⟩,
 un (.bsl 31 2 [(.t 30)]),
 un (.bld 32 [.int .i64 0, .nilsl 2] [(0, 1, (.c (.int .i64 3))), (1, 1, (.t 31))]),
 un (.st 2 (.t 2) (.t 32))])
 (.drop [30, 31, 32] .ret))
 (.seq (.reg [un (.bin 34 .eql (.t 3) (.c (.int .i64 5))),
 un (.asg 33 (.t 34))])
 (.drop [34] (.cond (.t 33) (.seq (.reg [⟨none, .call 35 A8 [((.c (.str ⟨#[48, 49, 48, 49, 49, 50, 48, 50, 50]⟩)), false)]⟩,
 un (.bsl 36 2 [(.t 35)]),
 un (.bld 37 [.int .i64 0, .nilsl 2] [(0, 1, (.c (.int .i64 3))), (1, 1, (.t 36))]),
 un (.st 2 (.t 2) (.t 37))])
 (.drop [35, 36, 37] .ret))
 (.seq (.reg [un (.bin 39 .eql (.t 3) (.c (.int .i64 6))),
 un (.asg 38 (.t 39))])
 (.drop [39] (.cond (.t 38) (.seq (.reg [⟨none, .call 40 A8 [((.c (.str ⟨#[48, 49, 50, 51, 49, 48, 51, 50, 50, 51, 48, 49, 51, 50, 49, 48]⟩)), false)]⟩,
 un (.bsl 41 2 [(.t 40)]),
 un (.bld 42 [.int .i64 0, .nilsl 2] [(0, 1, (.c (.int .i64 4))), (1, 1, (.t 41))]),
 un (.st 2 (.t 2) (.t 42))])
 (.drop [40, 41, 42] .ret))
 (.seq (.reg [un (.bin 44 .eql (.t 3) (.c (.int .i64 7))),
 un (.asg 43 (.t 44))])
 (.drop [44] (.cond (.t 43) (.seq (.reg [⟨none, .call 45 A8 [((.c (.str ⟨#[48, 48, 48, 48, 49, 49, 48, 49, 50]⟩)), false)]⟩,
 ⟨none, .call 46 A8 [((.c (.str ⟨#[48, 49, 50, 49, 49, 50, 50, 50, 50]⟩)), false)]⟩,
 un (.bsl 47 2 [(.t 45), (.t 46)]),
 un (.bld 48 [.int .i64 0, .nilsl 2] [(0, 1, (.c (.int .i64 3))), (1, 1, (.t 47))]),
 un (.st 2 (.t 2) (.t 48))])
 (.drop [45, 46, 47, 48] .ret))
 (.seq (.reg [un (.bin 50 .eql (.t 3) (.c (.int .i64 8))),
 un (.asg 49 (.t 50))])
 (.drop [50] (.cond (.t 49) (.seq (.reg [un (.bsl 51 1 [(.c (.int .i64 1)), (.c (.int .i64 2)), (.c (.int .i64 3)), (.c (.int .i64 0))]),
 un (.bld 52 [.int .i64 0, .nilsl 1] [(0, 1, (.c (.int .i64 1))), (1, 1, (.t 51))]),
 un (.bsl 53 2 [(.t 52)]),
 un (.bld 54 [.int .i64 0, .nilsl 2] [(0, 1, (.c (.int .i64 4))), (1, 1, (.t 53))]),
 un (.st 2 (.t 2) (.t 54))])
 (.drop [51, 52, 53, 54] .ret))
 (.seq (.reg [un (.bin 56 .eql (.t 3) (.c (.int .i64 9))),
 un (.asg 55 (.t 56))])
 (.drop [56] (.cond (.t 55) (.seq (.reg [un (.bsl 57 1 [(.c (.int .i64 0)), (.c (.int .i64 0)), (.c (.int .i64 0)), (.c (.int .i64 1)), (.c (.int .i64 0)), (.c (.int .i64 1)), (.c (.int .i64 1)), (.c (.int .i64 1))]),
 un (.bld 58 [.int .i64 0, .nilsl 1] [(0, 1, (.c (.int .i64 3))), (1, 1, (.t 57))]),
 un (.bsl 59 2 [(.t 58)]),
 un (.bld 60 [.int .i64 0, .nilsl 2] [(0, 1, (.c (.int .i64 2))), (1, 1, (.t 59))]),
 un (.st 2 (.t 2) (.t 60))])
 (.drop [57, 58, 59, 60] .ret))
 (.seq (.reg [un (.bin 62 .eql (.t 3) (.c (.int .i64 10))),
 un (.asg 61 (.t 62))])
 (.drop [62] (.cond (.t 61) (.seq (.reg [⟨none, .call 63 A8 [((.c (.str ⟨#[48, 48, 48, 49, 49, 49, 50, 50, 50]⟩)), false)]⟩,
 un (.bsl 64 2 [(.t 63)]),
 un (.bld 65 [.int .i64 0, .nilsl 2] [(0, 1, (.c (.int .i64 3))), (1, 1, (.t 64))]),
 un (.st 2 (.t 2) (.t 65))])
 (.drop [63, 64, 65] .ret))
 (.seq (.reg [un (.bin 67 .eql (.t 3) (.c (.int .i64 11))),
 un (.asg 66 (.t 67))])
 (.drop [67] (.cond (.t 66) (.seq (.reg [⟨none, .call 68 A8 [((.c (.str ⟨#[48, 48, 48, 48, 48, 48, 49, 48, 48, 49, 48, 48, 50, 48, 50, 48, 48, 48, 51, 51, 48, 49, 50, 51, 52]⟩)), false)]⟩,
 ⟨none, .call 69 A8 [((.c (.str ⟨#[48, 49, 50, 51, 52, 49, 49, 52, 52, 52, 50, 52, 50, 52, 52, 51, 52, 52, 51, 52, 52, 52, 52, 52, 52]⟩)), false)]⟩,
 un (.bsl 70 2 [(.t 68), (.t 69)]),
 un (.bld 71 [.int .i64 0, .nilsl 2] [(0, 1, (.c (.int .i64 5))), (1, 1, (.t 70))]),
 un (.st 2 (.t 2) (.t 71))])
 (.drop [68, 69, 70, 71] .ret))
 (.seq (.reg [un (.bin 73 .eql (.t 3) (.c (.int .i64 12))),
 un (.asg 72 (.t 73))])
 (.drop [73] (.cond (.t 72) (.seq (.reg [⟨none, .call 74 A8 [((.c (.str ⟨#[48, 49, 50, 51, 49, 50, 51, 48, 50, 51, 48, 49, 51, 48, 49, 50]⟩)), false)]⟩,
 un (.bsl 75 2 [(.t 74)]),
 un (.bld 76 [.int .i64 0, .nilsl 2] [(0, 1, (.c (.int .i64 4))), (1, 1, (.t 75))]),
 un (.st 2 (.t 2) (.t 76))])
 (.drop [74, 75, 76] .ret))
 (.seq (.reg [un (.bin 78 .eql (.t 3) (.c (.int .i64 13))),
 un (.asg 77 (.t 78))])
 (.drop [78] (.cond (.t 77) (.seq (.reg [un (.bsl 79 1 [(.c (.int .i64 0)), (.c (.int .i64 0)), (.c (.int .i64 1))]),
 un (.bld 80 [.int .i64 0, .nilsl 1] [(0, 1, (.c (.int .i64 1))), (1, 1, (.t 79))]),
 un (.bsl 81 1 [(.c (.int .i64 2))]),
 un (.bld 82 [.int .i64 0, .nilsl 1] [(0, 1, (.c (.int .i64 0))), (1, 1, (.t 81))]),
 un (.bsl 83 2 [(.t 80), (.t 82)]),
 un (.bld 84 [.int .i64 0, .nilsl 2] [(0, 1, (.c (.int .i64 3))), (1, 1, (.t 83))]),
 un (.st 2 (.t 2) (.t 84))])
 (.drop [79, 80, 81, 82, 83, 84] .ret))
 (.seq (.reg [un (.bin 86 .eql (.t 3) (.c (.int .i64 14))),
 un (.asg 85 (.t 86))])
 (.drop [86] (.cond (.t 85) (.seq (.reg [⟨none, .call 87 A8 [((.c (.str ⟨#[48]⟩)), false)]⟩,
 un (.bsl 88 2 [(.t 87)]),
 un (.bld 89 [.int .i64 0, .nilsl 2] [(0, 1, (.c (.int .i64 1))), (1, 1, (.t 88))]),
 un (.st 2 (.t 2) (.t 89))])
 (.drop [87, 88, 89] .ret))
 (.seq (.reg [un (.bin 91 .eql (.t 3) (.c (.int .i64 15))),
 un (.asg 90 (.t 91))])
 (.drop [91] (.cond (.t 90) (.seq (.reg [un (.call 92 Hk [((.c (.int .i64 3)), false)]),
 un (.bsl 93 2 [(.t 92)]),
 un (.bld 94 [.int .i64 0, .nilsl 2] [(0, 1, (.c (.int .i64 3))), (1, 1, (.t 93))]),
 un (.st 2 (.t 2) (.t 94))])
 (.drop [92, 93, 94] .ret))
 .skip))))))))))))))))))))))))))))))))))))))))))))))))))
 (.drop [3, 5, 4, 6, 7, 8, 10, 9, 11, 12, 13, 14, 16, 15, 17, 18, 19, 20, 21, 22, 24, 23, 25, 26, 27, 29, 28, 30, 31, 32, 34, 33, 35, 36, 37, 39, 38, 40, 41, 42, 44, 43, 45, 46, 47, 48, 50, 49, 51, 52, 53, 54, 56, 55, 57, 58, 59, 60, 62, 61, 63, 64, 65, 67, 66, 68, 69, 70, 71, 73, 72, 74, 75, 76, 78, 77, 79, 80, 81, 82, 83, 84, 86, 85, 87, 88, 89, 91, 90, 92, 93, 94] (.seq (.reg [un (.bld 95 [.int .i64 0, .nilsl 2] [(0, 1, (.c (.int .i64 2)))]),
 un (.st 2 (.t 2) (.t 95))])
 (.drop [95] .ret)))))
abbrev Aay : List RS := [.c 2 2 true]
theorem Aba : Ba Try.prog L4 96 Aa4 Aay = true := by kernel_rfl
def Af1 : ACode :=
 (.seq (.reg [un (.box 3 (.t 0)),
 un (.box 4 (.t 1)),
 un (.asg 6 (.c (.bool false)))])
 (.seq (.reg [un (.mov 7 (.t 2)),
 un (.len 8 (.t 7)),
 un (.fadr 9 0 (.t 3)),
 un (.ld 10 1 false (.t 9)),
 un (.bin 11 .eql (.t 8) (.t 10)),
 un (.asg 12 (.t 11)),
 ⟨some (12, true), .mov 13 (.t 2)⟩,
 ⟨some (12, true), .fadr 14 0 (.t 4)⟩,
 ⟨some (12, true), .ld 15 1 false (.t 14)⟩,
 ⟨some (12, true), .call 16 Hd [((.t 13), false), ((.t 15), false)]⟩,
 un (.pick 17 (.t 12) (.t 16) (.c (.bool false))),
 un (.asg 6 (.t 17))])
 (.drop [7, 8, 9, 10, 11, 12, 13, 14, 15, 16, 17] .ret)))
abbrev Afo : List RS := [.t 6]
theorem Agp : Ba Try.prog P6 18 Af1 Afo = true := by kernel_rfl
def N2 : ACode :=
 (.seq (.reg [un (.bin 24 .lss (.t 23) (.t 22))])
 (.seq (.cond (.t 24) .skip
 (.exit 2))
 (.seq (.block 3 (.seq (.reg [un (.mov 25 (.t 23)),
 un (.iad 26 1 (.t 21) (.t 23)),
 un (.ld 27 1 false (.t 26)),
 un (.asg 10 (.t 25)),
 un (.asg 11 (.t 27))])
 (.drop [25, 26, 27] (.seq (.dreg [(un (.mov 28 (.t 2)), []),
 (un (.mov 29 (.t 11)), [28]),
 (un (.iad 30 1 (.t 28) (.t 29)), []),
 (un (.ld 31 1 false (.t 30)), []),
 (un (.fadr 32 1 (.t 4)), [28, 29, 30, 31]),
 (un (.ld 33 1 false (.t 32)), [28, 29, 30, 31]),
 (un (.mov 34 (.t 8)), [28, 29, 30, 31, 32, 33]),
 (un (.iad 35 2 (.t 33) (.t 34)), [28, 29, 30, 31]),
 (un (.fadr 36 1 (.t 35)), [28, 29, 30, 31]),
 (un (.ld 37 1 false (.t 36)), [28, 29, 30, 31]),
 (un (.mov 38 (.t 10)), [28, 29, 30, 31, 32, 33, 34, 35, 36, 37]),
 (un (.fadr 39 0 (.t 9)), [28, 29, 30, 31, 32, 33, 34, 35, 36, 37, 38]),
 (un (.ld 40 1 false (.t 39)), [28, 29, 30, 31, 32, 33, 34, 35, 36, 37, 38]),
 (un (.ld 41 2 true (.t 3)), [28, 29, 30, 31, 32, 33, 34, 35, 36, 37, 38, 39, 40]),
 (un (.ld 42 2 true (.t 4)), [28, 29, 30, 31, 32, 33, 34, 35, 36, 37, 38, 39, 40, 41]),
 (un (.mov 43 (.t 2)), [28, 29, 30, 31, 32, 33, 34, 35, 36, 37, 38, 39, 40, 41, 42]),
 (un (.call 44 I0 [((.t 38), false), ((.t 40), false), ((.t 41), false), ((.t 42), false), ((.t 43), false)]), [28, 29, 30, 31, 32, 33, 34, 35, 36, 37]),
 (un (.iad 45 1 (.t 37) (.t 44)), [28, 29, 30, 31]),
 (un (.ld 46 1 false (.t 45)), [28, 29, 30, 31])]
 [un (.bin 47 .neq (.t 31) (.t 46))])
 (.drop [28, 29, 30, 31, 32, 33, 34, 35, 36, 37, 38, 39, 40, 41, 42, 43, 44, 45, 46] (.cond (.t 47) (.seq (.reg [un (.mov 48 (.t 8)),
 un (.mov 49 (.t 10)),
 un (.asg 6 (.t 48)),
 un (.asg 7 (.t 49))])
 (.drop [48, 49] .ret))
 .skip))))))
 (.drop [25, 26, 27, 10, 11, 28, 29, 30, 31, 32, 33, 34, 35, 36, 37, 38, 39, 40, 41, 42, 43, 44, 45, 46, 47, 48, 49] (.reg [un (.bin 50 .add (.t 23) (.c (.int .i64 1))),
 un (.asg 23 (.t 50))])))))
def Nb : ACode :=
 (.seq (.reg [un (.bin 16 .lss (.t 15) (.t 14))])
 (.seq (.cond (.t 16) .skip
 (.exit 0))
 (.seq (.block 1 (.seq (.reg [un (.mov 17 (.t 15)),
 un (.iad 18 2 (.t 13) (.t 15)),
 un (.ld 19 2 true (.t 18)),
 un (.alc 9 (.agg [.int .i64 0, .nilsl 1])),
 un (.asg 8 (.t 17)),
 un (.st 2 (.t 9) (.t 19))])
 (.drop [17, 18, 19] (.seq (.reg [un (.fadr 20 1 (.t 9)),
 un (.ld 21 1 false (.t 20)),
 un (.len 22 (.t 21)),
 un (.mov 23 (.c (.int .i64 0)))])
 (.drop [20] (.block 2 (.loop N2)))))))
 (.drop [17, 18, 19, 9, 8, 20, 21, 22, 23, 24, 25, 26, 27, 10, 11, 28, 29, 30, 31, 32, 33, 34, 35, 36, 37, 38, 39, 40, 41, 42, 43, 44, 45, 46, 47, 48, 49, 50] (.reg [un (.bin 51 .add (.t 15) (.c (.int .i64 1))),
 un (.asg 15 (.t 51))])))))
def Ab1 : ACode :=
 (.seq (.reg [un (.box 3 (.t 0)),
 un (.box 4 (.t 1)),
 un (.asg 6 (.c (.int .i64 0))),
 un (.asg 7 (.c (.int .i64 0)))])
 (.seq (.seq (.reg [un (.fadr 12 1 (.t 3)),
 un (.ld 13 1 false (.t 12)),
 un (.len 14 (.t 13)),
 un (.mov 15 (.c (.int .i64 0)))])
 (.drop [12] (.block 0 (.loop Nb))))
 (.drop [12, 13, 14, 15, 16, 17, 18, 19, 9, 8, 20, 21, 22, 23, 24, 25, 26, 27, 10, 11, 28, 29, 30, 31, 32, 33, 34, 35, 36, 37, 38, 39, 40, 41, 42, 43, 44, 45, 46, 47, 48, 49, 50, 51] (.seq (.reg [un (.asg 6 (.c (.int .i64 (-1)))),
 un (.asg 7 (.c (.int .i64 0)))])
 .ret))))
abbrev Aah : List RS := [.t 6, .t 7]
theorem Zl : Ba Try.prog Md 52 Ab1 Aah = true := by kernel_rfl
def Ac0 : ACode :=
 (.seq (.reg [un (.box 2 (.t 0)),
 un (.box 3 (.t 1)),
 un (.asg 4 (.c (.bool false)))])
 (.seq (.dreg [(un (.ld 5 2 true (.t 2)), []),
 (un (.call 6 Jx [((.t 5), false)]), []),
 (un (.ld 7 2 true (.t 3)), [5, 6])]
 [un (.call 8 Jx [((.t 7), false)]),
 un (.call 9 Oi [((.t 6), false), ((.t 8), false)]),
 un (.asg 4 (.t 9))])
 (.drop [5, 6, 7, 8, 9] .ret)))
abbrev Add : List RS := [.t 4]
theorem Adk : Ba Try.prog N9 10 Ac0 Add = true := by kernel_rfl
def N0 : ACode :=
 (.seq (.seq (.reg [un (.mov 19 (.t 10)),
 un (.fadr 20 1 (.t 3)),
 un (.ld 21 1 false (.t 20)),
 un (.mov 22 (.t 9)),
 un (.iad 23 2 (.t 21) (.t 22)),
 un (.fadr 24 1 (.t 23)),
 un (.ld 25 1 false (.t 24)),
 un (.len 26 (.t 25)),
 un (.bin 27 .lss (.t 19) (.t 26))])
 (.drop [19, 20, 21, 22, 23, 24, 25, 26] (.cond (.t 27) .skip
 (.exit 2))))
 (.drop [19, 20, 21, 22, 23, 24, 25, 26, 27] (.seq (.block 3 (.seq (.dreg [(un (.fadr 30 0 (.t 3)), []),
 (un (.ld 31 1 false (.t 30)), []),
 (un (.fadr 32 1 (.t 3)), [30, 31]),
 (un (.ld 33 1 false (.t 32)), [30, 31]),
 (un (.mov 34 (.t 9)), [30, 31, 32, 33]),
 (un (.iad 35 2 (.t 33) (.t 34)), [30, 31]),
 (un (.fadr 36 0 (.t 35)), [30, 31]),
 (un (.ld 37 1 false (.t 36)), [30, 31]),
 (un (.mov 38 (.t 10)), [30, 31, 32, 33, 34, 35, 36, 37])]
 [un (.call 39 Fq [((.t 31), false), ((.t 37), false), ((.t 38), false)]),
 un (.asg 11 (.t 39))])
 (.drop [30, 31, 32, 33, 34, 35, 36, 37, 38, 39] (.seq (.dreg [(un (.mov 40 (.t 2)), []),
 (un (.fadr 41 1 (.t 3)), [40]),
 (un (.ld 42 1 false (.t 41)), [40]),
 (un (.mov 43 (.t 9)), [40, 41, 42]),
 (un (.iad 44 2 (.t 42) (.t 43)), [40]),
 (un (.fadr 45 1 (.t 44)), [40]),
 (un (.ld 46 1 false (.t 45)), [40]),
 (un (.mov 47 (.t 10)), [40, 41, 42, 43, 44, 45, 46]),
 (un (.iad 48 1 (.t 46) (.t 47)), [40]),
 (un (.ld 49 1 false (.t 48)), [40]),
 (un (.iad 50 1 (.t 40) (.t 49)), []),
 (un (.ld 51 1 false (.t 50)), []),
 (un (.ld 52 2 true (.t 4)), [40, 41, 42, 43, 44, 45, 46, 47, 48, 49, 50, 51]),
 (un (.mov 53 (.t 9)), [40, 41, 42, 43, 44, 45, 46, 47, 48, 49, 50, 51, 52]),
 (un (.mov 54 (.t 2)), [40, 41, 42, 43, 44, 45, 46, 47, 48, 49, 50, 51, 52, 53]),
 (un (.mov 55 (.t 11)), [40, 41, 42, 43, 44, 45, 46, 47, 48, 49, 50, 51, 52, 53, 54]),
 (un (.call 56 K6 [((.t 54), false), ((.t 55), false)]), [40, 41, 42, 43, 44, 45, 46, 47, 48, 49, 50, 51, 52, 53]),
 (un (.call 57 Mg [((.t 52), false), ((.t 53), false), ((.t 56), false)]), [40, 41, 42, 43, 44, 45, 46, 47, 48, 49, 50, 51])]
 [un (.bin 58 .neq (.t 51) (.t 57))])
 (.drop [40, 41, 42, 43, 44, 45, 46, 47, 48, 49, 50, 51, 52, 53, 54, 55, 56, 57] (.cond (.t 58) (.seq (.reg [un (.mov 59 (.t 9)),
 un (.mov 60 (.t 11)),
 un (.asg 6 (.t 59)),
 un (.asg 7 (.t 60)),
 un (.asg 8 (.c (.bool true)))])
 (.drop [59, 60] .ret))
 .skip))))))
 (.drop [30, 31, 32, 33, 34, 35, 36, 37, 38, 39, 11, 40, 41, 42, 43, 44, 45, 46, 47, 48, 49, 50, 51, 52, 53, 54, 55, 56, 57, 58, 59, 60] (.reg [un (.mov 28 (.t 10)),
 un (.bin 29 .add (.t 28) (.c (.int .i64 1))),
 un (.asg 10 (.t 29))])))))
def Nr : ACode :=
 (.seq (.seq (.reg [un (.mov 12 (.t 9)),
 un (.fadr 13 1 (.t 3)),
 un (.ld 14 1 false (.t 13)),
 un (.len 15 (.t 14)),
 un (.bin 16 .lss (.t 12) (.t 15))])
 (.drop [12, 13, 14, 15] (.cond (.t 16) .skip
 (.exit 0))))
 (.drop [12, 13, 14, 15, 16] (.seq (.block 1 (.seq (.reg [un (.asg 10 (.c (.int .i64 0)))])
 (.block 2 (.loop N0))))
 (.drop [10, 19, 20, 21, 22, 23, 24, 25, 26, 27, 30, 31, 32, 33, 34, 35, 36, 37, 38, 39, 11, 40, 41, 42, 43, 44, 45, 46, 47, 48, 49, 50, 51, 52, 53, 54, 55, 56, 57, 58, 59, 60, 28, 29] (.reg [un (.mov 17 (.t 9)),
 un (.bin 18 .add (.t 17) (.c (.int .i64 1))),
 un (.asg 9 (.t 18))])))))
def Zo : ACode :=
 (.seq (.reg [un (.box 3 (.t 0)),
 un (.box 4 (.t 1)),
 un (.asg 6 (.c (.int .i64 0))),
 un (.asg 7 (.c (.nilsl 1))),
 un (.asg 8 (.c (.bool false)))])
 (.seq (.seq (.reg [un (.asg 9 (.c (.int .i64 0)))])
 (.block 0 (.loop Nr)))
 (.drop [9, 12, 13, 14, 15, 16, 10, 19, 20, 21, 22, 23, 24, 25, 26, 27, 30, 31, 32, 33, 34, 35, 36, 37, 38, 39, 11, 40, 41, 42, 43, 44, 45, 46, 47, 48, 49, 50, 51, 52, 53, 54, 55, 56, 57, 58, 59, 60, 28, 29, 17, 18] (.seq (.reg [un (.bsl 61 1 []),
 un (.asg 6 (.c (.int .i64 0))),
 un (.asg 7 (.t 61)),
 un (.asg 8 (.c (.bool false)))])
 (.drop [61] .ret)))))
abbrev Aa8 : List RS := [.t 6, .t 7, .t 8]
theorem Zb : Ba Try.prog L7 62 Zo Aa8 = true := by kernel_rfl
def Ms : ACode :=
 (.seq (.reg [un (.bin 11 .lss (.t 10) (.t 9))])
 (.seq (.cond (.t 11) .skip
 (.exit 0))
 (.seq (.block 1 (.seq (.reg [un (.iad 12 1 (.t 8) (.t 10)),
 un (.ld 13 1 false (.t 12)),
 un (.asg 5 (.t 13))])
 (.drop [12, 13] (.reg [un (.mov 14 (.t 3)),
 un (.mov 15 (.t 5)),
 un (.call 16 Lz [((.t 15), false)]),
 un (.mup (.t 14) (.t 16) (.c (.bool true)))]))))
 (.drop [12, 13, 5, 14, 15, 16] (.reg [un (.bin 17 .add (.t 10) (.c (.int .i64 1))),
 un (.asg 10 (.t 17))])))))
def X8 : ACode :=
 (.seq (.reg [un (.box 1 (.t 0)),
 un (.asg 2 (.c (.dead)))])
 (.seq (.reg [un (.mkm 6),
 un (.asg 3 (.t 6))])
 (.drop [6] (.seq (.seq (.reg [un (.fadr 7 1 (.t 1)),
 un (.ld 8 1 false (.t 7)),
 un (.len 9 (.t 8)),
 un (.mov 10 (.c (.int .i64 0)))])
 (.drop [7] (.block 0 (.loop Ms))))
 (.drop [7, 8, 9, 10, 11, 12, 13, 5, 14, 15, 16, 17] (.seq (.reg [un (.mov 18 (.t 3)),
 un (.asg 2 (.t 18))])
 (.drop [18] .ret)))))))
abbrev Yq : List RS := [.t 2]
theorem Ya : Ba Try.prog Lg 19 X8 Yq = true := by kernel_rfl
def Sx : ACode :=
 (.seq (.reg [un (.mov 18 (.t 0)),
 un (.bin 19 .lss (.t 18) (.c (.int .i64 1))),
 un (.asg 20 (.t 19)),
 ⟨some (20, false), .mov 21 (.t 0)⟩,
 ⟨some (20, false), .bin 22 .gtr (.t 21) (.c (.int .i64 4))⟩,
 un (.pick 23 (.t 20) (.c (.bool true)) (.t 22)),
 un (.asg 24 (.t 23)),
 ⟨some (24, false), .ld 25 2 true (.t 4)⟩,
 ⟨some (24, false), .mov 26 (.t 0)⟩,
 ⟨some (24, false), .call 27 F3 [((.t 25), false), ((.t 26), false)]⟩,
 ⟨some (24, false), .un 28 .not (.t 27)⟩,
 un (.pick 29 (.t 24) (.c (.bool true)) (.t 28)),
 un (.asg 30 (.t 29)),
 ⟨some (30, false), .ld 31 2 true (.t 5)⟩,
 ⟨some (30, false), .mov 32 (.t 0)⟩,
 ⟨some (30, false), .call 33 F3 [((.t 31), false), ((.t 32), false)]⟩,
 ⟨some (30, false), .un 34 .not (.t 33)⟩,
 un (.pick 35 (.t 30) (.c (.bool true)) (.t 34)),
 un (.asg 36 (.t 35)),
 ⟨some (36, false), .fadr 37 0 (.t 4)⟩,
 ⟨some (36, false), .ld 38 1 false (.t 37)⟩,
 ⟨some (36, false), .bin 39 .gtr (.t 38) (.c (.int .i64 2))⟩,
 un (.pick 40 (.t 36) (.c (.bool true)) (.t 39)),
 un (.asg 41 (.t 40)),
 ⟨some (41, false), .fadr 42 0 (.t 5)⟩,
 ⟨some (41, false), .ld 43 1 false (.t 42)⟩,
 ⟨some (41, false), .bin 44 .gtr (.t 43) (.c (.int .i64 2))⟩,
 un (.pick 45 (.t 41) (.c (.bool true)) (.t 44))])
 (.drop [18, 19, 20, 21, 22, 23, 24, 25, 26, 27, 28, 29, 30, 31, 32, 33, 34, 35, 36, 37, 38, 39, 40, 41, 42, 43, 44] (.cond (.t 45) (.seq (.reg [un (.asg 6 (.c (.bool false))),
 un (.asg 7 (.c (.bool false)))])
 .ret)
 .skip)))
def Lm : ACode :=
 (.seq (.seq (.reg [un (.mov 65 (.t 14)),
 un (.mov 66 (.t 8)),
 un (.bin 67 .lss (.t 65) (.t 66))])
 (.drop [65, 66] (.cond (.t 67) .skip
 (.exit 2))))
 (.drop [65, 66, 67] (.seq (.block 3 (.dreg [(un (.mov 70 (.t 12)), []),
 (un (.mov 71 (.t 0)), [70]),
 (un (.bin 72 .mul (.t 70) (.t 71)), []),
 (un (.fadr 73 1 (.t 5)), [70, 71, 72]),
 (un (.ld 74 1 false (.t 73)), [70, 71, 72]),
 (un (.mov 75 (.t 11)), [70, 71, 72, 73, 74]),
 (un (.mov 76 (.t 14)), [70, 71, 72, 73, 74, 75]),
 (un (.mov 77 (.t 9)), [70, 71, 72, 73, 74, 75, 76]),
 (un (.bin 78 .mul (.t 76) (.t 77)), [70, 71, 72, 73, 74, 75]),
 (un (.mov 79 (.t 14)), [70, 71, 72, 73, 74, 75, 76, 77, 78]),
 (un (.bin 80 .add (.t 79) (.c (.int .i64 1))), [70, 71, 72, 73, 74, 75, 76, 77, 78]),
 (un (.mov 81 (.t 9)), [70, 71, 72, 73, 74, 75, 76, 77, 78, 79, 80]),
 (un (.bin 82 .mul (.t 80) (.t 81)), [70, 71, 72, 73, 74, 75, 76, 77, 78]),
 (un (.slc 83 1 (.t 75) (some (.t 78)) (some (.t 82))), [70, 71, 72, 73, 74]),
 (un (.mov 84 (.t 0)), [70, 71, 72, 73, 74, 75, 76, 77, 78, 79, 80, 81, 82, 83]),
 (un (.call 85 Ma [((.t 83), false), ((.t 84), false)]), [70, 71, 72, 73, 74]),
 (un (.iad 86 1 (.t 74) (.t 85)), [70, 71, 72]),
 (un (.ld 87 1 false (.t 86)), [70, 71, 72])]
 [un (.bin 88 .add (.t 72) (.t 87)),
 un (.asg 12 (.t 88))]))
 (.drop [70, 71, 72, 73, 74, 75, 76, 77, 78, 79, 80, 81, 82, 83, 84, 85, 86, 87, 88] (.reg [un (.mov 68 (.t 14)),
 un (.bin 69 .add (.t 68) (.c (.int .i64 1))),
 un (.asg 14 (.t 69))])))))
def Ll : ACode :=
 (.seq (.seq (.reg [un (.mov 94 (.t 17)),
 un (.mov 95 (.t 8)),
 un (.bin 96 .lss (.t 94) (.t 95))])
 (.drop [94, 95] (.cond (.t 96) .skip
 (.exit 6))))
 (.drop [94, 95, 96] (.seq (.block 7 (.reg [un (.mov 99 (.t 16)),
 un (.mov 100 (.t 0)),
 un (.bin 101 .mul (.t 99) (.t 100)),
 un (.mov 102 (.t 11)),
 un (.mov 103 (.t 17)),
 un (.mov 104 (.t 9)),
 un (.bin 105 .mul (.t 103) (.t 104)),
 un (.mov 106 (.t 15)),
 un (.bin 107 .add (.t 105) (.t 106)),
 un (.iad 108 1 (.t 102) (.t 107)),
 un (.ld 109 1 false (.t 108)),
 un (.bin 110 .add (.t 101) (.t 109)),
 un (.asg 16 (.t 110))]))
 (.drop [99, 100, 101, 102, 103, 104, 105, 106, 107, 108, 109, 110] (.reg [un (.mov 97 (.t 17)),
 un (.bin 98 .add (.t 97) (.c (.int .i64 1))),
 un (.asg 17 (.t 98))])))))
def Lk : ACode :=
 (.seq (.seq (.reg [un (.mov 89 (.t 15)),
 un (.mov 90 (.t 9)),
 un (.bin 91 .lss (.t 89) (.t 90))])
 (.drop [89, 90] (.cond (.t 91) .skip
 (.exit 4))))
 (.drop [89, 90, 91] (.seq (.block 5 (.seq (.reg [un (.asg 16 (.c (.int .i64 0)))])
 (.seq (.seq (.reg [un (.asg 17 (.c (.int .i64 0)))])
 (.block 6 (.loop Ll)))
 (.drop [17, 94, 95, 96, 99, 100, 101, 102, 103, 104, 105, 106, 107, 108, 109, 110, 97, 98] (.reg [un (.mov 111 (.t 13)),
 un (.mov 112 (.t 0)),
 un (.bin 113 .mul (.t 111) (.t 112)),
 un (.fadr 114 1 (.t 4)),
 un (.ld 115 1 false (.t 114)),
 un (.mov 116 (.t 16)),
 un (.iad 117 1 (.t 115) (.t 116)),
 un (.ld 118 1 false (.t 117)),
 un (.bin 119 .add (.t 113) (.t 118)),
 un (.asg 13 (.t 119))])))))
 (.drop [16, 17, 94, 95, 96, 99, 100, 101, 102, 103, 104, 105, 106, 107, 108, 109, 110, 97, 98, 111, 112, 113, 114, 115, 116, 117, 118, 119] (.reg [un (.mov 92 (.t 15)),
 un (.bin 93 .add (.t 92) (.c (.int .i64 1))),
 un (.asg 15 (.t 93))])))))
def Lp : ACode :=
 (.seq (.seq (.reg [un (.mov 50 (.t 10)),
 un (.mov 51 (.t 0)),
 un (.mov 52 (.t 8)),
 un (.mov 53 (.t 9)),
 un (.bin 54 .mul (.t 52) (.t 53)),
 un (.call 55 Gv [((.t 51), false), ((.t 54), false)]),
 un (.bin 56 .lss (.t 50) (.t 55))])
 (.drop [50, 51, 52, 53, 54, 55] (.cond (.t 56) .skip
 (.exit 0))))
 (.drop [50, 51, 52, 53, 54, 55, 56] (.seq (.block 1 (.seq (.reg [un (.mov 59 (.t 10)),
 un (.mov 60 (.t 8)),
 un (.mov 61 (.t 9)),
 un (.bin 62 .mul (.t 60) (.t 61)),
 un (.mov 63 (.t 0)),
 un (.call 64 Jv [((.t 59), false), ((.t 62), false), ((.t 63), false)]),
 un (.asg 11 (.t 64))])
 (.drop [59, 60, 61, 62, 63, 64] (.seq (.reg [un (.asg 12 (.c (.int .i64 0))),
 un (.asg 13 (.c (.int .i64 0)))])
 (.seq (.seq (.reg [un (.asg 14 (.c (.int .i64 0)))])
 (.frz [11] (.block 2 (.loop Lm))))
 (.drop [14, 65, 66, 67, 70, 71, 72, 73, 74, 75, 76, 77, 78, 79, 80, 81, 82, 83, 84, 85, 86, 87, 88, 68, 69] (.seq (.seq (.reg [un (.asg 15 (.c (.int .i64 0)))])
 (.block 4 (.loop Lk)))
 (.drop [15, 89, 90, 91, 16, 17, 94, 95, 96, 99, 100, 101, 102, 103, 104, 105, 106, 107, 108, 109, 110, 97, 98, 111, 112, 113, 114, 115, 116, 117, 118, 119, 92, 93] (.seq (.dreg [(un (.fadr 120 1 (.t 4)), []),
 (un (.ld 121 1 false (.t 120)), []),
 (un (.mov 122 (.t 12)), [120, 121]),
 (un (.iad 123 1 (.t 121) (.t 122)), []),
 (un (.ld 124 1 false (.t 123)), []),
 (un (.fadr 125 1 (.t 5)), [120, 121, 122, 123, 124]),
 (un (.ld 126 1 false (.t 125)), [120, 121, 122, 123, 124]),
 (un (.mov 127 (.t 13)), [120, 121, 122, 123, 124, 125, 126]),
 (un (.iad 128 1 (.t 126) (.t 127)), [120, 121, 122, 123, 124]),
 (un (.ld 129 1 false (.t 128)), [120, 121, 122, 123, 124])]
 [un (.bin 130 .neq (.t 124) (.t 129))])
 (.drop [120, 121, 122, 123, 124, 125, 126, 127, 128, 129] (.cond (.t 130) (.seq (.reg [un (.asg 6 (.c (.bool false))),
 un (.asg 7 (.c (.bool true)))])
 .ret)
 .skip)))))))))))
 (.drop [59, 60, 61, 62, 63, 64, 11, 12, 13, 14, 65, 66, 67, 70, 71, 72, 73, 74, 75, 76, 77, 78, 79, 80, 81, 82, 83, 84, 85, 86, 87, 88, 68, 69, 15, 89, 90, 91, 16, 17, 94, 95, 96, 99, 100, 101, 102, 103, 104, 105, 106, 107, 108, 109, 110, 97, 98, 111, 112, 113, 114, 115, 116, 117, 118, 119, 92, 93, 120, 121, 122, 123, 124, 125, 126, 127, 128, 129, 130] (.reg [un (.mov 57 (.t 10)),
 un (.bin 58 .add (.t 57) (.c (.int .i64 1))),
 un (.asg 10 (.t 58))])))))
def W0 : ACode :=
 (.seq (.reg [un (.box 4 (.t 1)),
 un (.box 5 (.t 2)),
 un (.asg 6 (.c (.bool false))),
 un (.asg 7 (.c (.bool false)))])
 (.seq (.cut Sx)
 (.drop [18, 19, 20, 21, 22, 23, 24, 25, 26, 27, 28, 29, 30, 31, 32, 33, 34, 35, 36, 37, 38, 39, 40, 41, 42, 43, 44, 45] (.seq (.dregp 0 [8] [(un (.fadr 46 0 (.t 4)), []),
 (un (.ld 47 1 false (.t 46)), []),
 (un (.fadr 48 0 (.t 5)), [46, 47, 47]),
 (un (.ld 49 1 false (.t 48)), [46, 47, 47]),
 (un (.asg 8 (.t 47)), [48, 49])]
 [un (.asg 9 (.t 49))])
 (.drop [46, 47, 48, 49] (.seq (.seq (.reg [un (.asg 10 (.c (.int .i64 0)))])
 (.block 0 (.loop Lp)))
 (.drop [10, 50, 51, 52, 53, 54, 55, 56, 59, 60, 61, 62, 63, 64, 11, 12, 13, 14, 65, 66, 67, 70, 71, 72, 73, 74, 75, 76, 77, 78, 79, 80, 81, 82, 83, 84, 85, 86, 87, 88, 68, 69, 15, 89, 90, 91, 16, 17, 94, 95, 96, 99, 100, 101, 102, 103, 104, 105, 106, 107, 108, 109, 110, 97, 98, 111, 112, 113, 114, 115, 116, 117, 118, 119, 92, 93, 120, 121, 122, 123, 124, 125, 126, 127, 128, 129, 130, 57, 58] (.seq (.reg [un (.asg 6 (.c (.bool true))),
 un (.asg 7 (.c (.bool true)))])
 .ret))))))))
abbrev Wo : List RS := [.t 6, .t 7]
theorem Wh : Ba Try.prog G2 131 W0 Wo = true := by kernel_rfl
def Wv : ACode :=
 (.seq (.reg [un (.box 4 (.t 1)),
 un (.box 5 (.t 2)),
 un (.asg 6 (.c (.bool false))),
 un (.asg 7 (.c (.bool false)))])
 (.seq (.seq (.reg [un (.mov 8 (.t 0)),
 un (.call 9 E6 [((.t 8), false), ((.c (.int .i64 1)), false), ((.c (.int .i64 4)), false)]),
 un (.un 10 .not (.t 9)),
 un (.asg 11 (.t 10)),
 ⟨some (11, false), .mov 12 (.t 0)⟩,
 ⟨some (11, false), .ld 13 2 true (.t 4)⟩,
 ⟨some (11, false), .call 14 Hx [((.t 12), false), ((.t 13), false)]⟩,
 ⟨some (11, false), .un 15 .not (.t 14)⟩,
 un (.pick 16 (.t 11) (.c (.bool true)) (.t 15)),
 un (.asg 17 (.t 16)),
 ⟨some (17, false), .mov 18 (.t 0)⟩,
 ⟨some (17, false), .ld 19 2 true (.t 5)⟩,
 ⟨some (17, false), .call 20 Hx [((.t 18), false), ((.t 19), false)]⟩,
 ⟨some (17, false), .un 21 .not (.t 20)⟩,
 un (.pick 22 (.t 17) (.c (.bool true)) (.t 21)),
 un (.asg 23 (.t 22)),
 ⟨some (23, false), .fadr 24 0 (.t 4)⟩,
 ⟨some (23, false), .ld 25 1 false (.t 24)⟩,
 ⟨some (23, false), .bin 26 .gtr (.t 25) (.c (.int .i64 2))⟩,
 un (.pick 27 (.t 23) (.c (.bool true)) (.t 26)),
 un (.asg 28 (.t 27)),
 ⟨some (28, false), .fadr 29 0 (.t 5)⟩,
 ⟨some (28, false), .ld 30 1 false (.t 29)⟩,
 ⟨some (28, false), .bin 31 .gtr (.t 30) (.c (.int .i64 2))⟩,
 un (.pick 32 (.t 28) (.c (.bool true)) (.t 31))])
 (.drop [8, 9, 10, 11, 12, 13, 14, 15, 16, 17, 18, 19, 20, 21, 22, 23, 24, 25, 26, 27, 28, 29, 30, 31] (.cond (.t 32) (.seq (.reg [un (.asg 6 (.c (.bool false))),
 un (.asg 7 (.c (.bool false)))])
 .ret)
 .skip)))
 (.drop [8, 9, 10, 11, 12, 13, 14, 15, 16, 17, 18, 19, 20, 21, 22, 23, 24, 25, 26, 27, 28, 29, 30, 31, 32] (.seq (.reg [un (.mov 33 (.t 0)),
 un (.ld 34 2 true (.t 4)),
 un (.ld 35 2 true (.t 5)),
 un (.call 36 Is [((.t 33), false), ((.t 34), false), ((.t 35), false)]),
 un (.asg 6 (.t 36)),
 un (.asg 7 (.c (.bool true)))])
 (.drop [33, 34, 35, 36] .ret)))))
abbrev Wn : List RS := [.t 6, .t 7]
theorem Wy : Ba Try.prog I9 37 Wv Wn = true := by kernel_rfl
def Uu : ACode :=
 (.seq (.reg [un (.mov 9 (.t 0)),
 un (.call 10 Ju [((.t 9), false)]),
 un (.un 11 .not (.t 10)),
 un (.asg 12 (.t 11)),
 ⟨some (12, false), .ld 13 2 true (.t 3)⟩,
 ⟨some (12, false), .mov 14 (.t 0)⟩,
 ⟨some (12, false), .call 15 F3 [((.t 13), false), ((.t 14), false)]⟩,
 ⟨some (12, false), .un 16 .not (.t 15)⟩,
 un (.pick 17 (.t 12) (.c (.bool true)) (.t 16)),
 un (.asg 18 (.t 17)),
 ⟨some (18, false), .fadr 19 0 (.t 3)⟩,
 ⟨some (18, false), .ld 20 1 false (.t 19)⟩,
 ⟨some (18, false), .bin 21 .gtr (.t 20) (.c (.int .i64 2))⟩,
 un (.pick 22 (.t 18) (.c (.bool true)) (.t 21))])
 (.drop [9, 10, 11, 12, 13, 14, 15, 16, 17, 18, 19, 20, 21] (.cond (.t 22) (.seq (.reg [un (.bld 23 [.int .i64 0, .nilsl 1] []),
 un (.st 2 (.t 4) (.t 23)),
 un (.asg 5 (.c (.bool false)))])
 (.drop [23] .ret))
 .skip)))
def Nl : ACode :=
 (.seq (.reg [un (.bin 32 .lss (.t 31) (.t 30))])
 (.seq (.cond (.t 32) .skip
 (.exit 0))
 (.seq (.block 1 (.seq (.reg [un (.mov 33 (.t 31)),
 un (.iad 34 1 (.t 29) (.t 31)),
 un (.ld 35 1 false (.t 34)),
 un (.asg 7 (.t 33)),
 un (.asg 8 (.t 35))])
 (.drop [33, 34, 35] (.dreg [(un (.fadr 36 1 (.t 6)), [43, 42, 45]),
 (un (.ld 37 1 false (.t 36)), [43, 42, 45]),
 (un (.mov 38 (.t 7)), [36, 37, 43]),
 (un (.fadr 39 0 (.t 3)), [36, 37, 38, 43]),
 (un (.ld 40 1 false (.t 39)), [36, 37, 38, 43]),
 (un (.mov 41 (.t 0)), [36, 37, 38, 39, 40, 43]),
 (un (.call 42 Jv [((.t 38), false), ((.t 40), false), ((.t 41), false)]), [36, 37, 43]),
 (un (.mov 43 (.t 8)), [36, 37, 38, 39, 40, 41, 42]),
 (un (.bsl 44 1 [(.t 43)]), [36, 37, 38, 39, 40, 41, 42]),
 (un (.app 45 1 (.t 42) (.t 44)), [36, 37, 43]),
 (un (.bsl 46 1 [(.t 45)]), [36, 37, 43, 42])]
 [un (.app 47 1 (.t 37) (.t 46)),
 un (.fadr 48 1 (.t 6)),
 un (.st 1 (.t 48) (.t 47))]))))
 (.drop [33, 34, 35, 7, 8, 36, 37, 38, 39, 40, 41, 42, 43, 44, 45, 46, 47, 48] (.reg [un (.bin 49 .add (.t 31) (.c (.int .i64 1))),
 un (.asg 31 (.t 49))])))))
def Aak : ACode :=
 (.seq (.reg [un (.box 3 (.t 1)),
 un (.alc 4 (.agg [.int .i64 0, .nilsl 1])),
 un (.asg 5 (.c (.bool false)))])
 (.seq (.cut Uu)
 (.drop [9, 10, 11, 12, 13, 14, 15, 16, 17, 18, 19, 20, 21, 22, 23] (.seq (.reg [un (.fadr 24 0 (.t 3)),
 un (.ld 25 1 false (.t 24)),
 un (.bin 26 .add (.t 25) (.c (.int .i64 1))),
 un (.bld 27 [.int .i64 0, .nilsl 1] [(0, 1, (.t 26))]),
 un (.alc 6 (.agg [.int .i64 0, .nilsl 1])),
 un (.st 2 (.t 6) (.t 27))])
 (.drop [24, 25, 26, 27] (.seq (.seq (.reg [un (.fadr 28 1 (.t 3)),
 un (.ld 29 1 false (.t 28)),
 un (.len 30 (.t 29)),
 un (.mov 31 (.c (.int .i64 0)))])
 (.drop [28] (.block 0 (.loop Nl))))
 (.drop [28, 29, 30, 31, 32, 33, 34, 35, 7, 8, 36, 37, 38, 39, 40, 41, 42, 43, 44, 45, 46, 47, 48, 49] (.seq (.reg [un (.ld 50 2 true (.t 6)),
 un (.st 2 (.t 4) (.t 50)),
 un (.asg 5 (.c (.bool true)))])
 (.drop [50] .ret)))))))))
abbrev Aa6 : List RS := [.c 4 2 true, .t 5]
theorem Ab0 : Ba Try.prog M0 51 Aak Aa6 = true := by kernel_rfl
def Ut : ACode :=
 (.seq (.reg [un (.mov 8 (.t 0)),
 un (.call 9 Oa [((.t 8), false)]),
 un (.un 10 .not (.t 9)),
 un (.asg 11 (.t 10)),
 ⟨some (11, false), .mov 12 (.t 0)⟩,
 ⟨some (11, false), .ld 13 2 true (.t 3)⟩,
 ⟨some (11, false), .call 14 Hx [((.t 12), false), ((.t 13), false)]⟩,
 ⟨some (11, false), .un 15 .not (.t 14)⟩,
 un (.pick 16 (.t 11) (.c (.bool true)) (.t 15)),
 un (.asg 17 (.t 16)),
 ⟨some (17, false), .fadr 18 0 (.t 3)⟩,
 ⟨some (17, false), .ld 19 1 false (.t 18)⟩,
 ⟨some (17, false), .bin 20 .eql (.t 19) (.c (.int .i64 3))⟩,
 un (.pick 21 (.t 17) (.c (.bool true)) (.t 20))])
 (.drop [8, 9, 10, 11, 12, 13, 14, 15, 16, 17, 18, 19, 20] (.cond (.t 21) (.seq (.reg [un (.bld 22 [.int .i64 0, .nilsl 1] []),
 un (.st 2 (.t 4) (.t 22)),
 un (.asg 5 (.c (.bool false)))])
 (.drop [22] .ret))
 .skip)))
def Nt : ACode :=
 (.seq (.seq (.reg [un (.mov 28 (.t 7)),
 un (.fadr 29 1 (.t 3)),
 un (.ld 30 1 false (.t 29)),
 un (.len 31 (.t 30)),
 un (.bin 32 .lss (.t 28) (.t 31))])
 (.drop [28, 29, 30, 31] (.cond (.t 32) .skip
 (.exit 0))))
 (.drop [28, 29, 30, 31, 32] (.seq (.block 1 (.dreg [(un (.fadr 35 1 (.t 6)), [46, 41, 48]),
 (un (.ld 36 1 false (.t 35)), [46, 41, 48]),
 (un (.mov 37 (.t 0)), [35, 36, 46]),
 (un (.fadr 38 0 (.t 3)), [35, 36, 37, 46]),
 (un (.ld 39 1 false (.t 38)), [35, 36, 37, 46]),
 (un (.mov 40 (.t 7)), [35, 36, 37, 38, 39, 46]),
 (un (.call 41 Fq [((.t 37), false), ((.t 39), false), ((.t 40), false)]), [35, 36, 46]),
 (un (.fadr 42 1 (.t 3)), [35, 36, 37, 38, 39, 40, 41]),
 (un (.ld 43 1 false (.t 42)), [35, 36, 37, 38, 39, 40, 41]),
 (un (.mov 44 (.t 7)), [35, 36, 37, 38, 39, 40, 41, 42, 43]),
 (un (.iad 45 1 (.t 43) (.t 44)), [35, 36, 37, 38, 39, 40, 41]),
 (un (.ld 46 1 false (.t 45)), [35, 36, 37, 38, 39, 40, 41]),
 (un (.bsl 47 1 [(.t 46)]), [35, 36, 37, 38, 39, 40, 41]),
 (un (.app 48 1 (.t 41) (.t 47)), [35, 36, 46]),
 (un (.bsl 49 1 [(.t 48)]), [35, 36, 46, 41])]
 [un (.app 50 1 (.t 36) (.t 49)),
 un (.fadr 51 1 (.t 6)),
 un (.st 1 (.t 51) (.t 50))]))
 (.drop [35, 36, 37, 38, 39, 40, 41, 42, 43, 44, 45, 46, 47, 48, 49, 50, 51] (.reg [un (.mov 33 (.t 7)),
 un (.bin 34 .add (.t 33) (.c (.int .i64 1))),
 un (.asg 7 (.t 34))])))))
def Z3 : ACode :=
 (.seq (.reg [un (.box 3 (.t 1)),
 un (.alc 4 (.agg [.int .i64 0, .nilsl 1])),
 un (.asg 5 (.c (.bool false)))])
 (.seq (.cut Ut)
 (.drop [8, 9, 10, 11, 12, 13, 14, 15, 16, 17, 18, 19, 20, 21, 22] (.seq (.reg [un (.fadr 23 0 (.t 3)),
 un (.ld 24 1 false (.t 23)),
 un (.bin 25 .add (.t 24) (.c (.int .i64 1))),
 un (.bsl 26 1 []),
 un (.bld 27 [.int .i64 0, .nilsl 1] [(0, 1, (.t 25)), (1, 1, (.t 26))]),
 un (.alc 6 (.agg [.int .i64 0, .nilsl 1])),
 un (.st 2 (.t 6) (.t 27))])
 (.drop [23, 24, 25, 26, 27] (.seq (.seq (.reg [un (.asg 7 (.c (.int .i64 0)))])
 (.block 0 (.loop Nt)))
 (.drop [7, 28, 29, 30, 31, 32, 35, 36, 37, 38, 39, 40, 41, 42, 43, 44, 45, 46, 47, 48, 49, 50, 51, 33, 34] (.seq (.reg [un (.ld 52 2 true (.t 6)),
 un (.st 2 (.t 4) (.t 52)),
 un (.asg 5 (.c (.bool true)))])
 (.drop [52] .ret)))))))))
abbrev Zm : List RS := [.c 4 2 true, .t 5]
theorem Abr : Ba Try.prog Mj 53 Z3 Zm = true := by kernel_rfl
def W5 : ACode :=
 (.seq (.reg [un (.fadr 4 0 (.t 1)),
 un (.ld 5 1 false (.t 4)),
 un (.call 6 E6 [((.t 5), false), ((.c (.int .i64 1)), false), ((.c (.int .i64 8)), false)]),
 un (.un 7 .not (.t 6)),
 un (.asg 8 (.t 7)),
 ⟨some (8, false), .fadr 9 1 (.t 1)⟩,
 ⟨some (8, false), .ld 10 1 false (.t 9)⟩,
 ⟨some (8, false), .len 11 (.t 10)⟩,
 ⟨some (8, false), .bin 12 .gtr (.t 11) (.c (.int .i64 4))⟩,
 un (.pick 13 (.t 8) (.c (.bool true)) (.t 12))])
 (.drop [4, 5, 6, 7, 8, 9, 10, 11, 12] (.cond (.t 13) (.seq (.reg [un (.asg 2 (.c (.bool false)))])
 .ret)
 .skip)))
def Pp : ACode :=
 (.seq (.seq (.reg [un (.mov 14 (.t 3)),
 un (.fadr 15 1 (.t 1)),
 un (.ld 16 1 false (.t 15)),
 un (.len 17 (.t 16)),
 un (.bin 18 .lss (.t 14) (.t 17))])
 (.drop [14, 15, 16, 17] (.cond (.t 18) .skip
 (.exit 0))))
 (.drop [14, 15, 16, 17, 18] (.seq (.block 1 (.seq (.dreg [(un (.fadr 21 0 (.t 1)), []),
 (un (.ld 22 1 false (.t 21)), []),
 (un (.fadr 23 1 (.t 1)), [21, 22]),
 (un (.ld 24 1 false (.t 23)), [21, 22]),
 (un (.mov 25 (.t 3)), [21, 22, 23, 24]),
 (un (.iad 26 2 (.t 24) (.t 25)), [21, 22]),
 (un (.ld 27 2 true (.t 26)), [21, 22])]
 [un (.call 28 Hx [((.t 22), false), ((.t 27), false)]),
 un (.un 29 .not (.t 28))])
 (.drop [21, 22, 23, 24, 25, 26, 27, 28] (.cond (.t 29) (.seq (.reg [un (.asg 2 (.c (.bool false)))])
 .ret)
 .skip))))
 (.drop [21, 22, 23, 24, 25, 26, 27, 28, 29] (.reg [un (.mov 19 (.t 3)),
 un (.bin 20 .add (.t 19) (.c (.int .i64 1))),
 un (.asg 3 (.t 20))])))))
def Aco : ACode :=
 (.seq (.reg [un (.box 1 (.t 0)),
 un (.asg 2 (.c (.bool false)))])
 (.seq (.cut W5)
 (.drop [4, 5, 6, 7, 8, 9, 10, 11, 12, 13] (.seq (.seq (.reg [un (.asg 3 (.c (.int .i64 0)))])
 (.block 0 (.loop Pp)))
 (.drop [3, 14, 15, 16, 17, 18, 21, 22, 23, 24, 25, 26, 27, 28, 29, 19, 20] (.seq (.reg [un (.asg 2 (.c (.bool true)))])
 .ret))))))
abbrev Acw : List RS := [.t 2]
theorem Ab6 : Ba Try.prog He 30 Aco Acw = true := by kernel_rfl
def W3 : ACode :=
 (.seq (.reg [un (.asg 4 (.c (.bool false)))])
 (.seq (.reg [un (.mov 5 (.t 0)),
 un (.mov 6 (.t 1)),
 un (.call 7 As [((.t 5), true), ((.t 6), false)]),
 un (.bin 8 .eql (.t 7) (.c (.int .i64 0))),
 un (.asg 4 (.t 8))])
 (.drop [5, 6, 7, 8] .ret)))
abbrev W2 : List RS := [.t 4]
theorem Xc : Ba Try.prog Gx 9 W3 W2 = true := by kernel_rfl
def Tk : ACode :=
 (.seq (.reg [un (.asg 4 (.c (.int .i64 0)))])
 (.seq (.reg [un (.mov 5 (.t 1)),
 un (.mov 6 (.t 0)),
 un (.mov 7 (.t 1)),
 un (.len 8 (.t 7)),
 un (.call 9 As [((.t 6), true), ((.t 8), false)]),
 un (.iad 10 1 (.t 5) (.t 9)),
 un (.ld 11 1 false (.t 10)),
 un (.asg 4 (.t 11))])
 (.drop [5, 6, 7, 8, 9, 10, 11] .ret)))
abbrev Ue : List RS := [.t 4]
theorem Uc : Ba Try.prog A2 12 Tk Ue = true := by kernel_rfl
def Aeu : ACode :=
 (.seq (.reg [un (.box 3 (.t 0)),
 un (.box 4 (.t 1)),
 un (.asg 6 (.c (.bool false)))])
 (.seq (.seq (.reg [un (.ld 9 2 true (.t 3)),
 un (.ld 10 2 true (.t 4)),
 un (.mov 11 (.t 2)),
 un (.call 12 P6 [((.t 9), false), ((.t 10), false), ((.t 11), false)]),
 un (.un 13 .not (.t 12))])
 (.drop [9, 10, 11, 12] (.cond (.t 13) (.seq (.reg [un (.asg 6 (.c (.bool false)))])
 .ret)
 .skip)))
 (.drop [9, 10, 11, 12, 13] (.seq (.reg [un (.ld 15 2 true (.t 3)),
 un (.ld 16 2 true (.t 4)),
 un (.mov 17 (.t 2)),
 un (.call 18 Md [((.t 15), false), ((.t 16), false), ((.t 17), false)]),
 un (.asg 14 (.t 18)),
 un (.ext 19 (.t 14) 0),
 un (.ext 20 (.t 14) 1),
 un (.asg 7 (.t 19)),
 un (.asg 8 (.t 20))])
 (.drop [15, 16, 17, 18, 14, 19, 20, 8] (.seq (.reg [un (.mov 21 (.t 7)),
 un (.bin 22 .lss (.t 21) (.c (.int .i64 0))),
 un (.asg 6 (.t 22))])
 (.drop [21, 22] .ret)))))))
abbrev Af8 : List RS := [.t 6]
theorem Ae4 : Ba Try.prog Qi 23 Aeu Af8 = true := by kernel_rfl
def Kq : ACode :=
 (.seq (.seq (.reg [un (.mov 43 (.t 15)),
 un (.bin 44 .geq (.t 43) (.c (.int .i64 0)))])
 (.drop [43] (.cond (.t 44) .skip
 (.exit 2))))
 (.drop [43, 44] (.seq (.block 3 (.seq (.reg [un (.mov 47 (.t 11)),
 un (.mov 48 (.t 15)),
 un (.mov 49 (.t 14)),
 un (.mov 50 (.t 10)),
 un (.bin 51 .rem (.t 49) (.t 50)),
 un (.iad 52 1 (.t 47) (.t 48)),
 un (.st 1 (.t 52) (.t 51))])
 (.drop [47, 48, 49, 50, 51, 52] (.reg [un (.mov 53 (.t 14)),
 un (.mov 54 (.t 10)),
 un (.bin 55 .quo (.t 53) (.t 54)),
 un (.asg 14 (.t 55))]))))
 (.drop [47, 48, 49, 50, 51, 52, 53, 54, 55] (.reg [un (.mov 45 (.t 15)),
 un (.bin 46 .sub (.t 45) (.c (.int .i64 1))),
 un (.asg 15 (.t 46))])))))
def Kn : ACode :=
 (.seq (.reg [un (.bin 64 .lss (.t 63) (.t 62))])
 (.seq (.cond (.t 64) .skip
 (.exit 6))
 (.seq (.block 7 (.seq (.reg [un (.iad 65 1 (.t 61) (.t 63)),
 un (.ld 66 1 false (.t 65)),
 un (.asg 19 (.t 66))])
 (.drop [65, 66] (.reg [un (.mov 67 (.t 17)),
 un (.mov 68 (.t 0)),
 un (.bin 69 .mul (.t 67) (.t 68)),
 un (.fadr 70 1 (.t 5)),
 un (.ld 71 1 false (.t 70)),
 un (.mov 72 (.t 19)),
 un (.iad 73 1 (.t 71) (.t 72)),
 un (.ld 74 1 false (.t 73)),
 un (.mov 75 (.t 16)),
 un (.iad 76 1 (.t 74) (.t 75)),
 un (.ld 77 1 false (.t 76)),
 un (.bin 78 .add (.t 69) (.t 77)),
 un (.asg 17 (.t 78))]))))
 (.drop [65, 66, 19, 67, 68, 69, 70, 71, 72, 73, 74, 75, 76, 77, 78] (.reg [un (.bin 79 .add (.t 63) (.c (.int .i64 1))),
 un (.asg 63 (.t 79))])))))
def Kd : ACode :=
 (.seq (.reg [un (.bin 59 .lss (.t 58) (.t 57))])
 (.seq (.cond (.t 59) .skip
 (.exit 4))
 (.seq (.block 5 (.seq (.reg [un (.mov 60 (.t 58)),
 un (.asg 16 (.t 60))])
 (.drop [60] (.seq (.reg [un (.asg 17 (.c (.int .i64 0)))])
 (.seq (.seq (.reg [un (.mov 61 (.t 11)),
 un (.len 62 (.t 61)),
 un (.mov 63 (.c (.int .i64 0)))])
 (.block 6 (.loop Kn)))
 (.drop [61, 62, 63, 64, 65, 66, 19, 67, 68, 69, 70, 71, 72, 73, 74, 75, 76, 77, 78, 79] (.reg [un (.mov 80 (.t 12)),
 un (.mov 81 (.t 16)),
 un (.fadr 82 1 (.t 4)),
 un (.ld 83 1 false (.t 82)),
 un (.mov 84 (.t 17)),
 un (.iad 85 1 (.t 83) (.t 84)),
 un (.ld 86 1 false (.t 85)),
 un (.iad 87 1 (.t 80) (.t 81)),
 un (.st 1 (.t 87) (.t 86))])))))))
 (.drop [60, 16, 17, 61, 62, 63, 64, 65, 66, 19, 67, 68, 69, 70, 71, 72, 73, 74, 75, 76, 77, 78, 79, 80, 81, 82, 83, 84, 85, 86, 87] (.reg [un (.bin 88 .add (.t 58) (.c (.int .i64 1))),
 un (.asg 58 (.t 88))])))))
def Kk : ACode :=
 (.seq (.seq (.reg [un (.mov 31 (.t 13)),
 un (.mov 32 (.t 10)),
 un (.fadr 33 0 (.t 4)),
 un (.ld 34 1 false (.t 33)),
 un (.call 35 Gv [((.t 32), false), ((.t 34), false)]),
 un (.bin 36 .lss (.t 31) (.t 35))])
 (.drop [31, 32, 33, 34, 35] (.cond (.t 36) .skip
 (.exit 0))))
 (.drop [31, 32, 33, 34, 35, 36] (.seq (.block 1 (.seq (.reg [un (.mov 39 (.t 13)),
 un (.asg 14 (.t 39))])
 (.drop [39] (.seq (.seq (.reg [un (.fadr 40 0 (.t 4)),
 un (.ld 41 1 false (.t 40)),
 un (.bin 42 .sub (.t 41) (.c (.int .i64 1))),
 un (.asg 15 (.t 42))])
 (.drop [40, 41, 42] (.block 2 (.loop Kq))))
 (.drop [40, 41, 42, 15, 43, 44, 47, 48, 49, 50, 51, 52, 53, 54, 55, 45, 46] (.seq (.seq (.reg [un (.mov 56 (.t 12)),
 un (.len 57 (.t 56)),
 un (.mov 58 (.c (.int .i64 0)))])
 (.drop [56] (.block 4 (.loop Kd))))
 (.drop [56, 57, 58, 59, 60, 16, 17, 61, 62, 63, 64, 65, 66, 19, 67, 68, 69, 70, 71, 72, 73, 74, 75, 76, 77, 78, 79, 80, 81, 82, 83, 84, 85, 86, 87, 88] (.seq (.reg [un (.mov 89 (.t 9)),
 un (.mov 90 (.t 12)),
 un (.call 91 Lz [((.t 90), false)]),
 un (.mlk 92 (.t 89) (.t 91) (.bool false) false),
 un (.un 93 .not (.t 92))])
 (.drop [89, 90, 91, 92] (.cond (.t 93) (.seq (.reg [un (.mov 94 (.t 11)),
 un (.mov 95 (.t 12)),
 un (.asg 6 (.t 94)),
 un (.asg 7 (.t 95)),
 un (.asg 8 (.c (.bool true)))])
 (.drop [94, 95] .ret))
 .skip))))))))))
 (.drop [39, 14, 40, 41, 42, 15, 43, 44, 47, 48, 49, 50, 51, 52, 53, 54, 55, 45, 46, 56, 57, 58, 59, 60, 16, 17, 61, 62, 63, 64, 65, 66, 19, 67, 68, 69, 70, 71, 72, 73, 74, 75, 76, 77, 78, 79, 80, 81, 82, 83, 84, 85, 86, 87, 88, 89, 90, 91, 92, 93, 94, 95] (.reg [un (.mov 37 (.t 13)),
 un (.bin 38 .add (.t 37) (.c (.int .i64 1))),
 un (.asg 13 (.t 38))])))))
def V4 : ACode :=
 (.seq (.reg [un (.box 4 (.t 1)),
 un (.box 5 (.t 2)),
 un (.asg 6 (.c (.nilsl 1))),
 un (.asg 7 (.c (.nilsl 1))),
 un (.asg 8 (.c (.bool false)))])
 (.seq (.reg [un (.ld 20 2 true (.t 5)),
 un (.call 21 Lg [((.t 20), false)]),
 un (.asg 9 (.t 21))])
 (.drop [20, 21] (.seq (.reg [un (.fadr 22 1 (.t 5)),
 un (.ld 23 1 false (.t 22)),
 un (.len 24 (.t 23)),
 un (.asg 10 (.t 24))])
 (.drop [22, 23, 24] (.seq (.reg [un (.fadr 25 0 (.t 4)),
 un (.ld 26 1 false (.t 25)),
 un (.mk 27 1 (.int .i64 0) (.t 26)),
 un (.asg 11 (.t 27))])
 (.drop [25, 26, 27] (.seq (.reg [un (.fadr 28 0 (.t 5)),
 un (.ld 29 1 false (.t 28)),
 un (.mk 30 1 (.int .i64 0) (.t 29)),
 un (.asg 12 (.t 30))])
 (.drop [28, 29, 30] (.seq (.seq (.reg [un (.asg 13 (.c (.int .i64 0)))])
 (.block 0 (.loop Kk)))
 (.drop [13, 31, 32, 33, 34, 35, 36, 39, 14, 40, 41, 42, 15, 43, 44, 47, 48, 49, 50, 51, 52, 53, 54, 55, 45, 46, 56, 57, 58, 59, 60, 16, 17, 61, 62, 63, 64, 65, 66, 19, 67, 68, 69, 70, 71, 72, 73, 74, 75, 76, 77, 78, 79, 80, 81, 82, 83, 84, 85, 86, 87, 88, 89, 90, 91, 92, 93, 94, 95, 37, 38] (.seq (.reg [un (.asg 6 (.c (.nilsl 1))),
 un (.asg 7 (.c (.nilsl 1))),
 un (.asg 8 (.c (.bool false)))])
 .ret))))))))))))
abbrev Vm : List RS := [.t 6, .t 7, .t 8]
theorem V3 : Ba Try.prog I3 96 V4 Vm = true := by kernel_rfl
def Sz : ACode :=
 (.seq (.reg [un (.fadr 5 0 (.t 1)),
 un (.ld 6 1 false (.t 5)),
 un (.bin 7 .lss (.t 6) (.c (.int .i64 1))),
 un (.asg 8 (.t 7)),
 ⟨some (8, false), .fadr 9 0 (.t 1)⟩,
 ⟨some (8, false), .ld 10 1 false (.t 9)⟩,
 ⟨some (8, false), .bin 11 .gtr (.t 10) (.c (.int .i64 8))⟩,
 un (.pick 12 (.t 8) (.c (.bool true)) (.t 11)),
 un (.asg 13 (.t 12)),
 ⟨some (13, false), .fadr 14 1 (.t 1)⟩,
 ⟨some (13, false), .ld 15 1 false (.t 14)⟩,
 ⟨some (13, false), .len 16 (.t 15)⟩,
 ⟨some (13, false), .bin 17 .gtr (.t 16) (.c (.int .i64 4))⟩,
 un (.pick 18 (.t 13) (.c (.bool true)) (.t 17))])
 (.drop [5, 6, 7, 8, 9, 10, 11, 12, 13, 14, 15, 16, 17] (.cond (.t 18) (.seq (.reg [un (.asg 2 (.c (.bool false)))])
 .ret)
 .skip)))
def Lr : ACode :=
 (.seq (.reg [un (.bin 23 .lss (.t 22) (.t 21))])
 (.seq (.cond (.t 23) .skip
 (.exit 0))
 (.seq (.block 1 (.seq (.reg [un (.iad 24 2 (.t 20) (.t 22)),
 un (.ld 25 2 true (.t 24)),
 un (.alc 4 (.agg [.int .i64 0, .nilsl 1])),
 un (.st 2 (.t 4) (.t 25))])
 (.drop [24, 25] (.seq (.reg [un (.ld 26 2 true (.t 4)),
 un (.fadr 27 0 (.t 1)),
 un (.ld 28 1 false (.t 27)),
 un (.call 29 F3 [((.t 26), false), ((.t 28), false)]),
 un (.un 30 .not (.t 29))])
 (.drop [26, 27, 28, 29] (.cond (.t 30) (.seq (.reg [un (.asg 2 (.c (.bool false)))])
 .ret)
 .skip))))))
 (.drop [24, 25, 4, 26, 27, 28, 29, 30] (.reg [un (.bin 31 .add (.t 22) (.c (.int .i64 1))),
 un (.asg 22 (.t 31))])))))
def Xl : ACode :=
 (.seq (.reg [un (.box 1 (.t 0)),
 un (.asg 2 (.c (.bool false)))])
 (.seq (.cut Sz)
 (.drop [5, 6, 7, 8, 9, 10, 11, 12, 13, 14, 15, 16, 17, 18] (.seq (.seq (.reg [un (.fadr 19 1 (.t 1)),
 un (.ld 20 1 false (.t 19)),
 un (.len 21 (.t 20)),
 un (.mov 22 (.c (.int .i64 0)))])
 (.drop [19] (.block 0 (.loop Lr))))
 (.drop [19, 20, 21, 22, 23, 24, 25, 4, 26, 27, 28, 29, 30, 31] (.seq (.reg [un (.asg 2 (.c (.bool true)))])
 .ret))))))
abbrev Xa : List RS := [.t 2]
theorem Wl : Ba Try.prog D3 32 Xl Xa = true := by kernel_rfl
def Ug : ACode :=
 (.seq (.reg [un (.box 3 (.t 1)),
 un (.asg 4 (.c (.bool false)))])
 (.seq (.reg [un (.mov 5 (.t 0)),
 un (.call 6 Ju [((.t 5), false)]),
 un (.asg 7 (.t 6)),
 ⟨some (7, true), .mov 8 (.t 0)⟩,
 ⟨some (7, true), .ld 9 2 true (.t 3)⟩,
 ⟨some (7, true), .call 10 Im [((.t 8), false), ((.t 9), false)]⟩,
 un (.pick 11 (.t 7) (.t 10) (.c (.bool false))),
 un (.asg 4 (.t 11))])
 (.drop [5, 6, 7, 8, 9, 10, 11] .ret)))
abbrev Uf : List RS := [.t 4]
theorem Tw : Ba Try.prog Hs 12 Ug Uf = true := by kernel_rfl
def Aga : ACode :=
 (.seq (.reg [un (.box 3 (.t 0)),
 un (.box 4 (.t 1)),
 un (.asg 6 (.c (.bool false)))])
 (.seq (.reg [un (.mov 7 (.t 2)),
 un (.len 8 (.t 7)),
 un (.fadr 9 0 (.t 3)),
 un (.ld 10 1 false (.t 9)),
 un (.bin 11 .eql (.t 8) (.t 10)),
 un (.asg 12 (.t 11)),
 ⟨some (12, true), .fadr 13 0 (.t 4)⟩,
 ⟨some (12, true), .ld 14 1 false (.t 13)⟩,
 ⟨some (12, true), .mov 15 (.t 2)⟩,
 ⟨some (12, true), .call 16 I1 [((.t 14), false), ((.t 15), false)]⟩,
 un (.pick 17 (.t 12) (.t 16) (.c (.bool false))),
 un (.asg 6 (.t 17))])
 (.drop [7, 8, 9, 10, 11, 12, 13, 14, 15, 16, 17] .ret)))
abbrev Agm : List RS := [.t 6]
theorem Aez : Ba Try.prog Qd 18 Aga Agm = true := by kernel_rfl
end Go.Proofs.Ytcpgnfohmeineaa.Ax
