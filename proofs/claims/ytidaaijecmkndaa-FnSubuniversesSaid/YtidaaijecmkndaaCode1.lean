/-
  The small code of the functions, written by program; that the program's code is this one, the kernel looks at.
-/
import Derived.Test.YtidaaijecmkndaaAx3
import Derived.Test.YtidaaijecmkndaaProg
import Derived.KernelRfl
import Derived.Test.YtidaaijecmkndaaNum
namespace Go.Proofs.Ytidaaijecmkndaa.Ax
open Go
set_option maxRecDepth 100000
def Akl : ACode :=
 (.seq (.reg [un (.asg 2 (.c (.bool false)))])
 (.seq (.reg [un (.mov 3 (.t 0)),
 un (.len 4 (.t 3)),
 un (.bin 5 .gtr (.t 4) (.c (.int .i64 65536))),
 un (.asg 2 (.t 5))])
 (.drop [3, 4, 5] .ret)))
abbrev Ak6 : List RS := [.t 2]
theorem Amg : A5 Try.prog Tz 6 Akl Ak6 = true := by kernel_rfl
def Sp : ACode :=
 (.seq (.seq (.reg [un (.mov 11 (.t 5)),
 un (.mov 12 (.t 0)),
 un (.len 13 (.t 12)),
 un (.bin 14 .lss (.t 11) (.t 13))])
 (.drop [11, 12, 13] (.cond (.t 14) .skip
 (.exit 0))))
 (.drop [11, 12, 13, 14] (.seq (.block 1 (.seq (.dreg [(un (.mov 17 (.t 0)), []),
 (un (.mov 18 (.t 5)), [17]),
 (un (.iad 19 1 (.t 17) (.t 18)), []),
 (un (.ld 20 1 false (.t 19)), []),
 (un (.mov 21 (.t 1)), [17, 18, 19, 20]),
 (un (.mov 22 (.t 5)), [17, 18, 19, 20, 21]),
 (un (.iad 23 1 (.t 21) (.t 22)), [17, 18, 19, 20]),
 (un (.ld 24 1 false (.t 23)), [17, 18, 19, 20])]
 [un (.bin 25 .neq (.t 20) (.t 24))])
 (.drop [17, 18, 19, 20, 21, 22, 23, 24] (.cond (.t 25) (.seq (.reg [un (.asg 4 (.c (.bool false)))])
 .ret)
 .skip))))
 (.drop [17, 18, 19, 20, 21, 22, 23, 24, 25] (.reg [un (.mov 15 (.t 5)),
 un (.bin 16 .add (.t 15) (.c (.int .i64 1))),
 un (.asg 5 (.t 16))])))))
def Aiu : ACode :=
 (.seq (.reg [un (.asg 4 (.c (.bool false)))])
 (.seq (.seq (.reg [un (.mov 6 (.t 0)),
 un (.len 7 (.t 6)),
 un (.mov 8 (.t 1)),
 un (.len 9 (.t 8)),
 un (.bin 10 .neq (.t 7) (.t 9))])
 (.drop [6, 7, 8, 9] (.cond (.t 10) (.seq (.reg [un (.asg 4 (.c (.bool false)))])
 .ret)
 .skip)))
 (.drop [6, 7, 8, 9, 10] (.seq (.seq (.reg [un (.asg 5 (.c (.int .i64 0)))])
 (.block 0 (.loop Sp)))
 (.drop [5, 11, 12, 13, 14, 17, 18, 19, 20, 21, 22, 23, 24, 25, 15, 16] (.seq (.reg [un (.asg 4 (.c (.bool true)))])
 .ret))))))
abbrev Aid : List RS := [.t 4]
theorem Ahy : A5 Try.prog Fc 26 Aiu Aid = true := by kernel_rfl
def Tu : ACode :=
 (.seq (.seq (.reg [un (.mov 6 (.t 5)),
 un (.mov 7 (.t 0)),
 un (.len 8 (.t 7)),
 un (.bin 9 .lss (.t 6) (.t 8))])
 (.drop [6, 7, 8] (.cond (.t 9) .skip
 (.exit 0))))
 (.drop [6, 7, 8, 9] (.seq (.block 1 (.seq (.reg [un (.mov 12 (.t 0)),
 un (.mov 13 (.t 5)),
 un (.iad 14 1 (.t 12) (.t 13)),
 un (.ld 15 1 false (.t 14)),
 un (.mov 16 (.t 1)),
 un (.bin 17 .eql (.t 15) (.t 16))])
 (.drop [12, 13, 14, 15, 16] (.cond (.t 17) (.seq (.reg [un (.asg 4 (.c (.bool true)))])
 .ret)
 .skip))))
 (.drop [12, 13, 14, 15, 16, 17] (.reg [un (.mov 10 (.t 5)),
 un (.bin 11 .add (.t 10) (.c (.int .i64 1))),
 un (.asg 5 (.t 11))])))))
def Ake : ACode :=
 (.seq (.reg [un (.asg 4 (.c (.bool false)))])
 (.seq (.seq (.reg [un (.asg 5 (.c (.int .i64 0)))])
 (.block 0 (.loop Tu)))
 (.drop [5, 6, 7, 8, 9, 12, 13, 14, 15, 16, 17, 10, 11] (.seq (.reg [un (.asg 4 (.c (.bool false)))])
 .ret))))
abbrev Alc : List RS := [.t 4]
theorem Akx : A5 Try.prog T1 18 Ake Alc = true := by kernel_rfl
def Al2 : ACode :=
 (.seq (.reg [un (.asg 6 (.c (.bool false)))])
 (.seq (.reg [un (.mov 7 (.t 0)),
 un (.mov 8 (.t 1)),
 un (.bin 9 .geq (.t 7) (.t 8)),
 un (.asg 10 (.t 9)),
 ⟨some (10, true), .mov 11 (.t 0)⟩,
 ⟨some (10, true), .mov 12 (.t 2)⟩,
 ⟨some (10, true), .bin 13 .leq (.t 11) (.t 12)⟩,
 un (.pick 14 (.t 10) (.t 13) (.c (.bool false))),
 un (.asg 6 (.t 14))])
 (.drop [7, 8, 9, 10, 11, 12, 13, 14] .ret)))
abbrev Ala : List RS := [.t 6]
theorem Alz : A5 Try.prog G7 15 Al2 Ala = true := by kernel_rfl
def Sl : ACode :=
 (.seq (.seq (.reg [un (.mov 6 (.t 1)),
 un (.bin 7 .gtr (.t 6) (.c (.int .i64 0)))])
 (.drop [6] (.cond (.t 7) .skip
 (.exit 0))))
 (.drop [6, 7] (.seq (.block 1 (.reg [un (.mov 10 (.t 5)),
 un (.mov 11 (.t 0)),
 un (.bin 12 .mul (.t 10) (.t 11)),
 un (.asg 5 (.t 12))]))
 (.drop [10, 11, 12] (.reg [un (.mov 8 (.t 1)),
 un (.bin 9 .sub (.t 8) (.c (.int .i64 1))),
 un (.asg 1 (.t 9))])))))
def Ajz : ACode :=
 (.seq (.reg [un (.asg 4 (.c (.int .i64 0)))])
 (.seq (.reg [un (.asg 5 (.c (.int .i64 1)))])
 (.seq (.block 0 (.loop Sl))
 (.drop [6, 7, 10, 11, 12, 8, 9] (.seq (.reg [un (.mov 13 (.t 5)),
 un (.asg 4 (.t 13))])
 (.drop [13] .ret))))))
abbrev Ai1 : List RS := [.t 4]
theorem Aig : A5 Try.prog M2 14 Ajz Ai1 = true := by kernel_rfl
def Qf : ACode :=
 (.seq (.reg [un (.bin 10 .lss (.t 9) (.t 8))])
 (.seq (.cond (.t 10) .skip
 (.exit 0))
 (.seq (.block 1 (.seq (.reg [un (.iad 11 1 (.t 7) (.t 9)),
 un (.ld 12 1 false (.t 11)),
 un (.asg 6 (.t 12))])
 (.drop [11, 12] (.seq (.reg [un (.mov 13 (.t 6)),
 un (.bin 14 .lss (.t 13) (.c (.int .i64 0))),
 un (.asg 15 (.t 14)),
 ⟨some (15, false), .mov 16 (.t 6)⟩,
 ⟨some (15, false), .mov 17 (.t 1)⟩,
 ⟨some (15, false), .bin 18 .geq (.t 16) (.t 17)⟩,
 un (.pick 19 (.t 15) (.c (.bool true)) (.t 18))])
 (.drop [13, 14, 15, 16, 17, 18] (.cond (.t 19) (.seq (.reg [un (.asg 4 (.c (.bool false)))])
 .ret)
 .skip))))))
 (.drop [11, 12, 6, 13, 14, 15, 16, 17, 18, 19] (.reg [un (.bin 20 .add (.t 9) (.c (.int .i64 1))),
 un (.asg 9 (.t 20))])))))
def Ae7 : ACode :=
 (.seq (.reg [un (.asg 4 (.c (.bool false)))])
 (.seq (.seq (.reg [un (.mov 7 (.t 0)),
 un (.len 8 (.t 7)),
 un (.mov 9 (.c (.int .i64 0)))])
 (.block 0 (.loop Qf)))
 (.drop [7, 8, 9, 10, 11, 12, 6, 13, 14, 15, 16, 17, 18, 19, 20] (.seq (.reg [un (.asg 4 (.c (.bool true)))])
 .ret))))
abbrev Aga : List RS := [.t 4]
theorem Agc : A5 Try.prog I0 21 Ae7 Aga = true := by kernel_rfl
def Sn : ACode :=
 (.seq (.reg [un (.bin 13 .lss (.t 12) (.t 11))])
 (.seq (.cond (.t 13) .skip
 (.exit 0))
 (.seq (.block 1 (.seq (.reg [un (.iad 14 1 (.t 10) (.t 12)),
 un (.ld 15 1 false (.t 14)),
 un (.asg 7 (.t 15))])
 (.drop [14, 15] (.reg [un (.mov 16 (.t 5)),
 un (.mov 17 (.t 7)),
 un (.iad 18 1 (.t 16) (.t 17)),
 un (.st 1 (.t 18) (.c (.bool true)))]))))
 (.drop [14, 15, 7, 16, 17, 18] (.reg [un (.bin 19 .add (.t 12) (.c (.int .i64 1))),
 un (.asg 12 (.t 19))])))))
def Ais : ACode :=
 (.seq (.reg [un (.asg 4 (.c (.nilsl 1)))])
 (.seq (.reg [un (.mov 8 (.t 1)),
 un (.mk 9 1 (.bool false) (.t 8)),
 un (.asg 5 (.t 9))])
 (.drop [8, 9] (.seq (.seq (.reg [un (.mov 10 (.t 0)),
 un (.len 11 (.t 10)),
 un (.mov 12 (.c (.int .i64 0)))])
 (.block 0 (.loop Sn)))
 (.drop [10, 11, 12, 13, 14, 15, 7, 16, 17, 18, 19] (.seq (.reg [un (.mov 20 (.t 5)),
 un (.asg 4 (.t 20))])
 (.drop [20] .ret)))))))
abbrev Ajr : List RS := [.t 4]
theorem Ajk : A5 Try.prog Mx 21 Ais Ajr = true := by kernel_rfl
def Qr : ACode :=
 (.seq (.reg [un (.bin 10 .lss (.t 9) (.t 8))])
 (.seq (.cond (.t 10) .skip
 (.exit 0))
 (.seq (.block 1 (.seq (.reg [un (.mov 11 (.t 9)),
 un (.iad 12 1 (.t 7) (.t 9)),
 un (.ld 13 1 false (.t 12)),
 un (.asg 4 (.t 11)),
 un (.asg 5 (.t 13))])
 (.drop [11, 12, 13] (.seq (.reg [un (.mov 14 (.t 5))])
 (.cond (.t 14) (.reg [un (.mov 15 (.t 3)),
 un (.mov 16 (.t 4)),
 un (.bsl 17 1 [(.t 16)]),
 un (.app 18 1 (.t 15) (.t 17)),
 un (.asg 3 (.t 18))])
 .skip)))))
 (.drop [11, 12, 13, 4, 5, 14, 15, 16, 17, 18] (.reg [un (.bin 19 .add (.t 9) (.c (.int .i64 1))),
 un (.asg 9 (.t 19))])))))
def Af9 : ACode :=
 (.seq (.reg [un (.asg 2 (.c (.nilsl 1)))])
 (.seq (.reg [un (.bsl 6 1 []),
 un (.asg 3 (.t 6))])
 (.drop [6] (.seq (.seq (.reg [un (.mov 7 (.t 0)),
 un (.len 8 (.t 7)),
 un (.mov 9 (.c (.int .i64 0)))])
 (.block 0 (.loop Qr)))
 (.drop [7, 8, 9, 10, 11, 12, 13, 4, 5, 14, 15, 16, 17, 18, 19] (.seq (.reg [un (.mov 20 (.t 3)),
 un (.asg 2 (.t 20))])
 (.drop [20] .ret)))))))
abbrev Agt : List RS := [.t 2]
theorem Afs : A5 Try.prog Iy 21 Af9 Agt = true := by kernel_rfl
def Sq : ACode :=
 (.seq (.seq (.reg [un (.mov 9 (.t 1)),
 un (.bin 10 .gtr (.t 9) (.c (.int .i64 0)))])
 (.drop [9] (.cond (.t 10) .skip
 (.exit 0))))
 (.drop [9, 10] (.seq (.block 1 (.seq (.seq (.reg [un (.mov 13 (.t 3)),
 un (.mov 14 (.t 0)),
 un (.mov 15 (.t 2)),
 un (.bin 16 .rem (.t 14) (.t 15)),
 un (.iad 17 1 (.t 13) (.t 16)),
 un (.ld 18 1 false (.t 17)),
 un (.un 19 .not (.t 18))])
 (.drop [13, 14, 15, 16, 17, 18] (.cond (.t 19) (.seq (.reg [un (.asg 8 (.c (.bool false)))])
 .ret)
 .skip)))
 (.drop [13, 14, 15, 16, 17, 18, 19] (.reg [un (.mov 20 (.t 0)),
 un (.mov 21 (.t 2)),
 un (.bin 22 .quo (.t 20) (.t 21)),
 un (.asg 0 (.t 22))]))))
 (.drop [13, 14, 15, 16, 17, 18, 19, 20, 21, 22] (.reg [un (.mov 11 (.t 1)),
 un (.bin 12 .sub (.t 11) (.c (.int .i64 1))),
 un (.asg 1 (.t 12))])))))
def Ajg : ACode :=
 (.seq (.reg [un (.asg 8 (.c (.bool false)))])
 (.seq (.block 0 (.loop Sq))
 (.drop [9, 10, 13, 14, 15, 16, 17, 18, 19, 20, 21, 22, 11, 12] (.seq (.reg [un (.asg 8 (.c (.bool true)))])
 .ret))))
abbrev Aiv : List RS := [.t 8]
theorem Ahw : A5 Try.prog My 23 Ajg Aiv = true := by kernel_rfl
def Tk : ACode :=
 (.seq (.seq (.reg [un (.mov 9 (.t 6)),
 un (.mov 10 (.t 1)),
 un (.len 11 (.t 10)),
 un (.bin 12 .lss (.t 9) (.t 11))])
 (.drop [9, 10, 11] (.cond (.t 12) .skip
 (.exit 0))))
 (.drop [9, 10, 11, 12] (.seq (.block 1 (.reg [un (.mov 15 (.t 5)),
 un (.mov 16 (.t 1)),
 un (.mov 17 (.t 6)),
 un (.iad 18 1 (.t 16) (.t 17)),
 un (.ld 19 1 false (.t 18)),
 un (.iad 20 1 (.t 15) (.t 19)),
 un (.st 1 (.t 20) (.c (.bool true)))]))
 (.drop [15, 16, 17, 18, 19, 20] (.reg [un (.mov 13 (.t 6)),
 un (.bin 14 .add (.t 13) (.c (.int .i64 1))),
 un (.asg 6 (.t 14))])))))
def Akq : ACode :=
 (.seq (.reg [un (.asg 4 (.c (.nilsl 1)))])
 (.seq (.reg [un (.mov 7 (.t 0)),
 un (.mk 8 1 (.bool false) (.t 7)),
 un (.asg 5 (.t 8))])
 (.drop [7, 8] (.seq (.seq (.reg [un (.asg 6 (.c (.int .i64 0)))])
 (.block 0 (.loop Tk)))
 (.drop [6, 9, 10, 11, 12, 15, 16, 17, 18, 19, 20, 13, 14] (.seq (.reg [un (.mov 21 (.t 5)),
 un (.asg 4 (.t 21))])
 (.drop [21] .ret)))))))
abbrev Ak9 : List RS := [.t 4]
theorem Aj9 : A5 Try.prog Oj 22 Akq Ak9 = true := by kernel_rfl
def Ql : ACode :=
 (.seq (.seq (.reg [un (.mov 6 (.t 4)),
 un (.mov 7 (.t 0)),
 un (.len 8 (.t 7)),
 un (.bin 9 .lss (.t 6) (.t 8))])
 (.drop [6, 7, 8] (.cond (.t 9) .skip
 (.exit 0))))
 (.drop [6, 7, 8, 9] (.seq (.block 1 (.seq (.reg [un (.mov 12 (.t 0)),
 un (.mov 13 (.t 4)),
 un (.iad 14 1 (.t 12) (.t 13)),
 un (.ld 15 1 false (.t 14))])
 (.drop [12, 13, 14] (.cond (.t 15) (.reg [un (.mov 16 (.t 3)),
 un (.mov 17 (.t 4)),
 un (.bsl 18 1 [(.t 17)]),
 un (.app 19 1 (.t 16) (.t 18)),
 un (.asg 3 (.t 19))])
 .skip))))
 (.drop [12, 13, 14, 15, 16, 17, 18, 19] (.reg [un (.mov 10 (.t 4)),
 un (.bin 11 .add (.t 10) (.c (.int .i64 1))),
 un (.asg 4 (.t 11))])))))
def Afd : ACode :=
 (.seq (.reg [un (.asg 2 (.c (.nilsl 1)))])
 (.seq (.reg [un (.bsl 5 1 []),
 un (.asg 3 (.t 5))])
 (.drop [5] (.seq (.seq (.reg [un (.asg 4 (.c (.int .i64 0)))])
 (.block 0 (.loop Ql)))
 (.drop [4, 6, 7, 8, 9, 12, 13, 14, 15, 16, 17, 18, 19, 10, 11] (.seq (.reg [un (.mov 20 (.t 3)),
 un (.asg 2 (.t 20))])
 (.drop [20] .ret)))))))
abbrev Af4 : List RS := [.t 2]
theorem Afl : A5 Try.prog K9 21 Afd Af4 = true := by kernel_rfl
def S6 : ACode :=
 (.seq (.seq (.reg [un (.mov 6 (.t 5)),
 un (.mov 7 (.t 0)),
 un (.len 8 (.t 7)),
 un (.bin 9 .lss (.t 6) (.t 8))])
 (.drop [6, 7, 8] (.cond (.t 9) .skip
 (.exit 0))))
 (.drop [6, 7, 8, 9] (.seq (.block 1 (.seq (.reg [un (.mov 12 (.t 0)),
 un (.mov 13 (.t 5)),
 un (.iad 14 1 (.t 12) (.t 13)),
 un (.ld 15 1 false (.t 14)),
 un (.mov 16 (.t 1)),
 un (.bin 17 .eql (.t 15) (.t 16))])
 (.drop [12, 13, 14, 15, 16] (.cond (.t 17) (.seq (.reg [un (.asg 4 (.c (.bool true)))])
 .ret)
 .skip))))
 (.drop [12, 13, 14, 15, 16, 17] (.reg [un (.mov 10 (.t 5)),
 un (.bin 11 .add (.t 10) (.c (.int .i64 1))),
 un (.asg 5 (.t 11))])))))
def Aie : ACode :=
 (.seq (.reg [un (.asg 4 (.c (.bool false)))])
 (.seq (.seq (.reg [un (.asg 5 (.c (.int .i64 0)))])
 (.block 0 (.loop S6)))
 (.drop [5, 6, 7, 8, 9, 12, 13, 14, 15, 16, 17, 10, 11] (.seq (.reg [un (.asg 4 (.c (.bool false)))])
 .ret))))
abbrev Aj4 : List RS := [.t 4]
theorem Ahu : A5 Try.prog Rl 18 Aie Aj4 = true := by kernel_rfl
def Aiy : ACode :=
 (.seq (.reg [un (.asg 2 (.c (.nilsl 1)))])
 (.seq (.reg [un (.bsl 3 1 []),
 un (.mov 4 (.t 0)),
 un (.app 5 1 (.t 3) (.t 4)),
 un (.asg 2 (.t 5))])
 (.drop [3, 4, 5] .ret)))
abbrev Ajx : List RS := [.t 2]
theorem Aj0 : A5 Try.prog R3 6 Aiy Ajx = true := by kernel_rfl
def Ah2 : ACode :=
 (.seq (.reg [un (.asg 2 (.c (.nilsl 1)))])
 (.seq (.reg [un (.bsl 3 1 []),
 un (.mov 4 (.t 0)),
 un (.app 5 1 (.t 3) (.t 4)),
 un (.asg 2 (.t 5))])
 (.drop [3, 4, 5] .ret)))
abbrev Ai6 : List RS := [.t 2]
theorem Ajb : A5 Try.prog Mr 6 Ah2 Ai6 = true := by kernel_rfl
def Qx : ACode :=
 (.seq (.seq (.reg [un (.mov 6 (.t 0)),
 un (.mov 7 (.t 4)),
 un (.bin 8 .shr (.t 6) (.t 7)),
 un (.bin 9 .gtr (.t 8) (.c (.int .i64 0)))])
 (.drop [6, 7, 8] (.cond (.t 9) .skip
 (.exit 0))))
 (.drop [6, 7, 8, 9] (.seq (.block 1 (.seq (.reg [un (.mov 12 (.t 0)),
 un (.mov 13 (.t 4)),
 un (.bin 14 .shr (.t 12) (.t 13)),
 un (.bin 15 .and (.t 14) (.c (.int .i64 1))),
 un (.bin 16 .eql (.t 15) (.c (.int .i64 1)))])
 (.drop [12, 13, 14, 15] (.cond (.t 16) (.reg [un (.mov 17 (.t 3)),
 un (.mov 18 (.t 4)),
 un (.bsl 19 1 [(.t 18)]),
 un (.app 20 1 (.t 17) (.t 19)),
 un (.asg 3 (.t 20))])
 .skip))))
 (.drop [12, 13, 14, 15, 16, 17, 18, 19, 20] (.reg [un (.mov 10 (.t 4)),
 un (.bin 11 .add (.t 10) (.c (.int .i64 1))),
 un (.asg 4 (.t 11))])))))
def Agi : ACode :=
 (.seq (.reg [un (.asg 2 (.c (.nilsl 1)))])
 (.seq (.reg [un (.bsl 5 1 []),
 un (.asg 3 (.t 5))])
 (.drop [5] (.seq (.seq (.reg [un (.asg 4 (.c (.int .i64 0)))])
 (.block 0 (.loop Qx)))
 (.drop [4, 6, 7, 8, 9, 12, 13, 14, 15, 16, 17, 18, 19, 20, 10, 11] (.seq (.reg [un (.mov 21 (.t 3)),
 un (.asg 2 (.t 21))])
 (.drop [21] .ret)))))))
abbrev Agk : List RS := [.t 2]
theorem Afk : A5 Try.prog Pa 22 Agi Agk = true := by kernel_rfl
def Qs : ACode :=
 (.seq (.seq (.reg [un (.mov 6 (.t 0)),
 un (.mov 7 (.t 4)),
 un (.bin 8 .shr (.t 6) (.t 7)),
 un (.bin 9 .gtr (.t 8) (.c (.int .i64 0)))])
 (.drop [6, 7, 8] (.cond (.t 9) .skip
 (.exit 0))))
 (.drop [6, 7, 8, 9] (.seq (.block 1 (.seq (.reg [un (.mov 12 (.t 0)),
 un (.mov 13 (.t 4)),
 un (.bin 14 .shr (.t 12) (.t 13)),
 un (.bin 15 .and (.t 14) (.c (.int .i64 1))),
 un (.bin 16 .eql (.t 15) (.c (.int .i64 1)))])
 (.drop [12, 13, 14, 15] (.cond (.t 16) (.reg [un (.mov 17 (.t 3)),
 un (.mov 18 (.t 4)),
 un (.bsl 19 1 [(.t 18)]),
 un (.app 20 1 (.t 17) (.t 19)),
 un (.asg 3 (.t 20))])
 .skip))))
 (.drop [12, 13, 14, 15, 16, 17, 18, 19, 20] (.reg [un (.mov 10 (.t 4)),
 un (.bin 11 .add (.t 10) (.c (.int .i64 1))),
 un (.asg 4 (.t 11))])))))
def Afc : ACode :=
 (.seq (.reg [un (.asg 2 (.c (.nilsl 1)))])
 (.seq (.reg [un (.bsl 5 1 []),
 un (.asg 3 (.t 5))])
 (.drop [5] (.seq (.seq (.reg [un (.asg 4 (.c (.int .i64 0)))])
 (.block 0 (.loop Qs)))
 (.drop [4, 6, 7, 8, 9, 12, 13, 14, 15, 16, 17, 18, 19, 20, 10, 11] (.seq (.reg [un (.mov 21 (.t 3)),
 un (.asg 2 (.t 21))])
 (.drop [21] .ret)))))))
abbrev Ae8 : List RS := [.t 2]
theorem Af5 : A5 Try.prog O8 22 Afc Ae8 = true := by kernel_rfl
def Qu : ACode :=
 (.seq (.seq (.reg [un (.mov 6 (.t 5)),
 un (.mov 7 (.t 0)),
 un (.len 8 (.t 7)),
 un (.bin 9 .lss (.t 6) (.t 8))])
 (.drop [6, 7, 8] (.cond (.t 9) .skip
 (.exit 0))))
 (.drop [6, 7, 8, 9] (.seq (.block 1 (.seq (.dreg [(un (.mov 12 (.t 0)), []),
 (un (.mov 13 (.t 5)), [12]),
 (un (.iad 14 1 (.t 12) (.t 13)), []),
 (un (.ld 15 1 false (.t 14)), []),
 (un (.mov 16 (.t 1)), [12, 13, 14, 15]),
 (un (.mov 17 (.t 5)), [12, 13, 14, 15, 16]),
 (un (.iad 18 1 (.t 16) (.t 17)), [12, 13, 14, 15]),
 (un (.ld 19 1 false (.t 18)), [12, 13, 14, 15])]
 [un (.bin 20 .neq (.t 15) (.t 19))])
 (.drop [12, 13, 14, 15, 16, 17, 18, 19] (.cond (.t 20) (.seq (.dreg [(un (.mov 21 (.t 0)), []),
 (un (.mov 22 (.t 5)), [21]),
 (un (.iad 23 1 (.t 21) (.t 22)), []),
 (un (.ld 24 1 false (.t 23)), []),
 (un (.mov 25 (.t 1)), [21, 22, 23, 24]),
 (un (.mov 26 (.t 5)), [21, 22, 23, 24, 25]),
 (un (.iad 27 1 (.t 25) (.t 26)), [21, 22, 23, 24]),
 (un (.ld 28 1 false (.t 27)), [21, 22, 23, 24])]
 [un (.bin 29 .lss (.t 24) (.t 28)),
 un (.asg 4 (.t 29))])
 (.drop [21, 22, 23, 24, 25, 26, 27, 28, 29] .ret))
 .skip))))
 (.drop [12, 13, 14, 15, 16, 17, 18, 19, 20, 21, 22, 23, 24, 25, 26, 27, 28, 29] (.reg [un (.mov 10 (.t 5)),
 un (.bin 11 .add (.t 10) (.c (.int .i64 1))),
 un (.asg 5 (.t 11))])))))
def Ae2 : ACode :=
 (.seq (.reg [un (.asg 4 (.c (.bool false)))])
 (.seq (.seq (.reg [un (.asg 5 (.c (.int .i64 0)))])
 (.block 0 (.loop Qu)))
 (.drop [5, 6, 7, 8, 9, 12, 13, 14, 15, 16, 17, 18, 19, 20, 21, 22, 23, 24, 25, 26, 27, 28, 29, 10, 11] (.seq (.reg [un (.asg 4 (.c (.bool false)))])
 .ret))))
abbrev Agd : List RS := [.t 4]
theorem Ae4 : A5 Try.prog Pp 30 Ae2 Agd = true := by kernel_rfl
def P0 : ACode :=
 (.seq (.reg [un (.bin 10 .lss (.t 9) (.t 8))])
 (.seq (.cond (.t 10) .skip
 (.exit 0))
 (.seq (.block 1 (.seq (.reg [un (.iad 11 1 (.t 7) (.t 9)),
 un (.ld 12 1 false (.t 11)),
 un (.asg 6 (.t 12))])
 (.drop [11, 12] (.seq (.reg [un (.mov 13 (.t 1)),
 un (.mov 14 (.t 6)),
 un (.bin 15 .eql (.t 13) (.t 14))])
 (.drop [13, 14] (.cond (.t 15) (.seq (.reg [un (.asg 4 (.c (.bool false)))])
 .ret)
 .skip))))))
 (.drop [11, 12, 6, 13, 14, 15] (.reg [un (.bin 16 .add (.t 9) (.c (.int .i64 1))),
 un (.asg 9 (.t 16))])))))
def Agf : ACode :=
 (.seq (.reg [un (.asg 4 (.c (.bool false)))])
 (.seq (.seq (.reg [un (.mov 7 (.t 0)),
 un (.len 8 (.t 7)),
 un (.mov 9 (.c (.int .i64 0)))])
 (.block 0 (.loop P0)))
 (.drop [7, 8, 9, 10, 11, 12, 6, 13, 14, 15, 16] (.seq (.reg [un (.asg 4 (.c (.bool true)))])
 .ret))))
abbrev Afz : List RS := [.t 4]
theorem Afh : A5 Try.prog O5 17 Agf Afz = true := by kernel_rfl
def Tm : ACode :=
 (.seq (.dreg [(un (.mov 4 (.t 0)), []),
 (un (.nck 5 (.t 4)), []),
 (un (.fadr 6 1 (.t 5)), []),
 (un (.ld 7 1 false (.t 6)), []),
 (un (.mov 8 (.t 0)), [4, 5, 6, 7]),
 (un (.nck 9 (.t 8)), [4, 5, 6, 7]),
 (un (.fadr 10 0 (.t 9)), [4, 5, 6, 7]),
 (un (.ld 11 1 false (.t 10)), [4, 5, 6, 7]),
 (un (.len 12 (.t 11)), [4, 5, 6, 7])]
 [un (.bin 13 .lss (.t 7) (.t 12))])
 (.drop [4, 5, 6, 7, 8, 9, 10, 11, 12] (.cond (.t 13) (.dreg [(un (.mov 14 (.t 0)), []),
 (un (.nck 15 (.t 14)), []),
 (un (.fadr 16 0 (.t 15)), []),
 (un (.ld 17 1 false (.t 16)), []),
 (un (.mov 18 (.t 0)), [14, 15, 16, 17]),
 (un (.nck 19 (.t 18)), [14, 15, 16, 17]),
 (un (.fadr 20 1 (.t 19)), [14, 15, 16, 17]),
 (un (.ld 21 1 false (.t 20)), [14, 15, 16, 17])]
 [un (.iad 22 1 (.t 17) (.t 21)),
 un (.ld 23 1 false (.t 22)),
 un (.cnv 24 .i64 (.t 23)),
 un (.asg 3 (.t 24))])
 .skip)))
def Xi : ACode :=
 (.seq (.reg [un (.asg 2 (.c (.int .i64 0)))])
 (.seq (.reg [un (.asg 3 (.c (.int .i64 0)))])
 (.seq (.cut Tm)
 (.drop [4, 5, 6, 7, 8, 9, 10, 11, 12, 13, 14, 15, 16, 17, 18, 19, 20, 21, 22, 23, 24] (.seq (.reg [un (.mov 25 (.t 0)),
 un (.nck 26 (.t 25)),
 un (.fadr 27 1 (.t 26)),
 un (.ld 28 1 false (.t 27)),
 un (.bin 29 .add (.t 28) (.c (.int .i64 1))),
 un (.nck 30 (.t 25)),
 un (.fadr 31 1 (.t 30)),
 un (.st 1 (.t 31) (.t 29))])
 (.drop [25, 26, 27, 28, 29, 30, 31] (.seq (.reg [un (.mov 32 (.t 0)),
 un (.mov 33 (.t 0)),
 un (.nck 34 (.t 33)),
 un (.fadr 35 2 (.t 34)),
 un (.ld 36 1 false (.t 35)),
 un (.bin 37 .mul (.t 36) (.c (.int .u64 6364136223846793005))),
 un (.mov 38 (.t 3)),
 un (.cnv 39 .u64 (.t 38)),
 un (.bin 40 .add (.t 37) (.t 39)),
 un (.bin 41 .add (.t 40) (.c (.int .u64 550289))),
 un (.nck 42 (.t 32)),
 un (.fadr 43 2 (.t 42)),
 un (.st 1 (.t 43) (.t 41))])
 (.drop [32, 33, 34, 35, 36, 37, 38, 39, 40, 41, 42, 43] (.seq (.seq (.dreg [(un (.mov 44 (.t 0)), []),
 (un (.nck 45 (.t 44)), []),
 (un (.fadr 46 1 (.t 45)), []),
 (un (.ld 47 1 false (.t 46)), []),
 (un (.mov 48 (.t 0)), [44, 45, 46, 47]),
 (un (.nck 49 (.t 48)), [44, 45, 46, 47]),
 (un (.fadr 50 0 (.t 49)), [44, 45, 46, 47]),
 (un (.ld 51 1 false (.t 50)), [44, 45, 46, 47]),
 (un (.len 52 (.t 51)), [44, 45, 46, 47])]
 [un (.bin 53 .leq (.t 47) (.t 52))])
 (.drop [44, 45, 46, 47, 48, 49, 50, 51, 52] (.cond (.t 53) (.seq (.reg [un (.mov 54 (.t 3)),
 un (.asg 2 (.t 54))])
 (.drop [54] .ret))
 .skip)))
 (.drop [44, 45, 46, 47, 48, 49, 50, 51, 52, 53, 54] (.seq (.reg [un (.mov 55 (.t 0)),
 un (.nck 56 (.t 55)),
 un (.fadr 57 2 (.t 56)),
 un (.ld 58 1 false (.t 57)),
 un (.bin 59 .shr (.t 58) (.c (.int .u64 40))),
 un (.bin 60 .and (.t 59) (.c (.int .u64 255))),
 un (.cnv 61 .i64 (.t 60)),
 un (.asg 2 (.t 61))])
 (.drop [55, 56, 57, 58, 59, 60, 61] .ret))))))))))))
abbrev Yv : List RS := [.t 2]
theorem Yk : A5 Try.prog G4 62 Xi Yv = true := by kernel_rfl
def Qn : ACode :=
 (.seq (.seq (.reg [un (.mov 13 (.t 8)),
 un (.bin 14 .geq (.t 13) (.c (.int .i64 0)))])
 (.drop [13] (.cond (.t 14) .skip
 (.exit 0))))
 (.drop [13, 14] (.seq (.block 1 (.seq (.reg [un (.mov 17 (.t 7)),
 un (.mov 18 (.t 8)),
 un (.mov 19 (.t 2)),
 un (.mov 20 (.t 0)),
 un (.bin 21 .rem (.t 19) (.t 20)),
 un (.iad 22 1 (.t 17) (.t 18)),
 un (.st 1 (.t 22) (.t 21))])
 (.drop [17, 18, 19, 20, 21, 22] (.reg [un (.mov 23 (.t 2)),
 un (.mov 24 (.t 0)),
 un (.bin 25 .quo (.t 23) (.t 24)),
 un (.asg 2 (.t 25))]))))
 (.drop [17, 18, 19, 20, 21, 22, 23, 24, 25] (.reg [un (.mov 15 (.t 8)),
 un (.bin 16 .sub (.t 15) (.c (.int .i64 1))),
 un (.asg 8 (.t 16))])))))
def Ae9 : ACode :=
 (.seq (.reg [un (.asg 6 (.c (.nilsl 1)))])
 (.seq (.reg [un (.mov 9 (.t 1)),
 un (.mk 10 1 (.int .i64 0) (.t 9)),
 un (.asg 7 (.t 10))])
 (.drop [9, 10] (.seq (.seq (.reg [un (.mov 11 (.t 1)),
 un (.bin 12 .sub (.t 11) (.c (.int .i64 1))),
 un (.asg 8 (.t 12))])
 (.drop [11, 12] (.block 0 (.loop Qn))))
 (.drop [11, 12, 8, 13, 14, 17, 18, 19, 20, 21, 22, 23, 24, 25, 15, 16] (.seq (.reg [un (.mov 26 (.t 7)),
 un (.asg 6 (.t 26))])
 (.drop [26] .ret)))))))
abbrev Af3 : List RS := [.t 6]
theorem Agl : A5 Try.prog Pn 27 Ae9 Af3 = true := by kernel_rfl
def Sm : ACode :=
 (.seq (.seq (.reg [un (.mov 4 (.t 3)),
 un (.mov 5 (.t 0)),
 un (.len 6 (.t 5)),
 un (.bin 7 .lss (.t 4) (.t 6))])
 (.drop [4, 5, 6] (.cond (.t 7) .skip
 (.exit 0))))
 (.drop [4, 5, 6, 7] (.seq (.block 1 (.seq (.dreg [(un (.mov 10 (.t 0)), []),
 (un (.mov 11 (.t 3)), [10]),
 (un (.bin 12 .sub (.t 11) (.c (.int .i64 1))), [10]),
 (un (.iad 13 1 (.t 10) (.t 12)), []),
 (un (.ld 14 1 false (.t 13)), []),
 (un (.mov 15 (.t 0)), [10, 11, 12, 13, 14]),
 (un (.mov 16 (.t 3)), [10, 11, 12, 13, 14, 15]),
 (un (.iad 17 1 (.t 15) (.t 16)), [10, 11, 12, 13, 14]),
 (un (.ld 18 1 false (.t 17)), [10, 11, 12, 13, 14])]
 [un (.bin 19 .geq (.t 14) (.t 18))])
 (.drop [10, 11, 12, 13, 14, 15, 16, 17, 18] (.cond (.t 19) (.seq (.reg [un (.asg 2 (.c (.bool false)))])
 .ret)
 .skip))))
 (.drop [10, 11, 12, 13, 14, 15, 16, 17, 18, 19] (.reg [un (.mov 8 (.t 3)),
 un (.bin 9 .add (.t 8) (.c (.int .i64 1))),
 un (.asg 3 (.t 9))])))))
def Aio : ACode :=
 (.seq (.reg [un (.asg 2 (.c (.bool false)))])
 (.seq (.seq (.reg [un (.asg 3 (.c (.int .i64 1)))])
 (.block 0 (.loop Sm)))
 (.drop [3, 4, 5, 6, 7, 10, 11, 12, 13, 14, 15, 16, 17, 18, 19, 8, 9] (.seq (.reg [un (.asg 2 (.c (.bool true)))])
 .ret))))
abbrev Ah5 : List RS := [.t 2]
theorem Aj5 : A5 Try.prog R7 20 Aio Ah5 = true := by kernel_rfl
def P3 : ACode :=
 (.seq (.seq (.reg [un (.mov 11 (.t 5)),
 un (.mov 12 (.t 0)),
 un (.len 13 (.t 12)),
 un (.bin 14 .lss (.t 11) (.t 13))])
 (.drop [11, 12, 13] (.cond (.t 14) .skip
 (.exit 0))))
 (.drop [11, 12, 13, 14] (.seq (.block 1 (.seq (.dreg [(un (.mov 17 (.t 0)), []),
 (un (.mov 18 (.t 5)), [17]),
 (un (.iad 19 1 (.t 17) (.t 18)), []),
 (un (.ld 20 1 false (.t 19)), []),
 (un (.mov 21 (.t 1)), [17, 18, 19, 20]),
 (un (.mov 22 (.t 5)), [17, 18, 19, 20, 21]),
 (un (.iad 23 1 (.t 21) (.t 22)), [17, 18, 19, 20]),
 (un (.ld 24 1 false (.t 23)), [17, 18, 19, 20])]
 [un (.bin 25 .neq (.t 20) (.t 24))])
 (.drop [17, 18, 19, 20, 21, 22, 23, 24] (.cond (.t 25) (.seq (.reg [un (.asg 4 (.c (.bool false)))])
 .ret)
 .skip))))
 (.drop [17, 18, 19, 20, 21, 22, 23, 24, 25] (.reg [un (.mov 15 (.t 5)),
 un (.bin 16 .add (.t 15) (.c (.int .i64 1))),
 un (.asg 5 (.t 16))])))))
def Agm : ACode :=
 (.seq (.reg [un (.asg 4 (.c (.bool false)))])
 (.seq (.seq (.reg [un (.mov 6 (.t 0)),
 un (.len 7 (.t 6)),
 un (.mov 8 (.t 1)),
 un (.len 9 (.t 8)),
 un (.bin 10 .neq (.t 7) (.t 9))])
 (.drop [6, 7, 8, 9] (.cond (.t 10) (.seq (.reg [un (.asg 4 (.c (.bool false)))])
 .ret)
 .skip)))
 (.drop [6, 7, 8, 9, 10] (.seq (.seq (.reg [un (.asg 5 (.c (.int .i64 0)))])
 (.block 0 (.loop P3)))
 (.drop [5, 11, 12, 13, 14, 17, 18, 19, 20, 21, 22, 23, 24, 25, 15, 16] (.seq (.reg [un (.asg 4 (.c (.bool true)))])
 .ret))))))
abbrev Agp : List RS := [.t 4]
theorem Af1 : A5 Try.prog O3 26 Agm Agp = true := by kernel_rfl
def Xu : ACode :=
 (.seq (.reg [un (.asg 6 (.c (.bool false)))])
 (.seq (.dreg [(un (.ld 7 1 false (.t 2)), []),
 (un (.ld 8 1 false (.t 3)), [7]),
 (un (.mov 9 (.t 0)), [7, 8]),
 (un (.iad 10 1 (.t 8) (.t 9)), [7]),
 (un (.ld 11 1 false (.t 10)), [7]),
 (un (.ld 12 1 false (.t 3)), [7, 8, 9, 10, 11]),
 (un (.mov 13 (.t 1)), [7, 8, 9, 10, 11, 12]),
 (un (.iad 14 1 (.t 12) (.t 13)), [7, 8, 9, 10, 11]),
 (un (.ld 15 1 false (.t 14)), [7, 8, 9, 10, 11])]
 [un (.cally 16 (.t 7) [(.t 11), (.t 15)]),
 un (.bin 17 .lss (.t 16) (.c (.int .i64 0))),
 un (.asg 6 (.t 17))])
 (.drop [7, 8, 9, 10, 11, 12, 13, 14, 15, 16, 17] .ret)))
abbrev Yn : List RS := [.t 6]
theorem Ye : A5 Try.prog Ob 18 Xu Yn = true := by kernel_rfl
def Ru : ACode :=
 (.seq (.reg [un (.mov 6 (.t 5)),
 un (.mov 7 (.t 0)),
 un (.len 8 (.t 7)),
 un (.bin 9 .lss (.t 6) (.t 8)),
 un (.asg 10 (.t 9)),
 ⟨some (10, true), .mov 11 (.t 5)⟩,
 ⟨some (10, true), .mov 12 (.t 1)⟩,
 ⟨some (10, true), .len 13 (.t 12)⟩,
 ⟨some (10, true), .bin 14 .lss (.t 11) (.t 13)⟩,
 un (.pick 15 (.t 10) (.t 14) (.c (.bool false)))])
 (.drop [6, 7, 8, 9, 10, 11, 12, 13, 14] (.cond (.t 15) .skip
 (.exit 0))))
def J4 : ACode :=
 (.seq (.cut Ru)
 (.drop [6, 7, 8, 9, 10, 11, 12, 13, 14, 15] (.seq (.block 1 (.seq (.dreg [(un (.mov 18 (.t 0)), []),
 (un (.mov 19 (.t 5)), [18]),
 (un (.iad 20 1 (.t 18) (.t 19)), []),
 (un (.ld 21 1 false (.t 20)), []),
 (un (.mov 22 (.t 1)), [18, 19, 20, 21]),
 (un (.mov 23 (.t 5)), [18, 19, 20, 21, 22]),
 (un (.iad 24 1 (.t 22) (.t 23)), [18, 19, 20, 21]),
 (un (.ld 25 1 false (.t 24)), [18, 19, 20, 21])]
 [un (.bin 26 .neq (.t 21) (.t 25))])
 (.drop [18, 19, 20, 21, 22, 23, 24, 25] (.cond (.t 26) (.seq (.seq (.dreg [(un (.mov 27 (.t 0)), []),
 (un (.mov 28 (.t 5)), [27]),
 (un (.iad 29 1 (.t 27) (.t 28)), []),
 (un (.ld 30 1 false (.t 29)), []),
 (un (.mov 31 (.t 1)), [27, 28, 29, 30]),
 (un (.mov 32 (.t 5)), [27, 28, 29, 30, 31]),
 (un (.iad 33 1 (.t 31) (.t 32)), [27, 28, 29, 30]),
 (un (.ld 34 1 false (.t 33)), [27, 28, 29, 30])]
 [un (.bin 35 .lss (.t 30) (.t 34))])
 (.drop [27, 28, 29, 30, 31, 32, 33, 34] (.cond (.t 35) (.seq (.reg [un (.asg 4 (.c (.int .i64 (-1))))])
 .ret)
 .skip)))
 (.drop [27, 28, 29, 30, 31, 32, 33, 34, 35] (.seq (.reg [un (.asg 4 (.c (.int .i64 1)))])
 .ret)))
 .skip))))
 (.drop [18, 19, 20, 21, 22, 23, 24, 25, 26, 27, 28, 29, 30, 31, 32, 33, 34, 35] (.reg [un (.mov 16 (.t 5)),
 un (.bin 17 .add (.t 16) (.c (.int .i64 1))),
 un (.asg 5 (.t 17))])))))
def Vu : ACode :=
 (.seq (.reg [un (.asg 4 (.c (.int .i64 0)))])
 (.seq (.seq (.reg [un (.asg 5 (.c (.int .i64 0)))])
 (.block 0 (.loop J4)))
 (.drop [5, 6, 7, 8, 9, 10, 11, 12, 13, 14, 15, 18, 19, 20, 21, 22, 23, 24, 25, 26, 27, 28, 29, 30, 31, 32, 33, 34, 35, 16, 17] (.seq (.block 2 (.seq (.reg [un (.mov 37 (.t 0)),
 un (.len 38 (.t 37)),
 un (.mov 39 (.t 1)),
 un (.len 40 (.t 39)),
 un (.bin 41 .lss (.t 38) (.t 40)),
 un (.asg 36 (.t 41))])
 (.drop [37, 38, 39, 40, 41] (.cond (.t 36) (.seq (.reg [un (.asg 4 (.c (.int .i64 (-1))))])
 .ret)
 (.seq (.reg [un (.mov 43 (.t 0)),
 un (.len 44 (.t 43)),
 un (.mov 45 (.t 1)),
 un (.len 46 (.t 45)),
 un (.bin 47 .gtr (.t 44) (.t 46)),
 un (.asg 42 (.t 47))])
 (.drop [43, 44, 45, 46, 47] (.cond (.t 42) (.seq (.reg [un (.asg 4 (.c (.int .i64 1)))])
 .ret)
 .skip)))))))
 (.drop [37, 38, 39, 40, 41, 36, 43, 44, 45, 46, 47, 42] (.seq (.reg [un (.asg 4 (.c (.int .i64 0)))])
 .ret))))))
abbrev Vg : List RS := [.t 4]
theorem Vi : A5 Try.prog Ih 48 Vu Vg = true := by kernel_rfl
def N2 : ACode :=
 (.seq (.seq (.reg [un (.mov 6 (.t 4)),
 un (.mov 7 (.t 0)),
 un (.slen 8 (.t 7)),
 un (.bin 9 .lss (.t 6) (.t 8))])
 (.drop [6, 7, 8] (.cond (.t 9) .skip
 (.exit 0))))
 (.drop [6, 7, 8, 9] (.seq (.block 1 (.dreg [(un (.fadr 12 1 (.t 3)), [18]),
 (un (.ld 13 1 false (.t 12)), [18]),
 (un (.mov 14 (.t 0)), [12, 13]),
 (un (.mov 15 (.t 4)), [12, 13, 14]),
 (un (.sidx 16 (.t 14) (.t 15)), [12, 13]),
 (un (.bin 17 .sub (.t 16) (.c (.int .u8 48))), [12, 13]),
 (un (.cnv 18 .i64 (.t 17)), [12, 13]),
 (un (.bsl 19 1 [(.t 18)]), [12, 13])]
 [un (.app 20 1 (.t 13) (.t 19)),
 un (.fadr 21 1 (.t 3)),
 un (.st 1 (.t 21) (.t 20))]))
 (.drop [12, 13, 14, 15, 16, 17, 18, 19, 20, 21] (.reg [un (.mov 10 (.t 4)),
 un (.bin 11 .add (.t 10) (.c (.int .i64 1))),
 un (.asg 4 (.t 11))])))))
def Abm : ACode :=
 (.seq (.reg [un (.alc 2 (.agg [.int .i64 0, .nilsl 1]))])
 (.seq (.reg [un (.bld 5 [.int .i64 0, .nilsl 1] [(0, 1, (.c (.int .i64 2)))]),
 un (.alc 3 (.agg [.int .i64 0, .nilsl 1])),
 un (.st 2 (.t 3) (.t 5))])
 (.drop [5] (.seq (.seq (.reg [un (.asg 4 (.c (.int .i64 0)))])
 (.block 0 (.loop N2)))
 (.drop [4, 6, 7, 8, 9, 12, 13, 14, 15, 16, 17, 18, 19, 20, 21, 10, 11] (.seq (.reg [un (.ld 22 2 true (.t 3)),
 un (.st 2 (.t 2) (.t 22))])
 (.drop [22] .ret)))))))
abbrev Ab3 : List RS := [.c 2 2 true]
theorem Abs : A5 Try.prog A8 23 Abm Ab3 = true := by kernel_rfl
def Nw : ACode :=
 (.seq (.seq (.reg [un (.mov 6 (.t 4)),
 un (.mov 7 (.t 0)),
 un (.mov 8 (.t 0)),
 un (.bin 9 .mul (.t 7) (.t 8)),
 un (.mov 10 (.t 0)),
 un (.bin 11 .mul (.t 9) (.t 10)),
 un (.bin 12 .lss (.t 6) (.t 11))])
 (.drop [6, 7, 8, 9, 10, 11] (.cond (.t 12) .skip
 (.exit 0))))
 (.drop [6, 7, 8, 9, 10, 11, 12] (.seq (.block 1 (.dreg [(un (.fadr 15 1 (.t 3)), [35]),
 (un (.ld 16 1 false (.t 15)), [35]),
 (un (.mov 17 (.t 4)), [15, 16]),
 (un (.mov 18 (.t 0)), [15, 16, 17]),
 (un (.mov 19 (.t 0)), [15, 16, 17, 18]),
 (un (.bin 20 .mul (.t 18) (.t 19)), [15, 16, 17]),
 (un (.bin 21 .quo (.t 17) (.t 20)), [15, 16]),
 (un (.mov 22 (.t 0)), [15, 16, 17, 18, 19, 20, 21]),
 (un (.bin 23 .add (.t 21) (.t 22)), [15, 16]),
 (un (.mov 24 (.t 4)), [15, 16, 17, 18, 19, 20, 21, 22, 23]),
 (un (.mov 25 (.t 0)), [15, 16, 17, 18, 19, 20, 21, 22, 23, 24]),
 (un (.bin 26 .quo (.t 24) (.t 25)), [15, 16, 17, 18, 19, 20, 21, 22, 23]),
 (un (.mov 27 (.t 0)), [15, 16, 17, 18, 19, 20, 21, 22, 23, 24, 25, 26]),
 (un (.bin 28 .rem (.t 26) (.t 27)), [15, 16, 17, 18, 19, 20, 21, 22, 23]),
 (un (.bin 29 .sub (.t 23) (.t 28)), [15, 16]),
 (un (.mov 30 (.t 4)), [15, 16, 17, 18, 19, 20, 21, 22, 23, 24, 25, 26, 27, 28, 29]),
 (un (.mov 31 (.t 0)), [15, 16, 17, 18, 19, 20, 21, 22, 23, 24, 25, 26, 27, 28, 29, 30]),
 (un (.bin 32 .rem (.t 30) (.t 31)), [15, 16, 17, 18, 19, 20, 21, 22, 23, 24, 25, 26, 27, 28, 29]),
 (un (.bin 33 .add (.t 29) (.t 32)), [15, 16]),
 (un (.mov 34 (.t 0)), [15, 16, 17, 18, 19, 20, 21, 22, 23, 24, 25, 26, 27, 28, 29, 30, 31, 32, 33]),
 (un (.bin 35 .rem (.t 33) (.t 34)), [15, 16]),
 (un (.bsl 36 1 [(.t 35)]), [15, 16])]
 [un (.app 37 1 (.t 16) (.t 36)),
 un (.fadr 38 1 (.t 3)),
 un (.st 1 (.t 38) (.t 37))]))
 (.drop [15, 16, 17, 18, 19, 20, 21, 22, 23, 24, 25, 26, 27, 28, 29, 30, 31, 32, 33, 34, 35, 36, 37, 38] (.reg [un (.mov 13 (.t 4)),
 un (.bin 14 .add (.t 13) (.c (.int .i64 1))),
 un (.asg 4 (.t 14))])))))
def Aa8 : ACode :=
 (.seq (.reg [un (.alc 2 (.agg [.int .i64 0, .nilsl 1]))])
 (.seq (.reg [un (.bld 5 [.int .i64 0, .nilsl 1] [(0, 1, (.c (.int .i64 3)))]),
 un (.alc 3 (.agg [.int .i64 0, .nilsl 1])),
 un (.st 2 (.t 3) (.t 5))])
 (.drop [5] (.seq (.seq (.reg [un (.asg 4 (.c (.int .i64 0)))])
 (.block 0 (.loop Nw)))
 (.drop [4, 6, 7, 8, 9, 10, 11, 12, 15, 16, 17, 18, 19, 20, 21, 22, 23, 24, 25, 26, 27, 28, 29, 30, 31, 32, 33, 34, 35, 36, 37, 38, 13, 14] (.seq (.reg [un (.ld 39 2 true (.t 3)),
 un (.st 2 (.t 2) (.t 39))])
 (.drop [39] .ret)))))))
abbrev Aca : List RS := [.c 2 2 true]
theorem Abu : A5 Try.prog I2 40 Aa8 Aca = true := by kernel_rfl
def S7 : ACode :=
 (.seq (.seq (.reg [un (.mov 6 (.t 1)),
 un (.bin 7 .gtr (.t 6) (.c (.int .i64 0)))])
 (.drop [6] (.cond (.t 7) .skip
 (.exit 0))))
 (.drop [6, 7] (.seq (.block 1 (.reg [un (.mov 10 (.t 5)),
 un (.mov 11 (.t 0)),
 un (.bin 12 .mul (.t 10) (.t 11)),
 un (.asg 5 (.t 12))]))
 (.drop [10, 11, 12] (.reg [un (.mov 8 (.t 1)),
 un (.bin 9 .sub (.t 8) (.c (.int .i64 1))),
 un (.asg 1 (.t 9))])))))
def Aiz : ACode :=
 (.seq (.reg [un (.asg 4 (.c (.int .i64 0)))])
 (.seq (.reg [un (.asg 5 (.c (.int .i64 1)))])
 (.seq (.block 0 (.loop S7))
 (.drop [6, 7, 10, 11, 12, 8, 9] (.seq (.reg [un (.mov 13 (.t 5)),
 un (.asg 4 (.t 13))])
 (.drop [13] .ret))))))
abbrev Ajf : List RS := [.t 4]
theorem Ah8 : A5 Try.prog R5 14 Aiz Ajf = true := by kernel_rfl
def Q6 : ACode :=
 (.seq (.seq (.reg [un (.mov 11 (.t 5)),
 un (.mov 12 (.t 0)),
 un (.len 13 (.t 12)),
 un (.bin 14 .lss (.t 11) (.t 13))])
 (.drop [11, 12, 13] (.cond (.t 14) .skip
 (.exit 0))))
 (.drop [11, 12, 13, 14] (.seq (.block 1 (.seq (.dreg [(un (.mov 17 (.t 0)), []),
 (un (.mov 18 (.t 5)), [17]),
 (un (.iad 19 1 (.t 17) (.t 18)), []),
 (un (.ld 20 1 false (.t 19)), []),
 (un (.mov 21 (.t 1)), [17, 18, 19, 20]),
 (un (.mov 22 (.t 5)), [17, 18, 19, 20, 21]),
 (un (.iad 23 1 (.t 21) (.t 22)), [17, 18, 19, 20]),
 (un (.ld 24 1 false (.t 23)), [17, 18, 19, 20])]
 [un (.call 25 Fc [((.t 20), false), ((.t 24), false)]),
 un (.un 26 .not (.t 25))])
 (.drop [17, 18, 19, 20, 21, 22, 23, 24, 25] (.cond (.t 26) (.seq (.reg [un (.asg 4 (.c (.bool false)))])
 .ret)
 .skip))))
 (.drop [17, 18, 19, 20, 21, 22, 23, 24, 25, 26] (.reg [un (.mov 15 (.t 5)),
 un (.bin 16 .add (.t 15) (.c (.int .i64 1))),
 un (.asg 5 (.t 16))])))))
def Aff : ACode :=
 (.seq (.reg [un (.asg 4 (.c (.bool false)))])
 (.seq (.seq (.reg [un (.mov 6 (.t 0)),
 un (.len 7 (.t 6)),
 un (.mov 8 (.t 1)),
 un (.len 9 (.t 8)),
 un (.bin 10 .neq (.t 7) (.t 9))])
 (.drop [6, 7, 8, 9] (.cond (.t 10) (.seq (.reg [un (.asg 4 (.c (.bool false)))])
 .ret)
 .skip)))
 (.drop [6, 7, 8, 9, 10] (.seq (.seq (.reg [un (.asg 5 (.c (.int .i64 0)))])
 (.block 0 (.loop Q6)))
 (.drop [5, 11, 12, 13, 14, 17, 18, 19, 20, 21, 22, 23, 24, 25, 26, 15, 16] (.seq (.reg [un (.asg 4 (.c (.bool true)))])
 .ret))))))
abbrev Afe : List RS := [.t 4]
theorem Agb : A5 Try.prog La 27 Aff Afe = true := by kernel_rfl
def Ol : ACode :=
 (.seq (.seq (.reg [un (.mov 6 (.t 5)),
 un (.mov 7 (.t 0)),
 un (.len 8 (.t 7)),
 un (.bin 9 .lss (.t 6) (.t 8))])
 (.drop [6, 7, 8] (.cond (.t 9) .skip
 (.exit 0))))
 (.drop [6, 7, 8, 9] (.seq (.block 1 (.seq (.reg [un (.mov 12 (.t 1)),
 un (.mov 13 (.t 0)),
 un (.mov 14 (.t 5)),
 un (.iad 15 1 (.t 13) (.t 14)),
 un (.ld 16 1 false (.t 15)),
 un (.call 17 T1 [((.t 12), false), ((.t 16), false)]),
 un (.un 18 .not (.t 17))])
 (.drop [12, 13, 14, 15, 16, 17] (.cond (.t 18) (.seq (.reg [un (.asg 4 (.c (.bool false)))])
 .ret)
 .skip))))
 (.drop [12, 13, 14, 15, 16, 17, 18] (.reg [un (.mov 10 (.t 5)),
 un (.bin 11 .add (.t 10) (.c (.int .i64 1))),
 un (.asg 5 (.t 11))])))))
def Adq : ACode :=
 (.seq (.reg [un (.asg 4 (.c (.bool false)))])
 (.seq (.seq (.reg [un (.asg 5 (.c (.int .i64 0)))])
 (.block 0 (.loop Ol)))
 (.drop [5, 6, 7, 8, 9, 12, 13, 14, 15, 16, 17, 18, 10, 11] (.seq (.reg [un (.asg 4 (.c (.bool true)))])
 .ret))))
abbrev Aeh : List RS := [.t 4]
theorem Aek : A5 Try.prog Ch 19 Adq Aeh = true := by kernel_rfl
def Qw : ACode :=
 (.seq (.seq (.reg [un (.mov 6 (.t 5)),
 un (.mov 7 (.t 0)),
 un (.len 8 (.t 7)),
 un (.bin 9 .lss (.t 6) (.t 8))])
 (.drop [6, 7, 8] (.cond (.t 9) .skip
 (.exit 0))))
 (.drop [6, 7, 8, 9] (.seq (.block 1 (.seq (.reg [un (.mov 12 (.t 0)),
 un (.mov 13 (.t 5)),
 un (.iad 14 1 (.t 12) (.t 13)),
 un (.ld 15 1 false (.t 14)),
 un (.mov 16 (.t 1)),
 un (.call 17 Fc [((.t 15), false), ((.t 16), false)])])
 (.drop [12, 13, 14, 15, 16] (.cond (.t 17) (.seq (.reg [un (.mov 18 (.t 5)),
 un (.asg 4 (.t 18))])
 (.drop [18] .ret))
 .skip))))
 (.drop [12, 13, 14, 15, 16, 17, 18] (.reg [un (.mov 10 (.t 5)),
 un (.bin 11 .add (.t 10) (.c (.int .i64 1))),
 un (.asg 5 (.t 11))])))))
def Aft : ACode :=
 (.seq (.reg [un (.asg 4 (.c (.int .i64 0)))])
 (.seq (.seq (.reg [un (.asg 5 (.c (.int .i64 0)))])
 (.block 0 (.loop Qw)))
 (.drop [5, 6, 7, 8, 9, 12, 13, 14, 15, 16, 17, 18, 10, 11] (.seq (.reg [un (.asg 4 (.c (.int .i64 (-1))))])
 .ret))))
abbrev Af8 : List RS := [.t 4]
theorem Afj : A5 Try.prog Lf 19 Aft Af8 = true := by kernel_rfl
def Xj : ACode :=
 (.seq (.reg [un (.asg 4 (.c (.int .i64 0)))])
 (.seq (.seq (.reg [un (.mov 6 (.t 1)),
 un (.bin 7 .leq (.t 6) (.c (.int .i64 1)))])
 (.drop [6] (.cond (.t 7) (.seq (.reg [un (.asg 4 (.c (.int .i64 0)))])
 .ret)
 .skip)))
 (.drop [6, 7] (.seq (.reg [un (.mov 8 (.t 0)),
 un (.call 9 G4 [((.t 8), true)]),
 un (.asg 5 (.t 9))])
 (.drop [8, 9] (.seq (.seq (.reg [un (.mov 10 (.t 1)),
 un (.bin 11 .gtr (.t 10) (.c (.int .i64 200)))])
 (.drop [10] (.cond (.t 11) (.reg [un (.mov 12 (.t 5)),
 un (.bin 13 .mul (.t 12) (.c (.int .i64 256))),
 un (.mov 14 (.t 0)),
 un (.call 15 G4 [((.t 14), true)]),
 un (.bin 16 .add (.t 13) (.t 15)),
 un (.asg 5 (.t 16))])
 .skip)))
 (.drop [10, 11, 12, 13, 14, 15, 16] (.seq (.reg [un (.mov 17 (.t 5)),
 un (.mov 18 (.t 1)),
 un (.bin 19 .rem (.t 17) (.t 18)),
 un (.asg 4 (.t 19))])
 (.drop [17, 18, 19] .ret)))))))))
abbrev Xm : List RS := [.t 4]
theorem X6 : A5 Try.prog A6 20 Xj Xm = true := by kernel_rfl
def Qb : ACode :=
 (.seq (.seq (.reg [un (.mov 42 (.t 10)),
 un (.mov 43 (.t 8)),
 un (.len 44 (.t 43)),
 un (.bin 45 .lss (.t 42) (.t 44))])
 (.drop [42, 43, 44] (.cond (.t 45) .skip
 (.exit 4))))
 (.drop [42, 43, 44, 45] (.seq (.block 5 (.reg [un (.mov 48 (.t 9)),
 un (.asg 49 (.t 48)),
 ⟨some (49, true), .mov 50 (.t 1)⟩,
 ⟨some (49, true), .mov 51 (.t 8)⟩,
 ⟨some (49, true), .mov 52 (.t 10)⟩,
 ⟨some (49, true), .iad 53 1 (.t 51) (.t 52)⟩,
 ⟨some (49, true), .ld 54 1 false (.t 53)⟩,
 ⟨some (49, true), .iad 55 1 (.t 50) (.t 54)⟩,
 ⟨some (49, true), .ld 56 1 false (.t 55)⟩,
 un (.pick 57 (.t 49) (.t 56) (.c (.bool false))),
 un (.asg 9 (.t 57))]))
 (.drop [48, 49, 50, 51, 52, 53, 54, 55, 56, 57] (.reg [un (.mov 46 (.t 10)),
 un (.bin 47 .add (.t 46) (.c (.int .i64 1))),
 un (.asg 10 (.t 47))])))))
def Qq : ACode :=
 (.seq (.seq (.reg [un (.mov 21 (.t 7)),
 un (.fadr 22 1 (.t 2)),
 un (.ld 23 1 false (.t 22)),
 un (.mov 24 (.t 6)),
 un (.iad 25 2 (.t 23) (.t 24)),
 un (.fadr 26 1 (.t 25)),
 un (.ld 27 1 false (.t 26)),
 un (.len 28 (.t 27)),
 un (.bin 29 .lss (.t 21) (.t 28))])
 (.drop [21, 22, 23, 24, 25, 26, 27, 28] (.cond (.t 29) .skip
 (.exit 2))))
 (.drop [21, 22, 23, 24, 25, 26, 27, 28, 29] (.seq (.block 3 (.seq (.dreg [(un (.fadr 32 0 (.t 2)), []),
 (un (.ld 33 1 false (.t 32)), []),
 (un (.fadr 34 1 (.t 2)), [32, 33]),
 (un (.ld 35 1 false (.t 34)), [32, 33]),
 (un (.mov 36 (.t 6)), [32, 33, 34, 35]),
 (un (.iad 37 2 (.t 35) (.t 36)), [32, 33]),
 (un (.fadr 38 0 (.t 37)), [32, 33]),
 (un (.ld 39 1 false (.t 38)), [32, 33]),
 (un (.mov 40 (.t 7)), [32, 33, 34, 35, 36, 37, 38, 39])]
 [un (.call 41 Pn [((.t 33), false), ((.t 39), false), ((.t 40), false)]),
 un (.asg 8 (.t 41))])
 (.drop [32, 33, 34, 35, 36, 37, 38, 39, 40, 41] (.seq (.reg [un (.asg 9 (.c (.bool true)))])
 (.seq (.seq (.reg [un (.asg 10 (.c (.int .i64 0)))])
 (.block 4 (.loop Qb)))
 (.drop [10, 42, 43, 44, 45, 48, 49, 50, 51, 52, 53, 54, 55, 56, 57, 46, 47] (.seq (.reg [un (.mov 58 (.t 9))])
 (.cond (.t 58) (.reg [un (.mov 59 (.t 5)),
 un (.fadr 60 1 (.t 2)),
 un (.ld 61 1 false (.t 60)),
 un (.mov 62 (.t 6)),
 un (.iad 63 2 (.t 61) (.t 62)),
 un (.fadr 64 1 (.t 63)),
 un (.ld 65 1 false (.t 64)),
 un (.mov 66 (.t 7)),
 un (.iad 67 1 (.t 65) (.t 66)),
 un (.ld 68 1 false (.t 67)),
 un (.iad 69 1 (.t 59) (.t 68)),
 un (.st 1 (.t 69) (.c (.bool true)))])
 .skip))))))))
 (.drop [32, 33, 34, 35, 36, 37, 38, 39, 40, 41, 8, 9, 10, 42, 43, 44, 45, 48, 49, 50, 51, 52, 53, 54, 55, 56, 57, 46, 47, 58, 59, 60, 61, 62, 63, 64, 65, 66, 67, 68, 69] (.reg [un (.mov 30 (.t 7)),
 un (.bin 31 .add (.t 30) (.c (.int .i64 1))),
 un (.asg 7 (.t 31))])))))
def Re : ACode :=
 (.seq (.seq (.reg [un (.mov 14 (.t 6)),
 un (.fadr 15 1 (.t 2)),
 un (.ld 16 1 false (.t 15)),
 un (.len 17 (.t 16)),
 un (.bin 18 .lss (.t 14) (.t 17))])
 (.drop [14, 15, 16, 17] (.cond (.t 18) .skip
 (.exit 0))))
 (.drop [14, 15, 16, 17, 18] (.seq (.block 1 (.seq (.reg [un (.asg 7 (.c (.int .i64 0)))])
 (.block 2 (.loop Qq))))
 (.drop [7, 21, 22, 23, 24, 25, 26, 27, 28, 29, 32, 33, 34, 35, 36, 37, 38, 39, 40, 41, 8, 9, 10, 42, 43, 44, 45, 48, 49, 50, 51, 52, 53, 54, 55, 56, 57, 46, 47, 58, 59, 60, 61, 62, 63, 64, 65, 66, 67, 68, 69, 30, 31] (.reg [un (.mov 19 (.t 6)),
 un (.bin 20 .add (.t 19) (.c (.int .i64 1))),
 un (.asg 6 (.t 20))])))))
def Agn : ACode :=
 (.seq (.reg [un (.box 2 (.t 0)),
 un (.asg 4 (.c (.nilsl 1)))])
 (.seq (.reg [un (.bsl 11 1 []),
 un (.mov 12 (.t 1)),
 un (.app 13 1 (.t 11) (.t 12)),
 un (.asg 5 (.t 13))])
 (.drop [11, 12, 13] (.seq (.seq (.reg [un (.asg 6 (.c (.int .i64 0)))])
 (.block 0 (.loop Re)))
 (.drop [6, 14, 15, 16, 17, 18, 7, 21, 22, 23, 24, 25, 26, 27, 28, 29, 32, 33, 34, 35, 36, 37, 38, 39, 40, 41, 8, 9, 10, 42, 43, 44, 45, 48, 49, 50, 51, 52, 53, 54, 55, 56, 57, 46, 47, 58, 59, 60, 61, 62, 63, 64, 65, 66, 67, 68, 69, 30, 31, 19, 20] (.seq (.reg [un (.mov 70 (.t 5)),
 un (.asg 4 (.t 70))])
 (.drop [70] .ret)))))))
abbrev Ago : List RS := [.t 4]
theorem Ae6 : A5 Try.prog K7 71 Agn Ago = true := by kernel_rfl
def Mq : ACode :=
 (.seq (.reg [un (.bin 12 .lss (.t 11) (.t 10))])
 (.seq (.cond (.t 12) .skip
 (.exit 0))
 (.seq (.block 1 (.seq (.reg [un (.iad 13 1 (.t 9) (.t 11)),
 un (.ld 14 1 false (.t 13)),
 un (.asg 7 (.t 14))])
 (.drop [13, 14] (.seq (.reg [un (.mov 15 (.t 1)),
 un (.mov 16 (.t 7)),
 un (.call 17 O5 [((.t 15), false), ((.t 16), false)]),
 un (.un 18 .not (.t 17))])
 (.drop [15, 16, 17] (.cond (.t 18) (.reg [un (.mov 19 (.t 5)),
 un (.mov 20 (.t 7)),
 un (.bsl 21 1 [(.t 20)]),
 un (.app 22 1 (.t 19) (.t 21)),
 un (.asg 5 (.t 22))])
 .skip))))))
 (.drop [13, 14, 7, 15, 16, 17, 18, 19, 20, 21, 22] (.reg [un (.bin 23 .add (.t 11) (.c (.int .i64 1))),
 un (.asg 11 (.t 23))])))))
def Zn : ACode :=
 (.seq (.reg [un (.asg 4 (.c (.nilsl 1)))])
 (.seq (.reg [un (.bsl 8 1 []),
 un (.asg 5 (.t 8))])
 (.drop [8] (.seq (.seq (.reg [un (.mov 9 (.t 0)),
 un (.len 10 (.t 9)),
 un (.mov 11 (.c (.int .i64 0)))])
 (.block 0 (.loop Mq)))
 (.drop [9, 10, 11, 12, 13, 14, 7, 15, 16, 17, 18, 19, 20, 21, 22, 23] (.seq (.reg [un (.mov 24 (.t 5)),
 un (.asg 4 (.t 24))])
 (.drop [24] .ret)))))))
abbrev Zi : List RS := [.t 4]
theorem Zz : A5 Try.prog Kt 25 Zn Zi = true := by kernel_rfl
def Ve : ACode :=
 (.seq (.reg [un (.asg 4 (.c (.int .i64 0)))])
 (.seq (.block 0 (.seq (.reg [un (.mov 6 (.t 0)),
 un (.len 7 (.t 6)),
 un (.mov 8 (.t 1)),
 un (.len 9 (.t 8)),
 un (.bin 10 .lss (.t 7) (.t 9)),
 un (.asg 5 (.t 10))])
 (.drop [6, 7, 8, 9, 10] (.cond (.t 5) (.seq (.reg [un (.asg 4 (.c (.int .i64 (-1))))])
 .ret)
 (.seq (.reg [un (.mov 12 (.t 0)),
 un (.len 13 (.t 12)),
 un (.mov 14 (.t 1)),
 un (.len 15 (.t 14)),
 un (.bin 16 .gtr (.t 13) (.t 15)),
 un (.asg 11 (.t 16))])
 (.drop [12, 13, 14, 15, 16] (.cond (.t 11) (.seq (.reg [un (.asg 4 (.c (.int .i64 1)))])
 .ret)
 .skip)))))))
 (.drop [6, 7, 8, 9, 10, 5, 12, 13, 14, 15, 16, 11] (.seq (.reg [un (.mov 17 (.t 0)),
 un (.mov 18 (.t 1)),
 un (.call 19 Ih [((.t 17), false), ((.t 18), false)]),
 un (.asg 4 (.t 19))])
 (.drop [17, 18, 19] .ret)))))
abbrev Vf : List RS := [.t 4]
theorem Vd : A5 Try.prog Fr 20 Ve Vf = true := by kernel_rfl
def Acp : ACode :=
 (.seq (.reg [un (.alc 2 (.agg [.int .i64 0, .nilsl 2]))])
 (.seq (.seq (.reg [un (.mov 3 (.t 0))])
 (.block 0 (.seq (.reg [un (.bin 5 .eql (.t 3) (.c (.int .i64 0))),
 un (.asg 4 (.t 5))])
 (.drop [5] (.cond (.t 4) (.seq (.reg [⟨none, .call 6 A8 [((.c (.str ⟨#[48, 48, 48, 49]⟩)), false)]⟩,
 un (.bsl 7 2 [(.t 6)]),
 un (.bld 8 [.int .i64 0, .nilsl 2] [(0, 1, (.c (.int .i64 2))), (1, 1, (.t 7))]),
 un (.st 2 (.t 2) (.t 8))])
 (.drop [6, 7, 8] .ret))
 (.seq (.reg [un (.bin 10 .eql (.t 3) (.c (.int .i64 1))),
 un (.asg 9 (.t 10))])
 (.drop [10] (.cond (.t 9) (.seq (.reg [⟨none, .call 11 A8 [((.c (.str ⟨#[48, 48, 48, 49]⟩)), false)]⟩,
 ⟨none, .call 12 A8 [((.c (.str ⟨#[48, 49, 49, 49]⟩)), false)]⟩,
 un (.bsl 13 2 [(.t 11), (.t 12)]),
 un (.bld 14 [.int .i64 0, .nilsl 2] [(0, 1, (.c (.int .i64 2))), (1, 1, (.t 13))]),
 un (.st 2 (.t 2) (.t 14))])
 (.drop [11, 12, 13, 14] .ret))
 (.seq (.reg [un (.bin 16 .eql (.t 3) (.c (.int .i64 2))),
 un (.asg 15 (.t 16))])
 (.drop [16] (.cond (.t 15) (.seq (.reg [⟨none, .call 17 A8 [((.c (.str ⟨#[48, 48, 48, 49]⟩)), false)]⟩,
 ⟨none, .call 18 A8 [((.c (.str ⟨#[48, 49, 49, 49]⟩)), false)]⟩,
 un (.bsl 19 1 [(.c (.int .i64 1)), (.c (.int .i64 0))]),
 un (.bld 20 [.int .i64 0, .nilsl 1] [(0, 1, (.c (.int .i64 1))), (1, 1, (.t 19))]),
 un (.bsl 21 2 [(.t 17), (.t 18), (.t 20)]),
 un (.bld 22 [.int .i64 0, .nilsl 2] [(0, 1, (.c (.int .i64 2))), (1, 1, (.t 21))]),
 un (.st 2 (.t 2) (.t 22))])
 (.drop [17, 18, 19, 20, 21, 22] .ret))
 (.seq (.reg [un (.bin 24 .eql (.t 3) (.c (.int .i64 3))),
 un (.asg 23 (.t 24))])
 (.drop [24] (.cond (.t 23) (.seq (.reg [un (.call 25 I2 [((.c (.int .i64 2)), false)]),
 un (.bsl 26 2 [(.t 25)]),
 un (.bld 27 [.int .i64 0, .nilsl 2] [(0, 1, (.c (.int .i64 2))), (1, 1, (.t 26))]),
 un (.st 2 (.t 2) (.t 27))])
 (.drop [25, 26, 27] .ret))
 (.seq (.reg [un (.bin 29 .eql (.t 3) (.c (.int .i64 4))),
 un (.asg 28 (.t 29))])
 (.drop [29] (.cond (.t 28) (.seq (.reg [⟨none, .call 30 A8 [((.c (.str ⟨#[48, 49, 50, 49, 50, 48, 50, 48, 49]⟩)), false)]⟩,
 un (.bsl 31 2 [(.t 30)]),
 un (.bld 32 [.int .i64 0, .nilsl 2] [(0, 1, (.c (.int .i64 3))), (1, 1, (.t 31))]),
 un (.st 2 (.t 2) (.t 32))])
 (.drop [30, 31, 32] .ret))
 (.seq (.reg [un (.bin 34 .eql (.t 3) (.c (.int .i64 5))),
 un (.asg 33 (.t 34))])
 (.drop [34] (.cond (.t 33) (.seq (.reg [⟨none, .call 35 A8 [((.c (.str ⟨#[48, 49, 48, 49, 49, 50, 48, 50, 50]⟩)), false)]⟩,
 un (.bsl 36 2 [(.t 35)]),
 un (.bld 37 [.int .i64 0, .nilsl 2] [(0, 1, (.c (.int .i64 3))), (1, 1, (.t 36))]),
 un (.st 2 (.t 2) (.t 37))])
 (.drop [35, 36, 37] .ret))
 (.seq (.reg [un (.bin 39 .eql (.t 3) (.c (.int .i64 6))),
 un (.asg 38 (.t 39))])
 (.drop [39] (.cond (.t 38) (.seq (.reg [⟨none, .call 40 A8 [((.c (.str ⟨#[48, 49, 50, 51, 49, 48, 51, 50, 50, 51, 48, 49, 51, 50, 49, 48]⟩)), false)]⟩,
 un (.bsl 41 2 [(.t 40)]),
 un (.bld 42 [.int .i64 0, .nilsl 2] [(0, 1, (.c (.int .i64 4))), (1, 1, (.t 41))]),
 un (.st 2 (.t 2) (.t 42))])
 (.drop [40, 41, 42] .ret))
 (.seq (.reg [un (.bin 44 .eql (.t 3) (.c (.int .i64 7))),
 un (.asg 43 (.t 44))])
 (.drop [44] (.cond (.t 43) (.seq (.reg [⟨none, .call 45 A8 [((.c (.str ⟨#[48, 48, 48, 48, 49, 49, 48, 49, 50]⟩)), false)]⟩,
 ⟨none, .call 46 A8 [((.c (.str ⟨#[48, 49, 50, 49, 49, 50, 50, 50, 50]⟩)), false)]⟩,
 un (.bsl 47 2 [(.t 45), (.t 46)]),
 un (.bld 48 [.int .i64 0, .nilsl 2] [(0, 1, (.c (.int .i64 3))), (1, 1, (.t 47))]),
 un (.st 2 (.t 2) (.t 48))])
 (.drop [45, 46, 47, 48] .ret))
 (.seq (.reg [un (.bin 50 .eql (.t 3) (.c (.int .i64 8))),
 un (.asg 49 (.t 50))])
 (.drop [50] (.cond (.t 49) (.seq (.reg [un (.bsl 51 1 [(.c (.int .i64 1)), (.c (.int .i64 2)), (.c (.int .i64 3)), (.c (.int .i64 0))]),
 un (.bld 52 [.int .i64 0, .nilsl 1] [(0, 1, (.c (.int .i64 1))), (1, 1, (.t 51))]),
 un (.bsl 53 2 [(.t 52)]),
 un (.bld 54 [.int .i64 0, .nilsl 2] [(0, 1, (.c (.int .i64 4))), (1, 1, (.t 53))]),
 un (.st 2 (.t 2) (.t 54))])
 (.drop [51, 52, 53, 54] .ret))
 (.seq (.reg [un (.bin 56 .eql (.t 3) (.c (.int .i64 9))),
 un (.asg 55 (.t 56))])
 (.drop [56] (.cond (.t 55) (.seq (.reg [un (.bsl 57 1 [(.c (.int .i64 0)), (.c (.int .i64 0)), (.c (.int .i64 0)), (.c (.int .i64 1)), (.c (.int .i64 0)), (.c (.int .i64 1)), (.c (.int .i64 1)), (.c (.int .i64 1))]),
 un (.bld 58 [.int .i64 0, .nilsl 1] [(0, 1, (.c (.int .i64 3))), (1, 1, (.t 57))]),
 un (.bsl 59 2 [(.t 58)]),
 un (.bld 60 [.int .i64 0, .nilsl 2] [(0, 1, (.c (.int .i64 2))), (1, 1, (.t 59))]),
 un (.st 2 (.t 2) (.t 60))])
 (.drop [57, 58, 59, 60] .ret))
 (.seq (.reg [un (.bin 62 .eql (.t 3) (.c (.int .i64 10))),
 un (.asg 61 (.t 62))])
 (.drop [62] (.cond (.t 61) (.seq (.reg [⟨none, .call 63 A8 [((.c (.str ⟨#[48, 48, 48, 49, 49, 49, 50, 50, 50]⟩)), false)]⟩,
 un (.bsl 64 2 [(.t 63)]),
 un (.bld 65 [.int .i64 0, .nilsl 2] [(0, 1, (.c (.int .i64 3))), (1, 1, (.t 64))]),
 un (.st 2 (.t 2) (.t 65))])
 (.drop [63, 64, 65] .ret))
 (.seq (.reg [un (.bin 67 .eql (.t 3) (.c (.int .i64 11))),
 un (.asg 66 (.t 67))])
 (.drop [67] (.cond (.t 66) (.seq (.reg [⟨none, .call 68 A8 [((.c (.str ⟨#[48, 48, 48, 48, 48, 48, 49, 48, 48, 49, 48, 48, 50, 48, 50, 48, 48, 48, 51, 51, 48, 49, 50, 51, 52]⟩)), false)]⟩,
 ⟨none, .call 69 A8 [((.c (.str ⟨#[48, 49, 50, 51, 52, 49, 49, 52, 52, 52, 50, 52, 50, 52, 52, 51, 52, 52, 51, 52, 52, 52, 52, 52, 52]⟩)), false)]⟩,
 un (.bsl 70 2 [(.t 68), (.t 69)]),
 un (.bld 71 [.int .i64 0, .nilsl 2] [(0, 1, (.c (.int .i64 5))), (1, 1, (.t 70))]),
 un (.st 2 (.t 2) (.t 71))])
 (.drop [68, 69, 70, 71] .ret))
 (.seq (.reg [un (.bin 73 .eql (.t 3) (.c (.int .i64 12))),
 un (.asg 72 (.t 73))])
 (.drop [73] (.cond (.t 72) (.seq (.reg [⟨none, .call 74 A8 [((.c (.str ⟨#[48, 49, 50, 51, 49, 50, 51, 48, 50, 51, 48, 49, 51, 48, 49, 50]⟩)), false)]⟩,
 un (.bsl 75 2 [(.t 74)]),
 un (.bld 76 [.int .i64 0, .nilsl 2] [(0, 1, (.c (.int .i64 4))), (1, 1, (.t 75))]),
 un (.st 2 (.t 2) (.t 76))])
 (.drop [74, 75, 76] .ret))
 (.seq (.reg [un (.bin 78 .eql (.t 3) (.c (.int .i64 13))),
 un (.asg 77 (.t 78))])
 (.drop [78] (.cond (.t 77) (.seq (.reg [un (.bsl 79 1 [(.c (.int .i64 0)), (.c (.int .i64 0)), (.c (.int .i64 1))]),
 un (.bld 80 [.int .i64 0, .nilsl 1] [(0, 1, (.c (.int .i64 1))), (1, 1, (.t 79))]),
 un (.bsl 81 1 [(.c (.int .i64 2))]),
 un (.bld 82 [.int .i64 0, .nilsl 1] [(0, 1, (.c (.int .i64 0))), (1, 1, (.t 81))]),
 un (.bsl 83 2 [(.t 80), (.t 82)]),
 un (.bld 84 [.int .i64 0, .nilsl 2] [(0, 1, (.c (.int .i64 3))), (1, 1, (.t 83))]),
 un (.st 2 (.t 2) (.t 84))])
 (.drop [79, 80, 81, 82, 83, 84] .ret))
 (.seq (.reg [un (.bin 86 .eql (.t 3) (.c (.int .i64 14))),
 un (.asg 85 (.t 86))])
 (.drop [86] (.cond (.t 85) (.seq (.reg [⟨none, .call 87 A8 [((.c (.str ⟨#[48]⟩)), false)]⟩,
 un (.bsl 88 2 [(.t 87)]),
 un (.bld 89 [.int .i64 0, .nilsl 2] [(0, 1, (.c (.int .i64 1))), (1, 1, (.t 88))]),
 un (.st 2 (.t 2) (.t 89))])
 (.drop [87, 88, 89] .ret))
 (.seq (.reg [un (.bin 91 .eql (.t 3) (.c (.int .i64 15))),
 un (.asg 90 (.t 91))])
 (.drop [91] (.cond (.t 90) (.seq (.reg [un (.call 92 I2 [((.c (.int .i64 3)), false)]),
 un (.bsl 93 2 [(.t 92)]),
 un (.bld 94 [.int .i64 0, .nilsl 2] [(0, 1, (.c (.int .i64 3))), (1, 1, (.t 93))]),
 un (.st 2 (.t 2) (.t 94))])
 (.drop [92, 93, 94] .ret))
 .skip))))))))))))))))))))))))))))))))))))))))))))))))))
 (.drop [3, 5, 4, 6, 7, 8, 10, 9, 11, 12, 13, 14, 16, 15, 17, 18, 19, 20, 21, 22, 24, 23, 25, 26, 27, 29, 28, 30, 31, 32, 34, 33, 35, 36, 37, 39, 38, 40, 41, 42, 44, 43, 45, 46, 47, 48, 50, 49, 51, 52, 53, 54, 56, 55, 57, 58, 59, 60, 62, 61, 63, 64, 65, 67, 66, 68, 69, 70, 71, 73, 72, 74, 75, 76, 78, 77, 79, 80, 81, 82, 83, 84, 86, 85, 87, 88, 89, 91, 90, 92, 93, 94] (.seq (.reg [un (.bld 95 [.int .i64 0, .nilsl 2] [(0, 1, (.c (.int .i64 2)))]),
 un (.st 2 (.t 2) (.t 95))])
 (.drop [95] .ret)))))
abbrev Ad8 : List RS := [.c 2 2 true]
theorem Adz : A5 Try.prog Nt 96 Acp Ad8 = true := by kernel_rfl
def Al6 : ACode :=
 (.seq (.reg [un (.box 2 (.t 0)),
 un (.asg 4 (.c (.bool false)))])
 (.seq (.dreg [(un (.fadr 5 0 (.t 2)), []),
 (un (.ld 6 1 false (.t 5)), []),
 (un (.bin 7 .geq (.t 6) (.c (.int .i64 0))), []),
 (un (.asg 8 (.t 7)), []),
 (⟨some (8, true), .fadr 9 0 (.t 2)⟩, [7]),
 (⟨some (8, true), .ld 10 1 false (.t 9)⟩, [7]),
 (⟨some (8, true), .bin 11 .leq (.t 10) (.c (.int .i64 3))⟩, [7]),
 (un (.pick 12 (.t 8) (.t 11) (.c (.bool false))), [7]),
 (un (.asg 13 (.t 12)), [7]),
 (⟨some (13, true), .fadr 14 1 (.t 2)⟩, [7, 12]),
 (⟨some (13, true), .ld 15 1 false (.t 14)⟩, [7, 12]),
 (⟨some (13, true), .len 16 (.t 15)⟩, [7, 12]),
 (⟨some (13, true), .mov 17 (.t 1)⟩, [14, 15, 16, 7, 12]),
 (⟨some (13, true), .fadr 18 0 (.t 2)⟩, [14, 15, 16, 17, 7, 12]),
 (⟨some (13, true), .ld 19 1 false (.t 18)⟩, [14, 15, 16, 17, 7, 12]),
 (⟨some (13, true), .call 20 R5 [((.t 17), false), ((.t 19), false)]⟩, [14, 15, 16, 7, 12]),
 (⟨some (13, true), .bin 21 .eql (.t 16) (.t 20)⟩, [7, 12]),
 (un (.pick 22 (.t 13) (.t 21) (.c (.bool false))), [7, 12]),
 (un (.asg 23 (.t 22)), [7, 12]),
 (⟨some (23, true), .fadr 24 1 (.t 2)⟩, [7, 12, 22]),
 (⟨some (23, true), .ld 25 1 false (.t 24)⟩, [7, 12, 22]),
 (⟨some (23, true), .mov 26 (.t 1)⟩, [24, 25, 7, 12, 22])]
 [⟨some (23, true), .call 27 I0 [((.t 25), false), ((.t 26), false)]⟩,
 un (.pick 28 (.t 23) (.t 27) (.c (.bool false))),
 un (.asg 4 (.t 28))])
 (.drop [5, 6, 7, 8, 9, 10, 11, 12, 13, 14, 15, 16, 17, 18, 19, 20, 21, 22, 23, 24, 25, 26, 27, 28] .ret)))
abbrev Aml : List RS := [.t 4]
theorem Akk : A5 Try.prog Ty 29 Al6 Aml = true := by kernel_rfl
def Aef : ACode :=
 (.seq (.dreg [(un (.fadr 6 0 (.t 3)), []),
 (un (.ld 7 1 false (.t 6)), []),
 (un (.call 8 G7 [((.t 7), false), ((.c (.int .i64 0)), false), ((.c (.int .i64 3)), false)]), []),
 (un (.un 9 .not (.t 8)), []),
 (un (.asg 10 (.t 9)), []),
 (⟨some (10, false), .fadr 11 1 (.t 3)⟩, [9]),
 (⟨some (10, false), .ld 12 1 false (.t 11)⟩, [9]),
 (⟨some (10, false), .len 13 (.t 12)⟩, [9]),
 (⟨some (10, false), .mov 14 (.t 0)⟩, [11, 12, 13, 9]),
 (⟨some (10, false), .fadr 15 0 (.t 3)⟩, [11, 12, 13, 14, 9]),
 (⟨some (10, false), .ld 16 1 false (.t 15)⟩, [11, 12, 13, 14, 9]),
 (⟨some (10, false), .call 17 M2 [((.t 14), false), ((.t 16), false)]⟩, [11, 12, 13, 9])]
 [⟨some (10, false), .bin 18 .neq (.t 13) (.t 17)⟩,
 un (.pick 19 (.t 10) (.c (.bool true)) (.t 18))])
 (.drop [6, 7, 8, 9, 10, 11, 12, 13, 14, 15, 16, 17, 18] (.cond (.t 19) (.seq (.reg [un (.asg 4 (.c (.bool false)))])
 .ret)
 .skip)))
def Ud : ACode :=
 (.seq (.seq (.reg [un (.mov 20 (.t 5)),
 un (.fadr 21 1 (.t 3)),
 un (.ld 22 1 false (.t 21)),
 un (.len 23 (.t 22)),
 un (.bin 24 .lss (.t 20) (.t 23))])
 (.drop [20, 21, 22, 23] (.cond (.t 24) .skip
 (.exit 0))))
 (.drop [20, 21, 22, 23, 24] (.seq (.block 1 (.seq (.reg [un (.fadr 27 1 (.t 3)),
 un (.ld 28 1 false (.t 27)),
 un (.mov 29 (.t 5)),
 un (.iad 30 1 (.t 28) (.t 29)),
 un (.ld 31 1 false (.t 30)),
 un (.mov 32 (.t 0)),
 un (.bin 33 .sub (.t 32) (.c (.int .i64 1))),
 un (.call 34 G7 [((.t 31), false), ((.c (.int .i64 0)), false), ((.t 33), false)]),
 un (.un 35 .not (.t 34))])
 (.drop [27, 28, 29, 30, 31, 32, 33, 34] (.cond (.t 35) (.seq (.reg [un (.asg 4 (.c (.bool false)))])
 .ret)
 .skip))))
 (.drop [27, 28, 29, 30, 31, 32, 33, 34, 35] (.reg [un (.mov 25 (.t 5)),
 un (.bin 26 .add (.t 25) (.c (.int .i64 1))),
 un (.asg 5 (.t 26))])))))
def Akt : ACode :=
 (.seq (.reg [un (.box 3 (.t 1)),
 un (.asg 4 (.c (.bool false)))])
 (.seq (.cut Aef)
 (.drop [6, 7, 8, 9, 10, 11, 12, 13, 14, 15, 16, 17, 18, 19] (.seq (.seq (.reg [un (.asg 5 (.c (.int .i64 0)))])
 (.block 0 (.loop Ud)))
 (.drop [5, 20, 21, 22, 23, 24, 27, 28, 29, 30, 31, 32, 33, 34, 35, 25, 26] (.seq (.reg [un (.asg 4 (.c (.bool true)))])
 .ret))))))
abbrev Al1 : List RS := [.t 4]
theorem Aln : A5 Try.prog Ts 36 Akt Al1 = true := by kernel_rfl
def Lq : ACode :=
 (.seq (.seq (.reg [un (.mov 6 (.t 5)),
 un (.mov 7 (.t 1)),
 un (.len 8 (.t 7)),
 un (.bin 9 .lss (.t 6) (.t 8))])
 (.drop [6, 7, 8] (.cond (.t 9) .skip
 (.exit 0))))
 (.drop [6, 7, 8, 9] (.seq (.block 1 (.seq (.reg [un (.mov 12 (.t 1)),
 un (.mov 13 (.t 5)),
 un (.iad 14 1 (.t 12) (.t 13)),
 un (.ld 15 1 false (.t 14)),
 un (.mov 16 (.t 0)),
 un (.bin 17 .sub (.t 16) (.c (.int .i64 1))),
 un (.call 18 G7 [((.t 15), false), ((.c (.int .i64 0)), false), ((.t 17), false)]),
 un (.un 19 .not (.t 18))])
 (.drop [12, 13, 14, 15, 16, 17, 18] (.cond (.t 19) (.seq (.reg [un (.asg 4 (.c (.bool false)))])
 .ret)
 .skip))))
 (.drop [12, 13, 14, 15, 16, 17, 18, 19] (.reg [un (.mov 10 (.t 5)),
 un (.bin 11 .add (.t 10) (.c (.int .i64 1))),
 un (.asg 5 (.t 11))])))))
def Xp : ACode :=
 (.seq (.reg [un (.asg 4 (.c (.bool false)))])
 (.seq (.seq (.reg [un (.asg 5 (.c (.int .i64 0)))])
 (.block 0 (.loop Lq)))
 (.drop [5, 6, 7, 8, 9, 12, 13, 14, 15, 16, 17, 18, 19, 10, 11] (.seq (.reg [un (.asg 4 (.c (.bool true)))])
 .ret))))
abbrev Xh : List RS := [.t 4]
theorem Xt : A5 Try.prog Js 20 Xp Xh = true := by kernel_rfl
def Lx : ACode :=
 (.seq (.reg [un (.bin 22 .lss (.t 21) (.t 20))])
 (.seq (.cond (.t 22) .skip
 (.exit 4))
 (.seq (.block 5 (.seq (.reg [un (.mov 23 (.t 21)),
 un (.iad 24 1 (.t 19) (.t 21)),
 un (.ld 25 1 false (.t 24)),
 un (.asg 8 (.t 23)),
 un (.asg 9 (.t 25))])
 (.drop [23, 24, 25] (.seq (.reg [un (.mov 26 (.t 1)),
 un (.mov 27 (.t 9)),
 un (.iad 28 1 (.t 26) (.t 27)),
 un (.ld 29 1 false (.t 28)),
 un (.un 30 .not (.t 29)),
 un (.asg 31 (.t 30)),
 ⟨some (31, true), .mov 32 (.t 8)⟩,
 ⟨some (31, true), .fadr 33 0 (.t 7)⟩,
 ⟨some (31, true), .ld 34 1 false (.t 33)⟩,
 ⟨some (31, true), .fadr 35 0 (.t 2)⟩,
 ⟨some (31, true), .ld 36 1 false (.t 35)⟩,
 ⟨some (31, true), .mov 37 (.t 1)⟩,
 ⟨some (31, true), .call 38 My [((.t 32), false), ((.t 34), false), ((.t 36), false), ((.t 37), false)]⟩,
 un (.pick 39 (.t 31) (.t 38) (.c (.bool false)))])
 (.drop [26, 27, 28, 29, 30, 31, 32, 33, 34, 35, 36, 37, 38] (.cond (.t 39) (.seq (.reg [un (.mov 40 (.t 1)),
 un (.mov 41 (.t 9)),
 un (.iad 42 1 (.t 40) (.t 41)),
 un (.st 1 (.t 42) (.c (.bool true)))])
 (.drop [40, 41, 42] (.reg [un (.asg 5 (.c (.bool true)))])))
 .skip))))))
 (.drop [23, 24, 25, 8, 9, 26, 27, 28, 29, 30, 31, 32, 33, 34, 35, 36, 37, 38, 39, 40, 41, 42] (.reg [un (.bin 43 .add (.t 21) (.c (.int .i64 1))),
 un (.asg 21 (.t 43))])))))
def Lo : ACode :=
 (.seq (.reg [un (.bin 15 .lss (.t 14) (.t 13))])
 (.seq (.cond (.t 15) .skip
 (.exit 2))
 (.seq (.block 3 (.seq (.reg [un (.iad 16 2 (.t 12) (.t 14)),
 un (.ld 17 2 true (.t 16)),
 un (.alc 7 (.agg [.int .i64 0, .nilsl 1])),
 un (.st 2 (.t 7) (.t 17))])
 (.drop [16, 17] (.seq (.reg [un (.fadr 18 1 (.t 7)),
 un (.ld 19 1 false (.t 18)),
 un (.len 20 (.t 19)),
 un (.mov 21 (.c (.int .i64 0)))])
 (.drop [18] (.block 4 (.loop Lx)))))))
 (.drop [16, 17, 7, 18, 19, 20, 21, 22, 23, 24, 25, 8, 9, 26, 27, 28, 29, 30, 31, 32, 33, 34, 35, 36, 37, 38, 39, 40, 41, 42, 43] (.reg [un (.bin 44 .add (.t 14) (.c (.int .i64 1))),
 un (.asg 14 (.t 44))])))))
def Lt : ACode :=
 (.seq (.seq (.reg [un (.mov 10 (.t 5))])
 (.cond (.t 10) .skip
 (.exit 0)))
 (.drop [10] (.block 1 (.seq (.reg [un (.asg 5 (.c (.bool false)))])
 (.seq (.reg [un (.fadr 11 1 (.t 2)),
 un (.ld 12 1 false (.t 11)),
 un (.len 13 (.t 12)),
 un (.mov 14 (.c (.int .i64 0)))])
 (.drop [11] (.block 2 (.loop Lo))))))))
def Yx : ACode :=
 (.seq (.reg [un (.box 2 (.t 0)),
 un (.asg 4 (.c (.nilsl 1)))])
 (.seq (.seq (.reg [un (.asg 5 (.c (.bool true)))])
 (.block 0 (.loop Lt)))
 (.drop [5, 10, 11, 12, 13, 14, 15, 16, 17, 7, 18, 19, 20, 21, 22, 23, 24, 25, 8, 9, 26, 27, 28, 29, 30, 31, 32, 33, 34, 35, 36, 37, 38, 39, 40, 41, 42, 43, 44] (.seq (.reg [un (.mov 45 (.t 1)),
 un (.asg 4 (.t 45))])
 (.drop [45] .ret)))))
abbrev Xv : List RS := [.t 4]
theorem Yb : A5 Try.prog J0 46 Yx Xv = true := by kernel_rfl
def M8 : ACode :=
 (.seq (.seq (.reg [un (.mov 8 (.t 7)),
 un (.mov 9 (.t 0)),
 un (.len 10 (.t 9)),
 un (.bin 11 .lss (.t 8) (.t 10))])
 (.drop [8, 9, 10] (.cond (.t 11) .skip
 (.exit 0))))
 (.drop [8, 9, 10, 11] (.seq (.block 1 (.seq (.dreg [(un (.mov 14 (.t 0)), []),
 (un (.mov 15 (.t 7)), [14]),
 (un (.iad 16 1 (.t 14) (.t 15)), []),
 (un (.ld 17 1 false (.t 16)), []),
 (un (.mov 18 (.t 1)), [14, 15, 16, 17]),
 (un (.mov 19 (.t 2)), [14, 15, 16, 17, 18]),
 (un (.call 20 G7 [((.t 17), false), ((.t 18), false), ((.t 19), false)]), []),
 (un (.un 21 .not (.t 20)), []),
 (un (.asg 22 (.t 21)), []),
 (⟨some (22, false), .mov 23 (.t 7)⟩, [21]),
 (⟨some (22, false), .bin 24 .gtr (.t 23) (.c (.int .i64 0))⟩, [21]),
 (⟨some (22, false), .asg 25 (.t 24)⟩, [21]),
 (⟨some (25, true), .mov 26 (.t 0)⟩, [21, 24]),
 (⟨some (25, true), .mov 27 (.t 7)⟩, [26, 21, 24]),
 (⟨some (25, true), .bin 28 .sub (.t 27) (.c (.int .i64 1))⟩, [26, 21, 24]),
 (⟨some (25, true), .iad 29 1 (.t 26) (.t 28)⟩, [21, 24]),
 (⟨some (25, true), .ld 30 1 false (.t 29)⟩, [21, 24]),
 (⟨some (25, true), .mov 31 (.t 0)⟩, [26, 27, 28, 29, 30, 21, 24]),
 (⟨some (25, true), .mov 32 (.t 7)⟩, [26, 27, 28, 29, 30, 31, 21, 24]),
 (⟨some (25, true), .iad 33 1 (.t 31) (.t 32)⟩, [26, 27, 28, 29, 30, 21, 24]),
 (⟨some (25, true), .ld 34 1 false (.t 33)⟩, [26, 27, 28, 29, 30, 21, 24])]
 [⟨some (25, true), .bin 35 .geq (.t 30) (.t 34)⟩,
 ⟨some (22, false), .pick 36 (.t 25) (.t 35) (.c (.bool false))⟩,
 un (.pick 37 (.t 22) (.c (.bool true)) (.t 36))])
 (.drop [14, 15, 16, 17, 18, 19, 20, 21, 22, 23, 24, 25, 26, 27, 28, 29, 30, 31, 32, 33, 34, 35, 36] (.cond (.t 37) (.seq (.reg [un (.asg 6 (.c (.bool false)))])
 .ret)
 .skip))))
 (.drop [14, 15, 16, 17, 18, 19, 20, 21, 22, 23, 24, 25, 26, 27, 28, 29, 30, 31, 32, 33, 34, 35, 36, 37] (.reg [un (.mov 12 (.t 7)),
 un (.bin 13 .add (.t 12) (.c (.int .i64 1))),
 un (.asg 7 (.t 13))])))))
def Ab4 : ACode :=
 (.seq (.reg [un (.asg 6 (.c (.bool false)))])
 (.seq (.seq (.reg [un (.asg 7 (.c (.int .i64 0)))])
 (.block 0 (.loop M8)))
 (.drop [7, 8, 9, 10, 11, 14, 15, 16, 17, 18, 19, 20, 21, 22, 23, 24, 25, 26, 27, 28, 29, 30, 31, 32, 33, 34, 35, 36, 37, 12, 13] (.seq (.reg [un (.asg 6 (.c (.bool true)))])
 .ret))))
abbrev Abl : List RS := [.t 6]
theorem Aa7 : A5 Try.prog Mi 38 Ab4 Abl = true := by kernel_rfl
def Qj : ACode :=
 (.seq (.seq (.reg [un (.mov 8 (.t 5)),
 un (.bin 9 .gtr (.t 8) (.c (.int .i64 0))),
 un (.asg 10 (.t 9)),
 ⟨some (10, true), .mov 11 (.t 1)⟩,
 ⟨some (10, true), .len 12 (.t 11)⟩,
 ⟨some (10, true), .mov 13 (.t 0)⟩,
 ⟨some (10, true), .mov 14 (.t 5)⟩,
 ⟨some (10, true), .bin 15 .sub (.t 14) (.c (.int .i64 1))⟩,
 ⟨some (10, true), .iad 16 1 (.t 13) (.t 15)⟩,
 ⟨some (10, true), .ld 17 1 false (.t 16)⟩,
 ⟨some (10, true), .len 18 (.t 17)⟩,
 ⟨some (10, true), .bin 19 .lss (.t 12) (.t 18)⟩,
 ⟨some (10, true), .asg 20 (.t 19)⟩,
 ⟨some (20, false), .mov 21 (.t 1)⟩,
 ⟨some (20, false), .len 22 (.t 21)⟩,
 ⟨some (20, false), .mov 23 (.t 0)⟩,
 ⟨some (20, false), .mov 24 (.t 5)⟩,
 ⟨some (20, false), .bin 25 .sub (.t 24) (.c (.int .i64 1))⟩,
 ⟨some (20, false), .iad 26 1 (.t 23) (.t 25)⟩,
 ⟨some (20, false), .ld 27 1 false (.t 26)⟩,
 ⟨some (20, false), .len 28 (.t 27)⟩,
 ⟨some (20, false), .bin 29 .eql (.t 22) (.t 28)⟩,
 ⟨some (20, false), .asg 30 (.t 29)⟩,
 ⟨some (30, true), .mov 31 (.t 1)⟩,
 ⟨some (30, true), .mov 32 (.t 0)⟩,
 ⟨some (30, true), .mov 33 (.t 5)⟩,
 ⟨some (30, true), .bin 34 .sub (.t 33) (.c (.int .i64 1))⟩,
 ⟨some (30, true), .iad 35 1 (.t 32) (.t 34)⟩,
 ⟨some (30, true), .ld 36 1 false (.t 35)⟩,
 ⟨some (30, true), .call 37 Pp [((.t 31), false), ((.t 36), false)]⟩,
 ⟨some (20, false), .pick 38 (.t 30) (.t 37) (.c (.bool false))⟩,
 ⟨some (10, true), .pick 39 (.t 20) (.c (.bool true)) (.t 38)⟩,
 un (.pick 40 (.t 10) (.t 39) (.c (.bool false)))])
 (.drop [8, 9, 10, 11, 12, 13, 14, 15, 16, 17, 18, 19, 20, 21, 22, 23, 24, 25, 26, 27, 28, 29, 30, 31, 32, 33, 34, 35, 36, 37, 38, 39] (.cond (.t 40) .skip
 (.exit 0))))
 (.drop [8, 9, 10, 11, 12, 13, 14, 15, 16, 17, 18, 19, 20, 21, 22, 23, 24, 25, 26, 27, 28, 29, 30, 31, 32, 33, 34, 35, 36, 37, 38, 39, 40] (.block 1 (.reg [un (.mov 41 (.t 5)),
 un (.bin 42 .sub (.t 41) (.c (.int .i64 1))),
 un (.asg 5 (.t 42))]))))
def Afg : ACode :=
 (.seq (.reg [un (.asg 4 (.c (.nilsl 1)))])
 (.seq (.reg [un (.mov 6 (.t 0)),
 un (.len 7 (.t 6)),
 un (.asg 5 (.t 7))])
 (.drop [6, 7] (.seq (.block 0 (.loop Qj))
 (.drop [8, 9, 10, 11, 12, 13, 14, 15, 16, 17, 18, 19, 20, 21, 22, 23, 24, 25, 26, 27, 28, 29, 30, 31, 32, 33, 34, 35, 36, 37, 38, 39, 40, 41, 42] (.seq (.dreg [(un (.bsl 43 1 []), [48]),
 (un (.mov 44 (.t 0)), [43, 48]),
 (un (.mov 45 (.t 5)), [43, 44, 48]),
 (un (.slc 46 1 (.t 44) none (some (.t 45))), [43, 48]),
 (un (.app 47 1 (.t 43) (.t 46)), [48]),
 (un (.mov 48 (.t 1)), [43, 44, 45, 46, 47, 43]),
 (un (.bsl 49 1 [(.t 48)]), [43, 44, 45, 46, 47, 43]),
 (un (.app 50 1 (.t 47) (.t 49)), [43, 48]),
 (un (.mov 51 (.t 0)), [43, 44, 45, 46, 47, 48, 49, 50, 43, 48, 47]),
 (un (.mov 52 (.t 5)), [43, 44, 45, 46, 47, 48, 49, 50, 51, 43, 48, 47]),
 (un (.slc 53 1 (.t 51) (some (.t 52)) none), [43, 44, 45, 46, 47, 48, 49, 50, 43, 48, 47])]
 [un (.app 54 1 (.t 50) (.t 53)),
 un (.asg 4 (.t 54))])
 (.drop [43, 44, 45, 46, 47, 48, 49, 50, 51, 52, 53, 54] .ret)))))))
abbrev Agj : List RS := [.t 4]
theorem Agu : A5 Try.prog Pm 55 Afg Agj = true := by kernel_rfl
def Y6 : ACode :=
 (.seq (.reg [un (.asg 4 (.c (.bool false)))])
 (.seq (.reg [un (.mov 5 (.t 0)),
 un (.mov 6 (.t 1)),
 un (.call 7 A6 [((.t 5), true), ((.t 6), false)]),
 un (.bin 8 .eql (.t 7) (.c (.int .i64 0))),
 un (.asg 4 (.t 8))])
 (.drop [5, 6, 7, 8] .ret)))
abbrev Z8 : List RS := [.t 4]
theorem Y7 : A5 Try.prog Hx 9 Y6 Z8 = true := by kernel_rfl
def Xc : ACode :=
 (.seq (.reg [un (.asg 4 (.c (.int .i64 0)))])
 (.seq (.reg [un (.mov 5 (.t 1)),
 un (.mov 6 (.t 0)),
 un (.mov 7 (.t 1)),
 un (.len 8 (.t 7)),
 un (.call 9 A6 [((.t 6), true), ((.t 8), false)]),
 un (.iad 10 1 (.t 5) (.t 9)),
 un (.ld 11 1 false (.t 10)),
 un (.asg 4 (.t 11))])
 (.drop [5, 6, 7, 8, 9, 10, 11] .ret)))
abbrev Wf : List RS := [.t 4]
theorem Wm : A5 Try.prog Bb 12 Xc Wf = true := by kernel_rfl
def Abk : ACode :=
 (.seq (.reg [un (.box 2 (.t 0)),
 un (.asg 4 (.c (.nilsl 1)))])
 (.seq (.dreg [(un (.ld 5 2 true (.t 2)), []),
 (un (.mov 6 (.t 1)), [5]),
 (un (.fadr 7 0 (.t 2)), [5, 6]),
 (un (.ld 8 1 false (.t 7)), [5, 6]),
 (un (.call 9 Mx [((.t 6), false), ((.t 8), false)]), [5])]
 [un (.call 10 J0 [((.t 5), false), ((.t 9), true)]),
 un (.call 11 Iy [((.t 10), false)]),
 un (.asg 4 (.t 11))])
 (.drop [5, 6, 7, 8, 9, 10, 11] .ret)))
abbrev Abe : List RS := [.t 4]
theorem Ab1 : A5 Try.prog Gp 12 Abk Abe = true := by kernel_rfl
def On : ACode :=
 (.seq (.seq (.reg [un (.mov 11 (.t 6)),
 un (.fadr 12 0 (.t 2)),
 un (.ld 13 1 false (.t 12)),
 un (.bin 14 .leq (.t 11) (.t 13))])
 (.drop [11, 12, 13] (.cond (.t 14) .skip
 (.exit 0))))
 (.drop [11, 12, 13, 14] (.seq (.block 1 (.reg [un (.ld 17 2 true (.t 2)),
 un (.mov 18 (.t 5)),
 un (.call 19 K7 [((.t 17), false), ((.t 18), false)]),
 un (.asg 5 (.t 19))]))
 (.drop [17, 18, 19] (.reg [un (.mov 15 (.t 6)),
 un (.bin 16 .add (.t 15) (.c (.int .i64 1))),
 un (.asg 6 (.t 16))])))))
def Aet : ACode :=
 (.seq (.reg [un (.box 2 (.t 0)),
 un (.asg 4 (.c (.nilsl 1)))])
 (.seq (.reg [un (.fadr 7 0 (.t 2)),
 un (.ld 8 1 false (.t 7)),
 un (.mov 9 (.t 1)),
 un (.call 10 Oj [((.t 8), false), ((.t 9), false)]),
 un (.asg 5 (.t 10))])
 (.drop [7, 8, 9, 10] (.seq (.seq (.reg [un (.asg 6 (.c (.int .i64 0)))])
 (.block 0 (.loop On)))
 (.drop [6, 11, 12, 13, 14, 17, 18, 19, 15, 16] (.seq (.reg [un (.mov 20 (.t 5)),
 un (.call 21 K9 [((.t 20), false)]),
 un (.asg 4 (.t 21))])
 (.drop [20, 21] .ret)))))))
abbrev Ad0 : List RS := [.t 4]
theorem Acl : A5 Try.prog Hr 22 Aet Ad0 = true := by kernel_rfl
def Vp : ACode :=
 (.seq (.reg [un (.fadr 5 0 (.t 1)),
 un (.ld 6 1 false (.t 5)),
 un (.bin 7 .lss (.t 6) (.c (.int .i64 1))),
 un (.asg 8 (.t 7)),
 ⟨some (8, false), .fadr 9 0 (.t 1)⟩,
 ⟨some (8, false), .ld 10 1 false (.t 9)⟩,
 ⟨some (8, false), .bin 11 .gtr (.t 10) (.c (.int .i64 8))⟩,
 un (.pick 12 (.t 8) (.c (.bool true)) (.t 11)),
 un (.asg 13 (.t 12)),
 ⟨some (13, false), .fadr 14 1 (.t 1)⟩,
 ⟨some (13, false), .ld 15 1 false (.t 14)⟩,
 ⟨some (13, false), .len 16 (.t 15)⟩,
 ⟨some (13, false), .bin 17 .gtr (.t 16) (.c (.int .i64 4))⟩,
 un (.pick 18 (.t 13) (.c (.bool true)) (.t 17))])
 (.drop [5, 6, 7, 8, 9, 10, 11, 12, 13, 14, 15, 16, 17] (.cond (.t 18) (.seq (.reg [un (.asg 2 (.c (.bool false)))])
 .ret)
 .skip)))
def Mn : ACode :=
 (.seq (.reg [un (.bin 23 .lss (.t 22) (.t 21))])
 (.seq (.cond (.t 23) .skip
 (.exit 0))
 (.seq (.block 1 (.seq (.reg [un (.iad 24 2 (.t 20) (.t 22)),
 un (.ld 25 2 true (.t 24)),
 un (.alc 4 (.agg [.int .i64 0, .nilsl 1])),
 un (.st 2 (.t 4) (.t 25))])
 (.drop [24, 25] (.seq (.reg [un (.ld 26 2 true (.t 4)),
 un (.fadr 27 0 (.t 1)),
 un (.ld 28 1 false (.t 27)),
 un (.call 29 Ty [((.t 26), false), ((.t 28), false)]),
 un (.un 30 .not (.t 29))])
 (.drop [26, 27, 28, 29] (.cond (.t 30) (.seq (.reg [un (.asg 2 (.c (.bool false)))])
 .ret)
 .skip))))))
 (.drop [24, 25, 4, 26, 27, 28, 29, 30] (.reg [un (.bin 31 .add (.t 22) (.c (.int .i64 1))),
 un (.asg 22 (.t 31))])))))
def Zs : ACode :=
 (.seq (.reg [un (.box 1 (.t 0)),
 un (.asg 2 (.c (.bool false)))])
 (.seq (.cut Vp)
 (.drop [5, 6, 7, 8, 9, 10, 11, 12, 13, 14, 15, 16, 17, 18] (.seq (.seq (.reg [un (.fadr 19 1 (.t 1)),
 un (.ld 20 1 false (.t 19)),
 un (.len 21 (.t 20)),
 un (.mov 22 (.c (.int .i64 0)))])
 (.drop [19] (.block 0 (.loop Mn))))
 (.drop [19, 20, 21, 22, 23, 24, 25, 4, 26, 27, 28, 29, 30, 31] (.seq (.reg [un (.asg 2 (.c (.bool true)))])
 .ret))))))
abbrev Zm : List RS := [.t 2]
theorem Zw : A5 Try.prog Ej 32 Zs Zm = true := by kernel_rfl
def Zu : ACode :=
 (.seq (.reg [un (.fadr 4 0 (.t 1)),
 un (.ld 5 1 false (.t 4)),
 un (.call 6 G7 [((.t 5), false), ((.c (.int .i64 1)), false), ((.c (.int .i64 8)), false)]),
 un (.un 7 .not (.t 6)),
 un (.asg 8 (.t 7)),
 ⟨some (8, false), .fadr 9 1 (.t 1)⟩,
 ⟨some (8, false), .ld 10 1 false (.t 9)⟩,
 ⟨some (8, false), .len 11 (.t 10)⟩,
 ⟨some (8, false), .bin 12 .gtr (.t 11) (.c (.int .i64 4))⟩,
 un (.pick 13 (.t 8) (.c (.bool true)) (.t 12))])
 (.drop [4, 5, 6, 7, 8, 9, 10, 11, 12] (.cond (.t 13) (.seq (.reg [un (.asg 2 (.c (.bool false)))])
 .ret)
 .skip)))
def Qa : ACode :=
 (.seq (.seq (.reg [un (.mov 14 (.t 3)),
 un (.fadr 15 1 (.t 1)),
 un (.ld 16 1 false (.t 15)),
 un (.len 17 (.t 16)),
 un (.bin 18 .lss (.t 14) (.t 17))])
 (.drop [14, 15, 16, 17] (.cond (.t 18) .skip
 (.exit 0))))
 (.drop [14, 15, 16, 17, 18] (.seq (.block 1 (.seq (.dreg [(un (.fadr 21 0 (.t 1)), []),
 (un (.ld 22 1 false (.t 21)), []),
 (un (.fadr 23 1 (.t 1)), [21, 22]),
 (un (.ld 24 1 false (.t 23)), [21, 22]),
 (un (.mov 25 (.t 3)), [21, 22, 23, 24]),
 (un (.iad 26 2 (.t 24) (.t 25)), [21, 22]),
 (un (.ld 27 2 true (.t 26)), [21, 22])]
 [un (.call 28 Ts [((.t 22), false), ((.t 27), false)]),
 un (.un 29 .not (.t 28))])
 (.drop [21, 22, 23, 24, 25, 26, 27, 28] (.cond (.t 29) (.seq (.reg [un (.asg 2 (.c (.bool false)))])
 .ret)
 .skip))))
 (.drop [21, 22, 23, 24, 25, 26, 27, 28, 29] (.reg [un (.mov 19 (.t 3)),
 un (.bin 20 .add (.t 19) (.c (.int .i64 1))),
 un (.asg 3 (.t 20))])))))
def Agr : ACode :=
 (.seq (.reg [un (.box 1 (.t 0)),
 un (.asg 2 (.c (.bool false)))])
 (.seq (.cut Zu)
 (.drop [4, 5, 6, 7, 8, 9, 10, 11, 12, 13] (.seq (.seq (.reg [un (.asg 3 (.c (.int .i64 0)))])
 (.block 0 (.loop Qa)))
 (.drop [3, 14, 15, 16, 17, 18, 21, 22, 23, 24, 25, 26, 27, 28, 29, 19, 20] (.seq (.reg [un (.asg 2 (.c (.bool true)))])
 .ret))))))
abbrev Afo : List RS := [.t 2]
theorem Afx : A5 Try.prog Fk 30 Agr Afo = true := by kernel_rfl
def Q2 : ACode :=
 (.seq (.reg [un (.mov 32 (.t 4)),
 un (.bin 33 .eql (.t 32) (.c (.int .i64 4))),
 un (.asg 34 (.t 33)),
 ⟨some (34, true), .fadr 35 0 (.t 7)⟩,
 ⟨some (34, true), .ld 36 1 false (.t 35)⟩,
 ⟨some (34, true), .bin 37 .eql (.t 36) (.c (.int .i64 3))⟩,
 un (.pick 38 (.t 34) (.t 37) (.c (.bool false)))])
 (.drop [32, 33, 34, 35, 36, 37] (.cond (.t 38) (.reg [un (.fadr 39 0 (.t 7)),
 un (.st 1 (.t 39) (.c (.int .i64 2)))])
 .skip)))
def Jg : ACode :=
 (.seq (.seq (.reg [un (.mov 44 (.t 8)),
 un (.bin 45 .gtr (.t 44) (.c (.int .i64 0)))])
 (.drop [44] (.cond (.t 45) .skip
 (.exit 2))))
 (.drop [44, 45] (.seq (.block 3 (.dreg [(un (.fadr 48 1 (.t 7)), [132, 52]),
 (un (.ld 49 1 false (.t 48)), [132, 52]),
 (un (.mov 50 (.t 0)), [48, 49]),
 (un (.mov 51 (.t 4)), [48, 49, 50]),
 (un (.call 52 A6 [((.t 50), true), ((.t 51), false)]), [132, 48, 49]),
 (un (.bsl 53 1 [(.t 52)]), [48, 49])]
 [un (.app 54 1 (.t 49) (.t 53)),
 un (.fadr 55 1 (.t 7)),
 un (.st 1 (.t 55) (.t 54))]))
 (.drop [48, 49, 50, 51, 52, 53, 54, 55] (.reg [un (.mov 46 (.t 8)),
 un (.bin 47 .sub (.t 46) (.c (.int .i64 1))),
 un (.asg 8 (.t 47))])))))
def Jl : ACode :=
 (.seq (.seq (.reg [un (.mov 24 (.t 6)),
 un (.bin 25 .gtr (.t 24) (.c (.int .i64 0)))])
 (.drop [24] (.cond (.t 25) .skip
 (.exit 0))))
 (.drop [24, 25] (.seq (.block 1 (.seq (.reg [un (.mov 28 (.t 0)),
 un (.bsl 29 1 [(.c (.int .i64 0)), (.c (.int .i64 1)), (.c (.int .i64 2)), (.c (.int .i64 2)), (.c (.int .i64 3))]),
 un (.call 30 Bb [((.t 28), true), ((.t 29), false)]),
 un (.bld 31 [.int .i64 0, .nilsl 1] [(0, 1, (.t 30))]),
 un (.alc 7 (.agg [.int .i64 0, .nilsl 1])),
 un (.st 2 (.t 7) (.t 31))])
 (.drop [28, 29, 30, 31] (.seq (.cut Q2)
 (.drop [32, 33, 34, 35, 36, 37, 38, 39] (.seq (.seq (.reg [un (.mov 40 (.t 4)),
 un (.fadr 41 0 (.t 7)),
 un (.ld 42 1 false (.t 41)),
 un (.call 43 M2 [((.t 40), false), ((.t 42), false)]),
 un (.asg 8 (.t 43))])
 (.drop [40, 41, 42, 43] (.block 2 (.loop Jg))))
 (.drop [40, 41, 42, 43, 8, 44, 45, 48, 49, 50, 51, 52, 53, 54, 55, 46, 47] (.reg [un (.fadr 56 1 (.t 5)),
 un (.ld 57 1 false (.t 56)),
 un (.ld 58 2 true (.t 7)),
 un (.bsl 59 2 [(.t 58)]),
 un (.app 60 2 (.t 57) (.t 59)),
 un (.fadr 61 1 (.t 5)),
 un (.st 1 (.t 61) (.t 60))]))))))))
 (.drop [28, 29, 30, 31, 7, 32, 33, 34, 35, 36, 37, 38, 39, 40, 41, 42, 43, 8, 44, 45, 48, 49, 50, 51, 52, 53, 54, 55, 46, 47, 56, 57, 58, 59, 60, 61] (.reg [un (.mov 26 (.t 6)),
 un (.bin 27 .sub (.t 26) (.c (.int .i64 1))),
 un (.asg 6 (.t 27))])))))
def Jk : ACode :=
 (.seq (.seq (.dreg [(un (.fadr 116 1 (.t 5)), [132]),
 (un (.ld 117 1 false (.t 116)), [132]),
 (un (.len 118 (.t 117)), [132]),
 (un (.mov 119 (.t 0)), [116, 117, 118]),
 (un (.call 120 A6 [((.t 119), true), ((.c (.int .i64 2)), false)]), [132, 116, 117, 118]),
 (un (.bin 121 .add (.c (.int .i64 4)) (.t 120)), [116, 117, 118])]
 [un (.bin 122 .lss (.t 118) (.t 121))])
 (.drop [116, 117, 118, 119, 120, 121] (.cond (.t 122) .skip
 (.exit 5))))
 (.drop [116, 117, 118, 119, 120, 121, 122] (.block 6 (.dregl [(0, .fadr 123 1 (.t 5)),
 (1, .ld 124 1 false (.t 123)),
 (2, .mov 125 (.t 4))]
 (.alt 3 (.mk 126 1 (.int .i64 0) (.t 125)) [0, 1, 2] [] (.alt 4 (.bld 127 [.int .i64 0, .nilsl 1] [(0, 1, (.c (.int .i64 1))), (1, 1, (.t 126))]) [0, 1] [] (.alt 5 (.bsl 128 2 [(.t 127)]) [0, 1] [] (.alt 6 (.app 129 2 (.t 124) (.t 128)) [0, 1] [124] (.alt 7 (.fadr 130 1 (.t 5)) [] [] (.alt 8 (.st 1 (.t 130) (.t 129)) [] [] .nil .nil) .nil) .nil) .nil) .nil) .nil)))))
def Tp : ACode :=
 (.seq (.reg [un (.alc 2 (.agg [.int .i64 0, .nilsl 2]))])
 (.seq (.seq (.reg [un (.mov 9 (.t 0)),
 un (.call 10 Hx [((.t 9), true), ((.c (.int .i64 4)), false)]),
 un (.un 11 .not (.t 10))])
 (.drop [9, 10] (.cond (.t 11) (.seq (.reg [un (.mov 12 (.t 0)),
 un (.call 13 A6 [((.t 12), true), ((.c (.int .i64 17)), false)]),
 un (.call 14 Nt [((.t 13), false)]),
 un (.alc 3 (.agg [.int .i64 0, .nilsl 2])),
 un (.st 2 (.t 3) (.t 14))])
 (.drop [12, 13, 14] (.seq (.reg [un (.ld 15 2 true (.t 3)),
 un (.st 2 (.t 2) (.t 15))])
 (.drop [15] .ret))))
 .skip)))
 (.drop [9, 10, 11, 12, 13, 14, 3, 15] (.seq (.reg [un (.mov 16 (.t 0)),
 un (.bsl 17 1 [(.c (.int .i64 2)), (.c (.int .i64 2)), (.c (.int .i64 3)), (.c (.int .i64 3)), (.c (.int .i64 4))]),
 un (.call 18 Bb [((.t 16), true), ((.t 17), false)]),
 un (.asg 4 (.t 18))])
 (.drop [16, 17, 18] (.seq (.reg [un (.mov 19 (.t 4)),
 un (.bld 20 [.int .i64 0, .nilsl 2] [(0, 1, (.t 19))]),
 un (.alc 5 (.agg [.int .i64 0, .nilsl 2])),
 un (.st 2 (.t 5) (.t 20))])
 (.drop [19, 20] (.seq (.seq (.reg [un (.mov 21 (.t 0)),
 un (.bsl 22 1 [(.c (.int .i64 1)), (.c (.int .i64 1)), (.c (.int .i64 2))]),
 un (.call 23 Bb [((.t 21), true), ((.t 22), false)]),
 un (.asg 6 (.t 23))])
 (.drop [21, 22, 23] (.block 0 (.loop Jl))))
 (.drop [21, 22, 23, 6, 24, 25, 28, 29, 30, 31, 7, 32, 33, 34, 35, 36, 37, 38, 39, 40, 41, 42, 43, 8, 44, 45, 48, 49, 50, 51, 52, 53, 54, 55, 46, 47, 56, 57, 58, 59, 60, 61, 26, 27] (.seq (.seq (.reg [un (.mov 62 (.t 0)),
 un (.call 63 A6 [((.t 62), true), ((.c (.int .i64 16)), false)])])
 (.drop [62] (.block 4 (.seq (.reg [un (.bin 65 .eql (.t 63) (.c (.int .i64 0))),
 un (.asg 64 (.t 65))])
 (.drop [65] (.cond (.t 64) (.reg [un (.mov 66 (.t 0)),
 un (.mov 67 (.t 4)),
 un (.bin 68 .add (.t 67) (.c (.int .i64 1))),
 un (.bsl 69 1 [(.c (.int .i64 0)), (.c (.int .i64 9)), (.t 68)]),
 un (.call 70 Bb [((.t 66), true), ((.t 69), false)]),
 un (.fadr 71 0 (.t 5)),
 un (.st 1 (.t 71) (.t 70))])
 (.seq (.reg [un (.bin 73 .eql (.t 63) (.c (.int .i64 1))),
 un (.asg 72 (.t 73))])
 (.drop [73] (.cond (.t 72) (.dregl [(0, .fadr 74 1 (.t 5)),
 (1, .ld 75 1 false (.t 74)),
 (2, .fadr 76 1 (.t 5)),
 (3, .ld 77 1 false (.t 76)),
 (4, .iad 78 2 (.t 77) (.c (.int .i64 0))),
 (5, .fadr 79 1 (.t 78)),
 (6, .ld 80 1 false (.t 79))]
 (.alt 7 (.bsl 81 1 [(.c (.int .i64 0))]) [0, 1, 2, 3, 4, 5, 6] [] (.alt 8 (.app 82 1 (.t 80) (.t 81)) [0, 1, 2, 3, 4, 5, 6] [80] (.alt 9 (.iad 83 2 (.t 75) (.c (.int .i64 0))) [0, 1] [] (.alt 10 (.fadr 84 1 (.t 83)) [] [] (.alt 11 (.st 1 (.t 84) (.t 82)) [] [] .nil .nil) .nil) .nil) .nil) .nil))
 (.seq (.reg [un (.bin 86 .eql (.t 63) (.c (.int .i64 2))),
 un (.asg 85 (.t 86))])
 (.drop [86] (.cond (.t 85) (.dregl [(0, .fadr 87 1 (.t 5)),
 (1, .ld 88 1 false (.t 87)),
 (2, .iad 89 2 (.t 88) (.c (.int .i64 0))),
 (3, .fadr 90 1 (.t 89)),
 (4, .ld 91 1 false (.t 90)),
 (5, .mov 92 (.t 0)),
 (6, .fadr 93 1 (.t 5)),
 (7, .ld 94 1 false (.t 93)),
 (8, .iad 95 2 (.t 94) (.c (.int .i64 0))),
 (9, .fadr 96 1 (.t 95)),
 (10, .ld 97 1 false (.t 96)),
 (13, .mov 100 (.t 0)),
 (14, .mov 101 (.t 4))]
 (.alt 11 (.len 98 (.t 97)) [0, 1, 2, 3, 4, 5, 6, 7, 8, 9, 10, 13, 14] [] (.alt 12 (.call 99 A6 [((.t 92), true), ((.t 98), false)]) [0, 1, 2, 3, 4, 5, 13, 14] [] (.alt 15 (.bsl 102 1 [(.c (.int .i64 (-1))), (.t 101)]) [0, 1, 2, 3, 4, 13, 14] [] (.alt 16 (.call 103 Bb [((.t 100), true), ((.t 102), false)]) [0, 1, 2, 3, 4, 13] [] (.alt 17 (.iad 104 1 (.t 91) (.t 99)) [0, 1, 2, 3, 4] [] (.alt 18 (.st 1 (.t 104) (.t 103)) [] [] .nil .nil) .nil) .nil) .nil) (.alt 15 (.bsl 102 1 [(.c (.int .i64 (-1))), (.t 101)]) [0, 1, 2, 3, 4, 5, 13, 14] [] (.alt 12 (.call 99 A6 [((.t 92), true), ((.t 98), false)]) [0, 1, 2, 3, 4, 5, 13] [] (.alt 16 (.call 103 Bb [((.t 100), true), ((.t 102), false)]) [0, 1, 2, 3, 4, 13] [] (.alt 17 (.iad 104 1 (.t 91) (.t 99)) [0, 1, 2, 3, 4] [] (.alt 18 (.st 1 (.t 104) (.t 103)) [] [] .nil .nil) .nil) .nil) .nil) .nil)) (.alt 15 (.bsl 102 1 [(.c (.int .i64 (-1))), (.t 101)]) [0, 1, 2, 3, 4, 5, 6, 7, 8, 9, 10, 13, 14] [] (.alt 11 (.len 98 (.t 97)) [0, 1, 2, 3, 4, 5, 6, 7, 8, 9, 10, 13] [] (.alt 12 (.call 99 A6 [((.t 92), true), ((.t 98), false)]) [0, 1, 2, 3, 4, 5, 13] [] (.alt 16 (.call 103 Bb [((.t 100), true), ((.t 102), false)]) [0, 1, 2, 3, 4, 13] [] (.alt 17 (.iad 104 1 (.t 91) (.t 99)) [0, 1, 2, 3, 4] [] (.alt 18 (.st 1 (.t 104) (.t 103)) [] [] .nil .nil) .nil) .nil) .nil) .nil) .nil)))
 (.seq (.reg [un (.bin 106 .eql (.t 63) (.c (.int .i64 3))),
 un (.asg 105 (.t 106))])
 (.drop [106] (.cond (.t 105) (.dregl [(0, .fadr 107 1 (.t 5)),
 (1, .ld 108 1 false (.t 107)),
 (2, .mov 109 (.t 0))]
 (.alt 3 (.bsl 110 1 [(.c (.int .i64 (-1))), (.c (.int .i64 4))]) [0, 1, 2] [] (.alt 4 (.call 111 Bb [((.t 109), true), ((.t 110), false)]) [0, 1, 2] [] (.alt 5 (.iad 112 2 (.t 108) (.c (.int .i64 0))) [0, 1] [] (.alt 6 (.fadr 113 0 (.t 112)) [] [] (.alt 7 (.st 1 (.t 113) (.t 111)) [] [] .nil .nil) .nil) .nil) .nil) .nil))
 (.seq (.reg [un (.bin 115 .eql (.t 63) (.c (.int .i64 4))),
 un (.asg 114 (.t 115))])
 (.drop [115] (.cond (.t 114) (.block 5 (.loop Jk))
 .skip))))))))))))))))))
 (.drop [62, 63, 65, 64, 66, 67, 68, 69, 70, 71, 73, 72, 74, 75, 76, 77, 78, 79, 80, 81, 82, 83, 84, 86, 85, 87, 88, 89, 90, 91, 92, 93, 94, 95, 96, 97, 98, 99, 100, 101, 102, 103, 104, 106, 105, 107, 108, 109, 110, 111, 112, 113, 115, 114, 116, 117, 118, 119, 120, 121, 122, 123, 124, 125, 126, 127, 128, 129, 130] (.seq (.reg [un (.ld 131 2 true (.t 5)),
 un (.st 2 (.t 2) (.t 131))])
 (.drop [131] .ret)))))))))))))
abbrev Tw : List RS := [.c 2 2 true]
theorem Uw : A5 Try.prog Fb 132 Tp Tw = true := by kernel_rfl
def W2 : ACode :=
 (.seq (.reg [un (.box 2 (.t 0)),
 un (.asg 4 (.c (.bool false)))])
 (.seq (.reg [un (.ld 5 2 true (.t 2)),
 un (.call 6 Ej [((.t 5), false)]),
 un (.asg 7 (.t 6)),
 ⟨some (7, true), .mov 8 (.t 1)⟩,
 ⟨some (7, true), .len 9 (.t 8)⟩,
 ⟨some (7, true), .bin 10 .leq (.t 9) (.c (.int .i64 20))⟩,
 un (.pick 11 (.t 7) (.t 10) (.c (.bool false))),
 un (.asg 12 (.t 11)),
 ⟨some (12, true), .mov 13 (.t 1)⟩,
 ⟨some (12, true), .fadr 14 0 (.t 2)⟩,
 ⟨some (12, true), .ld 15 1 false (.t 14)⟩,
 ⟨some (12, true), .call 16 I0 [((.t 13), false), ((.t 15), false)]⟩,
 un (.pick 17 (.t 12) (.t 16) (.c (.bool false))),
 un (.asg 4 (.t 17))])
 (.drop [5, 6, 7, 8, 9, 10, 11, 12, 13, 14, 15, 16, 17] .ret)))
abbrev Wj : List RS := [.t 4]
theorem Wa : A5 Try.prog Gb 18 W2 Wj = true := by kernel_rfl
def Afu : ACode :=
 (.seq (.reg [un (.box 2 (.t 0)),
 un (.asg 4 (.c (.bool false)))])
 (.seq (.reg [un (.ld 5 2 true (.t 2)),
 un (.call 6 Fk [((.t 5), false)]),
 un (.asg 7 (.t 6)),
 ⟨some (7, true), .mov 8 (.t 1)⟩,
 ⟨some (7, true), .len 9 (.t 8)⟩,
 ⟨some (7, true), .bin 10 .leq (.t 9) (.c (.int .i64 20))⟩,
 un (.pick 11 (.t 7) (.t 10) (.c (.bool false))),
 un (.asg 12 (.t 11)),
 ⟨some (12, true), .fadr 13 0 (.t 2)⟩,
 ⟨some (12, true), .ld 14 1 false (.t 13)⟩,
 ⟨some (12, true), .mov 15 (.t 1)⟩,
 ⟨some (12, true), .call 16 Js [((.t 14), false), ((.t 15), false)]⟩,
 un (.pick 17 (.t 12) (.t 16) (.c (.bool false))),
 un (.asg 4 (.t 17))])
 (.drop [5, 6, 7, 8, 9, 10, 11, 12, 13, 14, 15, 16, 17] .ret)))
abbrev Afw : List RS := [.t 4]
theorem Afp : A5 Try.prog Lc 18 Afu Afw = true := by kernel_rfl
def Ah3 : ACode :=
 (.seq (.reg [un (.box 2 (.t 0)),
 un (.asg 4 (.c (.bool false)))])
 (.seq (.reg [un (.mov 5 (.t 1)),
 un (.fadr 6 0 (.t 2)),
 un (.ld 7 1 false (.t 6)),
 un (.call 8 I0 [((.t 5), false), ((.t 7), false)]),
 un (.asg 9 (.t 8)),
 ⟨some (9, true), .mov 10 (.t 1)⟩,
 ⟨some (9, true), .call 11 R7 [((.t 10), false)]⟩,
 un (.pick 12 (.t 9) (.t 11) (.c (.bool false))),
 un (.asg 13 (.t 12)),
 ⟨some (13, true), .ld 14 2 true (.t 2)⟩,
 ⟨some (13, true), .mov 15 (.t 1)⟩,
 ⟨some (13, true), .call 16 Gp [((.t 14), false), ((.t 15), false)]⟩,
 ⟨some (13, true), .len 17 (.t 16)⟩,
 ⟨some (13, true), .mov 18 (.t 1)⟩,
 ⟨some (13, true), .len 19 (.t 18)⟩,
 ⟨some (13, true), .bin 20 .eql (.t 17) (.t 19)⟩,
 un (.pick 21 (.t 13) (.t 20) (.c (.bool false))),
 un (.asg 4 (.t 21))])
 (.drop [5, 6, 7, 8, 9, 10, 11, 12, 13, 14, 15, 16, 17, 18, 19, 20, 21] .ret)))
abbrev Aix : List RS := [.t 4]
theorem Ah6 : A5 Try.prog Hy 22 Ah3 Aix = true := by kernel_rfl
def Amf : ACode :=
 (.seq (.reg [un (.box 2 (.t 0)),
 un (.asg 4 (.c (.bool false)))])
 (.seq (.reg [un (.mov 5 (.t 1)),
 un (.fadr 6 0 (.t 2)),
 un (.ld 7 1 false (.t 6)),
 un (.bin 8 .sub (.t 7) (.c (.int .i64 1))),
 un (.call 9 Mi [((.t 5), false), ((.c (.int .i64 0)), false), ((.t 8), false)]),
 un (.asg 10 (.t 9)),
 ⟨some (10, true), .ld 11 2 true (.t 2)⟩,
 ⟨some (10, true), .mov 12 (.t 1)⟩,
 ⟨some (10, true), .call 13 Hr [((.t 11), false), ((.t 12), false)]⟩,
 ⟨some (10, true), .mov 14 (.t 1)⟩,
 ⟨some (10, true), .call 15 O3 [((.t 13), false), ((.t 14), false)]⟩,
 un (.pick 16 (.t 10) (.t 15) (.c (.bool false))),
 un (.asg 4 (.t 16))])
 (.drop [5, 6, 7, 8, 9, 10, 11, 12, 13, 14, 15, 16] .ret)))
abbrev Ale : List RS := [.t 4]
theorem Alx : A5 Try.prog Hk 17 Amf Ale = true := by kernel_rfl
def T6 : ACode :=
 (.seq (.reg [un (.box 3 (.t 1)),
 un (.asg 4 (.c (.int .i64 0)))])
 (.seq (.seq (.reg [un (.fadr 5 0 (.t 3)),
 un (.ld 6 1 false (.t 5)),
 un (.bin 7 .lss (.t 6) (.c (.int .i64 1))),
 un (.asg 8 (.t 7)),
 ⟨some (8, false), .mov 9 (.t 0)⟩,
 ⟨some (8, false), .call 10 Hx [((.t 9), true), ((.c (.int .i64 24)), false)]⟩,
 un (.pick 11 (.t 8) (.c (.bool true)) (.t 10))])
 (.drop [5, 6, 7, 8, 9, 10] (.cond (.t 11) (.seq (.reg [un (.mov 12 (.t 0)),
 un (.fadr 13 0 (.t 3)),
 un (.ld 14 1 false (.t 13)),
 un (.bsl 15 1 [(.c (.int .i64 (-1))), (.t 14)]),
 un (.call 16 Bb [((.t 12), true), ((.t 15), false)]),
 un (.asg 4 (.t 16))])
 (.drop [12, 13, 14, 15, 16] .ret))
 .skip)))
 (.drop [5, 6, 7, 8, 9, 10, 11, 12, 13, 14, 15, 16] (.seq (.reg [un (.mov 17 (.t 0)),
 un (.fadr 18 0 (.t 3)),
 un (.ld 19 1 false (.t 18)),
 un (.call 20 A6 [((.t 17), true), ((.t 19), false)]),
 un (.asg 4 (.t 20))])
 (.drop [17, 18, 19, 20] .ret)))))
abbrev T9 : List RS := [.t 4]
theorem Uz : A5 Try.prog Hb 21 T6 T9 = true := by kernel_rfl
def Wh : ACode :=
 (.seq (.reg [un (.box 2 (.t 0)),
 un (.asg 4 (.c (.nilsl 1))),
 un (.asg 5 (.c (.bool false)))])
 (.seq (.seq (.reg [un (.ld 6 2 true (.t 2)),
 un (.mov 7 (.t 1)),
 un (.call 8 Gb [((.t 6), false), ((.t 7), false)]),
 un (.un 9 .not (.t 8))])
 (.drop [6, 7, 8] (.cond (.t 9) (.seq (.reg [un (.bsl 10 1 []),
 un (.asg 4 (.t 10)),
 un (.asg 5 (.c (.bool false)))])
 (.drop [10] .ret))
 .skip)))
 (.drop [6, 7, 8, 9, 10] (.seq (.reg [un (.ld 11 2 true (.t 2)),
 un (.mov 12 (.t 1)),
 un (.call 13 Gp [((.t 11), false), ((.t 12), false)]),
 un (.asg 4 (.t 13)),
 un (.asg 5 (.c (.bool true)))])
 (.drop [11, 12, 13] .ret)))))
abbrev Wz : List RS := [.t 4, .t 5]
theorem W4 : A5 Try.prog Gg 14 Wh Wz = true := by kernel_rfl
def Xb : ACode :=
 (.seq (.reg [un (.box 2 (.t 0)),
 un (.asg 4 (.c (.nilsl 1))),
 un (.asg 5 (.c (.bool false)))])
 (.seq (.seq (.reg [un (.ld 6 2 true (.t 2)),
 un (.mov 7 (.t 1)),
 un (.call 8 Lc [((.t 6), false), ((.t 7), false)]),
 un (.un 9 .not (.t 8))])
 (.drop [6, 7, 8] (.cond (.t 9) (.seq (.reg [un (.bsl 10 1 []),
 un (.asg 4 (.t 10)),
 un (.asg 5 (.c (.bool false)))])
 (.drop [10] .ret))
 .skip)))
 (.drop [6, 7, 8, 9, 10] (.seq (.reg [un (.ld 11 2 true (.t 2)),
 un (.mov 12 (.t 1)),
 un (.call 13 Hr [((.t 11), false), ((.t 12), false)]),
 un (.asg 4 (.t 13)),
 un (.asg 5 (.c (.bool true)))])
 (.drop [11, 12, 13] .ret)))))
abbrev We : List RS := [.t 4, .t 5]
theorem Wx : A5 Try.prog I6 14 Xb We = true := by kernel_rfl
def Hf : ACode :=
 (.seq (.reg [un (.bin 42 .lss (.t 41) (.t 40))])
 (.seq (.cond (.t 42) .skip
 (.exit 4))
 (.seq (.block 5 (.seq (.reg [un (.mov 43 (.t 41)),
 un (.iad 44 1 (.t 39) (.t 41)),
 un (.ld 45 1 false (.t 44)),
 un (.asg 11 (.t 43)),
 un (.asg 12 (.t 45))])
 (.drop [43, 44, 45] (.seq (.reg [un (.mov 46 (.t 6)),
 un (.mov 47 (.t 12)),
 un (.iad 48 1 (.t 46) (.t 47)),
 un (.ld 49 1 false (.t 48)),
 un (.un 50 .not (.t 49)),
 un (.asg 51 (.t 50)),
 ⟨some (51, true), .mov 52 (.t 11)⟩,
 ⟨some (51, true), .fadr 53 0 (.t 10)⟩,
 ⟨some (51, true), .ld 54 1 false (.t 53)⟩,
 ⟨some (51, true), .fadr 55 0 (.t 2)⟩,
 ⟨some (51, true), .ld 56 1 false (.t 55)⟩,
 ⟨some (51, true), .mov 57 (.t 6)⟩,
 ⟨some (51, true), .call 58 My [((.t 52), false), ((.t 54), false), ((.t 56), false), ((.t 57), false)]⟩,
 un (.pick 59 (.t 51) (.t 58) (.c (.bool false)))])
 (.drop [46, 47, 48, 49, 50, 51, 52, 53, 54, 55, 56, 57, 58] (.cond (.t 59) (.reg [un (.mov 60 (.t 8)),
 un (.mov 61 (.t 12)),
 un (.iad 62 1 (.t 60) (.t 61)),
 un (.st 1 (.t 62) (.c (.bool true)))])
 .skip))))))
 (.drop [43, 44, 45, 11, 12, 46, 47, 48, 49, 50, 51, 52, 53, 54, 55, 56, 57, 58, 59, 60, 61, 62] (.reg [un (.bin 63 .add (.t 41) (.c (.int .i64 1))),
 un (.asg 41 (.t 63))])))))
def Hg : ACode :=
 (.seq (.reg [un (.bin 35 .lss (.t 34) (.t 33))])
 (.seq (.cond (.t 35) .skip
 (.exit 2))
 (.seq (.block 3 (.seq (.reg [un (.iad 36 2 (.t 32) (.t 34)),
 un (.ld 37 2 true (.t 36)),
 un (.alc 10 (.agg [.int .i64 0, .nilsl 1])),
 un (.st 2 (.t 10) (.t 37))])
 (.drop [36, 37] (.seq (.reg [un (.fadr 38 1 (.t 10)),
 un (.ld 39 1 false (.t 38)),
 un (.len 40 (.t 39)),
 un (.mov 41 (.c (.int .i64 0)))])
 (.drop [38] (.block 4 (.loop Hf)))))))
 (.drop [36, 37, 10, 38, 39, 40, 41, 42, 43, 44, 45, 11, 12, 46, 47, 48, 49, 50, 51, 52, 53, 54, 55, 56, 57, 58, 59, 60, 61, 62, 63] (.reg [un (.bin 64 .add (.t 34) (.c (.int .i64 1))),
 un (.asg 34 (.t 64))])))))
def G9 : ACode :=
 (.seq (.reg [un (.bin 78 .lss (.t 77) (.t 76))])
 (.seq (.cond (.t 78) .skip
 (.exit 6))
 (.seq (.block 7 (.seq (.reg [un (.iad 79 1 (.t 75) (.t 77)),
 un (.ld 80 1 false (.t 79)),
 un (.asg 15 (.t 80))])
 (.drop [79, 80] (.reg [un (.mov 81 (.t 6)),
 un (.mov 82 (.t 15)),
 un (.iad 83 1 (.t 81) (.t 82)),
 un (.st 1 (.t 83) (.c (.bool true)))]))))
 (.drop [79, 80, 15, 81, 82, 83] (.reg [un (.bin 84 .add (.t 77) (.c (.int .i64 1))),
 un (.asg 77 (.t 84))])))))
def G6 : ACode :=
 (.block 1 (.seq (.reg [un (.fadr 28 0 (.t 2)),
 un (.ld 29 1 false (.t 28)),
 un (.mk 30 1 (.bool false) (.t 29)),
 un (.asg 8 (.t 30))])
 (.drop [28, 29, 30] (.seq (.seq (.reg [un (.fadr 31 1 (.t 2)),
 un (.ld 32 1 false (.t 31)),
 un (.len 33 (.t 32)),
 un (.mov 34 (.c (.int .i64 0)))])
 (.drop [31] (.block 2 (.loop Hg))))
 (.drop [31, 32, 33, 34, 35, 36, 37, 10, 38, 39, 40, 41, 42, 43, 44, 45, 11, 12, 46, 47, 48, 49, 50, 51, 52, 53, 54, 55, 56, 57, 58, 59, 60, 61, 62, 63, 64] (.seq (.reg [un (.mov 65 (.t 8)),
 un (.call 66 Iy [((.t 65), false)]),
 un (.asg 13 (.t 66))])
 (.drop [65, 66] (.seq (.seq (.reg [un (.mov 67 (.t 13)),
 un (.len 68 (.t 67)),
 un (.bin 69 .eql (.t 68) (.c (.int .i64 0)))])
 (.drop [67, 68] (.cond (.t 69) (.seq (.reg [un (.mov 70 (.t 7)),
 un (.asg 4 (.t 70)),
 un (.asg 5 (.c (.bool true)))])
 (.drop [70] .ret))
 .skip)))
 (.drop [67, 68, 69, 70] (.seq (.frz [13] (.reg [un (.mov 71 (.t 7)),
 un (.mov 72 (.t 13)),
 un (.bsl 73 1 [(.t 72)]),
 un (.app 74 1 (.t 71) (.t 73)),
 un (.asg 7 (.t 74))]))
 (.drop [71, 72, 73, 74] (.seq (.reg [un (.mov 75 (.t 13)),
 un (.len 76 (.t 75)),
 un (.mov 77 (.c (.int .i64 0)))])
 (.block 6 (.loop G9))))))))))))))
def P2 : ACode :=
 (.seq (.reg [un (.box 2 (.t 0)),
 un (.asg 4 (.c (.nilsl 1))),
 un (.asg 5 (.c (.bool false)))])
 (.seq (.seq (.reg [un (.ld 16 2 true (.t 2)),
 un (.mov 17 (.t 1)),
 un (.call 18 Gb [((.t 16), false), ((.t 17), false)]),
 un (.un 19 .not (.t 18))])
 (.drop [16, 17, 18] (.cond (.t 19) (.seq (.reg [un (.bsl 20 1 []),
 un (.asg 4 (.t 20)),
 un (.asg 5 (.c (.bool false)))])
 (.drop [20] .ret))
 .skip)))
 (.drop [16, 17, 18, 19, 20] (.seq (.reg [un (.mov 21 (.t 1)),
 un (.fadr 22 0 (.t 2)),
 un (.ld 23 1 false (.t 22)),
 un (.call 24 Mx [((.t 21), false), ((.t 23), false)]),
 un (.asg 6 (.t 24))])
 (.drop [21, 22, 23, 24] (.seq (.reg [un (.mov 25 (.t 6)),
 un (.call 26 Iy [((.t 25), false)]),
 un (.bsl 27 1 [(.t 26)]),
 un (.asg 7 (.t 27))])
 (.drop [25, 26, 27] (.frz [100007] (.block 0 (.loop G6))))))))))
abbrev Q0 : List RS := [.t 4, .t 5]
theorem Q7 : A5 Try.prog Fw 85 P2 Q0 = true := by kernel_rfl
def Hl : ACode :=
 (.seq (.seq (.reg [un (.mov 34 (.t 11)),
 un (.fadr 35 0 (.t 2)),
 un (.ld 36 1 false (.t 35)),
 un (.bin 37 .lss (.t 34) (.t 36))])
 (.drop [34, 35, 36] (.cond (.t 37) .skip
 (.exit 2))))
 (.drop [34, 35, 36, 37] (.seq (.block 3 (.seq (.reg [un (.mov 40 (.t 9)),
 un (.mov 41 (.t 11)),
 un (.iad 42 1 (.t 40) (.t 41)),
 un (.ld 43 1 false (.t 42)),
 un (.asg 44 (.t 43)),
 ⟨some (44, true), .mov 45 (.t 6)⟩,
 ⟨some (44, true), .mov 46 (.t 11)⟩,
 ⟨some (44, true), .iad 47 1 (.t 45) (.t 46)⟩,
 ⟨some (44, true), .ld 48 1 false (.t 47)⟩,
 ⟨some (44, true), .un 49 .not (.t 48)⟩,
 un (.pick 50 (.t 44) (.t 49) (.c (.bool false)))])
 (.drop [40, 41, 42, 43, 44, 45, 46, 47, 48, 49] (.cond (.t 50) (.reg [un (.mov 51 (.t 10)),
 un (.mov 52 (.t 11)),
 un (.bsl 53 1 [(.t 52)]),
 un (.app 54 1 (.t 51) (.t 53)),
 un (.asg 10 (.t 54))])
 .skip))))
 (.drop [40, 41, 42, 43, 44, 45, 46, 47, 48, 49, 50, 51, 52, 53, 54] (.reg [un (.mov 38 (.t 11)),
 un (.bin 39 .add (.t 38) (.c (.int .i64 1))),
 un (.asg 11 (.t 39))])))))
def Hv : ACode :=
 (.seq (.seq (.reg [un (.mov 24 (.t 8)),
 un (.fadr 25 0 (.t 2)),
 un (.ld 26 1 false (.t 25)),
 un (.bin 27 .leq (.t 24) (.t 26))])
 (.drop [24, 25, 26] (.cond (.t 27) .skip
 (.exit 0))))
 (.drop [24, 25, 26, 27] (.seq (.block 1 (.seq (.reg [un (.ld 30 2 true (.t 2)),
 un (.mov 31 (.t 6)),
 un (.call 32 K7 [((.t 30), false), ((.t 31), false)]),
 un (.asg 9 (.t 32))])
 (.drop [30, 31, 32] (.seq (.reg [un (.bsl 33 1 []),
 un (.asg 10 (.t 33))])
 (.drop [33] (.seq (.seq (.reg [un (.asg 11 (.c (.int .i64 0)))])
 (.block 2 (.loop Hl)))
 (.drop [11, 34, 35, 36, 37, 40, 41, 42, 43, 44, 45, 46, 47, 48, 49, 50, 51, 52, 53, 54, 38, 39] (.seq (.seq (.reg [un (.mov 55 (.t 10)),
 un (.len 56 (.t 55)),
 un (.bin 57 .eql (.t 56) (.c (.int .i64 0)))])
 (.drop [55, 56] (.cond (.t 57) (.seq (.reg [un (.mov 58 (.t 7)),
 un (.asg 4 (.t 58)),
 un (.asg 5 (.c (.bool true)))])
 (.drop [58] .ret))
 .skip)))
 (.drop [55, 56, 57, 58] (.seq (.reg [un (.mov 59 (.t 7)),
 un (.mov 60 (.t 10)),
 un (.bsl 61 1 [(.t 60)]),
 un (.app 62 1 (.t 59) (.t 61)),
 un (.asg 7 (.t 62))])
 (.drop [59, 60, 61, 62] (.reg [un (.mov 63 (.t 9)),
 un (.asg 6 (.t 63))]))))))))))))
 (.drop [30, 31, 32, 9, 33, 10, 11, 34, 35, 36, 37, 40, 41, 42, 43, 44, 45, 46, 47, 48, 49, 50, 51, 52, 53, 54, 38, 39, 55, 56, 57, 58, 59, 60, 61, 62, 63] (.reg [un (.mov 28 (.t 8)),
 un (.bin 29 .add (.t 28) (.c (.int .i64 1))),
 un (.asg 8 (.t 29))])))))
def Px : ACode :=
 (.seq (.reg [un (.box 2 (.t 0)),
 un (.asg 4 (.c (.nilsl 1))),
 un (.asg 5 (.c (.bool false)))])
 (.seq (.seq (.reg [un (.ld 12 2 true (.t 2)),
 un (.mov 13 (.t 1)),
 un (.call 14 Lc [((.t 12), false), ((.t 13), false)]),
 un (.un 15 .not (.t 14))])
 (.drop [12, 13, 14] (.cond (.t 15) (.seq (.reg [un (.bsl 16 1 []),
 un (.asg 4 (.t 16)),
 un (.asg 5 (.c (.bool false)))])
 (.drop [16] .ret))
 .skip)))
 (.drop [12, 13, 14, 15, 16] (.seq (.reg [un (.fadr 17 0 (.t 2)),
 un (.ld 18 1 false (.t 17)),
 un (.mov 19 (.t 1)),
 un (.call 20 Oj [((.t 18), false), ((.t 19), false)]),
 un (.asg 6 (.t 20))])
 (.drop [17, 18, 19, 20] (.seq (.reg [un (.mov 21 (.t 6)),
 un (.call 22 K9 [((.t 21), false)]),
 un (.bsl 23 1 [(.t 22)]),
 un (.asg 7 (.t 23))])
 (.drop [21, 22, 23] (.seq (.seq (.reg [un (.asg 8 (.c (.int .i64 0)))])
 (.block 0 (.loop Hv)))
 (.drop [8, 24, 25, 26, 27, 30, 31, 32, 9, 33, 10, 11, 34, 35, 36, 37, 40, 41, 42, 43, 44, 45, 46, 47, 48, 49, 50, 51, 52, 53, 54, 38, 39, 55, 56, 57, 58, 59, 60, 61, 62, 63, 28, 29] (.seq (.reg [un (.mov 64 (.t 7)),
 un (.asg 4 (.t 64)),
 un (.asg 5 (.c (.bool true)))])
 (.drop [64] .ret)))))))))))
abbrev Rc : List RS := [.t 4, .t 5]
theorem Q1 : A5 Try.prog Fu 65 Px Rc = true := by kernel_rfl
def T0 : ACode :=
 (.seq (.reg [un (.box 2 (.t 0)),
 un (.asg 4 (.c (.bool false))),
 un (.asg 5 (.c (.bool false)))])
 (.seq (.seq (.reg [un (.ld 6 2 true (.t 2)),
 un (.call 7 Ej [((.t 6), false)]),
 un (.un 8 .not (.t 7))])
 (.drop [6, 7] (.cond (.t 8) (.seq (.reg [un (.asg 4 (.c (.bool false))),
 un (.asg 5 (.c (.bool false)))])
 .ret)
 .skip)))
 (.drop [6, 7, 8] (.seq (.reg [un (.ld 9 2 true (.t 2)),
 un (.mov 10 (.t 1)),
 un (.call 11 Hy [((.t 9), false), ((.t 10), false)]),
 un (.asg 4 (.t 11)),
 un (.asg 5 (.c (.bool true)))])
 (.drop [9, 10, 11] .ret)))))
abbrev T8 : List RS := [.t 4, .t 5]
theorem Tl : A5 Try.prog Hi 12 T0 T8 = true := by kernel_rfl
def Wl : ACode :=
 (.seq (.reg [un (.ld 11 2 true (.t 3)),
 un (.call 12 Fk [((.t 11), false)]),
 un (.un 13 .not (.t 12)),
 un (.asg 14 (.t 13)),
 ⟨some (14, false), .ld 15 2 true (.t 3)⟩,
 ⟨some (14, false), .mov 16 (.t 1)⟩,
 ⟨some (14, false), .call 17 Hk [((.t 15), false), ((.t 16), false)]⟩,
 ⟨some (14, false), .un 18 .not (.t 17)⟩,
 un (.pick 19 (.t 14) (.c (.bool true)) (.t 18)),
 un (.asg 20 (.t 19)),
 ⟨some (20, false), .ld 21 2 true (.t 3)⟩,
 ⟨some (20, false), .mov 22 (.t 2)⟩,
 ⟨some (20, false), .call 23 Hk [((.t 21), false), ((.t 22), false)]⟩,
 ⟨some (20, false), .un 24 .not (.t 23)⟩,
 un (.pick 25 (.t 20) (.c (.bool true)) (.t 24))])
 (.drop [11, 12, 13, 14, 15, 16, 17, 18, 19, 20, 21, 22, 23, 24] (.cond (.t 25) (.seq (.reg [un (.mov 26 (.t 8)),
 un (.asg 6 (.t 26)),
 un (.asg 7 (.c (.bool false)))])
 (.drop [26] .ret))
 .skip)))
def Nh : ACode :=
 (.seq (.seq (.reg [un (.mov 27 (.t 9)),
 un (.mov 28 (.t 1)),
 un (.len 29 (.t 28)),
 un (.bin 30 .lss (.t 27) (.t 29))])
 (.drop [27, 28, 29] (.cond (.t 30) .skip
 (.exit 0))))
 (.drop [27, 28, 29, 30] (.seq (.block 1 (.seq (.reg [un (.mov 33 (.t 2)),
 un (.mov 34 (.t 1)),
 un (.mov 35 (.t 9)),
 un (.iad 36 1 (.t 34) (.t 35)),
 un (.ld 37 1 false (.t 36)),
 un (.call 38 Rl [((.t 33), false), ((.t 37), false)])])
 (.drop [33, 34, 35, 36, 37] (.cond (.t 38) (.reg [un (.mov 39 (.t 8)),
 un (.mov 40 (.t 1)),
 un (.mov 41 (.t 9)),
 un (.iad 42 1 (.t 40) (.t 41)),
 un (.ld 43 1 false (.t 42)),
 un (.bsl 44 1 [(.t 43)]),
 un (.app 45 1 (.t 39) (.t 44)),
 un (.asg 8 (.t 45))])
 .skip))))
 (.drop [33, 34, 35, 36, 37, 38, 39, 40, 41, 42, 43, 44, 45] (.reg [un (.mov 31 (.t 9)),
 un (.bin 32 .add (.t 31) (.c (.int .i64 1))),
 un (.asg 9 (.t 32))])))))
def Abw : ACode :=
 (.seq (.reg [un (.box 3 (.t 0)),
 un (.asg 6 (.c (.nilsl 1))),
 un (.asg 7 (.c (.bool false)))])
 (.seq (.reg [un (.bsl 10 1 []),
 un (.asg 8 (.t 10))])
 (.drop [10] (.seq (.cut Wl)
 (.drop [11, 12, 13, 14, 15, 16, 17, 18, 19, 20, 21, 22, 23, 24, 25, 26] (.seq (.seq (.reg [un (.asg 9 (.c (.int .i64 0)))])
 (.block 0 (.loop Nh)))
 (.drop [9, 27, 28, 29, 30, 33, 34, 35, 36, 37, 38, 39, 40, 41, 42, 43, 44, 45, 31, 32] (.seq (.reg [un (.mov 46 (.t 8)),
 un (.asg 6 (.t 46)),
 un (.asg 7 (.c (.bool true)))])
 (.drop [46] .ret)))))))))
abbrev Abd : List RS := [.t 6, .t 7]
theorem Abj : A5 Try.prog Me 47 Abw Abd = true := by kernel_rfl
end Go.Proofs.Ytidaaijecmkndaa.Ax
