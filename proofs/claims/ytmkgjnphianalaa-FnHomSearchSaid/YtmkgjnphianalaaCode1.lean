/-
  The small code of the functions, written by program; that the program's code is this one, the kernel looks at.
-/
import Derived.Test.YtmkgjnphianalaaAx3
import Derived.Test.YtmkgjnphianalaaProg
import Derived.KernelRfl
import Derived.Test.YtmkgjnphianalaaNum
namespace Go.Proofs.Ytmkgjnphianalaa.Ax
open Go
set_option maxRecDepth 100000
def Auc:ACode:=
 (.seq (.reg [un (.asg 2 (.c (.bool false)))])
 (.seq (.reg [un (.mov 3 (.t 0)),
 un (.len 4 (.t 3)),
 un (.bin 5 .gtr (.t 4) (.c (.int .i64 65536))),
 un (.asg 2 (.t 5))])
 (.drop [3,4,5] .ret)))
abbrev Au6:List RS:=[.t 2]
theorem Aui:A8 Try.prog Zg 6 Auc Au6=true:=by kernel_rfl
def Av0:ACode:=
 (.seq (.reg [un (.asg 4 (.c (.int .i64 0)))])
 (.seq (.seq (.reg [un (.mov 5 (.t 1)),
 un (.mov 6 (.t 0)),
 un (.len 7 (.t 6)),
 un (.bin 8 .lss (.t 5) (.t 7))])
 (.drop [5,6,7] (.cond (.t 8) (.seq (.reg [un (.mov 9 (.t 0)),
 un (.mov 10 (.t 1)),
 un (.iad 11 1 (.t 9) (.t 10)),
 un (.ld 12 1 false (.t 11)),
 un (.cnv 13 .i64 (.t 12)),
 un (.asg 4 (.t 13))])
 (.drop [9,10,11,12,13] .ret))
 .skip)))
 (.drop [5,6,7,8,9,10,11,12,13] (.seq (.reg [un (.mov 14 (.t 1)),
 un (.bin 15 .mul (.t 14) (.c (.int .i64 7))),
 un (.mov 16 (.t 0)),
 un (.len 17 (.t 16)),
 un (.bin 18 .add (.t 15) (.t 17)),
 un (.bin 19 .rem (.t 18) (.c (.int .i64 256))),
 un (.asg 4 (.t 19))])
 (.drop [14,15,16,17,18,19] .ret)))))
abbrev Aw7:List RS:=[.t 4]
theorem Av3:A8 Try.prog W7 20 Av0 Aw7=true:=by kernel_rfl
def Yh:ACode:=
 (.seq (.seq (.reg [un (.mov 11 (.t 5)),
 un (.mov 12 (.t 0)),
 un (.len 13 (.t 12)),
 un (.bin 14 .lss (.t 11) (.t 13))])
 (.drop [11,12,13] (.cond (.t 14) .skip
 (.exit 0))))
 (.drop [11,12,13,14] (.seq (.block 1 (.seq (.dreg [(un (.mov 17 (.t 0)),[]),
 (un (.mov 18 (.t 5)),[17]),
 (un (.iad 19 1 (.t 17) (.t 18)),[]),
 (un (.ld 20 1 false (.t 19)),[]),
 (un (.mov 21 (.t 1)),[17,18,19,20]),
 (un (.mov 22 (.t 5)),[17,18,19,20,21]),
 (un (.iad 23 1 (.t 21) (.t 22)),[17,18,19,20]),
 (un (.ld 24 1 false (.t 23)),[17,18,19,20])]
 [un (.bin 25 .neq (.t 20) (.t 24))])
 (.drop [17,18,19,20,21,22,23,24] (.cond (.t 25) (.seq (.reg [un (.asg 4 (.c (.bool false)))])
 .ret)
 .skip))))
 (.drop [17,18,19,20,21,22,23,24,25] (.reg [un (.mov 15 (.t 5)),
 un (.bin 16 .add (.t 15) (.c (.int .i64 1))),
 un (.asg 5 (.t 16))])))))
def Arf:ACode:=
 (.seq (.reg [un (.asg 4 (.c (.bool false)))])
 (.seq (.seq (.reg [un (.mov 6 (.t 0)),
 un (.len 7 (.t 6)),
 un (.mov 8 (.t 1)),
 un (.len 9 (.t 8)),
 un (.bin 10 .neq (.t 7) (.t 9))])
 (.drop [6,7,8,9] (.cond (.t 10) (.seq (.reg [un (.asg 4 (.c (.bool false)))])
 .ret)
 .skip)))
 (.drop [6,7,8,9,10] (.seq (.seq (.reg [un (.asg 5 (.c (.int .i64 0)))])
 (.block 0 (.loop Yh)))
 (.drop [5,11,12,13,14,17,18,19,20,21,22,23,24,25,15,16] (.seq (.reg [un (.asg 4 (.c (.bool true)))])
 .ret))))))
abbrev Ar1:List RS:=[.t 4]
theorem Ara:A8 Try.prog Ia 26 Arf Ar1=true:=by kernel_rfl
def Aqi:ACode:=
 (.seq (.reg [un (.asg 2 (.c (.nilsl 1)))])
 (.seq (.reg [un (.bsl 3 1 []),
 un (.mov 4 (.t 0)),
 un (.app 5 1 (.t 3) (.t 4)),
 un (.asg 2 (.t 5))])
 (.drop [3,4,5] .ret)))
abbrev Aq7:List RS:=[.t 2]
theorem Art:A8 Try.prog Kd 6 Aqi Aq7=true:=by kernel_rfl
def Anj:ACode:=
 (.seq (.reg [un (.asg 2 (.c (.bool false)))])
 (.seq (.reg [un (.asg 2 (.c (.bool true)))])
 .ret))
abbrev Aot:List RS:=[.t 2]
theorem Aok:A8 Try.prog Oy 3 Anj Aot=true:=by kernel_rfl
def Ato:ACode:=
 (.seq (.reg [un (.asg 6 (.c (.bool false)))])
 (.seq (.reg [un (.mov 7 (.t 0)),
 un (.mov 8 (.t 1)),
 un (.bin 9 .geq (.t 7) (.t 8)),
 un (.asg 10 (.t 9)),
 ⟨some (10,true),.mov 11 (.t 0)⟩,
 ⟨some (10,true),.mov 12 (.t 2)⟩,
 ⟨some (10,true),.bin 13 .leq (.t 11) (.t 12)⟩,
 un (.pick 14 (.t 10) (.t 13) (.c (.bool false))),
 un (.asg 6 (.t 14))])
 (.drop [7,8,9,10,11,12,13,14] .ret)))
abbrev Ate:List RS:=[.t 6]
theorem As8:A8 Try.prog Hs 15 Ato Ate=true:=by kernel_rfl
def Rw:ACode:=
 (.seq (.seq (.reg [un (.mov 9 (.t 1)),
 un (.bin 10 .gtr (.t 9) (.c (.int .i64 0)))])
 (.drop [9] (.cond (.t 10) .skip
 (.exit 0))))
 (.drop [9,10] (.seq (.block 1 (.seq (.seq (.reg [un (.mov 13 (.t 3)),
 un (.mov 14 (.t 0)),
 un (.mov 15 (.t 2)),
 un (.bin 16 .rem (.t 14) (.t 15)),
 un (.iad 17 1 (.t 13) (.t 16)),
 un (.ld 18 1 false (.t 17)),
 un (.bin 19 .lss (.t 18) (.c (.int .i64 0)))])
 (.drop [13,14,15,16,17,18] (.cond (.t 19) (.seq (.reg [un (.asg 8 (.c (.bool false)))])
 .ret)
 .skip)))
 (.drop [13,14,15,16,17,18,19] (.reg [un (.mov 20 (.t 0)),
 un (.mov 21 (.t 2)),
 un (.bin 22 .quo (.t 20) (.t 21)),
 un (.asg 0 (.t 22))]))))
 (.drop [13,14,15,16,17,18,19,20,21,22] (.reg [un (.mov 11 (.t 1)),
 un (.bin 12 .sub (.t 11) (.c (.int .i64 1))),
 un (.asg 1 (.t 12))])))))
def Ai4:ACode:=
 (.seq (.reg [un (.asg 8 (.c (.bool false)))])
 (.seq (.block 0 (.loop Rw))
 (.drop [9,10,13,14,15,16,17,18,19,20,21,22,11,12] (.seq (.reg [un (.asg 8 (.c (.bool true)))])
 .ret))))
abbrev Ai2:List RS:=[.t 8]
theorem Ais:A8 Try.prog Qp 23 Ai4 Ai2=true:=by kernel_rfl
def P4:ACode:=
 (.seq (.seq (.reg [un (.mov 14 (.t 13)),
 un (.mov 15 (.t 1)),
 un (.bin 16 .lss (.t 14) (.t 15))])
 (.drop [14,15] (.cond (.t 16) .skip
 (.exit 0))))
 (.drop [14,15,16] (.seq (.block 1 (.seq (.reg [un (.mov 19 (.t 11)),
 un (.mov 20 (.t 4)),
 un (.mov 21 (.t 0)),
 un (.fadr 22 0 (.t 7)),
 un (.ld 23 1 false (.t 22)),
 un (.bin 24 .rem (.t 21) (.t 23)),
 un (.iad 25 1 (.t 20) (.t 24)),
 un (.ld 26 1 false (.t 25)),
 un (.mov 27 (.t 12)),
 un (.bin 28 .mul (.t 26) (.t 27)),
 un (.bin 29 .add (.t 19) (.t 28)),
 un (.asg 11 (.t 29))])
 (.drop [19,20,21,22,23,24,25,26,27,28,29] (.seq (.reg [un (.mov 30 (.t 0)),
 un (.fadr 31 0 (.t 7)),
 un (.ld 32 1 false (.t 31)),
 un (.bin 33 .quo (.t 30) (.t 32)),
 un (.asg 0 (.t 33))])
 (.drop [30,31,32,33] (.reg [un (.mov 34 (.t 12)),
 un (.fadr 35 0 (.t 8)),
 un (.ld 36 1 false (.t 35)),
 un (.bin 37 .mul (.t 34) (.t 36)),
 un (.asg 12 (.t 37))]))))))
 (.drop [19,20,21,22,23,24,25,26,27,28,29,30,31,32,33,34,35,36,37] (.reg [un (.mov 17 (.t 13)),
 un (.bin 18 .add (.t 17) (.c (.int .i64 1))),
 un (.asg 13 (.t 18))])))))
def Aeu:ACode:=
 (.seq (.reg [un (.box 7 (.t 2)),
 un (.box 8 (.t 3)),
 un (.asg 10 (.c (.int .i64 0)))])
 (.seq (.reg [un (.asg 11 (.c (.int .i64 0))),
 un (.asg 12 (.c (.int .i64 1)))])
 (.seq (.seq (.reg [un (.asg 13 (.c (.int .i64 0)))])
 (.block 0 (.loop P4)))
 (.drop [13,14,15,16,19,20,21,22,23,24,25,26,27,28,29,30,31,32,33,34,35,36,37,17,18] (.seq (.reg [un (.mov 38 (.t 11)),
 un (.asg 10 (.t 38))])
 (.drop [38] .ret))))))
abbrev Aea:List RS:=[.t 10]
theorem Aek:A8 Try.prog Jc 39 Aeu Aea=true:=by kernel_rfl
def U6:ACode:=
 (.seq (.reg [un (.bin 10 .lss (.t 9) (.t 8))])
 (.seq (.cond (.t 10) .skip
 (.exit 0))
 (.seq (.block 1 (.seq (.reg [un (.mov 11 (.t 9)),
 un (.iad 12 1 (.t 7) (.t 9)),
 un (.ld 13 1 false (.t 12)),
 un (.asg 4 (.t 11)),
 un (.asg 5 (.t 13))])
 (.drop [11,12,13] (.seq (.reg [un (.mov 14 (.t 5))])
 (.cond (.t 14) (.reg [un (.mov 15 (.t 3)),
 un (.mov 16 (.t 4)),
 un (.bsl 17 1 [(.t 16)]),
 un (.app 18 1 (.t 15) (.t 17)),
 un (.asg 3 (.t 18))])
 .skip)))))
 (.drop [11,12,13,4,5,14,15,16,17,18] (.reg [un (.bin 19 .add (.t 9) (.c (.int .i64 1))),
 un (.asg 9 (.t 19))])))))
def An6:ACode:=
 (.seq (.reg [un (.asg 2 (.c (.nilsl 1)))])
 (.seq (.reg [un (.bsl 6 1 []),
 un (.asg 3 (.t 6))])
 (.drop [6] (.seq (.seq (.reg [un (.mov 7 (.t 0)),
 un (.len 8 (.t 7)),
 un (.mov 9 (.c (.int .i64 0)))])
 (.block 0 (.loop U6)))
 (.drop [7,8,9,10,11,12,13,4,5,14,15,16,17,18,19] (.seq (.reg [un (.mov 20 (.t 3)),
 un (.asg 2 (.t 20))])
 (.drop [20] .ret)))))))
abbrev An9:List RS:=[.t 2]
theorem Anc:A8 Try.prog Uh 21 An6 An9=true:=by kernel_rfl
def X2:ACode:=
 (.seq (.reg [un (.bin 13 .lss (.t 12) (.t 11))])
 (.seq (.cond (.t 13) .skip
 (.exit 0))
 (.seq (.block 1 (.seq (.reg [un (.iad 14 1 (.t 10) (.t 12)),
 un (.ld 15 1 false (.t 14)),
 un (.asg 7 (.t 15))])
 (.drop [14,15] (.reg [un (.mov 16 (.t 5)),
 un (.mov 17 (.t 7)),
 un (.iad 18 1 (.t 16) (.t 17)),
 un (.st 1 (.t 18) (.c (.bool true)))]))))
 (.drop [14,15,7,16,17,18] (.reg [un (.bin 19 .add (.t 12) (.c (.int .i64 1))),
 un (.asg 12 (.t 19))])))))
def Arw:ACode:=
 (.seq (.reg [un (.asg 4 (.c (.nilsl 1)))])
 (.seq (.reg [un (.mov 8 (.t 1)),
 un (.mk 9 1 (.bool false) (.t 8)),
 un (.asg 5 (.t 9))])
 (.drop [8,9] (.seq (.seq (.reg [un (.mov 10 (.t 0)),
 un (.len 11 (.t 10)),
 un (.mov 12 (.c (.int .i64 0)))])
 (.block 0 (.loop X2)))
 (.drop [10,11,12,13,14,15,7,16,17,18,19] (.seq (.reg [un (.mov 20 (.t 5)),
 un (.asg 4 (.t 20))])
 (.drop [20] .ret)))))))
abbrev Aqx:List RS:=[.t 4]
theorem Ar5:A8 Try.prog Xp 21 Arw Aqx=true:=by kernel_rfl
def Ark:ACode:=
 (.seq (.reg [un (.asg 2 (.c (.nilsl 1)))])
 (.seq (.reg [un (.bsl 3 1 []),
 un (.mov 4 (.t 0)),
 un (.app 5 1 (.t 3) (.t 4)),
 un (.asg 2 (.t 5))])
 (.drop [3,4,5] .ret)))
abbrev Aql:List RS:=[.t 2]
theorem Are:A8 Try.prog Kk 6 Ark Aql=true:=by kernel_rfl
def R3:ACode:=
 (.seq (.seq (.reg [un (.mov 8 (.t 6)),
 un (.mov 9 (.t 1)),
 un (.len 10 (.t 9)),
 un (.bin 11 .lss (.t 8) (.t 10))])
 (.drop [8,9,10] (.cond (.t 11) .skip
 (.exit 0))))
 (.drop [8,9,10,11] (.seq (.block 1 (.reg [un (.mov 14 (.t 5)),
 un (.mov 15 (.t 0)),
 un (.mov 16 (.t 1)),
 un (.mov 17 (.t 6)),
 un (.iad 18 1 (.t 16) (.t 17)),
 un (.ld 19 1 false (.t 18)),
 un (.iad 20 1 (.t 15) (.t 19)),
 un (.ld 21 1 false (.t 20)),
 un (.bsl 22 1 [(.t 21)]),
 un (.app 23 1 (.t 14) (.t 22)),
 un (.asg 5 (.t 23))]))
 (.drop [14,15,16,17,18,19,20,21,22,23] (.reg [un (.mov 12 (.t 6)),
 un (.bin 13 .add (.t 12) (.c (.int .i64 1))),
 un (.asg 6 (.t 13))])))))
def Ah3:ACode:=
 (.seq (.reg [un (.asg 4 (.c (.nilsl 1)))])
 (.seq (.reg [un (.bsl 7 1 []),
 un (.asg 5 (.t 7))])
 (.drop [7] (.seq (.seq (.reg [un (.asg 6 (.c (.int .i64 0)))])
 (.block 0 (.loop R3)))
 (.drop [6,8,9,10,11,14,15,16,17,18,19,20,21,22,23,12,13] (.seq (.reg [un (.mov 24 (.t 5)),
 un (.asg 4 (.t 24))])
 (.drop [24] .ret)))))))
abbrev Aie:List RS:=[.t 4]
theorem Air:A8 Try.prog Qe 25 Ah3 Aie=true:=by kernel_rfl
def Wm:ACode:=
 (.seq (.seq (.reg [un (.mov 13 (.t 8)),
 un (.bin 14 .geq (.t 13) (.c (.int .i64 0)))])
 (.drop [13] (.cond (.t 14) .skip
 (.exit 0))))
 (.drop [13,14] (.seq (.block 1 (.seq (.reg [un (.mov 17 (.t 7)),
 un (.mov 18 (.t 8)),
 un (.mov 19 (.t 2)),
 un (.mov 20 (.t 0)),
 un (.bin 21 .rem (.t 19) (.t 20)),
 un (.iad 22 1 (.t 17) (.t 18)),
 un (.st 1 (.t 22) (.t 21))])
 (.drop [17,18,19,20,21,22] (.reg [un (.mov 23 (.t 2)),
 un (.mov 24 (.t 0)),
 un (.bin 25 .quo (.t 23) (.t 24)),
 un (.asg 2 (.t 25))]))))
 (.drop [17,18,19,20,21,22,23,24,25] (.reg [un (.mov 15 (.t 8)),
 un (.bin 16 .sub (.t 15) (.c (.int .i64 1))),
 un (.asg 8 (.t 16))])))))
def Ann:ACode:=
 (.seq (.reg [un (.asg 6 (.c (.nilsl 1)))])
 (.seq (.reg [un (.mov 9 (.t 1)),
 un (.mk 10 1 (.int .i64 0) (.t 9)),
 un (.asg 7 (.t 10))])
 (.drop [9,10] (.seq (.seq (.reg [un (.mov 11 (.t 1)),
 un (.bin 12 .sub (.t 11) (.c (.int .i64 1))),
 un (.asg 8 (.t 12))])
 (.drop [11,12] (.block 0 (.loop Wm))))
 (.drop [11,12,8,13,14,17,18,19,20,21,22,23,24,25,15,16] (.seq (.reg [un (.mov 26 (.t 7)),
 un (.asg 6 (.t 26))])
 (.drop [26] .ret)))))))
abbrev Amm:List RS:=[.t 6]
theorem Am2:A8 Try.prog Ix 27 Ann Amm=true:=by kernel_rfl
def Ym:ACode:=
 (.seq (.seq (.reg [un (.mov 6 (.t 5)),
 un (.mov 7 (.t 0)),
 un (.len 8 (.t 7)),
 un (.bin 9 .lss (.t 6) (.t 8))])
 (.drop [6,7,8] (.cond (.t 9) .skip
 (.exit 0))))
 (.drop [6,7,8,9] (.seq (.block 1 (.seq (.reg [un (.mov 12 (.t 0)),
 un (.mov 13 (.t 5)),
 un (.iad 14 1 (.t 12) (.t 13)),
 un (.ld 15 1 false (.t 14)),
 un (.mov 16 (.t 1)),
 un (.bin 17 .eql (.t 15) (.t 16))])
 (.drop [12,13,14,15,16] (.cond (.t 17) (.seq (.reg [un (.asg 4 (.c (.bool true)))])
 .ret)
 .skip))))
 (.drop [12,13,14,15,16,17] (.reg [un (.mov 10 (.t 5)),
 un (.bin 11 .add (.t 10) (.c (.int .i64 1))),
 un (.asg 5 (.t 11))])))))
def Ap8:ACode:=
 (.seq (.reg [un (.asg 4 (.c (.bool false)))])
 (.seq (.seq (.reg [un (.asg 5 (.c (.int .i64 0)))])
 (.block 0 (.loop Ym)))
 (.drop [5,6,7,8,9,12,13,14,15,16,17,10,11] (.seq (.reg [un (.asg 4 (.c (.bool false)))])
 .ret))))
abbrev Aqh:List RS:=[.t 4]
theorem Aq3:A8 Try.prog Mn 18 Ap8 Aqh=true:=by kernel_rfl
def Tw:ACode:=
 (.seq (.seq (.reg [un (.mov 9 (.t 8)),
 un (.mov 10 (.t 2)),
 un (.len 11 (.t 10)),
 un (.bin 12 .lss (.t 9) (.t 11))])
 (.drop [9,10,11] (.cond (.t 12) .skip
 (.exit 0))))
 (.drop [9,10,11,12] (.seq (.block 1 (.dreg [(un (.mov 15 (.t 7)),[]),
 (un (.fadr 16 0 (.t 3)),[15]),
 (un (.ld 17 1 false (.t 16)),[15]),
 (un (.bin 18 .mul (.t 15) (.t 17)),[]),
 (un (.mov 19 (.t 2)),[15,16,17,18]),
 (un (.mov 20 (.t 8)),[15,16,17,18,19]),
 (un (.iad 21 1 (.t 19) (.t 20)),[15,16,17,18]),
 (un (.ld 22 1 false (.t 21)),[15,16,17,18])]
 [un (.bin 23 .add (.t 18) (.t 22)),
 un (.asg 7 (.t 23))]))
 (.drop [15,16,17,18,19,20,21,22,23] (.reg [un (.mov 13 (.t 8)),
 un (.bin 14 .add (.t 13) (.c (.int .i64 1))),
 un (.asg 8 (.t 14))])))))
def Al3:ACode:=
 (.seq (.reg [un (.box 3 (.t 0)),
 un (.asg 6 (.c (.int .i64 0)))])
 (.seq (.reg [un (.asg 7 (.c (.int .i64 0)))])
 (.seq (.seq (.reg [un (.asg 8 (.c (.int .i64 0)))])
 (.block 0 (.loop Tw)))
 (.drop [8,9,10,11,12,15,16,17,18,19,20,21,22,23,13,14] (.seq (.reg [un (.fadr 24 1 (.t 3)),
 un (.ld 25 1 false (.t 24)),
 un (.mov 26 (.t 1)),
 un (.iad 27 2 (.t 25) (.t 26)),
 un (.fadr 28 1 (.t 27)),
 un (.ld 29 1 false (.t 28)),
 un (.mov 30 (.t 7)),
 un (.iad 31 1 (.t 29) (.t 30)),
 un (.ld 32 1 false (.t 31)),
 un (.asg 6 (.t 32))])
 (.drop [24,25,26,27,28,29,30,31,32] .ret))))))
abbrev Alx:List RS:=[.t 6]
theorem Ak6:A8 Try.prog Mw 33 Al3 Alx=true:=by kernel_rfl
def X1:ACode:=
 (.seq (.seq (.reg [un (.mov 6 (.t 1)),
 un (.bin 7 .gtr (.t 6) (.c (.int .i64 0)))])
 (.drop [6] (.cond (.t 7) .skip
 (.exit 0))))
 (.drop [6,7] (.seq (.block 1 (.reg [un (.mov 10 (.t 5)),
 un (.mov 11 (.t 0)),
 un (.bin 12 .mul (.t 10) (.t 11)),
 un (.asg 5 (.t 12))]))
 (.drop [10,11,12] (.reg [un (.mov 8 (.t 1)),
 un (.bin 9 .sub (.t 8) (.c (.int .i64 1))),
 un (.asg 1 (.t 9))])))))
def Aqy:ACode:=
 (.seq (.reg [un (.asg 4 (.c (.int .i64 0)))])
 (.seq (.reg [un (.asg 5 (.c (.int .i64 1)))])
 (.seq (.block 0 (.loop X1))
 (.drop [6,7,10,11,12,8,9] (.seq (.reg [un (.mov 13 (.t 5)),
 un (.asg 4 (.t 13))])
 (.drop [13] .ret))))))
abbrev Aso:List RS:=[.t 4]
theorem Asg:A8 Try.prog Ms 14 Aqy Aso=true:=by kernel_rfl
def Z7:ACode:=
 (.seq (.dreg [(un (.mov 4 (.t 0)),[]),
 (un (.nck 5 (.t 4)),[]),
 (un (.fadr 6 1 (.t 5)),[]),
 (un (.ld 7 1 false (.t 6)),[]),
 (un (.mov 8 (.t 0)),[4,5,6,7]),
 (un (.nck 9 (.t 8)),[4,5,6,7]),
 (un (.fadr 10 0 (.t 9)),[4,5,6,7]),
 (un (.ld 11 1 false (.t 10)),[4,5,6,7]),
 (un (.len 12 (.t 11)),[4,5,6,7])]
 [un (.bin 13 .lss (.t 7) (.t 12))])
 (.drop [4,5,6,7,8,9,10,11,12] (.cond (.t 13) (.dreg [(un (.mov 14 (.t 0)),[]),
 (un (.nck 15 (.t 14)),[]),
 (un (.fadr 16 0 (.t 15)),[]),
 (un (.ld 17 1 false (.t 16)),[]),
 (un (.mov 18 (.t 0)),[14,15,16,17]),
 (un (.nck 19 (.t 18)),[14,15,16,17]),
 (un (.fadr 20 1 (.t 19)),[14,15,16,17]),
 (un (.ld 21 1 false (.t 20)),[14,15,16,17])]
 [un (.iad 22 1 (.t 17) (.t 21)),
 un (.ld 23 1 false (.t 22)),
 un (.cnv 24 .i64 (.t 23)),
 un (.asg 3 (.t 24))])
 .skip)))
def Ad2:ACode:=
 (.seq (.reg [un (.asg 2 (.c (.int .i64 0)))])
 (.seq (.reg [un (.asg 3 (.c (.int .i64 0)))])
 (.seq (.cut Z7)
 (.drop [4,5,6,7,8,9,10,11,12,13,14,15,16,17,18,19,20,21,22,23,24] (.seq (.reg [un (.mov 25 (.t 0)),
 un (.nck 26 (.t 25)),
 un (.fadr 27 1 (.t 26)),
 un (.ld 28 1 false (.t 27)),
 un (.bin 29 .add (.t 28) (.c (.int .i64 1))),
 un (.nck 30 (.t 25)),
 un (.fadr 31 1 (.t 30)),
 un (.st 1 (.t 31) (.t 29))])
 (.drop [25,26,27,28,29,30,31] (.seq (.reg [un (.mov 32 (.t 0)),
 un (.mov 33 (.t 0)),
 un (.nck 34 (.t 33)),
 un (.fadr 35 2 (.t 34)),
 un (.ld 36 1 false (.t 35)),
 un (.bin 37 .mul (.t 36) (.c (.int .u64 6364136223846793005))),
 un (.mov 38 (.t 3)),
 un (.cnv 39 .u64 (.t 38)),
 un (.bin 40 .add (.t 37) (.t 39)),
 un (.bin 41 .add (.t 40) (.c (.int .u64 550289))),
 un (.nck 42 (.t 32)),
 un (.fadr 43 2 (.t 42)),
 un (.st 1 (.t 43) (.t 41))])
 (.drop [32,33,34,35,36,37,38,39,40,41,42,43] (.seq (.seq (.dreg [(un (.mov 44 (.t 0)),[]),
 (un (.nck 45 (.t 44)),[]),
 (un (.fadr 46 1 (.t 45)),[]),
 (un (.ld 47 1 false (.t 46)),[]),
 (un (.mov 48 (.t 0)),[44,45,46,47]),
 (un (.nck 49 (.t 48)),[44,45,46,47]),
 (un (.fadr 50 0 (.t 49)),[44,45,46,47]),
 (un (.ld 51 1 false (.t 50)),[44,45,46,47]),
 (un (.len 52 (.t 51)),[44,45,46,47])]
 [un (.bin 53 .leq (.t 47) (.t 52))])
 (.drop [44,45,46,47,48,49,50,51,52] (.cond (.t 53) (.seq (.reg [un (.mov 54 (.t 3)),
 un (.asg 2 (.t 54))])
 (.drop [54] .ret))
 .skip)))
 (.drop [44,45,46,47,48,49,50,51,52,53,54] (.seq (.reg [un (.mov 55 (.t 0)),
 un (.nck 56 (.t 55)),
 un (.fadr 57 2 (.t 56)),
 un (.ld 58 1 false (.t 57)),
 un (.bin 59 .shr (.t 58) (.c (.int .u64 40))),
 un (.bin 60 .and (.t 59) (.c (.int .u64 255))),
 un (.cnv 61 .i64 (.t 60)),
 un (.asg 2 (.t 61))])
 (.drop [55,56,57,58,59,60,61] .ret))))))))))))
abbrev Aer:List RS:=[.t 2]
theorem Ad8:A8 Try.prog I6 62 Ad2 Aer=true:=by kernel_rfl
def U0:ACode:=
 (.seq (.seq (.reg [un (.mov 6 (.t 0)),
 un (.mov 7 (.t 4)),
 un (.bin 8 .shr (.t 6) (.t 7)),
 un (.bin 9 .gtr (.t 8) (.c (.int .i64 0)))])
 (.drop [6,7,8] (.cond (.t 9) .skip
 (.exit 0))))
 (.drop [6,7,8,9] (.seq (.block 1 (.seq (.reg [un (.mov 12 (.t 0)),
 un (.mov 13 (.t 4)),
 un (.bin 14 .shr (.t 12) (.t 13)),
 un (.bin 15 .and (.t 14) (.c (.int .i64 1))),
 un (.bin 16 .eql (.t 15) (.c (.int .i64 1)))])
 (.drop [12,13,14,15] (.cond (.t 16) (.reg [un (.mov 17 (.t 3)),
 un (.mov 18 (.t 4)),
 un (.bsl 19 1 [(.t 18)]),
 un (.app 20 1 (.t 17) (.t 19)),
 un (.asg 3 (.t 20))])
 .skip))))
 (.drop [12,13,14,15,16,17,18,19,20] (.reg [un (.mov 10 (.t 4)),
 un (.bin 11 .add (.t 10) (.c (.int .i64 1))),
 un (.asg 4 (.t 11))])))))
def Amn:ACode:=
 (.seq (.reg [un (.asg 2 (.c (.nilsl 1)))])
 (.seq (.reg [un (.bsl 5 1 []),
 un (.asg 3 (.t 5))])
 (.drop [5] (.seq (.seq (.reg [un (.asg 4 (.c (.int .i64 0)))])
 (.block 0 (.loop U0)))
 (.drop [4,6,7,8,9,12,13,14,15,16,17,18,19,20,10,11] (.seq (.reg [un (.mov 21 (.t 3)),
 un (.asg 2 (.t 21))])
 (.drop [21] .ret)))))))
abbrev Anf:List RS:=[.t 2]
theorem Aob:A8 Try.prog Up 22 Amn Anf=true:=by kernel_rfl
def Tr:ACode:=
 (.seq (.seq (.reg [un (.mov 6 (.t 5)),
 un (.mov 7 (.t 0)),
 un (.len 8 (.t 7)),
 un (.bin 9 .lss (.t 6) (.t 8))])
 (.drop [6,7,8] (.cond (.t 9) .skip
 (.exit 0))))
 (.drop [6,7,8,9] (.seq (.block 1 (.seq (.reg [un (.mov 12 (.t 0)),
 un (.mov 13 (.t 5)),
 un (.iad 14 1 (.t 12) (.t 13)),
 un (.ld 15 1 false (.t 14)),
 un (.mov 16 (.t 1)),
 un (.bin 17 .eql (.t 15) (.t 16))])
 (.drop [12,13,14,15,16] (.cond (.t 17) (.seq (.reg [un (.mov 18 (.t 5)),
 un (.asg 4 (.t 18))])
 (.drop [18] .ret))
 .skip))))
 (.drop [12,13,14,15,16,17,18] (.reg [un (.mov 10 (.t 5)),
 un (.bin 11 .add (.t 10) (.c (.int .i64 1))),
 un (.asg 5 (.t 11))])))))
def Akb:ACode:=
 (.seq (.reg [un (.asg 4 (.c (.int .i64 0)))])
 (.seq (.seq (.reg [un (.asg 5 (.c (.int .i64 0)))])
 (.block 0 (.loop Tr)))
 (.drop [5,6,7,8,9,12,13,14,15,16,17,18,10,11] (.seq (.reg [un (.asg 4 (.c (.int .i64 (-1))))])
 .ret))))
abbrev Alr:List RS:=[.t 4]
theorem Ala:A8 Try.prog Ru 19 Akb Alr=true:=by kernel_rfl
def Vb:ACode:=
 (.seq (.seq (.reg [un (.mov 11 (.t 5)),
 un (.mov 12 (.t 0)),
 un (.len 13 (.t 12)),
 un (.bin 14 .lss (.t 11) (.t 13))])
 (.drop [11,12,13] (.cond (.t 14) .skip
 (.exit 0))))
 (.drop [11,12,13,14] (.seq (.block 1 (.seq (.dreg [(un (.mov 17 (.t 0)),[]),
 (un (.mov 18 (.t 5)),[17]),
 (un (.iad 19 1 (.t 17) (.t 18)),[]),
 (un (.ld 20 1 false (.t 19)),[]),
 (un (.mov 21 (.t 1)),[17,18,19,20]),
 (un (.mov 22 (.t 5)),[17,18,19,20,21]),
 (un (.iad 23 1 (.t 21) (.t 22)),[17,18,19,20]),
 (un (.ld 24 1 false (.t 23)),[17,18,19,20])]
 [un (.bin 25 .neq (.t 20) (.t 24))])
 (.drop [17,18,19,20,21,22,23,24] (.cond (.t 25) (.seq (.reg [un (.asg 4 (.c (.bool false)))])
 .ret)
 .skip))))
 (.drop [17,18,19,20,21,22,23,24,25] (.reg [un (.mov 15 (.t 5)),
 un (.bin 16 .add (.t 15) (.c (.int .i64 1))),
 un (.asg 5 (.t 16))])))))
def Aoj:ACode:=
 (.seq (.reg [un (.asg 4 (.c (.bool false)))])
 (.seq (.seq (.reg [un (.mov 6 (.t 0)),
 un (.len 7 (.t 6)),
 un (.mov 8 (.t 1)),
 un (.len 9 (.t 8)),
 un (.bin 10 .neq (.t 7) (.t 9))])
 (.drop [6,7,8,9] (.cond (.t 10) (.seq (.reg [un (.asg 4 (.c (.bool false)))])
 .ret)
 .skip)))
 (.drop [6,7,8,9,10] (.seq (.seq (.reg [un (.asg 5 (.c (.int .i64 0)))])
 (.block 0 (.loop Vb)))
 (.drop [5,11,12,13,14,17,18,19,20,21,22,23,24,25,15,16] (.seq (.reg [un (.asg 4 (.c (.bool true)))])
 .ret))))))
abbrev Aol:List RS:=[.t 4]
theorem Anb:A8 Try.prog O9 26 Aoj Aol=true:=by kernel_rfl
def V7:ACode:=
 (.seq (.seq (.reg [un (.mov 6 (.t 4)),
 un (.fadr 7 1 (.t 1)),
 un (.ld 8 1 false (.t 7)),
 un (.len 9 (.t 8)),
 un (.bin 10 .lss (.t 6) (.t 9))])
 (.drop [6,7,8,9] (.cond (.t 10) .skip
 (.exit 0))))
 (.drop [6,7,8,9,10] (.seq (.block 1 (.reg [un (.mov 13 (.t 3)),
 un (.fadr 14 1 (.t 1)),
 un (.ld 15 1 false (.t 14)),
 un (.mov 16 (.t 4)),
 un (.iad 17 2 (.t 15) (.t 16)),
 un (.fadr 18 0 (.t 17)),
 un (.ld 19 1 false (.t 18)),
 un (.bsl 20 1 [(.t 19)]),
 un (.app 21 1 (.t 13) (.t 20)),
 un (.asg 3 (.t 21))]))
 (.drop [13,14,15,16,17,18,19,20,21] (.reg [un (.mov 11 (.t 4)),
 un (.bin 12 .add (.t 11) (.c (.int .i64 1))),
 un (.asg 4 (.t 12))])))))
def Anq:ACode:=
 (.seq (.reg [un (.box 1 (.t 0)),
 un (.asg 2 (.c (.nilsl 1)))])
 (.seq (.reg [un (.bsl 5 1 []),
 un (.asg 3 (.t 5))])
 (.drop [5] (.seq (.seq (.reg [un (.asg 4 (.c (.int .i64 0)))])
 (.block 0 (.loop V7)))
 (.drop [4,6,7,8,9,10,13,14,15,16,17,18,19,20,21,11,12] (.seq (.reg [un (.mov 22 (.t 3)),
 un (.asg 2 (.t 22))])
 (.drop [22] .ret)))))))
abbrev Aon:List RS:=[.t 2]
theorem Am3:A8 Try.prog Ox 23 Anq Aon=true:=by kernel_rfl
def Wp:ACode:=
 (.seq (.reg [un (.bin 10 .lss (.t 9) (.t 8))])
 (.seq (.cond (.t 10) .skip
 (.exit 0))
 (.seq (.block 1 (.seq (.reg [un (.iad 11 1 (.t 7) (.t 9)),
 un (.ld 12 1 false (.t 11)),
 un (.asg 6 (.t 12))])
 (.drop [11,12] (.seq (.reg [un (.mov 13 (.t 6)),
 un (.bin 14 .lss (.t 13) (.c (.int .i64 0))),
 un (.asg 15 (.t 14)),
 ⟨some (15,false),.mov 16 (.t 6)⟩,
 ⟨some (15,false),.mov 17 (.t 1)⟩,
 ⟨some (15,false),.bin 18 .geq (.t 16) (.t 17)⟩,
 un (.pick 19 (.t 15) (.c (.bool true)) (.t 18))])
 (.drop [13,14,15,16,17,18] (.cond (.t 19) (.seq (.reg [un (.asg 4 (.c (.bool false)))])
 .ret)
 .skip))))))
 (.drop [11,12,6,13,14,15,16,17,18,19] (.reg [un (.bin 20 .add (.t 9) (.c (.int .i64 1))),
 un (.asg 9 (.t 20))])))))
def Aom:ACode:=
 (.seq (.reg [un (.asg 4 (.c (.bool false)))])
 (.seq (.seq (.reg [un (.mov 7 (.t 0)),
 un (.len 8 (.t 7)),
 un (.mov 9 (.c (.int .i64 0)))])
 (.block 0 (.loop Wp)))
 (.drop [7,8,9,10,11,12,6,13,14,15,16,17,18,19,20] (.seq (.reg [un (.asg 4 (.c (.bool true)))])
 .ret))))
abbrev Aml:List RS:=[.t 4]
theorem Ang:A8 Try.prog Oz 21 Aom Aml=true:=by kernel_rfl
def Rv:ACode:=
 (.seq (.seq (.reg [un (.mov 6 (.t 4)),
 un (.mov 7 (.t 0)),
 un (.slen 8 (.t 7)),
 un (.bin 9 .lss (.t 6) (.t 8))])
 (.drop [6,7,8] (.cond (.t 9) .skip
 (.exit 0))))
 (.drop [6,7,8,9] (.seq (.block 1 (.dreg [(un (.fadr 12 1 (.t 3)),[18]),
 (un (.ld 13 1 false (.t 12)),[18]),
 (un (.mov 14 (.t 0)),[12,13]),
 (un (.mov 15 (.t 4)),[12,13,14]),
 (un (.sidx 16 (.t 14) (.t 15)),[12,13]),
 (un (.bin 17 .sub (.t 16) (.c (.int .u8 48))),[12,13]),
 (un (.cnv 18 .i64 (.t 17)),[12,13]),
 (un (.bsl 19 1 [(.t 18)]),[12,13])]
 [un (.app 20 1 (.t 13) (.t 19)),
 un (.fadr 21 1 (.t 3)),
 un (.st 1 (.t 21) (.t 20))]))
 (.drop [12,13,14,15,16,17,18,19,20,21] (.reg [un (.mov 10 (.t 4)),
 un (.bin 11 .add (.t 10) (.c (.int .i64 1))),
 un (.asg 4 (.t 11))])))))
def Ajf:ACode:=
 (.seq (.reg [un (.alc 2 (.agg [.int .i64 0,.nilsl 1]))])
 (.seq (.reg [un (.bld 5 [.int .i64 0,.nilsl 1] [(0,1,(.c (.int .i64 2)))]),
 un (.alc 3 (.agg [.int .i64 0,.nilsl 1])),
 un (.st 2 (.t 3) (.t 5))])
 (.drop [5] (.seq (.seq (.reg [un (.asg 4 (.c (.int .i64 0)))])
 (.block 0 (.loop Rv)))
 (.drop [4,6,7,8,9,12,13,14,15,16,17,18,19,20,21,10,11] (.seq (.reg [un (.ld 22 2 true (.t 3)),
 un (.st 2 (.t 2) (.t 22))])
 (.drop [22] .ret)))))))
abbrev Aji:List RS:=[.c 2 2 true]
theorem Ail:A8 Try.prog Bp 23 Ajf Aji=true:=by kernel_rfl
def Rn:ACode:=
 (.seq (.seq (.reg [un (.mov 6 (.t 4)),
 un (.mov 7 (.t 0)),
 un (.mov 8 (.t 0)),
 un (.bin 9 .mul (.t 7) (.t 8)),
 un (.mov 10 (.t 0)),
 un (.bin 11 .mul (.t 9) (.t 10)),
 un (.bin 12 .lss (.t 6) (.t 11))])
 (.drop [6,7,8,9,10,11] (.cond (.t 12) .skip
 (.exit 0))))
 (.drop [6,7,8,9,10,11,12] (.seq (.block 1 (.dreg [(un (.fadr 15 1 (.t 3)),[35]),
 (un (.ld 16 1 false (.t 15)),[35]),
 (un (.mov 17 (.t 4)),[15,16]),
 (un (.mov 18 (.t 0)),[15,16,17]),
 (un (.mov 19 (.t 0)),[15,16,17,18]),
 (un (.bin 20 .mul (.t 18) (.t 19)),[15,16,17]),
 (un (.bin 21 .quo (.t 17) (.t 20)),[15,16]),
 (un (.mov 22 (.t 0)),[15,16,17,18,19,20,21]),
 (un (.bin 23 .add (.t 21) (.t 22)),[15,16]),
 (un (.mov 24 (.t 4)),[15,16,17,18,19,20,21,22,23]),
 (un (.mov 25 (.t 0)),[15,16,17,18,19,20,21,22,23,24]),
 (un (.bin 26 .quo (.t 24) (.t 25)),[15,16,17,18,19,20,21,22,23]),
 (un (.mov 27 (.t 0)),[15,16,17,18,19,20,21,22,23,24,25,26]),
 (un (.bin 28 .rem (.t 26) (.t 27)),[15,16,17,18,19,20,21,22,23]),
 (un (.bin 29 .sub (.t 23) (.t 28)),[15,16]),
 (un (.mov 30 (.t 4)),[15,16,17,18,19,20,21,22,23,24,25,26,27,28,29]),
 (un (.mov 31 (.t 0)),[15,16,17,18,19,20,21,22,23,24,25,26,27,28,29,30]),
 (un (.bin 32 .rem (.t 30) (.t 31)),[15,16,17,18,19,20,21,22,23,24,25,26,27,28,29]),
 (un (.bin 33 .add (.t 29) (.t 32)),[15,16]),
 (un (.mov 34 (.t 0)),[15,16,17,18,19,20,21,22,23,24,25,26,27,28,29,30,31,32,33]),
 (un (.bin 35 .rem (.t 33) (.t 34)),[15,16]),
 (un (.bsl 36 1 [(.t 35)]),[15,16])]
 [un (.app 37 1 (.t 16) (.t 36)),
 un (.fadr 38 1 (.t 3)),
 un (.st 1 (.t 38) (.t 37))]))
 (.drop [15,16,17,18,19,20,21,22,23,24,25,26,27,28,29,30,31,32,33,34,35,36,37,38] (.reg [un (.mov 13 (.t 4)),
 un (.bin 14 .add (.t 13) (.c (.int .i64 1))),
 un (.asg 4 (.t 14))])))))
def Ai7:ACode:=
 (.seq (.reg [un (.alc 2 (.agg [.int .i64 0,.nilsl 1]))])
 (.seq (.reg [un (.bld 5 [.int .i64 0,.nilsl 1] [(0,1,(.c (.int .i64 3)))]),
 un (.alc 3 (.agg [.int .i64 0,.nilsl 1])),
 un (.st 2 (.t 3) (.t 5))])
 (.drop [5] (.seq (.seq (.reg [un (.asg 4 (.c (.int .i64 0)))])
 (.block 0 (.loop Rn)))
 (.drop [4,6,7,8,9,10,11,12,15,16,17,18,19,20,21,22,23,24,25,26,27,28,29,30,31,32,33,34,35,36,37,38,13,14] (.seq (.reg [un (.ld 39 2 true (.t 3)),
 un (.st 2 (.t 2) (.t 39))])
 (.drop [39] .ret)))))))
abbrev Ai6:List RS:=[.c 2 2 true]
theorem Ai9:A8 Try.prog Lb 40 Ai7 Ai6=true:=by kernel_rfl
def V5:ACode:=
 (.seq (.seq (.reg [un (.mov 6 (.t 5)),
 un (.mov 7 (.t 0)),
 un (.len 8 (.t 7)),
 un (.bin 9 .lss (.t 6) (.t 8))])
 (.drop [6,7,8] (.cond (.t 9) .skip
 (.exit 0))))
 (.drop [6,7,8,9] (.seq (.block 1 (.seq (.dreg [(un (.mov 12 (.t 0)),[]),
 (un (.mov 13 (.t 5)),[12]),
 (un (.iad 14 1 (.t 12) (.t 13)),[]),
 (un (.ld 15 1 false (.t 14)),[]),
 (un (.mov 16 (.t 1)),[12,13,14,15]),
 (un (.mov 17 (.t 5)),[12,13,14,15,16]),
 (un (.iad 18 1 (.t 16) (.t 17)),[12,13,14,15]),
 (un (.ld 19 1 false (.t 18)),[12,13,14,15])]
 [un (.bin 20 .neq (.t 15) (.t 19))])
 (.drop [12,13,14,15,16,17,18,19] (.cond (.t 20) (.seq (.dreg [(un (.mov 21 (.t 0)),[]),
 (un (.mov 22 (.t 5)),[21]),
 (un (.iad 23 1 (.t 21) (.t 22)),[]),
 (un (.ld 24 1 false (.t 23)),[]),
 (un (.mov 25 (.t 1)),[21,22,23,24]),
 (un (.mov 26 (.t 5)),[21,22,23,24,25]),
 (un (.iad 27 1 (.t 25) (.t 26)),[21,22,23,24]),
 (un (.ld 28 1 false (.t 27)),[21,22,23,24])]
 [un (.bin 29 .lss (.t 24) (.t 28)),
 un (.asg 4 (.t 29))])
 (.drop [21,22,23,24,25,26,27,28,29] .ret))
 .skip))))
 (.drop [12,13,14,15,16,17,18,19,20,21,22,23,24,25,26,27,28,29] (.reg [un (.mov 10 (.t 5)),
 un (.bin 11 .add (.t 10) (.c (.int .i64 1))),
 un (.asg 5 (.t 11))])))))
def Aoq:ACode:=
 (.seq (.reg [un (.asg 4 (.c (.bool false)))])
 (.seq (.seq (.reg [un (.asg 5 (.c (.int .i64 0)))])
 (.block 0 (.loop V5)))
 (.drop [5,6,7,8,9,12,13,14,15,16,17,18,19,20,21,22,23,24,25,26,27,28,29,10,11] (.seq (.reg [un (.asg 4 (.c (.bool false)))])
 .ret))))
abbrev Anl:List RS:=[.t 4]
theorem Amz:A8 Try.prog Ut 30 Aoq Anl=true:=by kernel_rfl
def X4:ACode:=
 (.seq (.seq (.reg [un (.mov 6 (.t 1)),
 un (.bin 7 .gtr (.t 6) (.c (.int .i64 0)))])
 (.drop [6] (.cond (.t 7) .skip
 (.exit 0))))
 (.drop [6,7] (.seq (.block 1 (.reg [un (.mov 10 (.t 5)),
 un (.mov 11 (.t 0)),
 un (.bin 12 .mul (.t 10) (.t 11)),
 un (.asg 5 (.t 12))]))
 (.drop [10,11,12] (.reg [un (.mov 8 (.t 1)),
 un (.bin 9 .sub (.t 8) (.c (.int .i64 1))),
 un (.asg 1 (.t 9))])))))
def Apy:ACode:=
 (.seq (.reg [un (.asg 4 (.c (.int .i64 0)))])
 (.seq (.reg [un (.asg 5 (.c (.int .i64 1)))])
 (.seq (.block 0 (.loop X4))
 (.drop [6,7,10,11,12,8,9] (.seq (.reg [un (.mov 13 (.t 5)),
 un (.asg 4 (.t 13))])
 (.drop [13] .ret))))))
abbrev Arp:List RS:=[.t 4]
theorem Ap0:A8 Try.prog Xq 14 Apy Arp=true:=by kernel_rfl
def Sz:ACode:=
 (.seq (.reg [un (.bin 15 .lss (.t 14) (.t 13))])
 (.seq (.cond (.t 15) .skip
 (.exit 0))
 (.seq (.block 1 (.seq (.reg [un (.mov 16 (.t 14)),
 un (.iad 17 1 (.t 12) (.t 14)),
 un (.ld 18 1 false (.t 17)),
 un (.asg 5 (.t 16)),
 un (.asg 6 (.t 18))])
 (.drop [16,17,18] (.seq (.reg [un (.mov 19 (.t 1)),
 un (.mov 20 (.t 5)),
 un (.iad 21 1 (.t 19) (.t 20)),
 un (.ld 22 1 false (.t 21)),
 un (.mov 23 (.t 6)),
 un (.bin 24 .neq (.t 22) (.t 23))])
 (.drop [19,20,21,22,23] (.cond (.t 24) (.seq (.reg [un (.asg 4 (.c (.bool false)))])
 .ret)
 .skip))))))
 (.drop [16,17,18,5,6,19,20,21,22,23,24] (.reg [un (.bin 25 .add (.t 14) (.c (.int .i64 1))),
 un (.asg 14 (.t 25))])))))
def Ah6:ACode:=
 (.seq (.reg [un (.asg 4 (.c (.bool false)))])
 (.seq (.seq (.reg [un (.mov 7 (.t 0)),
 un (.len 8 (.t 7)),
 un (.mov 9 (.t 1)),
 un (.len 10 (.t 9)),
 un (.bin 11 .neq (.t 8) (.t 10))])
 (.drop [7,8,9,10] (.cond (.t 11) (.seq (.reg [un (.asg 4 (.c (.bool false)))])
 .ret)
 .skip)))
 (.drop [7,8,9,10,11] (.seq (.seq (.reg [un (.mov 12 (.t 0)),
 un (.len 13 (.t 12)),
 un (.mov 14 (.c (.int .i64 0)))])
 (.block 0 (.loop Sz)))
 (.drop [12,13,14,15,16,17,18,5,6,19,20,21,22,23,24,25] (.seq (.reg [un (.asg 4 (.c (.bool true)))])
 .ret))))))
abbrev Ah4:List RS:=[.t 4]
theorem Aim:A8 Try.prog Qh 26 Ah6 Ah4=true:=by kernel_rfl
def Wr:ACode:=
 (.seq (.reg [un (.bin 11 .lss (.t 10) (.t 9))])
 (.seq (.cond (.t 11) .skip
 (.exit 0))
 (.seq (.block 1 (.seq (.reg [un (.iad 12 2 (.t 8) (.t 10)),
 un (.ld 13 2 true (.t 12)),
 un (.alc 5 (.agg [.int .i64 0,.nilsl 1])),
 un (.st 2 (.t 5) (.t 13))])
 (.drop [12,13] (.reg [un (.mov 14 (.t 3)),
 un (.fadr 15 0 (.t 5)),
 un (.ld 16 1 false (.t 15)),
 un (.bsl 17 1 [(.t 16)]),
 un (.app 18 1 (.t 14) (.t 17)),
 un (.asg 3 (.t 18))]))))
 (.drop [12,13,5,14,15,16,17,18] (.reg [un (.bin 19 .add (.t 10) (.c (.int .i64 1))),
 un (.asg 10 (.t 19))])))))
def Amk:ACode:=
 (.seq (.reg [un (.box 1 (.t 0)),
 un (.asg 2 (.c (.nilsl 1)))])
 (.seq (.reg [un (.bsl 6 1 []),
 un (.asg 3 (.t 6))])
 (.drop [6] (.seq (.seq (.reg [un (.fadr 7 1 (.t 1)),
 un (.ld 8 1 false (.t 7)),
 un (.len 9 (.t 8)),
 un (.mov 10 (.c (.int .i64 0)))])
 (.drop [7] (.block 0 (.loop Wr))))
 (.drop [7,8,9,10,11,12,13,5,14,15,16,17,18,19] (.seq (.reg [un (.mov 20 (.t 3)),
 un (.asg 2 (.t 20))])
 (.drop [20] .ret)))))))
abbrev Ank:List RS:=[.t 2]
theorem Ant:A8 Try.prog O7 21 Amk Ank=true:=by kernel_rfl
def Z1:ACode:=
 (.seq (.seq (.reg [un (.mov 9 (.t 6)),
 un (.mov 10 (.t 1)),
 un (.len 11 (.t 10)),
 un (.bin 12 .lss (.t 9) (.t 11))])
 (.drop [9,10,11] (.cond (.t 12) .skip
 (.exit 0))))
 (.drop [9,10,11,12] (.seq (.block 1 (.reg [un (.mov 15 (.t 5)),
 un (.mov 16 (.t 1)),
 un (.mov 17 (.t 6)),
 un (.iad 18 1 (.t 16) (.t 17)),
 un (.ld 19 1 false (.t 18)),
 un (.iad 20 1 (.t 15) (.t 19)),
 un (.st 1 (.t 20) (.c (.bool true)))]))
 (.drop [15,16,17,18,19,20] (.reg [un (.mov 13 (.t 6)),
 un (.bin 14 .add (.t 13) (.c (.int .i64 1))),
 un (.asg 6 (.t 14))])))))
def As4:ACode:=
 (.seq (.reg [un (.asg 4 (.c (.nilsl 1)))])
 (.seq (.reg [un (.mov 7 (.t 0)),
 un (.mk 8 1 (.bool false) (.t 7)),
 un (.asg 5 (.t 8))])
 (.drop [7,8] (.seq (.seq (.reg [un (.asg 6 (.c (.int .i64 0)))])
 (.block 0 (.loop Z1)))
 (.drop [6,9,10,11,12,15,16,17,18,19,20,13,14] (.seq (.reg [un (.mov 21 (.t 5)),
 un (.asg 4 (.t 21))])
 (.drop [21] .ret)))))))
abbrev Aur:List RS:=[.t 4]
theorem Aux:A8 Try.prog Aaf 22 As4 Aur=true:=by kernel_rfl
def Vc:ACode:=
 (.seq (.seq (.reg [un (.mov 6 (.t 4)),
 un (.mov 7 (.t 0)),
 un (.len 8 (.t 7)),
 un (.bin 9 .lss (.t 6) (.t 8))])
 (.drop [6,7,8] (.cond (.t 9) .skip
 (.exit 0))))
 (.drop [6,7,8,9] (.seq (.block 1 (.seq (.reg [un (.mov 12 (.t 0)),
 un (.mov 13 (.t 4)),
 un (.iad 14 1 (.t 12) (.t 13)),
 un (.ld 15 1 false (.t 14))])
 (.drop [12,13,14] (.cond (.t 15) (.reg [un (.mov 16 (.t 3)),
 un (.mov 17 (.t 4)),
 un (.bsl 18 1 [(.t 17)]),
 un (.app 19 1 (.t 16) (.t 18)),
 un (.asg 3 (.t 19))])
 .skip))))
 (.drop [12,13,14,15,16,17,18,19] (.reg [un (.mov 10 (.t 4)),
 un (.bin 11 .add (.t 10) (.c (.int .i64 1))),
 un (.asg 4 (.t 11))])))))
def Am9:ACode:=
 (.seq (.reg [un (.asg 2 (.c (.nilsl 1)))])
 (.seq (.reg [un (.bsl 5 1 []),
 un (.asg 3 (.t 5))])
 (.drop [5] (.seq (.seq (.reg [un (.asg 4 (.c (.int .i64 0)))])
 (.block 0 (.loop Vc)))
 (.drop [4,6,7,8,9,12,13,14,15,16,17,18,19,10,11] (.seq (.reg [un (.mov 20 (.t 3)),
 un (.asg 2 (.t 20))])
 (.drop [20] .ret)))))))
abbrev Ane:List RS:=[.t 2]
theorem Aoo:A8 Try.prog Uo 21 Am9 Ane=true:=by kernel_rfl
def Vz:ACode:=
 (.seq (.seq (.reg [un (.mov 11 (.t 5)),
 un (.mov 12 (.t 0)),
 un (.len 13 (.t 12)),
 un (.bin 14 .lss (.t 11) (.t 13))])
 (.drop [11,12,13] (.cond (.t 14) .skip
 (.exit 0))))
 (.drop [11,12,13,14] (.seq (.block 1 (.seq (.dreg [(un (.mov 17 (.t 0)),[]),
 (un (.mov 18 (.t 5)),[17]),
 (un (.iad 19 1 (.t 17) (.t 18)),[]),
 (un (.ld 20 1 false (.t 19)),[]),
 (un (.mov 21 (.t 1)),[17,18,19,20]),
 (un (.mov 22 (.t 5)),[17,18,19,20,21]),
 (un (.iad 23 1 (.t 21) (.t 22)),[17,18,19,20]),
 (un (.ld 24 1 false (.t 23)),[17,18,19,20])]
 [un (.call 25 Ia [((.t 20),false),((.t 24),false)]),
 un (.un 26 .not (.t 25))])
 (.drop [17,18,19,20,21,22,23,24,25] (.cond (.t 26) (.seq (.reg [un (.asg 4 (.c (.bool false)))])
 .ret)
 .skip))))
 (.drop [17,18,19,20,21,22,23,24,25,26] (.reg [un (.mov 15 (.t 5)),
 un (.bin 16 .add (.t 15) (.c (.int .i64 1))),
 un (.asg 5 (.t 16))])))))
def An8:ACode:=
 (.seq (.reg [un (.asg 4 (.c (.bool false)))])
 (.seq (.seq (.reg [un (.mov 6 (.t 0)),
 un (.len 7 (.t 6)),
 un (.mov 8 (.t 1)),
 un (.len 9 (.t 8)),
 un (.bin 10 .neq (.t 7) (.t 9))])
 (.drop [6,7,8,9] (.cond (.t 10) (.seq (.reg [un (.asg 4 (.c (.bool false)))])
 .ret)
 .skip)))
 (.drop [6,7,8,9,10] (.seq (.seq (.reg [un (.asg 5 (.c (.int .i64 0)))])
 (.block 0 (.loop Vz)))
 (.drop [5,11,12,13,14,17,18,19,20,21,22,23,24,25,26,15,16] (.seq (.reg [un (.asg 4 (.c (.bool true)))])
 .ret))))))
abbrev An1:List RS:=[.t 4]
theorem Amx:A8 Try.prog Ud 27 An8 An1=true:=by kernel_rfl
def Abw:ACode:=
 (.seq (.seq (.reg [un (.mov 6 (.t 5)),
 un (.mov 7 (.t 0)),
 un (.len 8 (.t 7)),
 un (.bin 9 .lss (.t 6) (.t 8))])
 (.drop [6,7,8] (.cond (.t 9) .skip
 (.exit 0))))
 (.drop [6,7,8,9] (.seq (.block 1 (.seq (.reg [un (.mov 12 (.t 0)),
 un (.mov 13 (.t 5)),
 un (.iad 14 1 (.t 12) (.t 13)),
 un (.ld 15 1 false (.t 14)),
 un (.mov 16 (.t 1)),
 un (.call 17 Ia [((.t 15),false),((.t 16),false)])])
 (.drop [12,13,14,15,16] (.cond (.t 17) (.seq (.reg [un (.asg 4 (.c (.bool true)))])
 .ret)
 .skip))))
 (.drop [12,13,14,15,16,17] (.reg [un (.mov 10 (.t 5)),
 un (.bin 11 .add (.t 10) (.c (.int .i64 1))),
 un (.asg 5 (.t 11))])))))
def Axd:ACode:=
 (.seq (.reg [un (.asg 4 (.c (.bool false)))])
 (.seq (.seq (.reg [un (.asg 5 (.c (.int .i64 0)))])
 (.block 0 (.loop Abw)))
 (.drop [5,6,7,8,9,12,13,14,15,16,17,10,11] (.seq (.reg [un (.asg 4 (.c (.bool false)))])
 .ret))))
abbrev Avy:List RS:=[.t 4]
theorem Av7:A8 Try.prog W4 18 Axd Avy=true:=by kernel_rfl
def Rk:ACode:=
 (.seq (.reg [un (.bin 26 .lss (.t 25) (.t 24))])
 (.seq (.cond (.t 26) .skip
 (.exit 4))
 (.seq (.block 5 (.seq (.reg [un (.mov 27 (.t 25)),
 un (.iad 28 1 (.t 23) (.t 25)),
 un (.ld 29 1 false (.t 28)),
 un (.asg 10 (.t 27)),
 un (.asg 11 (.t 29))])
 (.drop [27,28,29] (.seq (.seq (.reg [un (.mov 30 (.t 10)),
 un (.fadr 31 0 (.t 9)),
 un (.ld 32 1 false (.t 31)),
 un (.fadr 33 0 (.t 3)),
 un (.ld 34 1 false (.t 33)),
 un (.mov 35 (.t 2)),
 un (.call 36 Qp [((.t 30),false),((.t 32),false),((.t 34),false),((.t 35),false)]),
 un (.un 37 .not (.t 36))])
 (.drop [30,31,32,33,34,35,36] (.cond (.t 37) (.exit 5)
 .skip)))
 (.drop [30,31,32,33,34,35,36,37] (.seq (.dreg [(un (.fadr 38 1 (.t 4)),[]),
 (un (.ld 39 1 false (.t 38)),[]),
 (un (.mov 40 (.t 8)),[38,39]),
 (un (.iad 41 2 (.t 39) (.t 40)),[]),
 (un (.fadr 42 1 (.t 41)),[]),
 (un (.ld 43 1 false (.t 42)),[]),
 (un (.mov 44 (.t 10)),[38,39,40,41,42,43]),
 (un (.fadr 45 0 (.t 9)),[38,39,40,41,42,43,44]),
 (un (.ld 46 1 false (.t 45)),[38,39,40,41,42,43,44]),
 (un (.ld 47 2 true (.t 3)),[38,39,40,41,42,43,44,45,46]),
 (un (.ld 48 2 true (.t 4)),[38,39,40,41,42,43,44,45,46,47]),
 (un (.mov 49 (.t 2)),[38,39,40,41,42,43,44,45,46,47,48]),
 (un (.call 50 Jc [((.t 44),false),((.t 46),false),((.t 47),false),((.t 48),false),((.t 49),false)]),[38,39,40,41,42,43])]
 [un (.iad 51 1 (.t 43) (.t 50)),
 un (.ld 52 1 false (.t 51)),
 un (.asg 12 (.t 52))])
 (.drop [38,39,40,41,42,43,44,45,46,47,48,49,50,51,52] (.seq (.reg [un (.mov 53 (.t 2)),
 un (.mov 54 (.t 11)),
 un (.iad 55 1 (.t 53) (.t 54)),
 un (.ld 56 1 false (.t 55)),
 un (.bin 57 .lss (.t 56) (.c (.int .i64 0)))])
 (.drop [53,54,55,56] (.cond (.t 57) (.seq (.reg [un (.mov 58 (.t 2)),
 un (.mov 59 (.t 11)),
 un (.mov 60 (.t 12)),
 un (.iad 61 1 (.t 58) (.t 59)),
 un (.st 1 (.t 61) (.t 60))])
 (.drop [58,59,60,61] (.reg [un (.asg 7 (.c (.bool true)))])))
 (.seq (.reg [un (.mov 62 (.t 2)),
 un (.mov 63 (.t 11)),
 un (.iad 64 1 (.t 62) (.t 63)),
 un (.ld 65 1 false (.t 64)),
 un (.mov 66 (.t 12)),
 un (.bin 67 .neq (.t 65) (.t 66))])
 (.drop [62,63,64,65,66] (.cond (.t 67) (.seq (.reg [un (.asg 6 (.c (.bool false)))])
 .ret)
 .skip)))))))))))))
 (.drop [27,28,29,10,11,30,31,32,33,34,35,36,37,38,39,40,41,42,43,44,45,46,47,48,49,50,51,52,12,53,54,55,56,57,58,59,60,61,62,63,64,65,66,67] (.reg [un (.bin 68 .add (.t 25) (.c (.int .i64 1))),
 un (.asg 25 (.t 68))])))))
def Rx:ACode:=
 (.seq (.reg [un (.bin 18 .lss (.t 17) (.t 16))])
 (.seq (.cond (.t 18) .skip
 (.exit 2))
 (.seq (.block 3 (.seq (.reg [un (.mov 19 (.t 17)),
 un (.iad 20 2 (.t 15) (.t 17)),
 un (.ld 21 2 true (.t 20)),
 un (.alc 9 (.agg [.int .i64 0,.nilsl 1])),
 un (.asg 8 (.t 19)),
 un (.st 2 (.t 9) (.t 21))])
 (.drop [19,20,21] (.seq (.reg [un (.fadr 22 1 (.t 9)),
 un (.ld 23 1 false (.t 22)),
 un (.len 24 (.t 23)),
 un (.mov 25 (.c (.int .i64 0)))])
 (.drop [22] (.block 4 (.loop Rk)))))))
 (.drop [19,20,21,9,8,22,23,24,25,26,27,28,29,10,11,30,31,32,33,34,35,36,37,38,39,40,41,42,43,44,45,46,47,48,49,50,51,52,12,53,54,55,56,57,58,59,60,61,62,63,64,65,66,67,68] (.reg [un (.bin 69 .add (.t 17) (.c (.int .i64 1))),
 un (.asg 17 (.t 69))])))))
def R4:ACode:=
 (.seq (.seq (.reg [un (.mov 13 (.t 7))])
 (.cond (.t 13) .skip
 (.exit 0)))
 (.drop [13] (.block 1 (.seq (.reg [un (.asg 7 (.c (.bool false)))])
 (.seq (.reg [un (.fadr 14 1 (.t 3)),
 un (.ld 15 1 false (.t 14)),
 un (.len 16 (.t 15)),
 un (.mov 17 (.c (.int .i64 0)))])
 (.drop [14] (.block 2 (.loop Rx))))))))
def Aht:ACode:=
 (.seq (.reg [un (.box 3 (.t 0)),
 un (.box 4 (.t 1)),
 un (.asg 6 (.c (.bool false)))])
 (.seq (.seq (.reg [un (.asg 7 (.c (.bool true)))])
 (.block 0 (.loop R4)))
 (.drop [7,13,14,15,16,17,18,19,20,21,9,8,22,23,24,25,26,27,28,29,10,11,30,31,32,33,34,35,36,37,38,39,40,41,42,43,44,45,46,47,48,49,50,51,52,12,53,54,55,56,57,58,59,60,61,62,63,64,65,66,67,68,69] (.seq (.reg [un (.asg 6 (.c (.bool true)))])
 .ret))))
abbrev Ah5:List RS:=[.t 6]
theorem Aih:A8 Try.prog Li 70 Aht Ah5=true:=by kernel_rfl
def Ai8:ACode:=
 (.seq (.reg [un (.asg 4 (.c (.nilsl 1)))])
 (.seq (.reg [un (.mov 5 (.t 0)),
 un (.mov 6 (.t 1)),
 un (.call 7 Xp [((.t 5),false),((.t 6),false)]),
 un (.call 8 Uh [((.t 7),false)]),
 un (.asg 4 (.t 8))])
 (.drop [5,6,7,8] .ret)))
abbrev Aiw:List RS:=[.t 4]
theorem Ajc:A8 Try.prog Qn 9 Ai8 Aiw=true:=by kernel_rfl
def Afd:ACode:=
 (.seq (.reg [un (.mov 63 (.t 8)),
 un (.mov 64 (.t 13)),
 un (.iad 65 1 (.t 63) (.t 64)),
 un (.ld 66 1 false (.t 65)),
 un (.bin 67 .geq (.t 66) (.c (.int .i64 0))),
 un (.asg 68 (.t 67)),
 ⟨some (68,true),.mov 69 (.t 8)⟩,
 ⟨some (68,true),.mov 70 (.t 13)⟩,
 ⟨some (68,true),.iad 71 1 (.t 69) (.t 70)⟩,
 ⟨some (68,true),.ld 72 1 false (.t 71)⟩,
 ⟨some (68,true),.mov 73 (.t 14)⟩,
 ⟨some (68,true),.bin 74 .neq (.t 72) (.t 73)⟩,
 un (.pick 75 (.t 68) (.t 74) (.c (.bool false)))])
 (.drop [63,64,65,66,67,68,69,70,71,72,73,74] (.cond (.t 75) (.seq (.reg [un (.bsl 76 1 []),
 un (.asg 6 (.t 76)),
 un (.asg 7 (.c (.bool false)))])
 (.drop [76] .ret))
 .skip)))
def Tc:ACode:=
 (.seq (.seq (.reg [un (.mov 25 (.t 11)),
 un (.fadr 26 1 (.t 3)),
 un (.ld 27 1 false (.t 26)),
 un (.mov 28 (.t 10)),
 un (.iad 29 2 (.t 27) (.t 28)),
 un (.fadr 30 1 (.t 29)),
 un (.ld 31 1 false (.t 30)),
 un (.len 32 (.t 31)),
 un (.bin 33 .lss (.t 25) (.t 32))])
 (.drop [25,26,27,28,29,30,31,32] (.cond (.t 33) .skip
 (.exit 4))))
 (.drop [25,26,27,28,29,30,31,32,33] (.seq (.block 5 (.seq (.dreg [(un (.mov 36 (.t 8)),[]),
 (un (.fadr 37 0 (.t 3)),[36]),
 (un (.ld 38 1 false (.t 37)),[36]),
 (un (.fadr 39 1 (.t 3)),[36,37,38]),
 (un (.ld 40 1 false (.t 39)),[36,37,38]),
 (un (.mov 41 (.t 10)),[36,37,38,39,40]),
 (un (.iad 42 2 (.t 40) (.t 41)),[36,37,38]),
 (un (.fadr 43 0 (.t 42)),[36,37,38]),
 (un (.ld 44 1 false (.t 43)),[36,37,38]),
 (un (.mov 45 (.t 11)),[36,37,38,39,40,41,42,43,44]),
 (un (.call 46 Ix [((.t 38),false),((.t 44),false),((.t 45),false)]),[36])]
 [un (.call 47 Qe [((.t 36),false),((.t 46),false)]),
 un (.asg 12 (.t 47))])
 (.drop [36,37,38,39,40,41,42,43,44,45,46,47] (.seq (.seq (.reg [un (.mov 48 (.t 12)),
 un (.call 49 Mn [((.t 48),false),((.c (.int .i64 (-1))),false)])])
 (.drop [48] (.cond (.t 49) (.exit 5)
 .skip)))
 (.drop [48,49] (.seq (.dreg [(un (.fadr 50 1 (.t 3)),[]),
 (un (.ld 51 1 false (.t 50)),[]),
 (un (.mov 52 (.t 10)),[50,51]),
 (un (.iad 53 2 (.t 51) (.t 52)),[]),
 (un (.fadr 54 1 (.t 53)),[]),
 (un (.ld 55 1 false (.t 54)),[]),
 (un (.mov 56 (.t 11)),[50,51,52,53,54,55]),
 (un (.iad 57 1 (.t 55) (.t 56)),[]),
 (un (.ld 58 1 false (.t 57)),[]),
 (un (.ld 59 2 true (.t 4)),[50,51,52,53,54,55,56,57,58]),
 (un (.mov 60 (.t 10)),[50,51,52,53,54,55,56,57,58,59]),
 (un (.mov 61 (.t 12)),[50,51,52,53,54,55,56,57,58,59,60]),
 (un (.call 62 Mw [((.t 59),false),((.t 60),false),((.t 61),false)]),[50,51,52,53,54,55,56,57,58])]
 [un (.asg 13 (.t 58)),
 un (.asg 14 (.t 62))])
 (.drop [50,51,52,53,54,55,56,57,58,59,60,61,62] (.seq (.cut Afd)
 (.drop [63,64,65,66,67,68,69,70,71,72,73,74,75,76] (.seq (.reg [un (.mov 77 (.t 8)),
 un (.mov 78 (.t 13)),
 un (.iad 79 1 (.t 77) (.t 78)),
 un (.ld 80 1 false (.t 79)),
 un (.bin 81 .lss (.t 80) (.c (.int .i64 0)))])
 (.drop [77,78,79,80] (.cond (.t 81) (.seq (.reg [un (.mov 82 (.t 8)),
 un (.mov 83 (.t 13)),
 un (.mov 84 (.t 14)),
 un (.iad 85 1 (.t 82) (.t 83)),
 un (.st 1 (.t 85) (.t 84))])
 (.drop [82,83,84,85] (.reg [un (.asg 9 (.c (.bool true)))])))
 .skip))))))))))))
 (.drop [36,37,38,39,40,41,42,43,44,45,46,47,12,48,49,50,51,52,53,54,55,56,57,58,59,60,61,62,13,14,63,64,65,66,67,68,69,70,71,72,73,74,75,76,77,78,79,80,81,82,83,84,85] (.reg [un (.mov 34 (.t 11)),
 un (.bin 35 .add (.t 34) (.c (.int .i64 1))),
 un (.asg 11 (.t 35))])))))
def Tl:ACode:=
 (.seq (.seq (.reg [un (.mov 18 (.t 10)),
 un (.fadr 19 1 (.t 3)),
 un (.ld 20 1 false (.t 19)),
 un (.len 21 (.t 20)),
 un (.bin 22 .lss (.t 18) (.t 21))])
 (.drop [18,19,20,21] (.cond (.t 22) .skip
 (.exit 2))))
 (.drop [18,19,20,21,22] (.seq (.block 3 (.seq (.reg [un (.asg 11 (.c (.int .i64 0)))])
 (.block 4 (.loop Tc))))
 (.drop [11,25,26,27,28,29,30,31,32,33,36,37,38,39,40,41,42,43,44,45,46,47,12,48,49,50,51,52,53,54,55,56,57,58,59,60,61,62,13,14,63,64,65,66,67,68,69,70,71,72,73,74,75,76,77,78,79,80,81,82,83,84,85,34,35] (.reg [un (.mov 23 (.t 10)),
 un (.bin 24 .add (.t 23) (.c (.int .i64 1))),
 un (.asg 10 (.t 24))])))))
def Uc:ACode:=
 (.seq (.seq (.reg [un (.mov 17 (.t 9))])
 (.cond (.t 17) .skip
 (.exit 0)))
 (.drop [17] (.block 1 (.seq (.reg [un (.asg 9 (.c (.bool false)))])
 (.seq (.reg [un (.asg 10 (.c (.int .i64 0)))])
 (.block 2 (.loop Tl)))))))
def Akp:ACode:=
 (.seq (.reg [un (.box 3 (.t 0)),
 un (.box 4 (.t 1)),
 un (.asg 6 (.c (.nilsl 1))),
 un (.asg 7 (.c (.bool false)))])
 (.seq (.reg [un (.mov 15 (.t 2)),
 un (.call 16 Kk [((.t 15),false)]),
 un (.asg 8 (.t 16))])
 (.drop [15,16] (.seq (.seq (.reg [un (.asg 9 (.c (.bool true)))])
 (.block 0 (.loop Uc)))
 (.drop [9,17,10,18,19,20,21,22,11,25,26,27,28,29,30,31,32,33,36,37,38,39,40,41,42,43,44,45,46,47,12,48,49,50,51,52,53,54,55,56,57,58,59,60,61,62,13,14,63,64,65,66,67,68,69,70,71,72,73,74,75,76,77,78,79,80,81,82,83,84,85,34,35,23,24] (.seq (.reg [un (.mov 86 (.t 8)),
 un (.asg 6 (.t 86)),
 un (.asg 7 (.c (.bool true)))])
 (.drop [86] .ret)))))))
abbrev Alf:List RS:=[.t 6,.t 7]
theorem Alt:A8 Try.prog Jo 87 Akp Alf=true:=by kernel_rfl
def Ad3:ACode:=
 (.seq (.reg [un (.asg 4 (.c (.int .i64 0)))])
 (.seq (.seq (.reg [un (.mov 6 (.t 1)),
 un (.bin 7 .leq (.t 6) (.c (.int .i64 1)))])
 (.drop [6] (.cond (.t 7) (.seq (.reg [un (.asg 4 (.c (.int .i64 0)))])
 .ret)
 .skip)))
 (.drop [6,7] (.seq (.reg [un (.mov 8 (.t 0)),
 un (.call 9 I6 [((.t 8),true)]),
 un (.asg 5 (.t 9))])
 (.drop [8,9] (.seq (.seq (.reg [un (.mov 10 (.t 1)),
 un (.bin 11 .gtr (.t 10) (.c (.int .i64 200)))])
 (.drop [10] (.cond (.t 11) (.reg [un (.mov 12 (.t 5)),
 un (.bin 13 .mul (.t 12) (.c (.int .i64 256))),
 un (.mov 14 (.t 0)),
 un (.call 15 I6 [((.t 14),true)]),
 un (.bin 16 .add (.t 13) (.t 15)),
 un (.asg 5 (.t 16))])
 .skip)))
 (.drop [10,11,12,13,14,15,16] (.seq (.reg [un (.mov 17 (.t 5)),
 un (.mov 18 (.t 1)),
 un (.bin 19 .rem (.t 17) (.t 18)),
 un (.asg 4 (.t 19))])
 (.drop [17,18,19] .ret)))))))))
abbrev Ade:List RS:=[.t 4]
theorem Aei:A8 Try.prog Au 20 Ad3 Ade=true:=by kernel_rfl
def So:ACode:=
 (.seq (.seq (.reg [un (.mov 50 (.t 11)),
 un (.mov 51 (.t 9)),
 un (.len 52 (.t 51)),
 un (.bin 53 .lss (.t 50) (.t 52))])
 (.drop [50,51,52] (.cond (.t 53) .skip
 (.exit 4))))
 (.drop [50,51,52,53] (.seq (.block 5 (.dreg [(un (.mov 56 (.t 10)),[]),
 (un (.fadr 57 0 (.t 2)),[56]),
 (un (.ld 58 1 false (.t 57)),[56]),
 (un (.bin 59 .mul (.t 56) (.t 58)),[]),
 (un (.mov 60 (.t 1)),[56,57,58,59]),
 (un (.mov 61 (.t 9)),[56,57,58,59,60]),
 (un (.mov 62 (.t 11)),[56,57,58,59,60,61]),
 (un (.iad 63 1 (.t 61) (.t 62)),[56,57,58,59,60]),
 (un (.ld 64 1 false (.t 63)),[56,57,58,59,60]),
 (un (.iad 65 1 (.t 60) (.t 64)),[56,57,58,59]),
 (un (.ld 66 1 false (.t 65)),[56,57,58,59])]
 [un (.bin 67 .add (.t 59) (.t 66)),
 un (.asg 10 (.t 67))]))
 (.drop [56,57,58,59,60,61,62,63,64,65,66,67] (.reg [un (.mov 54 (.t 11)),
 un (.bin 55 .add (.t 54) (.c (.int .i64 1))),
 un (.asg 11 (.t 55))])))))
def Sq:ACode:=
 (.seq (.seq (.reg [un (.mov 37 (.t 8)),
 un (.fadr 38 1 (.t 7)),
 un (.ld 39 1 false (.t 38)),
 un (.len 40 (.t 39)),
 un (.bin 41 .lss (.t 37) (.t 40))])
 (.drop [37,38,39,40] (.cond (.t 41) .skip
 (.exit 2))))
 (.drop [37,38,39,40,41] (.seq (.block 3 (.seq (.reg [un (.fadr 44 0 (.t 2)),
 un (.ld 45 1 false (.t 44)),
 un (.fadr 46 0 (.t 7)),
 un (.ld 47 1 false (.t 46)),
 un (.mov 48 (.t 8)),
 un (.call 49 Ix [((.t 45),false),((.t 47),false),((.t 48),false)]),
 un (.asg 9 (.t 49))])
 (.drop [44,45,46,47,48,49] (.seq (.reg [un (.asg 10 (.c (.int .i64 0)))])
 (.seq (.seq (.reg [un (.asg 11 (.c (.int .i64 0)))])
 (.block 4 (.loop So)))
 (.drop [11,50,51,52,53,56,57,58,59,60,61,62,63,64,65,66,67,54,55] (.dreg [(un (.fadr 68 1 (.t 7)),[]),
 (un (.ld 69 1 false (.t 68)),[]),
 (un (.mov 70 (.t 10)),[68,69]),
 (un (.mov 71 (.t 1)),[68,69,70]),
 (un (.fadr 72 1 (.t 2)),[68,69,70,71]),
 (un (.ld 73 1 false (.t 72)),[68,69,70,71]),
 (un (.mov 74 (.t 6)),[68,69,70,71,72,73]),
 (un (.iad 75 2 (.t 73) (.t 74)),[68,69,70,71]),
 (un (.fadr 76 1 (.t 75)),[68,69,70,71]),
 (un (.ld 77 1 false (.t 76)),[68,69,70,71]),
 (un (.mov 78 (.t 8)),[68,69,70,71,72,73,74,75,76,77]),
 (un (.iad 79 1 (.t 77) (.t 78)),[68,69,70,71]),
 (un (.ld 80 1 false (.t 79)),[68,69,70,71]),
 (un (.iad 81 1 (.t 71) (.t 80)),[68,69,70]),
 (un (.ld 82 1 false (.t 81)),[68,69,70])]
 [un (.iad 83 1 (.t 69) (.t 70)),
 un (.st 1 (.t 83) (.t 82))])))))))
 (.drop [44,45,46,47,48,49,9,10,11,50,51,52,53,56,57,58,59,60,61,62,63,64,65,66,67,54,55,68,69,70,71,72,73,74,75,76,77,78,79,80,81,82,83] (.reg [un (.mov 42 (.t 8)),
 un (.bin 43 .add (.t 42) (.c (.int .i64 1))),
 un (.asg 8 (.t 43))])))))
def Rq:ACode:=
 (.seq (.seq (.reg [un (.mov 15 (.t 6)),
 un (.fadr 16 1 (.t 2)),
 un (.ld 17 1 false (.t 16)),
 un (.len 18 (.t 17)),
 un (.bin 19 .lss (.t 15) (.t 18))])
 (.drop [15,16,17,18] (.cond (.t 19) .skip
 (.exit 0))))
 (.drop [15,16,17,18,19] (.seq (.block 1 (.seq (.dreg [(un (.fadr 22 1 (.t 2)),[]),
 (un (.ld 23 1 false (.t 22)),[]),
 (un (.mov 24 (.t 6)),[22,23]),
 (un (.iad 25 2 (.t 23) (.t 24)),[]),
 (un (.fadr 26 0 (.t 25)),[]),
 (un (.ld 27 1 false (.t 26)),[]),
 (un (.fadr 28 1 (.t 2)),[22,23,24,25,26,27]),
 (un (.ld 29 1 false (.t 28)),[22,23,24,25,26,27]),
 (un (.mov 30 (.t 6)),[22,23,24,25,26,27,28,29]),
 (un (.iad 31 2 (.t 29) (.t 30)),[22,23,24,25,26,27]),
 (un (.fadr 32 1 (.t 31)),[22,23,24,25,26,27]),
 (un (.ld 33 1 false (.t 32)),[22,23,24,25,26,27]),
 (un (.len 34 (.t 33)),[22,23,24,25,26,27]),
 (un (.mk 35 1 (.int .i64 0) (.t 34)),[22,23,24,25,26,27]),
 (un (.bld 36 [.int .i64 0,.nilsl 1] [(0,1,(.t 27)),(1,1,(.t 35))]),[]),
 (un (.alc 7 (.agg [.int .i64 0,.nilsl 1])),[22,23,24,25,26,27,28,29,30,31,32,33,34,35,36])]
 [un (.st 2 (.t 7) (.t 36))])
 (.drop [22,23,24,25,26,27,28,29,30,31,32,33,34,35,36] (.seq (.seq (.reg [un (.asg 8 (.c (.int .i64 0)))])
 (.block 2 (.loop Sq)))
 (.drop [8,37,38,39,40,41,44,45,46,47,48,49,9,10,11,50,51,52,53,56,57,58,59,60,61,62,63,64,65,66,67,54,55,68,69,70,71,72,73,74,75,76,77,78,79,80,81,82,83,42,43] (.reg [un (.fadr 84 1 (.t 5)),
 un (.ld 85 1 false (.t 84)),
 un (.ld 86 2 true (.t 7)),
 un (.bsl 87 2 [(.t 86)]),
 un (.app 88 2 (.t 85) (.t 87)),
 un (.fadr 89 1 (.t 5)),
 un (.st 1 (.t 89) (.t 88))]))))))
 (.drop [22,23,24,25,26,27,28,29,30,31,32,33,34,35,36,7,8,37,38,39,40,41,44,45,46,47,48,49,9,10,11,50,51,52,53,56,57,58,59,60,61,62,63,64,65,66,67,54,55,68,69,70,71,72,73,74,75,76,77,78,79,80,81,82,83,42,43,84,85,86,87,88,89] (.reg [un (.mov 20 (.t 6)),
 un (.bin 21 .add (.t 20) (.c (.int .i64 1))),
 un (.asg 6 (.t 21))])))))
def Aib:ACode:=
 (.seq (.reg [un (.box 2 (.t 0)),
 un (.alc 4 (.agg [.int .i64 0,.nilsl 2]))])
 (.seq (.reg [un (.fadr 12 0 (.t 2)),
 un (.ld 13 1 false (.t 12)),
 un (.bld 14 [.int .i64 0,.nilsl 2] [(0,1,(.t 13))]),
 un (.alc 5 (.agg [.int .i64 0,.nilsl 2])),
 un (.st 2 (.t 5) (.t 14))])
 (.drop [12,13,14] (.seq (.seq (.reg [un (.asg 6 (.c (.int .i64 0)))])
 (.block 0 (.loop Rq)))
 (.drop [6,15,16,17,18,19,22,23,24,25,26,27,28,29,30,31,32,33,34,35,36,7,8,37,38,39,40,41,44,45,46,47,48,49,9,10,11,50,51,52,53,56,57,58,59,60,61,62,63,64,65,66,67,54,55,68,69,70,71,72,73,74,75,76,77,78,79,80,81,82,83,42,43,84,85,86,87,88,89,20,21] (.seq (.reg [un (.ld 90 2 true (.t 5)),
 un (.st 2 (.t 4) (.t 90))])
 (.drop [90] .ret)))))))
abbrev Ahw:List RS:=[.c 4 2 true]
theorem Ah9:A8 Try.prog Qf 91 Aib Ahw=true:=by kernel_rfl
def Yi:ACode:=
 (.seq (.seq (.reg [un (.mov 43 (.t 10)),
 un (.mov 44 (.t 9)),
 un (.len 45 (.t 44)),
 un (.bin 46 .lss (.t 43) (.t 45))])
 (.drop [43,44,45] (.cond (.t 46) .skip
 (.exit 4))))
 (.drop [43,44,45,46] (.seq (.block 5 (.reg [un (.mov 49 (.t 9)),
 un (.mov 50 (.t 10)),
 un (.mov 51 (.t 1)),
 un (.mov 52 (.t 9)),
 un (.mov 53 (.t 10)),
 un (.iad 54 1 (.t 52) (.t 53)),
 un (.ld 55 1 false (.t 54)),
 un (.iad 56 1 (.t 51) (.t 55)),
 un (.ld 57 1 false (.t 56)),
 un (.iad 58 1 (.t 49) (.t 50)),
 un (.st 1 (.t 58) (.t 57))]))
 (.drop [49,50,51,52,53,54,55,56,57,58] (.reg [un (.mov 47 (.t 10)),
 un (.bin 48 .add (.t 47) (.c (.int .i64 1))),
 un (.asg 10 (.t 48))])))))
def Yl:ACode:=
 (.seq (.seq (.reg [un (.mov 28 (.t 8)),
 un (.mov 29 (.t 1)),
 un (.len 30 (.t 29)),
 un (.fadr 31 0 (.t 7)),
 un (.ld 32 1 false (.t 31)),
 un (.call 33 Ms [((.t 30),false),((.t 32),false)]),
 un (.bin 34 .lss (.t 28) (.t 33))])
 (.drop [28,29,30,31,32,33] (.cond (.t 34) .skip
 (.exit 2))))
 (.drop [28,29,30,31,32,33,34] (.seq (.block 3 (.seq (.reg [un (.mov 37 (.t 1)),
 un (.len 38 (.t 37)),
 un (.fadr 39 0 (.t 7)),
 un (.ld 40 1 false (.t 39)),
 un (.mov 41 (.t 8)),
 un (.call 42 Ix [((.t 38),false),((.t 40),false),((.t 41),false)]),
 un (.asg 9 (.t 42))])
 (.drop [37,38,39,40,41,42] (.seq (.seq (.reg [un (.asg 10 (.c (.int .i64 0)))])
 (.block 4 (.loop Yi)))
 (.drop [10,43,44,45,46,49,50,51,52,53,54,55,56,57,58,47,48] (.dreg [(un (.fadr 59 1 (.t 7)),[66]),
 (un (.ld 60 1 false (.t 59)),[66]),
 (un (.mov 61 (.t 1)),[59,60]),
 (un (.ld 62 2 true (.t 2)),[59,60,61]),
 (un (.mov 63 (.t 6)),[59,60,61,62]),
 (un (.mov 64 (.t 9)),[59,60,61,62,63]),
 (un (.call 65 Mw [((.t 62),false),((.t 63),false),((.t 64),false)]),[59,60,61]),
 (un (.call 66 Ru [((.t 61),false),((.t 65),false)]),[59,60]),
 (un (.bsl 67 1 [(.t 66)]),[59,60])]
 [un (.app 68 1 (.t 60) (.t 67)),
 un (.fadr 69 1 (.t 7)),
 un (.st 1 (.t 69) (.t 68))]))))))
 (.drop [37,38,39,40,41,42,9,10,43,44,45,46,49,50,51,52,53,54,55,56,57,58,47,48,59,60,61,62,63,64,65,66,67,68,69] (.reg [un (.mov 35 (.t 8)),
 un (.bin 36 .add (.t 35) (.c (.int .i64 1))),
 un (.asg 8 (.t 36))])))))
def Yc:ACode:=
 (.seq (.seq (.reg [un (.mov 14 (.t 6)),
 un (.fadr 15 1 (.t 2)),
 un (.ld 16 1 false (.t 15)),
 un (.len 17 (.t 16)),
 un (.bin 18 .lss (.t 14) (.t 17))])
 (.drop [14,15,16,17] (.cond (.t 18) .skip
 (.exit 0))))
 (.drop [14,15,16,17,18] (.seq (.block 1 (.seq (.reg [un (.fadr 21 1 (.t 2)),
 un (.ld 22 1 false (.t 21)),
 un (.mov 23 (.t 6)),
 un (.iad 24 2 (.t 22) (.t 23)),
 un (.fadr 25 0 (.t 24)),
 un (.ld 26 1 false (.t 25)),
 un (.bld 27 [.int .i64 0,.nilsl 1] [(0,1,(.t 26))]),
 un (.alc 7 (.agg [.int .i64 0,.nilsl 1])),
 un (.st 2 (.t 7) (.t 27))])
 (.drop [21,22,23,24,25,26,27] (.seq (.seq (.reg [un (.asg 8 (.c (.int .i64 0)))])
 (.block 2 (.loop Yl)))
 (.drop [8,28,29,30,31,32,33,34,37,38,39,40,41,42,9,10,43,44,45,46,49,50,51,52,53,54,55,56,57,58,47,48,59,60,61,62,63,64,65,66,67,68,69,35,36] (.reg [un (.fadr 70 1 (.t 5)),
 un (.ld 71 1 false (.t 70)),
 un (.ld 72 2 true (.t 7)),
 un (.bsl 73 2 [(.t 72)]),
 un (.app 74 2 (.t 71) (.t 73)),
 un (.fadr 75 1 (.t 5)),
 un (.st 1 (.t 75) (.t 74))]))))))
 (.drop [21,22,23,24,25,26,27,7,8,28,29,30,31,32,33,34,37,38,39,40,41,42,9,10,43,44,45,46,49,50,51,52,53,54,55,56,57,58,47,48,59,60,61,62,63,64,65,66,67,68,69,35,36,70,71,72,73,74,75] (.reg [un (.mov 19 (.t 6)),
 un (.bin 20 .add (.t 19) (.c (.int .i64 1))),
 un (.asg 6 (.t 20))])))))
def Aqc:ACode:=
 (.seq (.reg [un (.box 2 (.t 0)),
 un (.alc 4 (.agg [.int .i64 0,.nilsl 2]))])
 (.seq (.reg [un (.mov 11 (.t 1)),
 un (.len 12 (.t 11)),
 un (.bld 13 [.int .i64 0,.nilsl 2] [(0,1,(.t 12))]),
 un (.alc 5 (.agg [.int .i64 0,.nilsl 2])),
 un (.st 2 (.t 5) (.t 13))])
 (.drop [11,12,13] (.seq (.seq (.reg [un (.asg 6 (.c (.int .i64 0)))])
 (.block 0 (.loop Yc)))
 (.drop [6,14,15,16,17,18,21,22,23,24,25,26,27,7,8,28,29,30,31,32,33,34,37,38,39,40,41,42,9,10,43,44,45,46,49,50,51,52,53,54,55,56,57,58,47,48,59,60,61,62,63,64,65,66,67,68,69,35,36,70,71,72,73,74,75,19,20] (.seq (.reg [un (.ld 76 2 true (.t 5)),
 un (.st 2 (.t 4) (.t 76))])
 (.drop [76] .ret)))))))
abbrev Asv:List RS:=[.c 4 2 true]
theorem Aq8:A8 Try.prog Xh 77 Aqc Asv=true:=by kernel_rfl
def Aor:ACode:=
 (.seq (.reg [un (.box 2 (.t 0)),
 un (.box 3 (.t 1)),
 un (.asg 4 (.c (.bool false)))])
 (.seq (.dreg [(un (.ld 5 2 true (.t 2)),[]),
 (un (.call 6 Ox [((.t 5),false)]),[]),
 (un (.ld 7 2 true (.t 3)),[5,6])]
 [un (.call 8 Ox [((.t 7),false)]),
 un (.call 9 O9 [((.t 6),false),((.t 8),false)]),
 un (.asg 4 (.t 9))])
 (.drop [5,6,7,8,9] .ret)))
abbrev Any:List RS:=[.t 4]
theorem An2:A8 Try.prog K8 10 Aor Any=true:=by kernel_rfl
def Adr:ACode:=
 (.seq (.reg [un (.asg 3 (.c (.bool false)))])
 (.seq (.dreg [(un (.ld 4 1 false (.t 1)),[6]),
 (un (.mov 5 (.t 0)),[4]),
 (un (.call 6 Kd [((.t 5),false)]),[4]),
 (un (.bsl 7 1 [(.t 6)]),[4])]
 [un (.app 8 1 (.t 4) (.t 7)),
 un (.st 1 (.t 1) (.t 8))])
 (.drop [4,5,6,7,8] (.seq (.reg [un (.ld 9 1 false (.t 1)),
 un (.len 10 (.t 9)),
 un (.bin 11 .leq (.t 10) (.c (.int .i64 300))),
 un (.asg 3 (.t 11))])
 (.drop [9,10,11] .ret)))))
abbrev Add:List RS:=[.t 3]
theorem Ae9:A8 Try.prog Gx 12 Adr Add=true:=by kernel_rfl
def Vg:ACode:=
 (.seq (.seq (.reg [un (.mov 4 (.t 3)),
 un (.mov 5 (.t 0)),
 un (.len 6 (.t 5)),
 un (.bin 7 .lss (.t 4) (.t 6))])
 (.drop [4,5,6] (.cond (.t 7) .skip
 (.exit 0))))
 (.drop [4,5,6,7] (.seq (.block 1 (.seq (.dreg [(un (.mov 10 (.t 0)),[]),
 (un (.mov 11 (.t 3)),[10]),
 (un (.iad 12 1 (.t 10) (.t 11)),[]),
 (un (.ld 13 1 false (.t 12)),[]),
 (un (.bin 14 .geq (.t 13) (.c (.int .i64 0))),[]),
 (un (.asg 15 (.t 14)),[]),
 (⟨some (15,true),.mov 16 (.t 0)⟩,[14]),
 (⟨some (15,true),.mov 17 (.t 3)⟩,[16,14]),
 (⟨some (15,true),.slc 18 1 (.t 16) none (some (.t 17))⟩,[14]),
 (⟨some (15,true),.mov 19 (.t 0)⟩,[16,17,18,14]),
 (⟨some (15,true),.mov 20 (.t 3)⟩,[16,17,18,19,14]),
 (⟨some (15,true),.iad 21 1 (.t 19) (.t 20)⟩,[16,17,18,14]),
 (⟨some (15,true),.ld 22 1 false (.t 21)⟩,[16,17,18,14])]
 [⟨some (15,true),.call 23 Mn [((.t 18),false),((.t 22),false)]⟩,
 un (.pick 24 (.t 15) (.t 23) (.c (.bool false)))])
 (.drop [10,11,12,13,14,15,16,17,18,19,20,21,22,23] (.cond (.t 24) (.seq (.reg [un (.asg 2 (.c (.bool false)))])
 .ret)
 .skip))))
 (.drop [10,11,12,13,14,15,16,17,18,19,20,21,22,23,24] (.reg [un (.mov 8 (.t 3)),
 un (.bin 9 .add (.t 8) (.c (.int .i64 1))),
 un (.asg 3 (.t 9))])))))
def Ano:ACode:=
 (.seq (.reg [un (.asg 2 (.c (.bool false)))])
 (.seq (.seq (.reg [un (.asg 3 (.c (.int .i64 0)))])
 (.block 0 (.loop Vg)))
 (.drop [3,4,5,6,7,10,11,12,13,14,15,16,17,18,19,20,21,22,23,24,8,9] (.seq (.reg [un (.asg 2 (.c (.bool true)))])
 .ret))))
abbrev Aoc:List RS:=[.t 2]
theorem Anh:A8 Try.prog O4 25 Ano Aoc=true:=by kernel_rfl
def Ap1:ACode:=
 (.seq (.reg [un (.box 3 (.t 0)),
 un (.box 4 (.t 1)),
 un (.asg 6 (.c (.bool false)))])
 (.seq (.reg [un (.mov 7 (.t 2)),
 un (.len 8 (.t 7)),
 un (.fadr 9 0 (.t 3)),
 un (.ld 10 1 false (.t 9)),
 un (.bin 11 .eql (.t 8) (.t 10)),
 un (.asg 12 (.t 11)),
 ⟨some (12,true),.mov 13 (.t 2)⟩,
 ⟨some (12,true),.fadr 14 0 (.t 4)⟩,
 ⟨some (12,true),.ld 15 1 false (.t 14)⟩,
 ⟨some (12,true),.call 16 Oz [((.t 13),false),((.t 15),false)]⟩,
 un (.pick 17 (.t 12) (.t 16) (.c (.bool false))),
 un (.asg 6 (.t 17))])
 (.drop [7,8,9,10,11,12,13,14,15,16,17] .ret)))
abbrev Aqs:List RS:=[.t 6]
theorem Aq9:A8 Try.prog Xw 18 Ap1 Aqs=true:=by kernel_rfl
def S5:ACode:=
 (.seq (.reg [un (.bin 24 .lss (.t 23) (.t 22))])
 (.seq (.cond (.t 24) .skip
 (.exit 2))
 (.seq (.block 3 (.seq (.reg [un (.mov 25 (.t 23)),
 un (.iad 26 1 (.t 21) (.t 23)),
 un (.ld 27 1 false (.t 26)),
 un (.asg 10 (.t 25)),
 un (.asg 11 (.t 27))])
 (.drop [25,26,27] (.seq (.dreg [(un (.mov 28 (.t 2)),[]),
 (un (.mov 29 (.t 11)),[28]),
 (un (.iad 30 1 (.t 28) (.t 29)),[]),
 (un (.ld 31 1 false (.t 30)),[]),
 (un (.fadr 32 1 (.t 4)),[28,29,30,31]),
 (un (.ld 33 1 false (.t 32)),[28,29,30,31]),
 (un (.mov 34 (.t 8)),[28,29,30,31,32,33]),
 (un (.iad 35 2 (.t 33) (.t 34)),[28,29,30,31]),
 (un (.fadr 36 1 (.t 35)),[28,29,30,31]),
 (un (.ld 37 1 false (.t 36)),[28,29,30,31]),
 (un (.mov 38 (.t 10)),[28,29,30,31,32,33,34,35,36,37]),
 (un (.fadr 39 0 (.t 9)),[28,29,30,31,32,33,34,35,36,37,38]),
 (un (.ld 40 1 false (.t 39)),[28,29,30,31,32,33,34,35,36,37,38]),
 (un (.ld 41 2 true (.t 3)),[28,29,30,31,32,33,34,35,36,37,38,39,40]),
 (un (.ld 42 2 true (.t 4)),[28,29,30,31,32,33,34,35,36,37,38,39,40,41]),
 (un (.mov 43 (.t 2)),[28,29,30,31,32,33,34,35,36,37,38,39,40,41,42]),
 (un (.call 44 Jc [((.t 38),false),((.t 40),false),((.t 41),false),((.t 42),false),((.t 43),false)]),[28,29,30,31,32,33,34,35,36,37]),
 (un (.iad 45 1 (.t 37) (.t 44)),[28,29,30,31]),
 (un (.ld 46 1 false (.t 45)),[28,29,30,31])]
 [un (.bin 47 .neq (.t 31) (.t 46))])
 (.drop [28,29,30,31,32,33,34,35,36,37,38,39,40,41,42,43,44,45,46] (.cond (.t 47) (.seq (.reg [un (.mov 48 (.t 8)),
 un (.mov 49 (.t 10)),
 un (.asg 6 (.t 48)),
 un (.asg 7 (.t 49))])
 (.drop [48,49] .ret))
 .skip))))))
 (.drop [25,26,27,10,11,28,29,30,31,32,33,34,35,36,37,38,39,40,41,42,43,44,45,46,47,48,49] (.reg [un (.bin 50 .add (.t 23) (.c (.int .i64 1))),
 un (.asg 23 (.t 50))])))))
def Ty:ACode:=
 (.seq (.reg [un (.bin 16 .lss (.t 15) (.t 14))])
 (.seq (.cond (.t 16) .skip
 (.exit 0))
 (.seq (.block 1 (.seq (.reg [un (.mov 17 (.t 15)),
 un (.iad 18 2 (.t 13) (.t 15)),
 un (.ld 19 2 true (.t 18)),
 un (.alc 9 (.agg [.int .i64 0,.nilsl 1])),
 un (.asg 8 (.t 17)),
 un (.st 2 (.t 9) (.t 19))])
 (.drop [17,18,19] (.seq (.reg [un (.fadr 20 1 (.t 9)),
 un (.ld 21 1 false (.t 20)),
 un (.len 22 (.t 21)),
 un (.mov 23 (.c (.int .i64 0)))])
 (.drop [20] (.block 2 (.loop S5)))))))
 (.drop [17,18,19,9,8,20,21,22,23,24,25,26,27,10,11,28,29,30,31,32,33,34,35,36,37,38,39,40,41,42,43,44,45,46,47,48,49,50] (.reg [un (.bin 51 .add (.t 15) (.c (.int .i64 1))),
 un (.asg 15 (.t 51))])))))
def Ajx:ACode:=
 (.seq (.reg [un (.box 3 (.t 0)),
 un (.box 4 (.t 1)),
 un (.asg 6 (.c (.int .i64 0))),
 un (.asg 7 (.c (.int .i64 0)))])
 (.seq (.seq (.reg [un (.fadr 12 1 (.t 3)),
 un (.ld 13 1 false (.t 12)),
 un (.len 14 (.t 13)),
 un (.mov 15 (.c (.int .i64 0)))])
 (.drop [12] (.block 0 (.loop Ty))))
 (.drop [12,13,14,15,16,17,18,19,9,8,20,21,22,23,24,25,26,27,10,11,28,29,30,31,32,33,34,35,36,37,38,39,40,41,42,43,44,45,46,47,48,49,50,51] (.seq (.reg [un (.asg 6 (.c (.int .i64 (-1)))),
 un (.asg 7 (.c (.int .i64 0)))])
 .ret))))
abbrev Akx:List RS:=[.t 6,.t 7]
theorem Aju:A8 Try.prog Rj 52 Ajx Akx=true:=by kernel_rfl
def Alu:ACode:=
 (.seq (.reg [un (.alc 2 (.agg [.int .i64 0,.nilsl 2]))])
 (.seq (.seq (.reg [un (.mov 3 (.t 0))])
 (.block 0 (.seq (.reg [un (.bin 5 .eql (.t 3) (.c (.int .i64 0))),
 un (.asg 4 (.t 5))])
 (.drop [5] (.cond (.t 4) (.seq (.reg [⟨none,.call 6 Bp [((.c (.str ⟨#[48,48,48,49]⟩)),false)]⟩,
 un (.bsl 7 2 [(.t 6)]),
 un (.bld 8 [.int .i64 0,.nilsl 2] [(0,1,(.c (.int .i64 2))),(1,1,(.t 7))]),
 un (.st 2 (.t 2) (.t 8))])
 (.drop [6,7,8] .ret))
 (.seq (.reg [un (.bin 10 .eql (.t 3) (.c (.int .i64 1))),
 un (.asg 9 (.t 10))])
 (.drop [10] (.cond (.t 9) (.seq (.reg [⟨none,.call 11 Bp [((.c (.str ⟨#[48,48,48,49]⟩)),false)]⟩,
 ⟨none,.call 12 Bp [((.c (.str ⟨#[48,49,49,49]⟩)),false)]⟩,
 un (.bsl 13 2 [(.t 11),(.t 12)]),
 un (.bld 14 [.int .i64 0,.nilsl 2] [(0,1,(.c (.int .i64 2))),(1,1,(.t 13))]),
 un (.st 2 (.t 2) (.t 14))])
 (.drop [11,12,13,14] .ret))
 (.seq (.reg [un (.bin 16 .eql (.t 3) (.c (.int .i64 2))),
 un (.asg 15 (.t 16))])
 (.drop [16] (.cond (.t 15) (.seq (.reg [⟨none,.call 17 Bp [((.c (.str ⟨#[48,48,48,49]⟩)),false)]⟩,
 ⟨none,.call 18 Bp [((.c (.str ⟨#[48,49,49,49]⟩)),false)]⟩,
 un (.bsl 19 1 [(.c (.int .i64 1)),(.c (.int .i64 0))]),
 un (.bld 20 [.int .i64 0,.nilsl 1] [(0,1,(.c (.int .i64 1))),(1,1,(.t 19))]),
 un (.bsl 21 2 [(.t 17),(.t 18),(.t 20)]),
 un (.bld 22 [.int .i64 0,.nilsl 2] [(0,1,(.c (.int .i64 2))),(1,1,(.t 21))]),
 un (.st 2 (.t 2) (.t 22))])
 (.drop [17,18,19,20,21,22] .ret))
 (.seq (.reg [un (.bin 24 .eql (.t 3) (.c (.int .i64 3))),
 un (.asg 23 (.t 24))])
 (.drop [24] (.cond (.t 23) (.seq (.reg [un (.call 25 Lb [((.c (.int .i64 2)),false)]),
 un (.bsl 26 2 [(.t 25)]),
 un (.bld 27 [.int .i64 0,.nilsl 2] [(0,1,(.c (.int .i64 2))),(1,1,(.t 26))]),
 un (.st 2 (.t 2) (.t 27))])
 (.drop [25,26,27] .ret))
 (.seq (.reg [un (.bin 29 .eql (.t 3) (.c (.int .i64 4))),
 un (.asg 28 (.t 29))])
 (.drop [29] (.cond (.t 28) (.seq (.reg [⟨none,.call 30 Bp [((.c (.str ⟨#[48,49,50,49,50,48,50,48,49]⟩)),false)]⟩,
 un (.bsl 31 2 [(.t 30)]),
 un (.bld 32 [.int .i64 0,.nilsl 2] [(0,1,(.c (.int .i64 3))),(1,1,(.t 31))]),
 un (.st 2 (.t 2) (.t 32))])
 (.drop [30,31,32] .ret))
 (.seq (.reg [un (.bin 34 .eql (.t 3) (.c (.int .i64 5))),
 un (.asg 33 (.t 34))])
 (.drop [34] (.cond (.t 33) (.seq (.reg [⟨none,.call 35 Bp [((.c (.str ⟨#[48,49,48,49,49,50,48,50,50]⟩)),false)]⟩,
 un (.bsl 36 2 [(.t 35)]),
 un (.bld 37 [.int .i64 0,.nilsl 2] [(0,1,(.c (.int .i64 3))),(1,1,(.t 36))]),
 un (.st 2 (.t 2) (.t 37))])
 (.drop [35,36,37] .ret))
 (.seq (.reg [un (.bin 39 .eql (.t 3) (.c (.int .i64 6))),
 un (.asg 38 (.t 39))])
 (.drop [39] (.cond (.t 38) (.seq (.reg [⟨none,.call 40 Bp [((.c (.str ⟨#[48,49,50,51,49,48,51,50,50,51,48,49,51,50,49,48]⟩)),false)]⟩,
 un (.bsl 41 2 [(.t 40)]),
 un (.bld 42 [.int .i64 0,.nilsl 2] [(0,1,(.c (.int .i64 4))),(1,1,(.t 41))]),
 un (.st 2 (.t 2) (.t 42))])
 (.drop [40,41,42] .ret))
 (.seq (.reg [un (.bin 44 .eql (.t 3) (.c (.int .i64 7))),
 un (.asg 43 (.t 44))])
 (.drop [44] (.cond (.t 43) (.seq (.reg [⟨none,.call 45 Bp [((.c (.str ⟨#[48,48,48,48,49,49,48,49,50]⟩)),false)]⟩,
 ⟨none,.call 46 Bp [((.c (.str ⟨#[48,49,50,49,49,50,50,50,50]⟩)),false)]⟩,
 un (.bsl 47 2 [(.t 45),(.t 46)]),
 un (.bld 48 [.int .i64 0,.nilsl 2] [(0,1,(.c (.int .i64 3))),(1,1,(.t 47))]),
 un (.st 2 (.t 2) (.t 48))])
 (.drop [45,46,47,48] .ret))
 (.seq (.reg [un (.bin 50 .eql (.t 3) (.c (.int .i64 8))),
 un (.asg 49 (.t 50))])
 (.drop [50] (.cond (.t 49) (.seq (.reg [un (.bsl 51 1 [(.c (.int .i64 1)),(.c (.int .i64 2)),(.c (.int .i64 3)),(.c (.int .i64 0))]),
 un (.bld 52 [.int .i64 0,.nilsl 1] [(0,1,(.c (.int .i64 1))),(1,1,(.t 51))]),
 un (.bsl 53 2 [(.t 52)]),
 un (.bld 54 [.int .i64 0,.nilsl 2] [(0,1,(.c (.int .i64 4))),(1,1,(.t 53))]),
 un (.st 2 (.t 2) (.t 54))])
 (.drop [51,52,53,54] .ret))
 (.seq (.reg [un (.bin 56 .eql (.t 3) (.c (.int .i64 9))),
 un (.asg 55 (.t 56))])
 (.drop [56] (.cond (.t 55) (.seq (.reg [un (.bsl 57 1 [(.c (.int .i64 0)),(.c (.int .i64 0)),(.c (.int .i64 0)),(.c (.int .i64 1)),(.c (.int .i64 0)),(.c (.int .i64 1)),(.c (.int .i64 1)),(.c (.int .i64 1))]),
 un (.bld 58 [.int .i64 0,.nilsl 1] [(0,1,(.c (.int .i64 3))),(1,1,(.t 57))]),
 un (.bsl 59 2 [(.t 58)]),
 un (.bld 60 [.int .i64 0,.nilsl 2] [(0,1,(.c (.int .i64 2))),(1,1,(.t 59))]),
 un (.st 2 (.t 2) (.t 60))])
 (.drop [57,58,59,60] .ret))
 (.seq (.reg [un (.bin 62 .eql (.t 3) (.c (.int .i64 10))),
 un (.asg 61 (.t 62))])
 (.drop [62] (.cond (.t 61) (.seq (.reg [⟨none,.call 63 Bp [((.c (.str ⟨#[48,48,48,49,49,49,50,50,50]⟩)),false)]⟩,
 un (.bsl 64 2 [(.t 63)]),
 un (.bld 65 [.int .i64 0,.nilsl 2] [(0,1,(.c (.int .i64 3))),(1,1,(.t 64))]),
 un (.st 2 (.t 2) (.t 65))])
 (.drop [63,64,65] .ret))
 (.seq (.reg [un (.bin 67 .eql (.t 3) (.c (.int .i64 11))),
 un (.asg 66 (.t 67))])
 (.drop [67] (.cond (.t 66) (.seq (.reg [⟨none,.call 68 Bp [((.c (.str ⟨#[48,48,48,48,48,48,49,48,48,49,48,48,50,48,50,48,48,48,51,51,48,49,50,51,52]⟩)),false)]⟩,
 ⟨none,.call 69 Bp [((.c (.str ⟨#[48,49,50,51,52,49,49,52,52,52,50,52,50,52,52,51,52,52,51,52,52,52,52,52,52]⟩)),false)]⟩,
 un (.bsl 70 2 [(.t 68),(.t 69)]),
 un (.bld 71 [.int .i64 0,.nilsl 2] [(0,1,(.c (.int .i64 5))),(1,1,(.t 70))]),
 un (.st 2 (.t 2) (.t 71))])
 (.drop [68,69,70,71] .ret))
 (.seq (.reg [un (.bin 73 .eql (.t 3) (.c (.int .i64 12))),
 un (.asg 72 (.t 73))])
 (.drop [73] (.cond (.t 72) (.seq (.reg [⟨none,.call 74 Bp [((.c (.str ⟨#[48,49,50,51,49,50,51,48,50,51,48,49,51,48,49,50]⟩)),false)]⟩,
 un (.bsl 75 2 [(.t 74)]),
 un (.bld 76 [.int .i64 0,.nilsl 2] [(0,1,(.c (.int .i64 4))),(1,1,(.t 75))]),
 un (.st 2 (.t 2) (.t 76))])
 (.drop [74,75,76] .ret))
 (.seq (.reg [un (.bin 78 .eql (.t 3) (.c (.int .i64 13))),
 un (.asg 77 (.t 78))])
 (.drop [78] (.cond (.t 77) (.seq (.reg [un (.bsl 79 1 [(.c (.int .i64 0)),(.c (.int .i64 0)),(.c (.int .i64 1))]),
 un (.bld 80 [.int .i64 0,.nilsl 1] [(0,1,(.c (.int .i64 1))),(1,1,(.t 79))]),
 un (.bsl 81 1 [(.c (.int .i64 2))]),
 un (.bld 82 [.int .i64 0,.nilsl 1] [(0,1,(.c (.int .i64 0))),(1,1,(.t 81))]),
 un (.bsl 83 2 [(.t 80),(.t 82)]),
 un (.bld 84 [.int .i64 0,.nilsl 2] [(0,1,(.c (.int .i64 3))),(1,1,(.t 83))]),
 un (.st 2 (.t 2) (.t 84))])
 (.drop [79,80,81,82,83,84] .ret))
 (.seq (.reg [un (.bin 86 .eql (.t 3) (.c (.int .i64 14))),
 un (.asg 85 (.t 86))])
 (.drop [86] (.cond (.t 85) (.seq (.reg [⟨none,.call 87 Bp [((.c (.str ⟨#[48]⟩)),false)]⟩,
 un (.bsl 88 2 [(.t 87)]),
 un (.bld 89 [.int .i64 0,.nilsl 2] [(0,1,(.c (.int .i64 1))),(1,1,(.t 88))]),
 un (.st 2 (.t 2) (.t 89))])
 (.drop [87,88,89] .ret))
 (.seq (.reg [un (.bin 91 .eql (.t 3) (.c (.int .i64 15))),
 un (.asg 90 (.t 91))])
 (.drop [91] (.cond (.t 90) (.seq (.reg [un (.call 92 Lb [((.c (.int .i64 3)),false)]),
 un (.bsl 93 2 [(.t 92)]),
 un (.bld 94 [.int .i64 0,.nilsl 2] [(0,1,(.c (.int .i64 3))),(1,1,(.t 93))]),
 un (.st 2 (.t 2) (.t 94))])
 (.drop [92,93,94] .ret))
 .skip))))))))))))))))))))))))))))))))))))))))))))))))))
 (.drop [3,5,4,6,7,8,10,9,11,12,13,14,16,15,17,18,19,20,21,22,24,23,25,26,27,29,28,30,31,32,34,33,35,36,37,39,38,40,41,42,44,43,45,46,47,48,50,49,51,52,53,54,56,55,57,58,59,60,62,61,63,64,65,67,66,68,69,70,71,73,72,74,75,76,78,77,79,80,81,82,83,84,86,85,87,88,89,91,90,92,93,94] (.seq (.reg [un (.bld 95 [.int .i64 0,.nilsl 2] [(0,1,(.c (.int .i64 2)))]),
 un (.st 2 (.t 2) (.t 95))])
 (.drop [95] .ret)))))
abbrev Amg:List RS:=[.c 2 2 true]
theorem Aj1:A8 Try.prog R2 96 Alu Amg=true:=by kernel_rfl
def Alm:ACode:=
 (.seq (.dreg [(un (.fadr 6 0 (.t 3)),[]),
 (un (.ld 7 1 false (.t 6)),[]),
 (un (.call 8 Hs [((.t 7),false),((.c (.int .i64 0)),false),((.c (.int .i64 3)),false)]),[]),
 (un (.un 9 .not (.t 8)),[]),
 (un (.asg 10 (.t 9)),[]),
 (⟨some (10,false),.fadr 11 1 (.t 3)⟩,[9]),
 (⟨some (10,false),.ld 12 1 false (.t 11)⟩,[9]),
 (⟨some (10,false),.len 13 (.t 12)⟩,[9]),
 (⟨some (10,false),.mov 14 (.t 0)⟩,[11,12,13,9]),
 (⟨some (10,false),.fadr 15 0 (.t 3)⟩,[11,12,13,14,9]),
 (⟨some (10,false),.ld 16 1 false (.t 15)⟩,[11,12,13,14,9]),
 (⟨some (10,false),.call 17 Ms [((.t 14),false),((.t 16),false)]⟩,[11,12,13,9])]
 [⟨some (10,false),.bin 18 .neq (.t 13) (.t 17)⟩,
 un (.pick 19 (.t 10) (.c (.bool true)) (.t 18))])
 (.drop [6,7,8,9,10,11,12,13,14,15,16,17,18] (.cond (.t 19) (.seq (.reg [un (.asg 4 (.c (.bool false)))])
 .ret)
 .skip)))
def Z6:ACode:=
 (.seq (.seq (.reg [un (.mov 20 (.t 5)),
 un (.fadr 21 1 (.t 3)),
 un (.ld 22 1 false (.t 21)),
 un (.len 23 (.t 22)),
 un (.bin 24 .lss (.t 20) (.t 23))])
 (.drop [20,21,22,23] (.cond (.t 24) .skip
 (.exit 0))))
 (.drop [20,21,22,23,24] (.seq (.block 1 (.seq (.reg [un (.fadr 27 1 (.t 3)),
 un (.ld 28 1 false (.t 27)),
 un (.mov 29 (.t 5)),
 un (.iad 30 1 (.t 28) (.t 29)),
 un (.ld 31 1 false (.t 30)),
 un (.mov 32 (.t 0)),
 un (.bin 33 .sub (.t 32) (.c (.int .i64 1))),
 un (.call 34 Hs [((.t 31),false),((.c (.int .i64 0)),false),((.t 33),false)]),
 un (.un 35 .not (.t 34))])
 (.drop [27,28,29,30,31,32,33,34] (.cond (.t 35) (.seq (.reg [un (.asg 4 (.c (.bool false)))])
 .ret)
 .skip))))
 (.drop [27,28,29,30,31,32,33,34,35] (.reg [un (.mov 25 (.t 5)),
 un (.bin 26 .add (.t 25) (.c (.int .i64 1))),
 un (.asg 5 (.t 26))])))))
def Ava:ACode:=
 (.seq (.reg [un (.box 3 (.t 1)),
 un (.asg 4 (.c (.bool false)))])
 (.seq (.cut Alm)
 (.drop [6,7,8,9,10,11,12,13,14,15,16,17,18,19] (.seq (.seq (.reg [un (.asg 5 (.c (.int .i64 0)))])
 (.block 0 (.loop Z6)))
 (.drop [5,20,21,22,23,24,27,28,29,30,31,32,33,34,35,25,26] (.seq (.reg [un (.asg 4 (.c (.bool true)))])
 .ret))))))
abbrev As0:List RS:=[.t 4]
theorem At2:A8 Try.prog Zv 36 Ava As0=true:=by kernel_rfl
def Amu:ACode:=
 (.seq (.reg [un (.box 1 (.t 0)),
 un (.alc 2 (.agg [.int .i64 0,.nilsl 1]))])
 (.seq (.dreg [(un (.fadr 3 0 (.t 1)),[]),
 (un (.ld 4 1 false (.t 3)),[]),
 (un (.fadr 5 1 (.t 1)),[3,4]),
 (un (.ld 6 1 false (.t 5)),[3,4]),
 (un (.call 7 Kk [((.t 6),false)]),[3,4])]
 [un (.bld 8 [.int .i64 0,.nilsl 1] [(0,1,(.t 4)),(1,1,(.t 7))]),
 un (.st 2 (.t 2) (.t 8))])
 (.drop [3,4,5,6,7,8] .ret)))
abbrev Anp:List RS:=[.c 2 2 true]
theorem An7:A8 Try.prog Um 9 Amu Anp=true:=by kernel_rfl
def Pt:ACode:=
 (.seq (.seq (.reg [un (.mov 6 (.t 5)),
 un (.mov 7 (.t 1)),
 un (.len 8 (.t 7)),
 un (.bin 9 .lss (.t 6) (.t 8))])
 (.drop [6,7,8] (.cond (.t 9) .skip
 (.exit 0))))
 (.drop [6,7,8,9] (.seq (.block 1 (.seq (.reg [un (.mov 12 (.t 1)),
 un (.mov 13 (.t 5)),
 un (.iad 14 1 (.t 12) (.t 13)),
 un (.ld 15 1 false (.t 14)),
 un (.mov 16 (.t 0)),
 un (.bin 17 .sub (.t 16) (.c (.int .i64 1))),
 un (.call 18 Hs [((.t 15),false),((.c (.int .i64 0)),false),((.t 17),false)]),
 un (.un 19 .not (.t 18))])
 (.drop [12,13,14,15,16,17,18] (.cond (.t 19) (.seq (.reg [un (.asg 4 (.c (.bool false)))])
 .ret)
 .skip))))
 (.drop [12,13,14,15,16,17,18,19] (.reg [un (.mov 10 (.t 5)),
 un (.bin 11 .add (.t 10) (.c (.int .i64 1))),
 un (.asg 5 (.t 11))])))))
def Adg:ACode:=
 (.seq (.reg [un (.asg 4 (.c (.bool false)))])
 (.seq (.seq (.reg [un (.asg 5 (.c (.int .i64 0)))])
 (.block 0 (.loop Pt)))
 (.drop [5,6,7,8,9,12,13,14,15,16,17,18,19,10,11] (.seq (.reg [un (.asg 4 (.c (.bool true)))])
 .ret))))
abbrev Aec:List RS:=[.t 4]
theorem Ae6:A8 Try.prog Ni 20 Adg Aec=true:=by kernel_rfl
def V8:ACode:=
 (.seq (.seq (.reg [un (.mov 8 (.t 5)),
 un (.bin 9 .gtr (.t 8) (.c (.int .i64 0))),
 un (.asg 10 (.t 9)),
 ⟨some (10,true),.mov 11 (.t 1)⟩,
 ⟨some (10,true),.len 12 (.t 11)⟩,
 ⟨some (10,true),.mov 13 (.t 0)⟩,
 ⟨some (10,true),.mov 14 (.t 5)⟩,
 ⟨some (10,true),.bin 15 .sub (.t 14) (.c (.int .i64 1))⟩,
 ⟨some (10,true),.iad 16 1 (.t 13) (.t 15)⟩,
 ⟨some (10,true),.ld 17 1 false (.t 16)⟩,
 ⟨some (10,true),.len 18 (.t 17)⟩,
 ⟨some (10,true),.bin 19 .lss (.t 12) (.t 18)⟩,
 ⟨some (10,true),.asg 20 (.t 19)⟩,
 ⟨some (20,false),.mov 21 (.t 1)⟩,
 ⟨some (20,false),.len 22 (.t 21)⟩,
 ⟨some (20,false),.mov 23 (.t 0)⟩,
 ⟨some (20,false),.mov 24 (.t 5)⟩,
 ⟨some (20,false),.bin 25 .sub (.t 24) (.c (.int .i64 1))⟩,
 ⟨some (20,false),.iad 26 1 (.t 23) (.t 25)⟩,
 ⟨some (20,false),.ld 27 1 false (.t 26)⟩,
 ⟨some (20,false),.len 28 (.t 27)⟩,
 ⟨some (20,false),.bin 29 .eql (.t 22) (.t 28)⟩,
 ⟨some (20,false),.asg 30 (.t 29)⟩,
 ⟨some (30,true),.mov 31 (.t 1)⟩,
 ⟨some (30,true),.mov 32 (.t 0)⟩,
 ⟨some (30,true),.mov 33 (.t 5)⟩,
 ⟨some (30,true),.bin 34 .sub (.t 33) (.c (.int .i64 1))⟩,
 ⟨some (30,true),.iad 35 1 (.t 32) (.t 34)⟩,
 ⟨some (30,true),.ld 36 1 false (.t 35)⟩,
 ⟨some (30,true),.call 37 Ut [((.t 31),false),((.t 36),false)]⟩,
 ⟨some (20,false),.pick 38 (.t 30) (.t 37) (.c (.bool false))⟩,
 ⟨some (10,true),.pick 39 (.t 20) (.c (.bool true)) (.t 38)⟩,
 un (.pick 40 (.t 10) (.t 39) (.c (.bool false)))])
 (.drop [8,9,10,11,12,13,14,15,16,17,18,19,20,21,22,23,24,25,26,27,28,29,30,31,32,33,34,35,36,37,38,39] (.cond (.t 40) .skip
 (.exit 0))))
 (.drop [8,9,10,11,12,13,14,15,16,17,18,19,20,21,22,23,24,25,26,27,28,29,30,31,32,33,34,35,36,37,38,39,40] (.block 1 (.reg [un (.mov 41 (.t 5)),
 un (.bin 42 .sub (.t 41) (.c (.int .i64 1))),
 un (.asg 5 (.t 42))]))))
def Anw:ACode:=
 (.seq (.reg [un (.asg 4 (.c (.nilsl 1)))])
 (.seq (.reg [un (.mov 6 (.t 0)),
 un (.len 7 (.t 6)),
 un (.asg 5 (.t 7))])
 (.drop [6,7] (.seq (.block 0 (.loop V8))
 (.drop [8,9,10,11,12,13,14,15,16,17,18,19,20,21,22,23,24,25,26,27,28,29,30,31,32,33,34,35,36,37,38,39,40,41,42] (.seq (.dreg [(un (.bsl 43 1 []),[48]),
 (un (.mov 44 (.t 0)),[43,48]),
 (un (.mov 45 (.t 5)),[43,44,48]),
 (un (.slc 46 1 (.t 44) none (some (.t 45))),[43,48]),
 (un (.app 47 1 (.t 43) (.t 46)),[48]),
 (un (.mov 48 (.t 1)),[43,44,45,46,47,43]),
 (un (.bsl 49 1 [(.t 48)]),[43,44,45,46,47,43]),
 (un (.app 50 1 (.t 47) (.t 49)),[43,48]),
 (un (.mov 51 (.t 0)),[43,44,45,46,47,48,49,50,43,48,47]),
 (un (.mov 52 (.t 5)),[43,44,45,46,47,48,49,50,51,43,48,47]),
 (un (.slc 53 1 (.t 51) (some (.t 52)) none),[43,44,45,46,47,48,49,50,43,48,47])]
 [un (.app 54 1 (.t 50) (.t 53)),
 un (.asg 4 (.t 54))])
 (.drop [43,44,45,46,47,48,49,50,51,52,53,54] .ret)))))))
abbrev Ans:List RS:=[.t 4]
theorem Am6:A8 Try.prog Ul 55 Anw Ans=true:=by kernel_rfl
def Aun:ACode:=
 (.seq (.reg [un (.box 2 (.t 0)),
 un (.asg 4 (.c (.bool false)))])
 (.seq (.dreg [(un (.fadr 5 0 (.t 2)),[]),
 (un (.ld 6 1 false (.t 5)),[]),
 (un (.bin 7 .geq (.t 6) (.c (.int .i64 0))),[]),
 (un (.asg 8 (.t 7)),[]),
 (⟨some (8,true),.fadr 9 0 (.t 2)⟩,[7]),
 (⟨some (8,true),.ld 10 1 false (.t 9)⟩,[7]),
 (⟨some (8,true),.bin 11 .leq (.t 10) (.c (.int .i64 3))⟩,[7]),
 (un (.pick 12 (.t 8) (.t 11) (.c (.bool false))),[7]),
 (un (.asg 13 (.t 12)),[7]),
 (⟨some (13,true),.fadr 14 1 (.t 2)⟩,[7,12]),
 (⟨some (13,true),.ld 15 1 false (.t 14)⟩,[7,12]),
 (⟨some (13,true),.len 16 (.t 15)⟩,[7,12]),
 (⟨some (13,true),.mov 17 (.t 1)⟩,[14,15,16,7,12]),
 (⟨some (13,true),.fadr 18 0 (.t 2)⟩,[14,15,16,17,7,12]),
 (⟨some (13,true),.ld 19 1 false (.t 18)⟩,[14,15,16,17,7,12]),
 (⟨some (13,true),.call 20 Xq [((.t 17),false),((.t 19),false)]⟩,[14,15,16,7,12]),
 (⟨some (13,true),.bin 21 .eql (.t 16) (.t 20)⟩,[7,12]),
 (un (.pick 22 (.t 13) (.t 21) (.c (.bool false))),[7,12]),
 (un (.asg 23 (.t 22)),[7,12]),
 (⟨some (23,true),.fadr 24 1 (.t 2)⟩,[7,12,22]),
 (⟨some (23,true),.ld 25 1 false (.t 24)⟩,[7,12,22]),
 (⟨some (23,true),.mov 26 (.t 1)⟩,[24,25,7,12,22])]
 [⟨some (23,true),.call 27 Oz [((.t 25),false),((.t 26),false)]⟩,
 un (.pick 28 (.t 23) (.t 27) (.c (.bool false))),
 un (.asg 4 (.t 28))])
 (.drop [5,6,7,8,9,10,11,12,13,14,15,16,17,18,19,20,21,22,23,24,25,26,27,28] .ret)))
abbrev As5:List RS:=[.t 4]
theorem Asx:A8 Try.prog Zl 29 Aun As5=true:=by kernel_rfl
def Wo:ACode:=
 (.seq (.seq (.reg [un (.mov 6 (.t 5)),
 un (.mov 7 (.t 0)),
 un (.bin 8 .lss (.t 6) (.t 7))])
 (.drop [6,7] (.cond (.t 8) .skip
 (.exit 0))))
 (.drop [6,7,8] (.seq (.block 1 (.seq (.reg [un (.mov 11 (.t 1)),
 un (.mov 12 (.t 5)),
 un (.call 13 Mn [((.t 11),false),((.t 12),false)]),
 un (.un 14 .not (.t 13))])
 (.drop [11,12,13] (.cond (.t 14) (.seq (.reg [un (.asg 4 (.c (.bool false)))])
 .ret)
 .skip))))
 (.drop [11,12,13,14] (.reg [un (.mov 9 (.t 5)),
 un (.bin 10 .add (.t 9) (.c (.int .i64 1))),
 un (.asg 5 (.t 10))])))))
def Amr:ACode:=
 (.seq (.reg [un (.asg 4 (.c (.bool false)))])
 (.seq (.seq (.reg [un (.asg 5 (.c (.int .i64 0)))])
 (.block 0 (.loop Wo)))
 (.drop [5,6,7,8,11,12,13,14,9,10] (.seq (.reg [un (.asg 4 (.c (.bool true)))])
 .ret))))
abbrev Aoi:List RS:=[.t 4]
theorem Aod:A8 Try.prog Uw 15 Amr Aoi=true:=by kernel_rfl
def Rp:ACode:=
 (.seq (.seq (.reg [un (.mov 8 (.t 7)),
 un (.mov 9 (.t 0)),
 un (.len 10 (.t 9)),
 un (.bin 11 .lss (.t 8) (.t 10))])
 (.drop [8,9,10] (.cond (.t 11) .skip
 (.exit 0))))
 (.drop [8,9,10,11] (.seq (.block 1 (.seq (.dreg [(un (.mov 14 (.t 0)),[]),
 (un (.mov 15 (.t 7)),[14]),
 (un (.iad 16 1 (.t 14) (.t 15)),[]),
 (un (.ld 17 1 false (.t 16)),[]),
 (un (.mov 18 (.t 1)),[14,15,16,17]),
 (un (.mov 19 (.t 2)),[14,15,16,17,18]),
 (un (.call 20 Hs [((.t 17),false),((.t 18),false),((.t 19),false)]),[]),
 (un (.un 21 .not (.t 20)),[]),
 (un (.asg 22 (.t 21)),[]),
 (⟨some (22,false),.mov 23 (.t 7)⟩,[21]),
 (⟨some (22,false),.bin 24 .gtr (.t 23) (.c (.int .i64 0))⟩,[21]),
 (⟨some (22,false),.asg 25 (.t 24)⟩,[21]),
 (⟨some (25,true),.mov 26 (.t 0)⟩,[21,24]),
 (⟨some (25,true),.mov 27 (.t 7)⟩,[26,21,24]),
 (⟨some (25,true),.bin 28 .sub (.t 27) (.c (.int .i64 1))⟩,[26,21,24]),
 (⟨some (25,true),.iad 29 1 (.t 26) (.t 28)⟩,[21,24]),
 (⟨some (25,true),.ld 30 1 false (.t 29)⟩,[21,24]),
 (⟨some (25,true),.mov 31 (.t 0)⟩,[26,27,28,29,30,21,24]),
 (⟨some (25,true),.mov 32 (.t 7)⟩,[26,27,28,29,30,31,21,24]),
 (⟨some (25,true),.iad 33 1 (.t 31) (.t 32)⟩,[26,27,28,29,30,21,24]),
 (⟨some (25,true),.ld 34 1 false (.t 33)⟩,[26,27,28,29,30,21,24])]
 [⟨some (25,true),.bin 35 .geq (.t 30) (.t 34)⟩,
 ⟨some (22,false),.pick 36 (.t 25) (.t 35) (.c (.bool false))⟩,
 un (.pick 37 (.t 22) (.c (.bool true)) (.t 36))])
 (.drop [14,15,16,17,18,19,20,21,22,23,24,25,26,27,28,29,30,31,32,33,34,35,36] (.cond (.t 37) (.seq (.reg [un (.asg 6 (.c (.bool false)))])
 .ret)
 .skip))))
 (.drop [14,15,16,17,18,19,20,21,22,23,24,25,26,27,28,29,30,31,32,33,34,35,36,37] (.reg [un (.mov 12 (.t 7)),
 un (.bin 13 .add (.t 12) (.c (.int .i64 1))),
 un (.asg 7 (.t 13))])))))
def Aia:ACode:=
 (.seq (.reg [un (.asg 6 (.c (.bool false)))])
 (.seq (.seq (.reg [un (.asg 7 (.c (.int .i64 0)))])
 (.block 0 (.loop Rp)))
 (.drop [7,8,9,10,11,14,15,16,17,18,19,20,21,22,23,24,25,26,27,28,29,30,31,32,33,34,35,36,37,12,13] (.seq (.reg [un (.asg 6 (.c (.bool true)))])
 .ret))))
abbrev Ahz:List RS:=[.t 6]
theorem Aja:A8 Try.prog Qv 38 Aia Ahz=true:=by kernel_rfl
def Va:ACode:=
 (.seq (.seq (.reg [un (.mov 42 (.t 10)),
 un (.mov 43 (.t 8)),
 un (.len 44 (.t 43)),
 un (.bin 45 .lss (.t 42) (.t 44))])
 (.drop [42,43,44] (.cond (.t 45) .skip
 (.exit 4))))
 (.drop [42,43,44,45] (.seq (.block 5 (.reg [un (.mov 48 (.t 9)),
 un (.asg 49 (.t 48)),
 ⟨some (49,true),.mov 50 (.t 1)⟩,
 ⟨some (49,true),.mov 51 (.t 8)⟩,
 ⟨some (49,true),.mov 52 (.t 10)⟩,
 ⟨some (49,true),.iad 53 1 (.t 51) (.t 52)⟩,
 ⟨some (49,true),.ld 54 1 false (.t 53)⟩,
 ⟨some (49,true),.iad 55 1 (.t 50) (.t 54)⟩,
 ⟨some (49,true),.ld 56 1 false (.t 55)⟩,
 un (.pick 57 (.t 49) (.t 56) (.c (.bool false))),
 un (.asg 9 (.t 57))]))
 (.drop [48,49,50,51,52,53,54,55,56,57] (.reg [un (.mov 46 (.t 10)),
 un (.bin 47 .add (.t 46) (.c (.int .i64 1))),
 un (.asg 10 (.t 47))])))))
def Vm:ACode:=
 (.seq (.seq (.reg [un (.mov 21 (.t 7)),
 un (.fadr 22 1 (.t 2)),
 un (.ld 23 1 false (.t 22)),
 un (.mov 24 (.t 6)),
 un (.iad 25 2 (.t 23) (.t 24)),
 un (.fadr 26 1 (.t 25)),
 un (.ld 27 1 false (.t 26)),
 un (.len 28 (.t 27)),
 un (.bin 29 .lss (.t 21) (.t 28))])
 (.drop [21,22,23,24,25,26,27,28] (.cond (.t 29) .skip
 (.exit 2))))
 (.drop [21,22,23,24,25,26,27,28,29] (.seq (.block 3 (.seq (.dreg [(un (.fadr 32 0 (.t 2)),[]),
 (un (.ld 33 1 false (.t 32)),[]),
 (un (.fadr 34 1 (.t 2)),[32,33]),
 (un (.ld 35 1 false (.t 34)),[32,33]),
 (un (.mov 36 (.t 6)),[32,33,34,35]),
 (un (.iad 37 2 (.t 35) (.t 36)),[32,33]),
 (un (.fadr 38 0 (.t 37)),[32,33]),
 (un (.ld 39 1 false (.t 38)),[32,33]),
 (un (.mov 40 (.t 7)),[32,33,34,35,36,37,38,39])]
 [un (.call 41 Ix [((.t 33),false),((.t 39),false),((.t 40),false)]),
 un (.asg 8 (.t 41))])
 (.drop [32,33,34,35,36,37,38,39,40,41] (.seq (.reg [un (.asg 9 (.c (.bool true)))])
 (.seq (.seq (.reg [un (.asg 10 (.c (.int .i64 0)))])
 (.block 4 (.loop Va)))
 (.drop [10,42,43,44,45,48,49,50,51,52,53,54,55,56,57,46,47] (.seq (.reg [un (.mov 58 (.t 9))])
 (.cond (.t 58) (.reg [un (.mov 59 (.t 5)),
 un (.fadr 60 1 (.t 2)),
 un (.ld 61 1 false (.t 60)),
 un (.mov 62 (.t 6)),
 un (.iad 63 2 (.t 61) (.t 62)),
 un (.fadr 64 1 (.t 63)),
 un (.ld 65 1 false (.t 64)),
 un (.mov 66 (.t 7)),
 un (.iad 67 1 (.t 65) (.t 66)),
 un (.ld 68 1 false (.t 67)),
 un (.iad 69 1 (.t 59) (.t 68)),
 un (.st 1 (.t 69) (.c (.bool true)))])
 .skip))))))))
 (.drop [32,33,34,35,36,37,38,39,40,41,8,9,10,42,43,44,45,48,49,50,51,52,53,54,55,56,57,46,47,58,59,60,61,62,63,64,65,66,67,68,69] (.reg [un (.mov 30 (.t 7)),
 un (.bin 31 .add (.t 30) (.c (.int .i64 1))),
 un (.asg 7 (.t 31))])))))
def Ww:ACode:=
 (.seq (.seq (.reg [un (.mov 14 (.t 6)),
 un (.fadr 15 1 (.t 2)),
 un (.ld 16 1 false (.t 15)),
 un (.len 17 (.t 16)),
 un (.bin 18 .lss (.t 14) (.t 17))])
 (.drop [14,15,16,17] (.cond (.t 18) .skip
 (.exit 0))))
 (.drop [14,15,16,17,18] (.seq (.block 1 (.seq (.reg [un (.asg 7 (.c (.int .i64 0)))])
 (.block 2 (.loop Vm))))
 (.drop [7,21,22,23,24,25,26,27,28,29,32,33,34,35,36,37,38,39,40,41,8,9,10,42,43,44,45,48,49,50,51,52,53,54,55,56,57,46,47,58,59,60,61,62,63,64,65,66,67,68,69,30,31] (.reg [un (.mov 19 (.t 6)),
 un (.bin 20 .add (.t 19) (.c (.int .i64 1))),
 un (.asg 6 (.t 20))])))))
def Amw:ACode:=
 (.seq (.reg [un (.box 2 (.t 0)),
 un (.asg 4 (.c (.nilsl 1)))])
 (.seq (.reg [un (.bsl 11 1 []),
 un (.mov 12 (.t 1)),
 un (.app 13 1 (.t 11) (.t 12)),
 un (.asg 5 (.t 13))])
 (.drop [11,12,13] (.seq (.seq (.reg [un (.asg 6 (.c (.int .i64 0)))])
 (.block 0 (.loop Ww)))
 (.drop [6,14,15,16,17,18,7,21,22,23,24,25,26,27,28,29,32,33,34,35,36,37,38,39,40,41,8,9,10,42,43,44,45,48,49,50,51,52,53,54,55,56,57,46,47,58,59,60,61,62,63,64,65,66,67,68,69,30,31,19,20] (.seq (.reg [un (.mov 70 (.t 5)),
 un (.asg 4 (.t 70))])
 (.drop [70] .ret)))))))
abbrev Aof:List RS:=[.t 4]
theorem Aop:A8 Try.prog Uv 71 Amw Aof=true:=by kernel_rfl
def Ast:ACode:=
 (.seq (.reg [un (.box 3 (.t 0)),
 un (.box 4 (.t 1)),
 un (.asg 6 (.c (.bool false)))])
 (.seq (.seq (.reg [un (.ld 9 2 true (.t 3)),
 un (.ld 10 2 true (.t 4)),
 un (.mov 11 (.t 2)),
 un (.call 12 Xw [((.t 9),false),((.t 10),false),((.t 11),false)]),
 un (.un 13 .not (.t 12))])
 (.drop [9,10,11,12] (.cond (.t 13) (.seq (.reg [un (.asg 6 (.c (.bool false)))])
 .ret)
 .skip)))
 (.drop [9,10,11,12,13] (.seq (.reg [un (.ld 15 2 true (.t 3)),
 un (.ld 16 2 true (.t 4)),
 un (.mov 17 (.t 2)),
 un (.call 18 Rj [((.t 15),false),((.t 16),false),((.t 17),false)]),
 un (.asg 14 (.t 18)),
 un (.ext 19 (.t 14) 0),
 un (.ext 20 (.t 14) 1),
 un (.asg 7 (.t 19)),
 un (.asg 8 (.t 20))])
 (.drop [15,16,17,18,14,19,20,8] (.seq (.reg [un (.mov 21 (.t 7)),
 un (.bin 22 .lss (.t 21) (.c (.int .i64 0))),
 un (.asg 6 (.t 22))])
 (.drop [21,22] .ret)))))))
abbrev Asf:List RS:=[.t 6]
theorem Asl:A8 Try.prog W1 23 Ast Asf=true:=by kernel_rfl
def Ab7:ACode:=
 (.seq (.reg [un (.asg 3 (.c (.bool false)))])
 (.seq (.dreg [(un (.mov 4 (.t 0)),[]),
 (un (.fadr 5 0 (.t 1)),[4]),
 (un (.ld 6 1 false (.t 5)),[4]),
 (un (.call 7 Qn [((.t 4),false),((.t 6),false)]),[]),
 (un (.len 8 (.t 7)),[]),
 (un (.fadr 9 0 (.t 1)),[4,5,6,7,8]),
 (un (.ld 10 1 false (.t 9)),[4,5,6,7,8])]
 [un (.bin 11 .eql (.t 8) (.t 10)),
 un (.asg 3 (.t 11))])
 (.drop [4,5,6,7,8,9,10,11] .ret)))
abbrev Ab3:List RS:=[.t 3]
theorem Ac7:A8 Try.prog H5 12 Ab7 Ab3=true:=by kernel_rfl
def Aft:ACode:=
 (.seq (.reg [un (.asg 4 (.c (.bool false)))])
 (.seq (.reg [un (.mov 5 (.t 0)),
 un (.mov 6 (.t 1)),
 un (.call 7 Au [((.t 5),true),((.t 6),false)]),
 un (.bin 8 .eql (.t 7) (.c (.int .i64 0))),
 un (.asg 4 (.t 8))])
 (.drop [5,6,7,8] .ret)))
abbrev Af9:List RS:=[.t 4]
theorem Afr:A8 Try.prog F1 9 Aft Af9=true:=by kernel_rfl
def Agw:ACode:=
 (.seq (.reg [un (.fadr 4 0 (.t 1)),
 un (.ld 5 1 false (.t 4)),
 un (.call 6 Hs [((.t 5),false),((.c (.int .i64 1)),false),((.c (.int .i64 8)),false)]),
 un (.un 7 .not (.t 6)),
 un (.asg 8 (.t 7)),
 ⟨some (8,false),.fadr 9 1 (.t 1)⟩,
 ⟨some (8,false),.ld 10 1 false (.t 9)⟩,
 ⟨some (8,false),.len 11 (.t 10)⟩,
 ⟨some (8,false),.bin 12 .gtr (.t 11) (.c (.int .i64 4))⟩,
 un (.pick 13 (.t 8) (.c (.bool true)) (.t 12))])
 (.drop [4,5,6,7,8,9,10,11,12] (.cond (.t 13) (.seq (.reg [un (.asg 2 (.c (.bool false)))])
 .ret)
 .skip)))
def Wx:ACode:=
 (.seq (.seq (.reg [un (.mov 14 (.t 3)),
 un (.fadr 15 1 (.t 1)),
 un (.ld 16 1 false (.t 15)),
 un (.len 17 (.t 16)),
 un (.bin 18 .lss (.t 14) (.t 17))])
 (.drop [14,15,16,17] (.cond (.t 18) .skip
 (.exit 0))))
 (.drop [14,15,16,17,18] (.seq (.block 1 (.seq (.dreg [(un (.fadr 21 0 (.t 1)),[]),
 (un (.ld 22 1 false (.t 21)),[]),
 (un (.fadr 23 1 (.t 1)),[21,22]),
 (un (.ld 24 1 false (.t 23)),[21,22]),
 (un (.mov 25 (.t 3)),[21,22,23,24]),
 (un (.iad 26 2 (.t 24) (.t 25)),[21,22]),
 (un (.ld 27 2 true (.t 26)),[21,22])]
 [un (.call 28 Zv [((.t 22),false),((.t 27),false)]),
 un (.un 29 .not (.t 28))])
 (.drop [21,22,23,24,25,26,27,28] (.cond (.t 29) (.seq (.reg [un (.asg 2 (.c (.bool false)))])
 .ret)
 .skip))))
 (.drop [21,22,23,24,25,26,27,28,29] (.reg [un (.mov 19 (.t 3)),
 un (.bin 20 .add (.t 19) (.c (.int .i64 1))),
 un (.asg 3 (.t 20))])))))
def An3:ACode:=
 (.seq (.reg [un (.box 1 (.t 0)),
 un (.asg 2 (.c (.bool false)))])
 (.seq (.cut Agw)
 (.drop [4,5,6,7,8,9,10,11,12,13] (.seq (.seq (.reg [un (.asg 3 (.c (.int .i64 0)))])
 (.block 0 (.loop Wx)))
 (.drop [3,14,15,16,17,18,21,22,23,24,25,26,27,28,29,19,20] (.seq (.reg [un (.asg 2 (.c (.bool true)))])
 .ret))))))
abbrev Aoa:List RS:=[.t 2]
theorem Amq:A8 Try.prog Fu 30 An3 Aoa=true:=by kernel_rfl
def Ya:ACode:=
 (.seq (.seq (.reg [un (.mov 8 (.t 4)),
 un (.fadr 9 1 (.t 1)),
 un (.ld 10 1 false (.t 9)),
 un (.len 11 (.t 10)),
 un (.bin 12 .lss (.t 8) (.t 11))])
 (.drop [8,9,10,11] (.cond (.t 12) .skip
 (.exit 0))))
 (.drop [8,9,10,11,12] (.seq (.block 1 (.dreg [(un (.fadr 15 1 (.t 3)),[22]),
 (un (.ld 16 1 false (.t 15)),[22]),
 (un (.fadr 17 1 (.t 1)),[15,16]),
 (un (.ld 18 1 false (.t 17)),[15,16]),
 (un (.mov 19 (.t 4)),[15,16,17,18]),
 (un (.iad 20 2 (.t 18) (.t 19)),[15,16]),
 (un (.ld 21 2 true (.t 20)),[15,16]),
 (un (.call 22 Um [((.t 21),false)]),[15,16]),
 (un (.bsl 23 2 [(.t 22)]),[15,16])]
 [un (.app 24 2 (.t 16) (.t 23)),
 un (.fadr 25 1 (.t 3)),
 un (.st 1 (.t 25) (.t 24))]))
 (.drop [15,16,17,18,19,20,21,22,23,24,25] (.reg [un (.mov 13 (.t 4)),
 un (.bin 14 .add (.t 13) (.c (.int .i64 1))),
 un (.asg 4 (.t 14))])))))
def Aqe:ACode:=
 (.seq (.reg [un (.box 1 (.t 0)),
 un (.alc 2 (.agg [.int .i64 0,.nilsl 2]))])
 (.seq (.reg [un (.fadr 5 0 (.t 1)),
 un (.ld 6 1 false (.t 5)),
 un (.bld 7 [.int .i64 0,.nilsl 2] [(0,1,(.t 6))]),
 un (.alc 3 (.agg [.int .i64 0,.nilsl 2])),
 un (.st 2 (.t 3) (.t 7))])
 (.drop [5,6,7] (.seq (.seq (.reg [un (.asg 4 (.c (.int .i64 0)))])
 (.block 0 (.loop Ya)))
 (.drop [4,8,9,10,11,12,15,16,17,18,19,20,21,22,23,24,25,13,14] (.seq (.reg [un (.ld 26 2 true (.t 3)),
 un (.st 2 (.t 2) (.t 26))])
 (.drop [26] .ret)))))))
abbrev Asp:List RS:=[.c 2 2 true]
theorem Aqo:A8 Try.prog Rc 27 Aqe Asp=true:=by kernel_rfl
def Afi:ACode:=
 (.seq (.reg [un (.mov 7 (.t 0)),
 un (.len 8 (.t 7)),
 un (.mov 9 (.t 1)),
 un (.bin 10 .neq (.t 8) (.t 9)),
 un (.asg 11 (.t 10)),
 ⟨some (11,false),.mov 12 (.t 1)⟩,
 ⟨some (11,false),.mov 13 (.t 0)⟩,
 ⟨some (11,false),.call 14 Ni [((.t 12),false),((.t 13),false)]⟩,
 ⟨some (11,false),.un 15 .not (.t 14)⟩,
 un (.pick 16 (.t 11) (.c (.bool true)) (.t 15))])
 (.drop [7,8,9,10,11,12,13,14,15] (.cond (.t 16) (.seq (.reg [un (.asg 4 (.c (.bool false)))])
 .ret)
 .skip)))
def Vf:ACode:=
 (.seq (.seq (.reg [un (.mov 19 (.t 6)),
 un (.mov 20 (.t 1)),
 un (.bin 21 .lss (.t 19) (.t 20))])
 (.drop [19,20] (.cond (.t 21) .skip
 (.exit 0))))
 (.drop [19,20,21] (.seq (.block 1 (.seq (.seq (.reg [un (.mov 24 (.t 5)),
 un (.mov 25 (.t 0)),
 un (.mov 26 (.t 6)),
 un (.iad 27 1 (.t 25) (.t 26)),
 un (.ld 28 1 false (.t 27)),
 un (.iad 29 1 (.t 24) (.t 28)),
 un (.ld 30 1 false (.t 29))])
 (.drop [24,25,26,27,28,29] (.cond (.t 30) (.seq (.reg [un (.asg 4 (.c (.bool false)))])
 .ret)
 .skip)))
 (.drop [24,25,26,27,28,29,30] (.reg [un (.mov 31 (.t 5)),
 un (.mov 32 (.t 0)),
 un (.mov 33 (.t 6)),
 un (.iad 34 1 (.t 32) (.t 33)),
 un (.ld 35 1 false (.t 34)),
 un (.iad 36 1 (.t 31) (.t 35)),
 un (.st 1 (.t 36) (.c (.bool true)))]))))
 (.drop [24,25,26,27,28,29,30,31,32,33,34,35,36] (.reg [un (.mov 22 (.t 6)),
 un (.bin 23 .add (.t 22) (.c (.int .i64 1))),
 un (.asg 6 (.t 23))])))))
def Ams:ACode:=
 (.seq (.reg [un (.asg 4 (.c (.bool false)))])
 (.seq (.cut Afi)
 (.drop [7,8,9,10,11,12,13,14,15,16] (.seq (.reg [un (.mov 17 (.t 1)),
 un (.mk 18 1 (.bool false) (.t 17)),
 un (.asg 5 (.t 18))])
 (.drop [17,18] (.seq (.seq (.reg [un (.asg 6 (.c (.int .i64 0)))])
 (.block 0 (.loop Vf)))
 (.drop [6,19,20,21,24,25,26,27,28,29,30,31,32,33,34,35,36,22,23] (.seq (.reg [un (.asg 4 (.c (.bool true)))])
 .ret))))))))
abbrev Am7:List RS:=[.t 4]
theorem Anu:A8 Try.prog Un 37 Ams Am7=true:=by kernel_rfl
def Abc:ACode:=
 (.seq (.reg [un (.fadr 5 0 (.t 1)),
 un (.ld 6 1 false (.t 5)),
 un (.bin 7 .lss (.t 6) (.c (.int .i64 1))),
 un (.asg 8 (.t 7)),
 ⟨some (8,false),.fadr 9 0 (.t 1)⟩,
 ⟨some (8,false),.ld 10 1 false (.t 9)⟩,
 ⟨some (8,false),.bin 11 .gtr (.t 10) (.c (.int .i64 8))⟩,
 un (.pick 12 (.t 8) (.c (.bool true)) (.t 11)),
 un (.asg 13 (.t 12)),
 ⟨some (13,false),.fadr 14 1 (.t 1)⟩,
 ⟨some (13,false),.ld 15 1 false (.t 14)⟩,
 ⟨some (13,false),.len 16 (.t 15)⟩,
 ⟨some (13,false),.bin 17 .gtr (.t 16) (.c (.int .i64 4))⟩,
 un (.pick 18 (.t 13) (.c (.bool true)) (.t 17))])
 (.drop [5,6,7,8,9,10,11,12,13,14,15,16,17] (.cond (.t 18) (.seq (.reg [un (.asg 2 (.c (.bool false)))])
 .ret)
 .skip)))
def Qz:ACode:=
 (.seq (.reg [un (.bin 23 .lss (.t 22) (.t 21))])
 (.seq (.cond (.t 23) .skip
 (.exit 0))
 (.seq (.block 1 (.seq (.reg [un (.iad 24 2 (.t 20) (.t 22)),
 un (.ld 25 2 true (.t 24)),
 un (.alc 4 (.agg [.int .i64 0,.nilsl 1])),
 un (.st 2 (.t 4) (.t 25))])
 (.drop [24,25] (.seq (.reg [un (.ld 26 2 true (.t 4)),
 un (.fadr 27 0 (.t 1)),
 un (.ld 28 1 false (.t 27)),
 un (.call 29 Zl [((.t 26),false),((.t 28),false)]),
 un (.un 30 .not (.t 29))])
 (.drop [26,27,28,29] (.cond (.t 30) (.seq (.reg [un (.asg 2 (.c (.bool false)))])
 .ret)
 .skip))))))
 (.drop [24,25,4,26,27,28,29,30] (.reg [un (.bin 31 .add (.t 22) (.c (.int .i64 1))),
 un (.asg 22 (.t 31))])))))
def Agy:ACode:=
 (.seq (.reg [un (.box 1 (.t 0)),
 un (.asg 2 (.c (.bool false)))])
 (.seq (.cut Abc)
 (.drop [5,6,7,8,9,10,11,12,13,14,15,16,17,18] (.seq (.seq (.reg [un (.fadr 19 1 (.t 1)),
 un (.ld 20 1 false (.t 19)),
 un (.len 21 (.t 20)),
 un (.mov 22 (.c (.int .i64 0)))])
 (.drop [19] (.block 0 (.loop Qz))))
 (.drop [19,20,21,22,23,24,25,4,26,27,28,29,30,31] (.seq (.reg [un (.asg 2 (.c (.bool true)))])
 .ret))))))
abbrev Afe:List RS:=[.t 2]
theorem Afx:A8 Try.prog F0 32 Agy Afe=true:=by kernel_rfl
end Go.Proofs.Ytmkgjnphianalaa.Ax
