/-
  The small code of the functions, written by program; that the program's code is this one, the kernel looks at.
-/
import Derived.Test.YtmkgjnphianalaaGreatAx3
import Derived.Test.YtmkgjnphianalaaGreatProg
import Derived.KernelRfl
import Derived.Test.YtmkgjnphianalaaGreatNum
namespace Go.Proofs.YtmkgjnphianalaaGreat.Ax
open Go
set_option maxRecDepth 100000
def A08:ACode:=
 (.seq (.reg [un (.asg 2 (.c (.bool false)))])
 (.seq (.reg [un (.mov 3 (.t 0)),
 un (.len 4 (.t 3)),
 un (.bin 5 .gtr (.t 4) (.c (.int .i64 65536))),
 un (.asg 2 (.t 5))])
 (.drop [3,4,5] .ret)))
abbrev A1c:List RS:=[.t 2]
theorem A0w:Az Tryz.prog Acw 6 A08 A1c=true:=by kernel_rfl
def Ab9:ACode:=
 (.seq (.seq (.reg [un (.mov 11 (.t 5)),
 un (.mov 12 (.t 0)),
 un (.len 13 (.t 12)),
 un (.bin 14 .lss (.t 11) (.t 13))])
 (.drop [11,12,13] (.cond (.t 14) .skip
 (.exit 0))))
 (.drop [11,12,13,14] (.seq (.block 1 (.seq (.dreg [(un (.mov 17 (.t 0)),[]),
 (un (.mov 18 (.t 5)),[17]),
 (un (.iad 19 1 (.t 17) (.t 18)),[]),
 (un (.ld 20 1 false (.t 19)),[]),
 (un (.mov 21 (.t 1)),[17,18,19,20]),
 (un (.mov 22 (.t 5)),[17,18,19,20,21]),
 (un (.iad 23 1 (.t 21) (.t 22)),[17,18,19,20]),
 (un (.ld 24 1 false (.t 23)),[17,18,19,20])]
 [un (.bin 25 .neq (.t 20) (.t 24))])
 (.drop [17,18,19,20,21,22,23,24] (.cond (.t 25) (.seq (.reg [un (.asg 4 (.c (.bool false)))])
 .ret)
 .skip))))
 (.drop [17,18,19,20,21,22,23,24,25] (.reg [un (.mov 15 (.t 5)),
 un (.bin 16 .add (.t 15) (.c (.int .i64 1))),
 un (.asg 5 (.t 16))])))))
def Ayg:ACode:=
 (.seq (.reg [un (.asg 4 (.c (.bool false)))])
 (.seq (.seq (.reg [un (.mov 6 (.t 0)),
 un (.len 7 (.t 6)),
 un (.mov 8 (.t 1)),
 un (.len 9 (.t 8)),
 un (.bin 10 .neq (.t 7) (.t 9))])
 (.drop [6,7,8,9] (.cond (.t 10) (.seq (.reg [un (.asg 4 (.c (.bool false)))])
 .ret)
 .skip)))
 (.drop [6,7,8,9,10] (.seq (.seq (.reg [un (.asg 5 (.c (.int .i64 0)))])
 (.block 0 (.loop Ab9)))
 (.drop [5,11,12,13,14,17,18,19,20,21,22,23,24,25,15,16] (.seq (.reg [un (.asg 4 (.c (.bool true)))])
 .ret))))))
abbrev Awt:List RS:=[.t 4]
theorem Ayk:Az Tryz.prog Jb 26 Ayg Awt=true:=by kernel_rfl
def Atv:ACode:=
 (.seq (.reg [un (.asg 2 (.c (.bool false)))])
 (.seq (.reg [un (.asg 2 (.c (.bool true)))])
 .ret))
abbrev Aum:List RS:=[.t 2]
theorem Asz:Az Tryz.prog Rj 3 Atv Aum=true:=by kernel_rfl
def Ars:ACode:=
 (.seq (.reg [un (.asg 4 (.c (.int .i64 0)))])
 (.seq (.seq (.reg [un (.mov 5 (.t 0)),
 un (.mov 6 (.t 1)),
 un (.bin 7 .lss (.t 5) (.t 6))])
 (.drop [5,6] (.cond (.t 7) (.seq (.reg [un (.mov 8 (.t 0)),
 un (.asg 4 (.t 8))])
 (.drop [8] .ret))
 .skip)))
 (.drop [5,6,7,8] (.seq (.reg [un (.mov 9 (.t 1)),
 un (.asg 4 (.t 9))])
 (.drop [9] .ret)))))
abbrev Arx:List RS:=[.t 4]
theorem Apu:Az Tryz.prog Oj 10 Ars Arx=true:=by kernel_rfl
def Aaj:ACode:=
 (.seq (.reg [un (.bin 10 .lss (.t 9) (.t 8))])
 (.seq (.cond (.t 10) .skip
 (.exit 0))
 (.seq (.block 1 (.seq (.reg [un (.mov 11 (.t 9)),
 un (.iad 12 1 (.t 7) (.t 9)),
 un (.ld 13 1 false (.t 12)),
 un (.asg 4 (.t 11)),
 un (.asg 5 (.t 13))])
 (.drop [11,12,13] (.seq (.reg [un (.mov 14 (.t 5))])
 (.cond (.t 14) (.reg [un (.mov 15 (.t 3)),
 un (.mov 16 (.t 4)),
 un (.bsl 17 1 [(.t 16)]),
 un (.app 18 1 (.t 15) (.t 17)),
 un (.asg 3 (.t 18))])
 .skip)))))
 (.drop [11,12,13,4,5,14,15,16,17,18] (.reg [un (.bin 19 .add (.t 9) (.c (.int .i64 1))),
 un (.asg 9 (.t 19))])))))
def Asw:ACode:=
 (.seq (.reg [un (.asg 2 (.c (.nilsl 1)))])
 (.seq (.reg [un (.bsl 6 1 []),
 un (.asg 3 (.t 6))])
 (.drop [6] (.seq (.seq (.reg [un (.mov 7 (.t 0)),
 un (.len 8 (.t 7)),
 un (.mov 9 (.c (.int .i64 0)))])
 (.block 0 (.loop Aaj)))
 (.drop [7,8,9,10,11,12,13,4,5,14,15,16,17,18,19] (.seq (.reg [un (.mov 20 (.t 3)),
 un (.asg 2 (.t 20))])
 (.drop [20] .ret)))))))
abbrev Atk:List RS:=[.t 2]
theorem As5:Az Tryz.prog Rr 21 Asw Atk=true:=by kernel_rfl
def Ab4:ACode:=
 (.seq (.seq (.reg [un (.mov 6 (.t 5)),
 un (.mov 7 (.t 0)),
 un (.len 8 (.t 7)),
 un (.bin 9 .lss (.t 6) (.t 8)),
 un (.asg 10 (.t 9)),
 ⟨some (10,true),.mov 11 (.t 0)⟩,
 ⟨some (10,true),.mov 12 (.t 5)⟩,
 ⟨some (10,true),.iad 13 1 (.t 11) (.t 12)⟩,
 ⟨some (10,true),.ld 14 1 false (.t 13)⟩,
 ⟨some (10,true),.mov 15 (.t 1)⟩,
 ⟨some (10,true),.bin 16 .lss (.t 14) (.t 15)⟩,
 un (.pick 17 (.t 10) (.t 16) (.c (.bool false)))])
 (.drop [6,7,8,9,10,11,12,13,14,15,16] (.cond (.t 17) .skip
 (.exit 0))))
 (.drop [6,7,8,9,10,11,12,13,14,15,16,17] (.block 1 (.reg [un (.mov 18 (.t 5)),
 un (.bin 19 .add (.t 18) (.c (.int .i64 1))),
 un (.asg 5 (.t 19))]))))
def Amt:ACode:=
 (.seq (.reg [un (.mov 20 (.t 5)),
 un (.mov 21 (.t 0)),
 un (.len 22 (.t 21)),
 un (.bin 23 .lss (.t 20) (.t 22)),
 un (.asg 24 (.t 23)),
 ⟨some (24,true),.mov 25 (.t 0)⟩,
 ⟨some (24,true),.mov 26 (.t 5)⟩,
 ⟨some (24,true),.iad 27 1 (.t 25) (.t 26)⟩,
 ⟨some (24,true),.ld 28 1 false (.t 27)⟩,
 ⟨some (24,true),.mov 29 (.t 1)⟩,
 ⟨some (24,true),.bin 30 .eql (.t 28) (.t 29)⟩,
 un (.pick 31 (.t 24) (.t 30) (.c (.bool false)))])
 (.drop [20,21,22,23,24,25,26,27,28,29,30] (.cond (.t 31) (.seq (.reg [un (.mov 32 (.t 0)),
 un (.asg 4 (.t 32))])
 (.drop [32] .ret))
 .skip)))
def Awc:ACode:=
 (.seq (.reg [un (.asg 4 (.c (.nilsl 1)))])
 (.seq (.reg [un (.asg 5 (.c (.int .i64 0)))])
 (.seq (.block 0 (.loop Ab4))
 (.drop [6,7,8,9,10,11,12,13,14,15,16,17,18,19] (.seq (.cut Amt)
 (.drop [20,21,22,23,24,25,26,27,28,29,30,31,32] (.seq (.dreg [(un (.bsl 33 1 []),[38]),
 (un (.mov 34 (.t 0)),[33,38]),
 (un (.mov 35 (.t 5)),[33,34,38]),
 (un (.slc 36 1 (.t 34) none (some (.t 35))),[33,38]),
 (un (.app 37 1 (.t 33) (.t 36)),[38]),
 (un (.mov 38 (.t 1)),[33,34,35,36,37,33]),
 (un (.bsl 39 1 [(.t 38)]),[33,34,35,36,37,33]),
 (un (.app 40 1 (.t 37) (.t 39)),[33,38]),
 (un (.mov 41 (.t 0)),[33,34,35,36,37,38,39,40,33,38,37]),
 (un (.mov 42 (.t 5)),[33,34,35,36,37,38,39,40,41,33,38,37]),
 (un (.slc 43 1 (.t 41) (some (.t 42)) none),[33,34,35,36,37,38,39,40,33,38,37])]
 [un (.app 44 1 (.t 40) (.t 43)),
 un (.asg 4 (.t 44))])
 (.drop [33,34,35,36,37,38,39,40,41,42,43,44] .ret))))))))
abbrev Ayr:List RS:=[.t 4]
theorem Axe:Az Tryz.prog Aaz 45 Awc Ayr=true:=by kernel_rfl
def Wi:ACode:=
 (.seq (.reg [un (.bin 15 .lss (.t 14) (.t 13))])
 (.seq (.cond (.t 15) .skip
 (.exit 0))
 (.seq (.block 1 (.seq (.reg [un (.mov 16 (.t 14)),
 un (.iad 17 1 (.t 12) (.t 14)),
 un (.ld 18 1 false (.t 17)),
 un (.asg 5 (.t 16)),
 un (.asg 6 (.t 18))])
 (.drop [16,17,18] (.seq (.reg [un (.mov 19 (.t 1)),
 un (.mov 20 (.t 5)),
 un (.iad 21 1 (.t 19) (.t 20)),
 un (.ld 22 1 false (.t 21)),
 un (.mov 23 (.t 6)),
 un (.bin 24 .neq (.t 22) (.t 23))])
 (.drop [19,20,21,22,23] (.cond (.t 24) (.seq (.reg [un (.asg 4 (.c (.bool false)))])
 .ret)
 .skip))))))
 (.drop [16,17,18,5,6,19,20,21,22,23,24] (.reg [un (.bin 25 .add (.t 14) (.c (.int .i64 1))),
 un (.asg 14 (.t 25))])))))
def Aon:ACode:=
 (.seq (.reg [un (.asg 4 (.c (.bool false)))])
 (.seq (.seq (.reg [un (.mov 7 (.t 0)),
 un (.len 8 (.t 7)),
 un (.mov 9 (.t 1)),
 un (.len 10 (.t 9)),
 un (.bin 11 .neq (.t 8) (.t 10))])
 (.drop [7,8,9,10] (.cond (.t 11) (.seq (.reg [un (.asg 4 (.c (.bool false)))])
 .ret)
 .skip)))
 (.drop [7,8,9,10,11] (.seq (.seq (.reg [un (.mov 12 (.t 0)),
 un (.len 13 (.t 12)),
 un (.mov 14 (.c (.int .i64 0)))])
 (.block 0 (.loop Wi)))
 (.drop [12,13,14,15,16,17,18,5,6,19,20,21,22,23,24,25] (.seq (.reg [un (.asg 4 (.c (.bool true)))])
 .ret))))))
abbrev Ao2:List RS:=[.t 4]
theorem Anu:Az Tryz.prog Tg 26 Aon Ao2=true:=by kernel_rfl
def Xa:ACode:=
 (.seq (.reg [un (.bin 14 .lss (.t 13) (.t 12))])
 (.seq (.cond (.t 14) .skip
 (.exit 0))
 (.seq (.block 1 (.seq (.reg [un (.mov 15 (.t 13)),
 un (.iad 16 1 (.t 11) (.t 13)),
 un (.ld 17 1 false (.t 16)),
 un (.asg 6 (.t 15)),
 un (.asg 7 (.t 17))])
 (.drop [15,16,17] (.reg [un (.mov 18 (.t 5)),
 un (.mov 19 (.t 6)),
 un (.mov 20 (.t 1)),
 un (.mov 21 (.t 7)),
 un (.iad 22 1 (.t 20) (.t 21)),
 un (.ld 23 1 false (.t 22)),
 un (.iad 24 1 (.t 18) (.t 19)),
 un (.st 1 (.t 24) (.t 23))]))))
 (.drop [15,16,17,6,7,18,19,20,21,22,23,24] (.reg [un (.bin 25 .add (.t 13) (.c (.int .i64 1))),
 un (.asg 13 (.t 25))])))))
def Aq9:ACode:=
 (.seq (.reg [un (.asg 4 (.c (.nilsl 1)))])
 (.seq (.reg [un (.mov 8 (.t 0)),
 un (.len 9 (.t 8)),
 un (.mk 10 1 (.int .i64 0) (.t 9)),
 un (.asg 5 (.t 10))])
 (.drop [8,9,10] (.seq (.seq (.reg [un (.mov 11 (.t 0)),
 un (.len 12 (.t 11)),
 un (.mov 13 (.c (.int .i64 0)))])
 (.block 0 (.loop Xa)))
 (.drop [11,12,13,14,15,16,17,6,7,18,19,20,21,22,23,24,25] (.seq (.reg [un (.mov 26 (.t 5)),
 un (.asg 4 (.t 26))])
 (.drop [26] .ret)))))))
abbrev Are:List RS:=[.t 4]
theorem Ash:Az Tryz.prog I0 27 Aq9 Are=true:=by kernel_rfl
def Z9:ACode:=
 (.seq (.seq (.reg [un (.mov 11 (.t 5)),
 un (.mov 12 (.t 0)),
 un (.len 13 (.t 12)),
 un (.bin 14 .lss (.t 11) (.t 13))])
 (.drop [11,12,13] (.cond (.t 14) .skip
 (.exit 0))))
 (.drop [11,12,13,14] (.seq (.block 1 (.seq (.dreg [(un (.mov 17 (.t 0)),[]),
 (un (.mov 18 (.t 5)),[17]),
 (un (.iad 19 1 (.t 17) (.t 18)),[]),
 (un (.ld 20 1 false (.t 19)),[]),
 (un (.mov 21 (.t 1)),[17,18,19,20]),
 (un (.mov 22 (.t 5)),[17,18,19,20,21]),
 (un (.iad 23 1 (.t 21) (.t 22)),[17,18,19,20]),
 (un (.ld 24 1 false (.t 23)),[17,18,19,20])]
 [un (.bin 25 .neq (.t 20) (.t 24))])
 (.drop [17,18,19,20,21,22,23,24] (.cond (.t 25) (.seq (.reg [un (.asg 4 (.c (.bool false)))])
 .ret)
 .skip))))
 (.drop [17,18,19,20,21,22,23,24,25] (.reg [un (.mov 15 (.t 5)),
 un (.bin 16 .add (.t 15) (.c (.int .i64 1))),
 un (.asg 5 (.t 16))])))))
def Asr:ACode:=
 (.seq (.reg [un (.asg 4 (.c (.bool false)))])
 (.seq (.seq (.reg [un (.mov 6 (.t 0)),
 un (.len 7 (.t 6)),
 un (.mov 8 (.t 1)),
 un (.len 9 (.t 8)),
 un (.bin 10 .neq (.t 7) (.t 9))])
 (.drop [6,7,8,9] (.cond (.t 10) (.seq (.reg [un (.asg 4 (.c (.bool false)))])
 .ret)
 .skip)))
 (.drop [6,7,8,9,10] (.seq (.seq (.reg [un (.asg 5 (.c (.int .i64 0)))])
 (.block 0 (.loop Z9)))
 (.drop [5,11,12,13,14,17,18,19,20,21,22,23,24,25,15,16] (.seq (.reg [un (.asg 4 (.c (.bool true)))])
 .ret))))))
abbrev Asx:List RS:=[.t 4]
theorem Aub:Az Tryz.prog Ms 26 Asr Asx=true:=by kernel_rfl
def Va:ACode:=
 (.seq (.seq (.dreg [(un (.mov 16 (.t 0)),[]),
 (un (.mov 17 (.t 3)),[16]),
 (un (.mov 18 (.t 4)),[16,17]),
 (un (.iad 19 1 (.t 17) (.t 18)),[16]),
 (un (.ld 20 1 false (.t 19)),[16]),
 (un (.iad 21 1 (.t 16) (.t 20)),[]),
 (un (.ld 22 1 false (.t 21)),[]),
 (un (.mov 23 (.t 0)),[16,17,18,19,20,21,22]),
 (un (.mov 24 (.t 4)),[16,17,18,19,20,21,22,23]),
 (un (.iad 25 1 (.t 23) (.t 24)),[16,17,18,19,20,21,22]),
 (un (.ld 26 1 false (.t 25)),[16,17,18,19,20,21,22])]
 [un (.bin 27 .neq (.t 22) (.t 26))])
 (.drop [16,17,18,19,20,21,22,23,24,25,26] (.cond (.t 27) .skip
 (.exit 2))))
 (.drop [16,17,18,19,20,21,22,23,24,25,26,27] (.block 3 (.reg [un (.mov 28 (.t 3)),
 un (.mov 29 (.t 4)),
 un (.iad 30 1 (.t 28) (.t 29)),
 un (.ld 31 1 false (.t 30)),
 un (.bin 32 .add (.t 31) (.c (.int .i64 1))),
 un (.iad 33 1 (.t 28) (.t 29)),
 un (.st 1 (.t 33) (.t 32))]))))
def U9:ACode:=
 (.seq (.reg [un (.bin 11 .lss (.t 10) (.t 9))])
 (.seq (.cond (.t 11) .skip
 (.exit 0))
 (.seq (.block 1 (.seq (.reg [un (.mov 12 (.t 10)),
 un (.asg 4 (.t 12))])
 (.drop [12] (.seq (.reg [un (.mov 13 (.t 3)),
 un (.mov 14 (.t 4)),
 un (.iad 15 1 (.t 13) (.t 14)),
 un (.st 1 (.t 15) (.c (.int .i64 0)))])
 (.drop [13,14,15] (.block 2 (.loop Va)))))))
 (.drop [12,4,13,14,15,16,17,18,19,20,21,22,23,24,25,26,27,28,29,30,31,32,33] (.reg [un (.bin 34 .add (.t 10) (.c (.int .i64 1))),
 un (.asg 10 (.t 34))])))))
def Amz:ACode:=
 (.seq (.reg [un (.asg 2 (.c (.nilsl 1)))])
 (.seq (.reg [un (.mov 5 (.t 0)),
 un (.len 6 (.t 5)),
 un (.mk 7 1 (.int .i64 0) (.t 6)),
 un (.asg 3 (.t 7))])
 (.drop [5,6,7] (.seq (.seq (.reg [un (.mov 8 (.t 0)),
 un (.len 9 (.t 8)),
 un (.mov 10 (.c (.int .i64 0)))])
 (.drop [8] (.block 0 (.loop U9))))
 (.drop [8,9,10,11,12,4,13,14,15,16,17,18,19,20,21,22,23,24,25,26,27,28,29,30,31,32,33,34] (.seq (.reg [un (.mov 35 (.t 3)),
 un (.asg 2 (.t 35))])
 (.drop [35] .ret)))))))
abbrev Aor:List RS:=[.t 2]
theorem Aoq:Az Tryz.prog T5 36 Amz Aor=true:=by kernel_rfl
def Vh:ACode:=
 (.seq (.seq (.dreg [(un (.mov 13 (.t 0)),[]),
 (un (.mov 14 (.t 5)),[13]),
 (un (.iad 15 1 (.t 13) (.t 14)),[]),
 (un (.ld 16 1 false (.t 15)),[]),
 (un (.mov 17 (.t 0)),[13,14,15,16]),
 (un (.mov 18 (.t 4)),[13,14,15,16,17]),
 (un (.iad 19 1 (.t 17) (.t 18)),[13,14,15,16]),
 (un (.ld 20 1 false (.t 19)),[13,14,15,16])]
 [un (.bin 21 .neq (.t 16) (.t 20))])
 (.drop [13,14,15,16,17,18,19,20] (.cond (.t 21) .skip
 (.exit 2))))
 (.drop [13,14,15,16,17,18,19,20,21] (.block 3 (.reg [un (.mov 22 (.t 5)),
 un (.bin 23 .add (.t 22) (.c (.int .i64 1))),
 un (.asg 5 (.t 23))]))))
def Ve:ACode:=
 (.seq (.seq (.reg [un (.mov 7 (.t 4)),
 un (.mov 8 (.t 0)),
 un (.len 9 (.t 8)),
 un (.bin 10 .lss (.t 7) (.t 9))])
 (.drop [7,8,9] (.cond (.t 10) .skip
 (.exit 0))))
 (.drop [7,8,9,10] (.seq (.block 1 (.seq (.reg [un (.asg 5 (.c (.int .i64 0)))])
 (.seq (.block 2 (.loop Vh))
 (.drop [13,14,15,16,17,18,19,20,21,22,23] (.reg [un (.mov 24 (.t 3)),
 un (.mov 25 (.t 5)),
 un (.bsl 26 1 [(.t 25)]),
 un (.app 27 1 (.t 24) (.t 26)),
 un (.asg 3 (.t 27))])))))
 (.drop [5,13,14,15,16,17,18,19,20,21,22,23,24,25,26,27] (.reg [un (.mov 11 (.t 4)),
 un (.bin 12 .add (.t 11) (.c (.int .i64 1))),
 un (.asg 4 (.t 12))])))))
def Ank:ACode:=
 (.seq (.reg [un (.asg 2 (.c (.nilsl 1)))])
 (.seq (.reg [un (.bsl 6 1 []),
 un (.asg 3 (.t 6))])
 (.drop [6] (.seq (.seq (.reg [un (.asg 4 (.c (.int .i64 0)))])
 (.block 0 (.loop Ve)))
 (.drop [4,7,8,9,10,5,13,14,15,16,17,18,19,20,21,22,23,24,25,26,27,11,12] (.seq (.reg [un (.mov 28 (.t 3)),
 un (.asg 2 (.t 28))])
 (.drop [28] .ret)))))))
abbrev Aob:List RS:=[.t 2]
theorem Am8:Az Tryz.prog Tw 29 Ank Aob=true:=by kernel_rfl
def R2:ACode:=
 (.seq (.reg [un (.bin 13 .lss (.t 12) (.t 11))])
 (.seq (.cond (.t 13) .skip
 (.exit 0))
 (.seq (.block 1 (.seq (.reg [un (.mov 14 (.t 12)),
 un (.iad 15 1 (.t 10) (.t 12)),
 un (.ld 16 1 false (.t 15)),
 un (.asg 5 (.t 14)),
 un (.asg 6 (.t 16))])
 (.drop [14,15,16] (.seq (.reg [un (.mov 17 (.t 6)),
 un (.mov 18 (.t 5)),
 un (.bin 19 .eql (.t 17) (.t 18))])
 (.drop [17,18] (.cond (.t 19) (.seq (.reg [un (.mov 20 (.t 3)),
 un (.mov 21 (.t 5)),
 un (.mov 22 (.t 4)),
 un (.iad 23 1 (.t 20) (.t 21)),
 un (.st 1 (.t 23) (.t 22))])
 (.drop [20,21,22,23] (.reg [un (.mov 24 (.t 4)),
 un (.bin 25 .add (.t 24) (.c (.int .i64 1))),
 un (.asg 4 (.t 25))])))
 (.reg [un (.mov 26 (.t 3)),
 un (.mov 27 (.t 5)),
 un (.mov 28 (.t 3)),
 un (.mov 29 (.t 6)),
 un (.iad 30 1 (.t 28) (.t 29)),
 un (.ld 31 1 false (.t 30)),
 un (.iad 32 1 (.t 26) (.t 27)),
 un (.st 1 (.t 32) (.t 31))])))))))
 (.drop [14,15,16,5,6,17,18,19,20,21,22,23,24,25,26,27,28,29,30,31,32] (.reg [un (.bin 33 .add (.t 12) (.c (.int .i64 1))),
 un (.asg 12 (.t 33))])))))
def Ajy:ACode:=
 (.seq (.reg [un (.asg 2 (.c (.nilsl 1)))])
 (.seq (.reg [un (.mov 7 (.t 0)),
 un (.len 8 (.t 7)),
 un (.mk 9 1 (.int .i64 0) (.t 8)),
 un (.asg 3 (.t 9))])
 (.drop [7,8,9] (.seq (.reg [un (.asg 4 (.c (.int .i64 0)))])
 (.seq (.seq (.reg [un (.mov 10 (.t 0)),
 un (.len 11 (.t 10)),
 un (.mov 12 (.c (.int .i64 0)))])
 (.block 0 (.loop R2)))
 (.drop [10,11,12,13,14,15,16,5,6,17,18,19,20,21,22,23,24,25,26,27,28,29,30,31,32,33] (.seq (.reg [un (.mov 34 (.t 3)),
 un (.asg 2 (.t 34))])
 (.drop [34] .ret))))))))
abbrev Ahu:List RS:=[.t 2]
theorem Ah7:Az Tryz.prog Ki 35 Ajy Ahu=true:=by kernel_rfl
def Sy:ACode:=
 (.seq (.reg [un (.bin 9 .lss (.t 8) (.t 7))])
 (.seq (.cond (.t 9) .skip
 (.exit 0))
 (.seq (.block 1 (.seq (.reg [un (.mov 10 (.t 8)),
 un (.iad 11 1 (.t 6) (.t 8)),
 un (.ld 12 1 false (.t 11)),
 un (.asg 4 (.t 10)),
 un (.asg 5 (.t 12))])
 (.drop [10,11,12] (.seq (.reg [un (.mov 13 (.t 5)),
 un (.mov 14 (.t 4)),
 un (.bin 15 .eql (.t 13) (.t 14))])
 (.drop [13,14] (.cond (.t 15) (.reg [un (.mov 16 (.t 3)),
 un (.bin 17 .add (.t 16) (.c (.int .i64 1))),
 un (.asg 3 (.t 17))])
 .skip))))))
 (.drop [10,11,12,4,5,13,14,15,16,17] (.reg [un (.bin 18 .add (.t 8) (.c (.int .i64 1))),
 un (.asg 8 (.t 18))])))))
def Ah9:ACode:=
 (.seq (.reg [un (.asg 2 (.c (.int .i64 0)))])
 (.seq (.reg [un (.asg 3 (.c (.int .i64 0)))])
 (.seq (.seq (.reg [un (.mov 6 (.t 0)),
 un (.len 7 (.t 6)),
 un (.mov 8 (.c (.int .i64 0)))])
 (.block 0 (.loop Sy)))
 (.drop [6,7,8,9,10,11,12,4,5,13,14,15,16,17,18] (.seq (.reg [un (.mov 19 (.t 3)),
 un (.asg 2 (.t 19))])
 (.drop [19] .ret))))))
abbrev Akb:List RS:=[.t 2]
theorem Aje:Az Tryz.prog On 20 Ah9 Akb=true:=by kernel_rfl
def Aby:ACode:=
 (.seq (.seq (.reg [un (.mov 7 (.t 5)),
 un (.mov 8 (.t 0)),
 un (.len 9 (.t 8)),
 un (.bin 10 .lss (.t 7) (.t 9))])
 (.drop [7,8,9] (.cond (.t 10) .skip
 (.exit 0))))
 (.drop [7,8,9,10] (.seq (.block 1 (.seq (.reg [un (.mov 13 (.t 0)),
 un (.mov 14 (.t 5)),
 un (.iad 15 1 (.t 13) (.t 14)),
 un (.ld 16 1 false (.t 15)),
 un (.mov 17 (.t 5)),
 un (.bin 18 .eql (.t 16) (.t 17))])
 (.drop [13,14,15,16,17] (.cond (.t 18) (.seq (.reg [un (.mov 19 (.t 3)),
 un (.mov 20 (.t 4)),
 un (.bsl 21 1 [(.t 20)]),
 un (.app 22 1 (.t 19) (.t 21)),
 un (.asg 3 (.t 22))])
 (.drop [19,20,21,22] (.reg [un (.mov 23 (.t 4)),
 un (.bin 24 .add (.t 23) (.c (.int .i64 1))),
 un (.asg 4 (.t 24))])))
 (.reg [un (.mov 25 (.t 3)),
 un (.mov 26 (.t 3)),
 un (.mov 27 (.t 0)),
 un (.mov 28 (.t 5)),
 un (.iad 29 1 (.t 27) (.t 28)),
 un (.ld 30 1 false (.t 29)),
 un (.iad 31 1 (.t 26) (.t 30)),
 un (.ld 32 1 false (.t 31)),
 un (.bsl 33 1 [(.t 32)]),
 un (.app 34 1 (.t 25) (.t 33)),
 un (.asg 3 (.t 34))])))))
 (.drop [13,14,15,16,17,18,19,20,21,22,23,24,25,26,27,28,29,30,31,32,33,34] (.reg [un (.mov 11 (.t 5)),
 un (.bin 12 .add (.t 11) (.c (.int .i64 1))),
 un (.asg 5 (.t 12))])))))
def Axc:ACode:=
 (.seq (.reg [un (.asg 2 (.c (.nilsl 1)))])
 (.seq (.reg [un (.bsl 6 1 []),
 un (.asg 3 (.t 6))])
 (.drop [6] (.seq (.reg [un (.asg 4 (.c (.int .i64 0)))])
 (.seq (.seq (.reg [un (.asg 5 (.c (.int .i64 0)))])
 (.block 0 (.loop Aby)))
 (.drop [5,7,8,9,10,13,14,15,16,17,18,19,20,21,22,23,24,25,26,27,28,29,30,31,32,33,34,11,12] (.seq (.reg [un (.mov 35 (.t 3)),
 un (.asg 2 (.t 35))])
 (.drop [35] .ret))))))))
abbrev Av5:List RS:=[.t 2]
theorem Ayu:Az Tryz.prog Abo 36 Axc Av5=true:=by kernel_rfl
def Awm:ACode:=
 (.seq (.reg [un (.asg 2 (.c (.nilsl 1)))])
 (.seq (.reg [un (.bsl 3 1 []),
 un (.mov 4 (.t 0)),
 un (.app 5 1 (.t 3) (.t 4)),
 un (.asg 2 (.t 5))])
 (.drop [3,4,5] .ret)))
abbrev Ax0:List RS:=[.t 2]
theorem Ayn:Az Tryz.prog L0 6 Awm Ax0=true:=by kernel_rfl
def Ab6:ACode:=
 (.seq (.seq (.reg [un (.mov 6 (.t 1)),
 un (.bin 7 .gtr (.t 6) (.c (.int .i64 0)))])
 (.drop [6] (.cond (.t 7) .skip
 (.exit 0))))
 (.drop [6,7] (.seq (.block 1 (.reg [un (.mov 10 (.t 5)),
 un (.mov 11 (.t 0)),
 un (.bin 12 .mul (.t 10) (.t 11)),
 un (.asg 5 (.t 12))]))
 (.drop [10,11,12] (.reg [un (.mov 8 (.t 1)),
 un (.bin 9 .sub (.t 8) (.c (.int .i64 1))),
 un (.asg 1 (.t 9))])))))
def Av3:ACode:=
 (.seq (.reg [un (.asg 4 (.c (.int .i64 0)))])
 (.seq (.reg [un (.asg 5 (.c (.int .i64 1)))])
 (.seq (.block 0 (.loop Ab6))
 (.drop [6,7,10,11,12,8,9] (.seq (.reg [un (.mov 13 (.t 5)),
 un (.asg 4 (.t 13))])
 (.drop [13] .ret))))))
abbrev Aye:List RS:=[.t 4]
theorem Axp:Az Tryz.prog Uj 14 Av3 Aye=true:=by kernel_rfl
def Y0:ACode:=
 (.seq (.reg [un (.bin 10 .lss (.t 9) (.t 8))])
 (.seq (.cond (.t 10) .skip
 (.exit 0))
 (.seq (.block 1 (.seq (.reg [un (.iad 11 1 (.t 7) (.t 9)),
 un (.ld 12 1 false (.t 11)),
 un (.asg 6 (.t 12))])
 (.drop [11,12] (.seq (.reg [un (.mov 13 (.t 6)),
 un (.bin 14 .lss (.t 13) (.c (.int .i64 0))),
 un (.asg 15 (.t 14)),
 ⟨some (15,false),.mov 16 (.t 6)⟩,
 ⟨some (15,false),.mov 17 (.t 1)⟩,
 ⟨some (15,false),.bin 18 .geq (.t 16) (.t 17)⟩,
 un (.pick 19 (.t 15) (.c (.bool true)) (.t 18))])
 (.drop [13,14,15,16,17,18] (.cond (.t 19) (.seq (.reg [un (.asg 4 (.c (.bool false)))])
 .ret)
 .skip))))))
 (.drop [11,12,6,13,14,15,16,17,18,19] (.reg [un (.bin 20 .add (.t 9) (.c (.int .i64 1))),
 un (.asg 9 (.t 20))])))))
def As0:ACode:=
 (.seq (.reg [un (.asg 4 (.c (.bool false)))])
 (.seq (.seq (.reg [un (.mov 7 (.t 0)),
 un (.len 8 (.t 7)),
 un (.mov 9 (.c (.int .i64 0)))])
 (.block 0 (.loop Y0)))
 (.drop [7,8,9,10,11,12,6,13,14,15,16,17,18,19,20] (.seq (.reg [un (.asg 4 (.c (.bool true)))])
 .ret))))
abbrev As8:List RS:=[.t 4]
theorem Atq:Az Tryz.prog Rq 21 As0 As8=true:=by kernel_rfl
def Yv:ACode:=
 (.seq (.seq (.reg [un (.mov 13 (.t 8)),
 un (.bin 14 .geq (.t 13) (.c (.int .i64 0)))])
 (.drop [13] (.cond (.t 14) .skip
 (.exit 0))))
 (.drop [13,14] (.seq (.block 1 (.seq (.reg [un (.mov 17 (.t 7)),
 un (.mov 18 (.t 8)),
 un (.mov 19 (.t 0)),
 un (.mov 20 (.t 2)),
 un (.bin 21 .rem (.t 19) (.t 20)),
 un (.iad 22 1 (.t 17) (.t 18)),
 un (.st 1 (.t 22) (.t 21))])
 (.drop [17,18,19,20,21,22] (.reg [un (.mov 23 (.t 0)),
 un (.mov 24 (.t 2)),
 un (.bin 25 .quo (.t 23) (.t 24)),
 un (.asg 0 (.t 25))]))))
 (.drop [17,18,19,20,21,22,23,24,25] (.reg [un (.mov 15 (.t 8)),
 un (.bin 16 .sub (.t 15) (.c (.int .i64 1))),
 un (.asg 8 (.t 16))])))))
def At1:ACode:=
 (.seq (.reg [un (.asg 6 (.c (.nilsl 1)))])
 (.seq (.reg [un (.mov 9 (.t 1)),
 un (.mk 10 1 (.int .i64 0) (.t 9)),
 un (.asg 7 (.t 10))])
 (.drop [9,10] (.seq (.seq (.reg [un (.mov 11 (.t 1)),
 un (.bin 12 .sub (.t 11) (.c (.int .i64 1))),
 un (.asg 8 (.t 12))])
 (.drop [11,12] (.block 0 (.loop Yv))))
 (.drop [11,12,8,13,14,17,18,19,20,21,22,23,24,25,15,16] (.seq (.reg [un (.mov 26 (.t 7)),
 un (.asg 6 (.t 26))])
 (.drop [26] .ret)))))))
abbrev Atr:List RS:=[.t 6]
theorem Atj:Az Tryz.prog Rn 27 At1 Atr=true:=by kernel_rfl
def Xl:ACode:=
 (.seq (.reg [un (.bin 11 .lss (.t 10) (.t 9))])
 (.seq (.cond (.t 11) .skip
 (.exit 0))
 (.seq (.block 1 (.seq (.reg [un (.iad 12 1 (.t 8) (.t 10)),
 un (.ld 13 1 false (.t 12)),
 un (.asg 7 (.t 13))])
 (.drop [12,13] (.reg [un (.mov 14 (.t 5)),
 un (.mov 15 (.t 1)),
 un (.bin 16 .mul (.t 14) (.t 15)),
 un (.mov 17 (.t 7)),
 un (.bin 18 .add (.t 16) (.t 17)),
 un (.asg 5 (.t 18))]))))
 (.drop [12,13,7,14,15,16,17,18] (.reg [un (.bin 19 .add (.t 10) (.c (.int .i64 1))),
 un (.asg 10 (.t 19))])))))
def Aqj:ACode:=
 (.seq (.reg [un (.asg 4 (.c (.int .i64 0)))])
 (.seq (.reg [un (.asg 5 (.c (.int .i64 0)))])
 (.seq (.seq (.reg [un (.mov 8 (.t 0)),
 un (.len 9 (.t 8)),
 un (.mov 10 (.c (.int .i64 0)))])
 (.block 0 (.loop Xl)))
 (.drop [8,9,10,11,12,13,7,14,15,16,17,18,19] (.seq (.reg [un (.mov 20 (.t 5)),
 un (.asg 4 (.t 20))])
 (.drop [20] .ret))))))
abbrev Aq4:List RS:=[.t 4]
theorem Aqf:Az Tryz.prog O9 21 Aqj Aq4=true:=by kernel_rfl
def A05:ACode:=
 (.seq (.reg [un (.asg 6 (.c (.bool false)))])
 (.seq (.reg [un (.mov 7 (.t 0)),
 un (.mov 8 (.t 1)),
 un (.bin 9 .geq (.t 7) (.t 8)),
 un (.asg 10 (.t 9)),
 ⟨some (10,true),.mov 11 (.t 0)⟩,
 ⟨some (10,true),.mov 12 (.t 2)⟩,
 ⟨some (10,true),.bin 13 .leq (.t 11) (.t 12)⟩,
 un (.pick 14 (.t 10) (.t 13) (.c (.bool false))),
 un (.asg 6 (.t 14))])
 (.drop [7,8,9,10,11,12,13,14] .ret)))
abbrev A07:List RS:=[.t 6]
theorem Azk:Az Tryz.prog K8 15 A05 A07=true:=by kernel_rfl
def Av4:ACode:=
 (.seq (.reg [un (.asg 2 (.c (.nilsl 1)))])
 (.seq (.reg [un (.bsl 3 1 []),
 un (.mov 4 (.t 0)),
 un (.app 5 1 (.t 3) (.t 4)),
 un (.asg 2 (.t 5))])
 (.drop [3,4,5] .ret)))
abbrev Awx:List RS:=[.t 2]
theorem Aw9:Az Tryz.prog Ja 6 Av4 Awx=true:=by kernel_rfl
def Abx:ACode:=
 (.seq (.seq (.reg [un (.mov 4 (.t 3)),
 un (.mov 5 (.t 0)),
 un (.len 6 (.t 5)),
 un (.bin 7 .lss (.t 4) (.t 6))])
 (.drop [4,5,6] (.cond (.t 7) .skip
 (.exit 0))))
 (.drop [4,5,6,7] (.seq (.block 1 (.seq (.dreg [(un (.mov 10 (.t 0)),[]),
 (un (.mov 11 (.t 3)),[10]),
 (un (.bin 12 .sub (.t 11) (.c (.int .i64 1))),[10]),
 (un (.iad 13 1 (.t 10) (.t 12)),[]),
 (un (.ld 14 1 false (.t 13)),[]),
 (un (.mov 15 (.t 0)),[10,11,12,13,14]),
 (un (.mov 16 (.t 3)),[10,11,12,13,14,15]),
 (un (.iad 17 1 (.t 15) (.t 16)),[10,11,12,13,14]),
 (un (.ld 18 1 false (.t 17)),[10,11,12,13,14])]
 [un (.bin 19 .geq (.t 14) (.t 18))])
 (.drop [10,11,12,13,14,15,16,17,18] (.cond (.t 19) (.seq (.reg [un (.asg 2 (.c (.bool false)))])
 .ret)
 .skip))))
 (.drop [10,11,12,13,14,15,16,17,18,19] (.reg [un (.mov 8 (.t 3)),
 un (.bin 9 .add (.t 8) (.c (.int .i64 1))),
 un (.asg 3 (.t 9))])))))
def Awf:ACode:=
 (.seq (.reg [un (.asg 2 (.c (.bool false)))])
 (.seq (.seq (.reg [un (.asg 3 (.c (.int .i64 1)))])
 (.block 0 (.loop Abx)))
 (.drop [3,4,5,6,7,10,11,12,13,14,15,16,17,18,19,8,9] (.seq (.reg [un (.asg 2 (.c (.bool true)))])
 .ret))))
abbrev Awu:List RS:=[.t 2]
theorem Axx:Az Tryz.prog Aba 20 Awf Awu=true:=by kernel_rfl
def Acb:ACode:=
 (.seq (.reg [un (.bin 13 .lss (.t 12) (.t 11))])
 (.seq (.cond (.t 13) .skip
 (.exit 0))
 (.seq (.block 1 (.seq (.reg [un (.iad 14 1 (.t 10) (.t 12)),
 un (.ld 15 1 false (.t 14)),
 un (.asg 7 (.t 15))])
 (.drop [14,15] (.reg [un (.mov 16 (.t 5)),
 un (.mov 17 (.t 7)),
 un (.iad 18 1 (.t 16) (.t 17)),
 un (.st 1 (.t 18) (.c (.bool true)))]))))
 (.drop [14,15,7,16,17,18] (.reg [un (.bin 19 .add (.t 12) (.c (.int .i64 1))),
 un (.asg 12 (.t 19))])))))
def Axr:ACode:=
 (.seq (.reg [un (.asg 4 (.c (.nilsl 1)))])
 (.seq (.reg [un (.mov 8 (.t 1)),
 un (.mk 9 1 (.bool false) (.t 8)),
 un (.asg 5 (.t 9))])
 (.drop [8,9] (.seq (.seq (.reg [un (.mov 10 (.t 0)),
 un (.len 11 (.t 10)),
 un (.mov 12 (.c (.int .i64 0)))])
 (.block 0 (.loop Acb)))
 (.drop [10,11,12,13,14,15,7,16,17,18,19] (.seq (.reg [un (.mov 20 (.t 5)),
 un (.asg 4 (.t 20))])
 (.drop [20] .ret)))))))
abbrev Ayb:List RS:=[.t 4]
theorem Ax1:Az Tryz.prog O3 21 Axr Ayb=true:=by kernel_rfl
def Abp:ACode:=
 (.seq (.seq (.reg [un (.mov 6 (.t 1)),
 un (.bin 7 .gtr (.t 6) (.c (.int .i64 0)))])
 (.drop [6] (.cond (.t 7) .skip
 (.exit 0))))
 (.drop [6,7] (.seq (.block 1 (.reg [un (.mov 10 (.t 5)),
 un (.mov 11 (.t 0)),
 un (.bin 12 .mul (.t 10) (.t 11)),
 un (.asg 5 (.t 12))]))
 (.drop [10,11,12] (.reg [un (.mov 8 (.t 1)),
 un (.bin 9 .sub (.t 8) (.c (.int .i64 1))),
 un (.asg 1 (.t 9))])))))
def Awe:ACode:=
 (.seq (.reg [un (.asg 4 (.c (.int .i64 0)))])
 (.seq (.reg [un (.asg 5 (.c (.int .i64 1)))])
 (.seq (.block 0 (.loop Abp))
 (.drop [6,7,10,11,12,8,9] (.seq (.reg [un (.mov 13 (.t 5)),
 un (.asg 4 (.t 13))])
 (.drop [13] .ret))))))
abbrev Av8:List RS:=[.t 4]
theorem Ayo:Az Tryz.prog Og 14 Awe Av8=true:=by kernel_rfl
def Xb:ACode:=
 (.seq (.reg [un (.bin 10 .lss (.t 9) (.t 8))])
 (.seq (.cond (.t 10) .skip
 (.exit 0))
 (.seq (.block 1 (.seq (.reg [un (.mov 11 (.t 9)),
 un (.iad 12 1 (.t 7) (.t 9)),
 un (.ld 13 1 false (.t 12)),
 un (.asg 4 (.t 11)),
 un (.asg 5 (.t 13))])
 (.drop [11,12,13] (.seq (.reg [un (.mov 14 (.t 5)),
 un (.mov 15 (.t 4)),
 un (.bin 16 .eql (.t 14) (.t 15))])
 (.drop [14,15] (.cond (.t 16) (.reg [un (.mov 17 (.t 3)),
 un (.mov 18 (.t 5)),
 un (.bsl 19 1 [(.t 18)]),
 un (.app 20 1 (.t 17) (.t 19)),
 un (.asg 3 (.t 20))])
 .skip))))))
 (.drop [11,12,13,4,5,14,15,16,17,18,19,20] (.reg [un (.bin 21 .add (.t 9) (.c (.int .i64 1))),
 un (.asg 9 (.t 21))])))))
def Apl:ACode:=
 (.seq (.reg [un (.asg 2 (.c (.nilsl 1)))])
 (.seq (.reg [un (.bsl 6 1 []),
 un (.asg 3 (.t 6))])
 (.drop [6] (.seq (.seq (.reg [un (.mov 7 (.t 0)),
 un (.len 8 (.t 7)),
 un (.mov 9 (.c (.int .i64 0)))])
 (.block 0 (.loop Xb)))
 (.drop [7,8,9,10,11,12,13,4,5,14,15,16,17,18,19,20,21] (.seq (.reg [un (.mov 22 (.t 3)),
 un (.asg 2 (.t 22))])
 (.drop [22] .ret)))))))
abbrev Aqg:List RS:=[.t 2]
theorem Asn:Az Tryz.prog Wc 23 Apl Aqg=true:=by kernel_rfl
def Zp:ACode:=
 (.seq (.seq (.reg [un (.mov 13 (.t 8)),
 un (.bin 14 .geq (.t 13) (.c (.int .i64 0)))])
 (.drop [13] (.cond (.t 14) .skip
 (.exit 0))))
 (.drop [13,14] (.seq (.block 1 (.seq (.reg [un (.mov 17 (.t 7)),
 un (.mov 18 (.t 8)),
 un (.mov 19 (.t 2)),
 un (.mov 20 (.t 0)),
 un (.bin 21 .rem (.t 19) (.t 20)),
 un (.iad 22 1 (.t 17) (.t 18)),
 un (.st 1 (.t 22) (.t 21))])
 (.drop [17,18,19,20,21,22] (.reg [un (.mov 23 (.t 2)),
 un (.mov 24 (.t 0)),
 un (.bin 25 .quo (.t 23) (.t 24)),
 un (.asg 2 (.t 25))]))))
 (.drop [17,18,19,20,21,22,23,24,25] (.reg [un (.mov 15 (.t 8)),
 un (.bin 16 .sub (.t 15) (.c (.int .i64 1))),
 un (.asg 8 (.t 16))])))))
def Atb:ACode:=
 (.seq (.reg [un (.asg 6 (.c (.nilsl 1)))])
 (.seq (.reg [un (.mov 9 (.t 1)),
 un (.mk 10 1 (.int .i64 0) (.t 9)),
 un (.asg 7 (.t 10))])
 (.drop [9,10] (.seq (.seq (.reg [un (.mov 11 (.t 1)),
 un (.bin 12 .sub (.t 11) (.c (.int .i64 1))),
 un (.asg 8 (.t 12))])
 (.drop [11,12] (.block 0 (.loop Zp))))
 (.drop [11,12,8,13,14,17,18,19,20,21,22,23,24,25,15,16] (.seq (.reg [un (.mov 26 (.t 7)),
 un (.asg 6 (.t 26))])
 (.drop [26] .ret)))))))
abbrev Aui:List RS:=[.t 6]
theorem As1:Az Tryz.prog Rf 27 Atb Aui=true:=by kernel_rfl
def Xp:ACode:=
 (.seq (.seq (.reg [un (.mov 9 (.t 8)),
 un (.mov 10 (.t 2)),
 un (.len 11 (.t 10)),
 un (.bin 12 .lss (.t 9) (.t 11))])
 (.drop [9,10,11] (.cond (.t 12) .skip
 (.exit 0))))
 (.drop [9,10,11,12] (.seq (.block 1 (.dreg [(un (.mov 15 (.t 7)),[]),
 (un (.fadr 16 0 (.t 3)),[15]),
 (un (.ld 17 1 false (.t 16)),[15]),
 (un (.bin 18 .mul (.t 15) (.t 17)),[]),
 (un (.mov 19 (.t 2)),[15,16,17,18]),
 (un (.mov 20 (.t 8)),[15,16,17,18,19]),
 (un (.iad 21 1 (.t 19) (.t 20)),[15,16,17,18]),
 (un (.ld 22 1 false (.t 21)),[15,16,17,18])]
 [un (.bin 23 .add (.t 18) (.t 22)),
 un (.asg 7 (.t 23))]))
 (.drop [15,16,17,18,19,20,21,22,23] (.reg [un (.mov 13 (.t 8)),
 un (.bin 14 .add (.t 13) (.c (.int .i64 1))),
 un (.asg 8 (.t 14))])))))
def Art:ACode:=
 (.seq (.reg [un (.box 3 (.t 0)),
 un (.asg 6 (.c (.int .i64 0)))])
 (.seq (.reg [un (.asg 7 (.c (.int .i64 0)))])
 (.seq (.seq (.reg [un (.asg 8 (.c (.int .i64 0)))])
 (.block 0 (.loop Xp)))
 (.drop [8,9,10,11,12,15,16,17,18,19,20,21,22,23,13,14] (.seq (.reg [un (.fadr 24 1 (.t 3)),
 un (.ld 25 1 false (.t 24)),
 un (.mov 26 (.t 1)),
 un (.iad 27 2 (.t 25) (.t 26)),
 un (.fadr 28 1 (.t 27)),
 un (.ld 29 1 false (.t 28)),
 un (.mov 30 (.t 7)),
 un (.iad 31 1 (.t 29) (.t 30)),
 un (.ld 32 1 false (.t 31)),
 un (.asg 6 (.t 32))])
 (.drop [24,25,26,27,28,29,30,31,32] .ret))))))
abbrev Arf:List RS:=[.t 6]
theorem Ary:Az Tryz.prog Wr 33 Art Arf=true:=by kernel_rfl
def V1:ACode:=
 (.seq (.seq (.reg [un (.mov 6 (.t 4)),
 un (.mov 7 (.t 0)),
 un (.slen 8 (.t 7)),
 un (.bin 9 .lss (.t 6) (.t 8))])
 (.drop [6,7,8] (.cond (.t 9) .skip
 (.exit 0))))
 (.drop [6,7,8,9] (.seq (.block 1 (.dreg [(un (.fadr 12 1 (.t 3)),[18]),
 (un (.ld 13 1 false (.t 12)),[18]),
 (un (.mov 14 (.t 0)),[12,13]),
 (un (.mov 15 (.t 4)),[12,13,14]),
 (un (.sidx 16 (.t 14) (.t 15)),[12,13]),
 (un (.bin 17 .sub (.t 16) (.c (.int .u8 48))),[12,13]),
 (un (.cnv 18 .i64 (.t 17)),[12,13]),
 (un (.bsl 19 1 [(.t 18)]),[12,13])]
 [un (.app 20 1 (.t 13) (.t 19)),
 un (.fadr 21 1 (.t 3)),
 un (.st 1 (.t 21) (.t 20))]))
 (.drop [12,13,14,15,16,17,18,19,20,21] (.reg [un (.mov 10 (.t 4)),
 un (.bin 11 .add (.t 10) (.c (.int .i64 1))),
 un (.asg 4 (.t 11))])))))
def Ane:ACode:=
 (.seq (.reg [un (.alc 2 (.agg [.int .i64 0,.nilsl 1]))])
 (.seq (.reg [un (.bld 5 [.int .i64 0,.nilsl 1] [(0,1,(.c (.int .i64 2)))]),
 un (.alc 3 (.agg [.int .i64 0,.nilsl 1])),
 un (.st 2 (.t 3) (.t 5))])
 (.drop [5] (.seq (.seq (.reg [un (.asg 4 (.c (.int .i64 0)))])
 (.block 0 (.loop V1)))
 (.drop [4,6,7,8,9,12,13,14,15,16,17,18,19,20,21,10,11] (.seq (.reg [un (.ld 22 2 true (.t 3)),
 un (.st 2 (.t 2) (.t 22))])
 (.drop [22] .ret)))))))
abbrev Any:List RS:=[.c 2 2 true]
theorem Am0:Az Tryz.prog Bm 23 Ane Any=true:=by kernel_rfl
def Vx:ACode:=
 (.seq (.seq (.reg [un (.mov 6 (.t 4)),
 un (.mov 7 (.t 0)),
 un (.mov 8 (.t 0)),
 un (.bin 9 .mul (.t 7) (.t 8)),
 un (.mov 10 (.t 0)),
 un (.bin 11 .mul (.t 9) (.t 10)),
 un (.bin 12 .lss (.t 6) (.t 11))])
 (.drop [6,7,8,9,10,11] (.cond (.t 12) .skip
 (.exit 0))))
 (.drop [6,7,8,9,10,11,12] (.seq (.block 1 (.dreg [(un (.fadr 15 1 (.t 3)),[35]),
 (un (.ld 16 1 false (.t 15)),[35]),
 (un (.mov 17 (.t 4)),[15,16]),
 (un (.mov 18 (.t 0)),[15,16,17]),
 (un (.mov 19 (.t 0)),[15,16,17,18]),
 (un (.bin 20 .mul (.t 18) (.t 19)),[15,16,17]),
 (un (.bin 21 .quo (.t 17) (.t 20)),[15,16]),
 (un (.mov 22 (.t 0)),[15,16,17,18,19,20,21]),
 (un (.bin 23 .add (.t 21) (.t 22)),[15,16]),
 (un (.mov 24 (.t 4)),[15,16,17,18,19,20,21,22,23]),
 (un (.mov 25 (.t 0)),[15,16,17,18,19,20,21,22,23,24]),
 (un (.bin 26 .quo (.t 24) (.t 25)),[15,16,17,18,19,20,21,22,23]),
 (un (.mov 27 (.t 0)),[15,16,17,18,19,20,21,22,23,24,25,26]),
 (un (.bin 28 .rem (.t 26) (.t 27)),[15,16,17,18,19,20,21,22,23]),
 (un (.bin 29 .sub (.t 23) (.t 28)),[15,16]),
 (un (.mov 30 (.t 4)),[15,16,17,18,19,20,21,22,23,24,25,26,27,28,29]),
 (un (.mov 31 (.t 0)),[15,16,17,18,19,20,21,22,23,24,25,26,27,28,29,30]),
 (un (.bin 32 .rem (.t 30) (.t 31)),[15,16,17,18,19,20,21,22,23,24,25,26,27,28,29]),
 (un (.bin 33 .add (.t 29) (.t 32)),[15,16]),
 (un (.mov 34 (.t 0)),[15,16,17,18,19,20,21,22,23,24,25,26,27,28,29,30,31,32,33]),
 (un (.bin 35 .rem (.t 33) (.t 34)),[15,16]),
 (un (.bsl 36 1 [(.t 35)]),[15,16])]
 [un (.app 37 1 (.t 16) (.t 36)),
 un (.fadr 38 1 (.t 3)),
 un (.st 1 (.t 38) (.t 37))]))
 (.drop [15,16,17,18,19,20,21,22,23,24,25,26,27,28,29,30,31,32,33,34,35,36,37,38] (.reg [un (.mov 13 (.t 4)),
 un (.bin 14 .add (.t 13) (.c (.int .i64 1))),
 un (.asg 4 (.t 14))])))))
def Ao3:ACode:=
 (.seq (.reg [un (.alc 2 (.agg [.int .i64 0,.nilsl 1]))])
 (.seq (.reg [un (.bld 5 [.int .i64 0,.nilsl 1] [(0,1,(.c (.int .i64 3)))]),
 un (.alc 3 (.agg [.int .i64 0,.nilsl 1])),
 un (.st 2 (.t 3) (.t 5))])
 (.drop [5] (.seq (.seq (.reg [un (.asg 4 (.c (.int .i64 0)))])
 (.block 0 (.loop Vx)))
 (.drop [4,6,7,8,9,10,11,12,15,16,17,18,19,20,21,22,23,24,25,26,27,28,29,30,31,32,33,34,35,36,37,38,13,14] (.seq (.reg [un (.ld 39 2 true (.t 3)),
 un (.st 2 (.t 2) (.t 39))])
 (.drop [39] .ret)))))))
abbrev Ans:List RS:=[.c 2 2 true]
theorem Ao1:Az Tryz.prog M2 40 Ao3 Ans=true:=by kernel_rfl
def Adc:ACode:=
 (.seq (.dreg [(un (.mov 4 (.t 0)),[]),
 (un (.nck 5 (.t 4)),[]),
 (un (.fadr 6 1 (.t 5)),[]),
 (un (.ld 7 1 false (.t 6)),[]),
 (un (.mov 8 (.t 0)),[4,5,6,7]),
 (un (.nck 9 (.t 8)),[4,5,6,7]),
 (un (.fadr 10 0 (.t 9)),[4,5,6,7]),
 (un (.ld 11 1 false (.t 10)),[4,5,6,7]),
 (un (.len 12 (.t 11)),[4,5,6,7])]
 [un (.bin 13 .lss (.t 7) (.t 12))])
 (.drop [4,5,6,7,8,9,10,11,12] (.cond (.t 13) (.dreg [(un (.mov 14 (.t 0)),[]),
 (un (.nck 15 (.t 14)),[]),
 (un (.fadr 16 0 (.t 15)),[]),
 (un (.ld 17 1 false (.t 16)),[]),
 (un (.mov 18 (.t 0)),[14,15,16,17]),
 (un (.nck 19 (.t 18)),[14,15,16,17]),
 (un (.fadr 20 1 (.t 19)),[14,15,16,17]),
 (un (.ld 21 1 false (.t 20)),[14,15,16,17])]
 [un (.iad 22 1 (.t 17) (.t 21)),
 un (.ld 23 1 false (.t 22)),
 un (.cnv 24 .i64 (.t 23)),
 un (.asg 3 (.t 24))])
 .skip)))
def Akf:ACode:=
 (.seq (.reg [un (.asg 2 (.c (.int .i64 0)))])
 (.seq (.reg [un (.asg 3 (.c (.int .i64 0)))])
 (.seq (.cut Adc)
 (.drop [4,5,6,7,8,9,10,11,12,13,14,15,16,17,18,19,20,21,22,23,24] (.seq (.reg [un (.mov 25 (.t 0)),
 un (.nck 26 (.t 25)),
 un (.fadr 27 1 (.t 26)),
 un (.ld 28 1 false (.t 27)),
 un (.bin 29 .add (.t 28) (.c (.int .i64 1))),
 un (.nck 30 (.t 25)),
 un (.fadr 31 1 (.t 30)),
 un (.st 1 (.t 31) (.t 29))])
 (.drop [25,26,27,28,29,30,31] (.seq (.reg [un (.mov 32 (.t 0)),
 un (.mov 33 (.t 0)),
 un (.nck 34 (.t 33)),
 un (.fadr 35 2 (.t 34)),
 un (.ld 36 1 false (.t 35)),
 un (.bin 37 .mul (.t 36) (.c (.int .u64 6364136223846793005))),
 un (.mov 38 (.t 3)),
 un (.cnv 39 .u64 (.t 38)),
 un (.bin 40 .add (.t 37) (.t 39)),
 un (.bin 41 .add (.t 40) (.c (.int .u64 550289))),
 un (.nck 42 (.t 32)),
 un (.fadr 43 2 (.t 42)),
 un (.st 1 (.t 43) (.t 41))])
 (.drop [32,33,34,35,36,37,38,39,40,41,42,43] (.seq (.seq (.dreg [(un (.mov 44 (.t 0)),[]),
 (un (.nck 45 (.t 44)),[]),
 (un (.fadr 46 1 (.t 45)),[]),
 (un (.ld 47 1 false (.t 46)),[]),
 (un (.mov 48 (.t 0)),[44,45,46,47]),
 (un (.nck 49 (.t 48)),[44,45,46,47]),
 (un (.fadr 50 0 (.t 49)),[44,45,46,47]),
 (un (.ld 51 1 false (.t 50)),[44,45,46,47]),
 (un (.len 52 (.t 51)),[44,45,46,47])]
 [un (.bin 53 .leq (.t 47) (.t 52))])
 (.drop [44,45,46,47,48,49,50,51,52] (.cond (.t 53) (.seq (.reg [un (.mov 54 (.t 3)),
 un (.asg 2 (.t 54))])
 (.drop [54] .ret))
 .skip)))
 (.drop [44,45,46,47,48,49,50,51,52,53,54] (.seq (.reg [un (.mov 55 (.t 0)),
 un (.nck 56 (.t 55)),
 un (.fadr 57 2 (.t 56)),
 un (.ld 58 1 false (.t 57)),
 un (.bin 59 .shr (.t 58) (.c (.int .u64 40))),
 un (.bin 60 .and (.t 59) (.c (.int .u64 255))),
 un (.cnv 61 .i64 (.t 60)),
 un (.asg 2 (.t 61))])
 (.drop [55,56,57,58,59,60,61] .ret))))))))))))
abbrev Ajn:List RS:=[.t 2]
theorem Ajl:Az Tryz.prog Kk 62 Akf Ajn=true:=by kernel_rfl
def S5:ACode:=
 (.seq (.seq (.reg [un (.mov 14 (.t 13)),
 un (.mov 15 (.t 1)),
 un (.bin 16 .lss (.t 14) (.t 15))])
 (.drop [14,15] (.cond (.t 16) .skip
 (.exit 0))))
 (.drop [14,15,16] (.seq (.block 1 (.seq (.reg [un (.mov 19 (.t 11)),
 un (.mov 20 (.t 4)),
 un (.mov 21 (.t 0)),
 un (.fadr 22 0 (.t 7)),
 un (.ld 23 1 false (.t 22)),
 un (.bin 24 .rem (.t 21) (.t 23)),
 un (.iad 25 1 (.t 20) (.t 24)),
 un (.ld 26 1 false (.t 25)),
 un (.mov 27 (.t 12)),
 un (.bin 28 .mul (.t 26) (.t 27)),
 un (.bin 29 .add (.t 19) (.t 28)),
 un (.asg 11 (.t 29))])
 (.drop [19,20,21,22,23,24,25,26,27,28,29] (.seq (.reg [un (.mov 30 (.t 0)),
 un (.fadr 31 0 (.t 7)),
 un (.ld 32 1 false (.t 31)),
 un (.bin 33 .quo (.t 30) (.t 32)),
 un (.asg 0 (.t 33))])
 (.drop [30,31,32,33] (.reg [un (.mov 34 (.t 12)),
 un (.fadr 35 0 (.t 8)),
 un (.ld 36 1 false (.t 35)),
 un (.bin 37 .mul (.t 34) (.t 36)),
 un (.asg 12 (.t 37))]))))))
 (.drop [19,20,21,22,23,24,25,26,27,28,29,30,31,32,33,34,35,36,37] (.reg [un (.mov 17 (.t 13)),
 un (.bin 18 .add (.t 17) (.c (.int .i64 1))),
 un (.asg 13 (.t 18))])))))
def Ai2:ACode:=
 (.seq (.reg [un (.box 7 (.t 2)),
 un (.box 8 (.t 3)),
 un (.asg 10 (.c (.int .i64 0)))])
 (.seq (.reg [un (.asg 11 (.c (.int .i64 0))),
 un (.asg 12 (.c (.int .i64 1)))])
 (.seq (.seq (.reg [un (.asg 13 (.c (.int .i64 0)))])
 (.block 0 (.loop S5)))
 (.drop [13,14,15,16,19,20,21,22,23,24,25,26,27,28,29,30,31,32,33,34,35,36,37,17,18] (.seq (.reg [un (.mov 38 (.t 11)),
 un (.asg 10 (.t 38))])
 (.drop [38] .ret))))))
abbrev Ah3:List RS:=[.t 10]
theorem Aiu:Az Tryz.prog O6 39 Ai2 Ah3=true:=by kernel_rfl
def Zg:ACode:=
 (.seq (.seq (.reg [un (.mov 6 (.t 0)),
 un (.mov 7 (.t 4)),
 un (.bin 8 .shr (.t 6) (.t 7)),
 un (.bin 9 .gtr (.t 8) (.c (.int .i64 0)))])
 (.drop [6,7,8] (.cond (.t 9) .skip
 (.exit 0))))
 (.drop [6,7,8,9] (.seq (.block 1 (.seq (.reg [un (.mov 12 (.t 0)),
 un (.mov 13 (.t 4)),
 un (.bin 14 .shr (.t 12) (.t 13)),
 un (.bin 15 .and (.t 14) (.c (.int .i64 1))),
 un (.bin 16 .eql (.t 15) (.c (.int .i64 1)))])
 (.drop [12,13,14,15] (.cond (.t 16) (.reg [un (.mov 17 (.t 3)),
 un (.mov 18 (.t 4)),
 un (.bsl 19 1 [(.t 18)]),
 un (.app 20 1 (.t 17) (.t 19)),
 un (.asg 3 (.t 20))])
 .skip))))
 (.drop [12,13,14,15,16,17,18,19,20] (.reg [un (.mov 10 (.t 4)),
 un (.bin 11 .add (.t 10) (.c (.int .i64 1))),
 un (.asg 4 (.t 11))])))))
def Asp:ACode:=
 (.seq (.reg [un (.asg 2 (.c (.nilsl 1)))])
 (.seq (.reg [un (.bsl 5 1 []),
 un (.asg 3 (.t 5))])
 (.drop [5] (.seq (.seq (.reg [un (.asg 4 (.c (.int .i64 0)))])
 (.block 0 (.loop Zg)))
 (.drop [4,6,7,8,9,12,13,14,15,16,17,18,19,20,10,11] (.seq (.reg [un (.mov 21 (.t 3)),
 un (.asg 2 (.t 21))])
 (.drop [21] .ret)))))))
abbrev Asu:List RS:=[.t 2]
theorem Aue:Az Tryz.prog Yn 22 Asp Asu=true:=by kernel_rfl
def Su:ACode:=
 (.seq (.seq (.reg [un (.mov 6 (.t 4)),
 un (.mov 7 (.t 0)),
 un (.bin 8 .lss (.t 6) (.t 7))])
 (.drop [6,7] (.cond (.t 8) .skip
 (.exit 0))))
 (.drop [6,7,8] (.seq (.block 1 (.reg [un (.mov 11 (.t 3)),
 un (.mov 12 (.t 4)),
 un (.bsl 13 1 [(.t 12)]),
 un (.app 14 1 (.t 11) (.t 13)),
 un (.asg 3 (.t 14))]))
 (.drop [11,12,13,14] (.reg [un (.mov 9 (.t 4)),
 un (.bin 10 .add (.t 9) (.c (.int .i64 1))),
 un (.asg 4 (.t 10))])))))
def Aix:ACode:=
 (.seq (.reg [un (.asg 2 (.c (.nilsl 1)))])
 (.seq (.reg [un (.bsl 5 1 []),
 un (.asg 3 (.t 5))])
 (.drop [5] (.seq (.seq (.reg [un (.asg 4 (.c (.int .i64 0)))])
 (.block 0 (.loop Su)))
 (.drop [4,6,7,8,11,12,13,14,9,10] (.seq (.reg [un (.mov 15 (.t 3)),
 un (.asg 2 (.t 15))])
 (.drop [15] .ret)))))))
abbrev Aiv:List RS:=[.t 2]
theorem Ajp:Az Tryz.prog F4 16 Aix Aiv=true:=by kernel_rfl
def Atz:ACode:=
 (.seq (.reg [un (.asg 4 (.c (.int .i64 0)))])
 (.seq (.seq (.reg [un (.mov 5 (.t 0)),
 un (.mov 6 (.t 1)),
 un (.bin 7 .gtr (.t 5) (.t 6))])
 (.drop [5,6] (.cond (.t 7) (.seq (.reg [un (.mov 8 (.t 0)),
 un (.asg 4 (.t 8))])
 (.drop [8] .ret))
 .skip)))
 (.drop [5,6,7,8] (.seq (.reg [un (.mov 9 (.t 1)),
 un (.asg 4 (.t 9))])
 (.drop [9] .ret)))))
abbrev At0:List RS:=[.t 4]
theorem Ata:Az Tryz.prog Ri 10 Atz At0=true:=by kernel_rfl
def P4:ACode:=
 (.seq (.reg [un (.bin 14 .lss (.t 13) (.t 12))])
 (.seq (.cond (.t 14) .skip
 (.exit 0))
 (.seq (.block 1 (.seq (.reg [un (.mov 15 (.t 13)),
 un (.iad 16 1 (.t 11) (.t 13)),
 un (.ld 17 1 false (.t 16)),
 un (.asg 5 (.t 15)),
 un (.asg 6 (.t 17))])
 (.drop [15,16,17] (.seq (.reg [un (.mov 18 (.t 6)),
 un (.bin 19 .lss (.t 18) (.c (.int .i64 0))),
 un (.asg 20 (.t 19)),
 ⟨some (20,false),.mov 21 (.t 6)⟩,
 ⟨some (20,false),.mov 22 (.t 5)⟩,
 ⟨some (20,false),.bin 23 .gtr (.t 21) (.t 22)⟩,
 un (.pick 24 (.t 20) (.c (.bool true)) (.t 23)),
 un (.asg 25 (.t 24)),
 ⟨some (25,false),.mov 26 (.t 1)⟩,
 ⟨some (25,false),.mov 27 (.t 6)⟩,
 ⟨some (25,false),.iad 28 1 (.t 26) (.t 27)⟩,
 ⟨some (25,false),.ld 29 1 false (.t 28)⟩,
 ⟨some (25,false),.mov 30 (.t 6)⟩,
 ⟨some (25,false),.bin 31 .neq (.t 29) (.t 30)⟩,
 un (.pick 32 (.t 25) (.c (.bool true)) (.t 31))])
 (.drop [18,19,20,21,22,23,24,25,26,27,28,29,30,31] (.cond (.t 32) (.seq (.reg [un (.asg 4 (.c (.bool false)))])
 .ret)
 .skip))))))
 (.drop [15,16,17,5,6,18,19,20,21,22,23,24,25,26,27,28,29,30,31,32] (.reg [un (.bin 33 .add (.t 13) (.c (.int .i64 1))),
 un (.asg 13 (.t 33))])))))
def Agu:ACode:=
 (.seq (.reg [un (.asg 4 (.c (.bool false)))])
 (.seq (.seq (.reg [un (.mov 7 (.t 1)),
 un (.len 8 (.t 7)),
 un (.mov 9 (.t 0)),
 un (.bin 10 .neq (.t 8) (.t 9))])
 (.drop [7,8,9] (.cond (.t 10) (.seq (.reg [un (.asg 4 (.c (.bool false)))])
 .ret)
 .skip)))
 (.drop [7,8,9,10] (.seq (.seq (.reg [un (.mov 11 (.t 1)),
 un (.len 12 (.t 11)),
 un (.mov 13 (.c (.int .i64 0)))])
 (.block 0 (.loop P4)))
 (.drop [11,12,13,14,15,16,17,5,6,18,19,20,21,22,23,24,25,26,27,28,29,30,31,32,33] (.seq (.reg [un (.asg 4 (.c (.bool true)))])
 .ret))))))
abbrev Agm:List RS:=[.t 4]
theorem Aho:Az Tryz.prog Nj 34 Agu Agm=true:=by kernel_rfl
def Acv:ACode:=
 (.seq (.seq (.reg [un (.mov 9 (.t 6)),
 un (.mov 10 (.t 1)),
 un (.len 11 (.t 10)),
 un (.bin 12 .lss (.t 9) (.t 11))])
 (.drop [9,10,11] (.cond (.t 12) .skip
 (.exit 0))))
 (.drop [9,10,11,12] (.seq (.block 1 (.reg [un (.mov 15 (.t 5)),
 un (.mov 16 (.t 1)),
 un (.mov 17 (.t 6)),
 un (.iad 18 1 (.t 16) (.t 17)),
 un (.ld 19 1 false (.t 18)),
 un (.iad 20 1 (.t 15) (.t 19)),
 un (.st 1 (.t 20) (.c (.bool true)))]))
 (.drop [15,16,17,18,19,20] (.reg [un (.mov 13 (.t 6)),
 un (.bin 14 .add (.t 13) (.c (.int .i64 1))),
 un (.asg 6 (.t 14))])))))
def A0o:ACode:=
 (.seq (.reg [un (.asg 4 (.c (.nilsl 1)))])
 (.seq (.reg [un (.mov 7 (.t 0)),
 un (.mk 8 1 (.bool false) (.t 7)),
 un (.asg 5 (.t 8))])
 (.drop [7,8] (.seq (.seq (.reg [un (.asg 6 (.c (.int .i64 0)))])
 (.block 0 (.loop Acv)))
 (.drop [6,9,10,11,12,15,16,17,18,19,20,13,14] (.seq (.reg [un (.mov 21 (.t 5)),
 un (.asg 4 (.t 21))])
 (.drop [21] .ret)))))))
abbrev A01:List RS:=[.t 4]
theorem A1m:Az Tryz.prog Aei 22 A0o A01=true:=by kernel_rfl
def Zj:ACode:=
 (.seq (.seq (.reg [un (.mov 6 (.t 4)),
 un (.mov 7 (.t 0)),
 un (.len 8 (.t 7)),
 un (.bin 9 .lss (.t 6) (.t 8))])
 (.drop [6,7,8] (.cond (.t 9) .skip
 (.exit 0))))
 (.drop [6,7,8,9] (.seq (.block 1 (.seq (.reg [un (.mov 12 (.t 0)),
 un (.mov 13 (.t 4)),
 un (.iad 14 1 (.t 12) (.t 13)),
 un (.ld 15 1 false (.t 14))])
 (.drop [12,13,14] (.cond (.t 15) (.reg [un (.mov 16 (.t 3)),
 un (.mov 17 (.t 4)),
 un (.bsl 18 1 [(.t 17)]),
 un (.app 19 1 (.t 16) (.t 18)),
 un (.asg 3 (.t 19))])
 .skip))))
 (.drop [12,13,14,15,16,17,18,19] (.reg [un (.mov 10 (.t 4)),
 un (.bin 11 .add (.t 10) (.c (.int .i64 1))),
 un (.asg 4 (.t 11))])))))
def Ati:ACode:=
 (.seq (.reg [un (.asg 2 (.c (.nilsl 1)))])
 (.seq (.reg [un (.bsl 5 1 []),
 un (.asg 3 (.t 5))])
 (.drop [5] (.seq (.seq (.reg [un (.asg 4 (.c (.int .i64 0)))])
 (.block 0 (.loop Zj)))
 (.drop [4,6,7,8,9,12,13,14,15,16,17,18,19,10,11] (.seq (.reg [un (.mov 20 (.t 3)),
 un (.asg 2 (.t 20))])
 (.drop [20] .ret)))))))
abbrev At7:List RS:=[.t 2]
theorem Ass:Az Tryz.prog Yo 21 Ati At7=true:=by kernel_rfl
def Aar:ACode:=
 (.seq (.reg [un (.bin 11 .lss (.t 10) (.t 9))])
 (.seq (.cond (.t 11) .skip
 (.exit 0))
 (.seq (.block 1 (.seq (.reg [un (.iad 12 2 (.t 8) (.t 10)),
 un (.ld 13 2 true (.t 12)),
 un (.alc 5 (.agg [.int .i64 0,.nilsl 1])),
 un (.st 2 (.t 5) (.t 13))])
 (.drop [12,13] (.reg [un (.mov 14 (.t 3)),
 un (.fadr 15 0 (.t 5)),
 un (.ld 16 1 false (.t 15)),
 un (.bsl 17 1 [(.t 16)]),
 un (.app 18 1 (.t 14) (.t 17)),
 un (.asg 3 (.t 18))]))))
 (.drop [12,13,5,14,15,16,17,18] (.reg [un (.bin 19 .add (.t 10) (.c (.int .i64 1))),
 un (.asg 10 (.t 19))])))))
def Aua:ACode:=
 (.seq (.reg [un (.box 1 (.t 0)),
 un (.asg 2 (.c (.nilsl 1)))])
 (.seq (.reg [un (.bsl 6 1 []),
 un (.asg 3 (.t 6))])
 (.drop [6] (.seq (.seq (.reg [un (.fadr 7 1 (.t 1)),
 un (.ld 8 1 false (.t 7)),
 un (.len 9 (.t 8)),
 un (.mov 10 (.c (.int .i64 0)))])
 (.drop [7] (.block 0 (.loop Aar))))
 (.drop [7,8,9,10,11,12,13,5,14,15,16,17,18,19] (.seq (.reg [un (.mov 20 (.t 3)),
 un (.asg 2 (.t 20))])
 (.drop [20] .ret)))))))
abbrev At4:List RS:=[.t 2]
theorem Atc:Az Tryz.prog Ro 21 Aua At4=true:=by kernel_rfl
def Y1:ACode:=
 (.seq (.seq (.reg [un (.mov 6 (.t 5)),
 un (.mov 7 (.t 0)),
 un (.len 8 (.t 7)),
 un (.bin 9 .lss (.t 6) (.t 8))])
 (.drop [6,7,8] (.cond (.t 9) .skip
 (.exit 0))))
 (.drop [6,7,8,9] (.seq (.block 1 (.seq (.dreg [(un (.mov 12 (.t 0)),[]),
 (un (.mov 13 (.t 5)),[12]),
 (un (.iad 14 1 (.t 12) (.t 13)),[]),
 (un (.ld 15 1 false (.t 14)),[]),
 (un (.mov 16 (.t 1)),[12,13,14,15]),
 (un (.mov 17 (.t 5)),[12,13,14,15,16]),
 (un (.iad 18 1 (.t 16) (.t 17)),[12,13,14,15]),
 (un (.ld 19 1 false (.t 18)),[12,13,14,15])]
 [un (.bin 20 .neq (.t 15) (.t 19))])
 (.drop [12,13,14,15,16,17,18,19] (.cond (.t 20) (.seq (.dreg [(un (.mov 21 (.t 0)),[]),
 (un (.mov 22 (.t 5)),[21]),
 (un (.iad 23 1 (.t 21) (.t 22)),[]),
 (un (.ld 24 1 false (.t 23)),[]),
 (un (.mov 25 (.t 1)),[21,22,23,24]),
 (un (.mov 26 (.t 5)),[21,22,23,24,25]),
 (un (.iad 27 1 (.t 25) (.t 26)),[21,22,23,24]),
 (un (.ld 28 1 false (.t 27)),[21,22,23,24])]
 [un (.bin 29 .lss (.t 24) (.t 28)),
 un (.asg 4 (.t 29))])
 (.drop [21,22,23,24,25,26,27,28,29] .ret))
 .skip))))
 (.drop [12,13,14,15,16,17,18,19,20,21,22,23,24,25,26,27,28,29] (.reg [un (.mov 10 (.t 5)),
 un (.bin 11 .add (.t 10) (.c (.int .i64 1))),
 un (.asg 5 (.t 11))])))))
def Aty:ACode:=
 (.seq (.reg [un (.asg 4 (.c (.bool false)))])
 (.seq (.seq (.reg [un (.asg 5 (.c (.int .i64 0)))])
 (.block 0 (.loop Y1)))
 (.drop [5,6,7,8,9,12,13,14,15,16,17,18,19,20,21,22,23,24,25,26,27,28,29,10,11] (.seq (.reg [un (.asg 4 (.c (.bool false)))])
 .ret))))
abbrev Aud:List RS:=[.t 4]
theorem Auh:Az Tryz.prog Rp 30 Aty Aud=true:=by kernel_rfl
def W3:ACode:=
 (.seq (.seq (.reg [un (.mov 5 (.t 4)),
 un (.mov 6 (.t 0)),
 un (.len 7 (.t 6)),
 un (.bin 8 .lss (.t 5) (.t 7))])
 (.drop [5,6,7] (.cond (.t 8) .skip
 (.exit 0))))
 (.drop [5,6,7,8] (.seq (.block 1 (.seq (.reg [un (.mov 11 (.t 0)),
 un (.mov 12 (.t 4)),
 un (.iad 13 1 (.t 11) (.t 12)),
 un (.ld 14 1 false (.t 13)),
 un (.mov 15 (.t 4)),
 un (.bin 16 .eql (.t 14) (.t 15))])
 (.drop [11,12,13,14,15] (.cond (.t 16) (.reg [un (.mov 17 (.t 3)),
 un (.bin 18 .add (.t 17) (.c (.int .i64 1))),
 un (.asg 3 (.t 18))])
 .skip))))
 (.drop [11,12,13,14,15,16,17,18] (.reg [un (.mov 9 (.t 4)),
 un (.bin 10 .add (.t 9) (.c (.int .i64 1))),
 un (.asg 4 (.t 10))])))))
def Apt:ACode:=
 (.seq (.reg [un (.asg 2 (.c (.int .i64 0)))])
 (.seq (.reg [un (.asg 3 (.c (.int .i64 0)))])
 (.seq (.seq (.reg [un (.asg 4 (.c (.int .i64 0)))])
 (.block 0 (.loop W3)))
 (.drop [4,5,6,7,8,11,12,13,14,15,16,17,18,9,10] (.seq (.reg [un (.mov 19 (.t 3)),
 un (.asg 2 (.t 19))])
 (.drop [19] .ret))))))
abbrev Asb:List RS:=[.t 2]
theorem Aq8:Az Tryz.prog Is 20 Apt Asb=true:=by kernel_rfl
def Aow:ACode:=
 (.seq (.reg [un (.mov 19 (.t 1)),
 un (.mov 20 (.t 2)),
 un (.bin 21 .gtr (.t 19) (.t 20))])
 (.drop [19,20] (.cond (.t 21) (.reg [un (.mov 22 (.t 2)),
 un (.mov 23 (.t 1)),
 un (.asg 1 (.t 22)),
 un (.asg 2 (.t 23))])
 .skip)))
def Abu:ACode:=
 (.seq (.reg [un (.bin 27 .lss (.t 26) (.t 25))])
 (.seq (.cond (.t 27) .skip
 (.exit 0))
 (.seq (.block 1 (.seq (.reg [un (.mov 28 (.t 26)),
 un (.asg 7 (.t 28))])
 (.drop [28] (.seq (.reg [un (.mov 29 (.t 0)),
 un (.mov 30 (.t 7)),
 un (.iad 31 1 (.t 29) (.t 30)),
 un (.ld 32 1 false (.t 31)),
 un (.mov 33 (.t 2)),
 un (.bin 34 .eql (.t 32) (.t 33))])
 (.drop [29,30,31,32,33] (.cond (.t 34) (.reg [un (.mov 35 (.t 0)),
 un (.mov 36 (.t 7)),
 un (.mov 37 (.t 1)),
 un (.iad 38 1 (.t 35) (.t 36)),
 un (.st 1 (.t 38) (.t 37))])
 .skip))))))
 (.drop [28,7,29,30,31,32,33,34,35,36,37,38] (.reg [un (.bin 39 .add (.t 26) (.c (.int .i64 1))),
 un (.asg 26 (.t 39))])))))
def Ax7:ACode:=
 (.seq (.reg [un (.asg 6 (.c (.bool false)))])
 (.seq (.dregp 2 [1] [(un (.mov 8 (.t 0)),[]),
 (un (.mov 9 (.t 1)),[8]),
 (un (.iad 10 1 (.t 8) (.t 9)),[]),
 (un (.ld 11 1 false (.t 10)),[]),
 (un (.mov 12 (.t 0)),[8,9,10,11,11]),
 (un (.mov 13 (.t 2)),[8,9,10,11,12,11]),
 (un (.iad 14 1 (.t 12) (.t 13)),[8,9,10,11,11]),
 (un (.ld 15 1 false (.t 14)),[8,9,10,11,11]),
 (un (.asg 1 (.t 11)),[12,13,14,15])]
 [un (.asg 2 (.t 15))])
 (.drop [8,9,10,11,12,13,14,15] (.seq (.seq (.reg [un (.mov 16 (.t 1)),
 un (.mov 17 (.t 2)),
 un (.bin 18 .eql (.t 16) (.t 17))])
 (.drop [16,17] (.cond (.t 18) (.seq (.reg [un (.asg 6 (.c (.bool false)))])
 .ret)
 .skip)))
 (.drop [16,17,18] (.seq (.cut Aow)
 (.drop [19,20,21,22,23] (.seq (.seq (.reg [un (.mov 24 (.t 0)),
 un (.len 25 (.t 24)),
 un (.mov 26 (.c (.int .i64 0)))])
 (.drop [24] (.block 0 (.loop Abu))))
 (.drop [24,25,26,27,28,7,29,30,31,32,33,34,35,36,37,38,39] (.seq (.reg [un (.asg 6 (.c (.bool true)))])
 .ret))))))))))
abbrev Ax4:List RS:=[.t 6]
theorem Ayp:Az Tryz.prog Abh 40 Ax7 Ax4=true:=by kernel_rfl
def Acg:ACode:=
 (.seq (.seq (.reg [un (.mov 9 (.t 1)),
 un (.bin 10 .gtr (.t 9) (.c (.int .i64 0)))])
 (.drop [9] (.cond (.t 10) .skip
 (.exit 0))))
 (.drop [9,10] (.seq (.block 1 (.seq (.seq (.reg [un (.mov 13 (.t 3)),
 un (.mov 14 (.t 0)),
 un (.mov 15 (.t 2)),
 un (.bin 16 .rem (.t 14) (.t 15)),
 un (.iad 17 1 (.t 13) (.t 16)),
 un (.ld 18 1 false (.t 17)),
 un (.un 19 .not (.t 18))])
 (.drop [13,14,15,16,17,18] (.cond (.t 19) (.seq (.reg [un (.asg 8 (.c (.bool false)))])
 .ret)
 .skip)))
 (.drop [13,14,15,16,17,18,19] (.reg [un (.mov 20 (.t 0)),
 un (.mov 21 (.t 2)),
 un (.bin 22 .quo (.t 20) (.t 21)),
 un (.asg 0 (.t 22))]))))
 (.drop [13,14,15,16,17,18,19,20,21,22] (.reg [un (.mov 11 (.t 1)),
 un (.bin 12 .sub (.t 11) (.c (.int .i64 1))),
 un (.asg 1 (.t 12))])))))
def Axh:ACode:=
 (.seq (.reg [un (.asg 8 (.c (.bool false)))])
 (.seq (.block 0 (.loop Acg))
 (.drop [9,10,13,14,15,16,17,18,19,20,21,22,11,12] (.seq (.reg [un (.asg 8 (.c (.bool true)))])
 .ret))))
abbrev Av9:List RS:=[.t 8]
theorem Axt:Az Tryz.prog Aax 23 Axh Av9=true:=by kernel_rfl
def U7:ACode:=
 (.seq (.seq (.reg [un (.mov 9 (.t 1)),
 un (.bin 10 .gtr (.t 9) (.c (.int .i64 0)))])
 (.drop [9] (.cond (.t 10) .skip
 (.exit 0))))
 (.drop [9,10] (.seq (.block 1 (.seq (.seq (.reg [un (.mov 13 (.t 3)),
 un (.mov 14 (.t 0)),
 un (.mov 15 (.t 2)),
 un (.bin 16 .rem (.t 14) (.t 15)),
 un (.iad 17 1 (.t 13) (.t 16)),
 un (.ld 18 1 false (.t 17)),
 un (.bin 19 .lss (.t 18) (.c (.int .i64 0)))])
 (.drop [13,14,15,16,17,18] (.cond (.t 19) (.seq (.reg [un (.asg 8 (.c (.bool false)))])
 .ret)
 .skip)))
 (.drop [13,14,15,16,17,18,19] (.reg [un (.mov 20 (.t 0)),
 un (.mov 21 (.t 2)),
 un (.bin 22 .quo (.t 20) (.t 21)),
 un (.asg 0 (.t 22))]))))
 (.drop [13,14,15,16,17,18,19,20,21,22] (.reg [un (.mov 11 (.t 1)),
 un (.bin 12 .sub (.t 11) (.c (.int .i64 1))),
 un (.asg 1 (.t 12))])))))
def An2:ACode:=
 (.seq (.reg [un (.asg 8 (.c (.bool false)))])
 (.seq (.block 0 (.loop U7))
 (.drop [9,10,13,14,15,16,17,18,19,20,21,22,11,12] (.seq (.reg [un (.asg 8 (.c (.bool true)))])
 .ret))))
abbrev Ao4:List RS:=[.t 8]
theorem Am6:Az Tryz.prog Tf 23 An2 Ao4=true:=by kernel_rfl
def Vk:ACode:=
 (.seq (.reg [un (.bin 19 .lss (.t 18) (.t 17))])
 (.seq (.cond (.t 19) .skip
 (.exit 0))
 (.seq (.block 1 (.seq (.reg [un (.mov 20 (.t 18)),
 un (.iad 21 1 (.t 16) (.t 18)),
 un (.ld 22 1 false (.t 21)),
 un (.asg 7 (.t 20)),
 un (.asg 8 (.t 22))])
 (.drop [20,21,22] (.seq (.reg [un (.mov 23 (.t 5)),
 un (.mov 24 (.t 8)),
 un (.iad 25 1 (.t 23) (.t 24)),
 un (.ld 26 1 false (.t 25))])
 (.drop [23,24,25] (.cond (.t 26) (.reg [un (.mov 27 (.t 6)),
 un (.mov 28 (.t 7)),
 un (.bsl 29 1 [(.t 28)]),
 un (.app 30 1 (.t 27) (.t 29)),
 un (.asg 6 (.t 30))])
 .skip))))))
 (.drop [20,21,22,7,8,23,24,25,26,27,28,29,30] (.reg [un (.bin 31 .add (.t 18) (.c (.int .i64 1))),
 un (.asg 18 (.t 31))])))))
def Am9:ACode:=
 (.seq (.reg [un (.asg 4 (.c (.nilsl 1)))])
 (.seq (.reg [un (.mov 9 (.t 0)),
 un (.mov 10 (.t 1)),
 un (.call 11 I0 [((.t 9),false),((.t 10),false)]),
 un (.mov 12 (.t 1)),
 un (.len 13 (.t 12)),
 un (.call 14 O3 [((.t 11),false),((.t 13),false)]),
 un (.asg 5 (.t 14))])
 (.drop [9,10,11,12,13,14] (.seq (.reg [un (.bsl 15 1 []),
 un (.asg 6 (.t 15))])
 (.drop [15] (.seq (.seq (.reg [un (.mov 16 (.t 1)),
 un (.len 17 (.t 16)),
 un (.mov 18 (.c (.int .i64 0)))])
 (.block 0 (.loop Vk)))
 (.drop [16,17,18,19,20,21,22,7,8,23,24,25,26,27,28,29,30,31] (.seq (.reg [un (.mov 32 (.t 6)),
 un (.asg 4 (.t 32))])
 (.drop [32] .ret)))))))))
abbrev Ao7:List RS:=[.t 4]
theorem Aoj:Az Tryz.prog Tu 33 Am9 Ao7=true:=by kernel_rfl
def Anw:ACode:=
 (.seq (.reg [un (.asg 4 (.c (.nilsl 1)))])
 (.seq (.reg [un (.mov 5 (.t 0)),
 un (.mov 6 (.t 1)),
 un (.call 7 O3 [((.t 5),false),((.t 6),false)]),
 un (.call 8 Rr [((.t 7),false)]),
 un (.asg 4 (.t 8))])
 (.drop [5,6,7,8] .ret)))
abbrev Ani:List RS:=[.t 4]
theorem Aou:Az Tryz.prog T6 9 Anw Ani=true:=by kernel_rfl
def Ru:ACode:=
 (.seq (.reg [un (.bin 22 .lss (.t 21) (.t 20))])
 (.seq (.cond (.t 22) .skip
 (.exit 0))
 (.seq (.block 1 (.seq (.reg [un (.mov 23 (.t 21)),
 un (.iad 24 1 (.t 19) (.t 21)),
 un (.ld 25 1 false (.t 24)),
 un (.asg 6 (.t 23)),
 un (.asg 7 (.t 25))])
 (.drop [23,24,25] (.reg [un (.mov 26 (.t 5)),
 un (.mov 27 (.t 7)),
 un (.mov 28 (.t 6)),
 un (.iad 29 1 (.t 26) (.t 27)),
 un (.st 1 (.t 29) (.t 28))]))))
 (.drop [23,24,25,6,7,26,27,28,29] (.reg [un (.bin 30 .add (.t 21) (.c (.int .i64 1))),
 un (.asg 21 (.t 30))])))))
def S3:ACode:=
 (.seq (.reg [un (.bin 62 .lss (.t 61) (.t 60))])
 (.seq (.cond (.t 62) .skip
 (.exit 6))
 (.seq (.block 7 (.seq (.reg [un (.mov 63 (.t 61)),
 un (.iad 64 1 (.t 59) (.t 61)),
 un (.ld 65 1 false (.t 64)),
 un (.asg 14 (.t 63)),
 un (.asg 15 (.t 65))])
 (.drop [63,64,65] (.reg [un (.mov 66 (.t 13)),
 un (.mov 67 (.t 14)),
 un (.mov 68 (.t 1)),
 un (.mov 69 (.t 15)),
 un (.iad 70 1 (.t 68) (.t 69)),
 un (.ld 71 1 false (.t 70)),
 un (.iad 72 1 (.t 66) (.t 67)),
 un (.st 1 (.t 72) (.t 71))]))))
 (.drop [63,64,65,14,15,66,67,68,69,70,71,72] (.reg [un (.bin 73 .add (.t 61) (.c (.int .i64 1))),
 un (.asg 61 (.t 73))])))))
def Sh:ACode:=
 (.seq (.seq (.reg [un (.mov 44 (.t 12)),
 un (.mov 45 (.t 1)),
 un (.len 46 (.t 45)),
 un (.fadr 47 0 (.t 10)),
 un (.ld 48 1 false (.t 47)),
 un (.call 49 Og [((.t 46),false),((.t 48),false)]),
 un (.bin 50 .lss (.t 44) (.t 49))])
 (.drop [44,45,46,47,48,49] (.cond (.t 50) .skip
 (.exit 4))))
 (.drop [44,45,46,47,48,49,50] (.seq (.block 5 (.seq (.reg [un (.mov 53 (.t 12)),
 un (.fadr 54 0 (.t 10)),
 un (.ld 55 1 false (.t 54)),
 un (.mov 56 (.t 1)),
 un (.len 57 (.t 56)),
 un (.call 58 Rn [((.t 53),false),((.t 55),false),((.t 57),false)]),
 un (.asg 13 (.t 58))])
 (.drop [53,54,55,56,57,58] (.seq (.seq (.reg [un (.mov 59 (.t 13)),
 un (.len 60 (.t 59)),
 un (.mov 61 (.c (.int .i64 0)))])
 (.block 6 (.loop S3)))
 (.drop [59,60,61,62,63,64,65,14,15,66,67,68,69,70,71,72,73] (.dreg [(un (.fadr 74 1 (.t 11)),[86]),
 (un (.ld 75 1 false (.t 74)),[86]),
 (un (.mov 76 (.t 5)),[74,75]),
 (un (.fadr 77 1 (.t 10)),[74,75,76]),
 (un (.ld 78 1 false (.t 77)),[74,75,76]),
 (un (.mov 79 (.t 13)),[74,75,76,77,78]),
 (un (.fadr 80 0 (.t 2)),[74,75,76,77,78,79]),
 (un (.ld 81 1 false (.t 80)),[74,75,76,77,78,79]),
 (un (.call 82 O9 [((.t 79),false),((.t 81),false)]),[74,75,76,77,78]),
 (un (.iad 83 1 (.t 78) (.t 82)),[74,75,76]),
 (un (.ld 84 1 false (.t 83)),[74,75,76]),
 (un (.iad 85 1 (.t 76) (.t 84)),[74,75]),
 (un (.ld 86 1 false (.t 85)),[74,75]),
 (un (.bsl 87 1 [(.t 86)]),[74,75])]
 [un (.app 88 1 (.t 75) (.t 87)),
 un (.fadr 89 1 (.t 11)),
 un (.st 1 (.t 89) (.t 88))]))))))
 (.drop [53,54,55,56,57,58,13,59,60,61,62,63,64,65,14,15,66,67,68,69,70,71,72,73,74,75,76,77,78,79,80,81,82,83,84,85,86,87,88,89] (.reg [un (.mov 51 (.t 12)),
 un (.bin 52 .add (.t 51) (.c (.int .i64 1))),
 un (.asg 12 (.t 52))])))))
def Sp:ACode:=
 (.seq (.reg [un (.bin 38 .lss (.t 37) (.t 36))])
 (.seq (.cond (.t 38) .skip
 (.exit 2))
 (.seq (.block 3 (.seq (.reg [un (.iad 39 2 (.t 35) (.t 37)),
 un (.ld 40 2 true (.t 39)),
 un (.alc 10 (.agg [.int .i64 0,.nilsl 1])),
 un (.st 2 (.t 10) (.t 40))])
 (.drop [39,40] (.seq (.reg [un (.fadr 41 0 (.t 10)),
 un (.ld 42 1 false (.t 41)),
 un (.bld 43 [.int .i64 0,.nilsl 1] [(0,1,(.t 42))]),
 un (.alc 11 (.agg [.int .i64 0,.nilsl 1])),
 un (.st 2 (.t 11) (.t 43))])
 (.drop [41,42,43] (.seq (.seq (.reg [un (.asg 12 (.c (.int .i64 0)))])
 (.block 4 (.loop Sh)))
 (.drop [12,44,45,46,47,48,49,50,53,54,55,56,57,58,13,59,60,61,62,63,64,65,14,15,66,67,68,69,70,71,72,73,74,75,76,77,78,79,80,81,82,83,84,85,86,87,88,89,51,52] (.reg [un (.fadr 90 1 (.t 8)),
 un (.ld 91 1 false (.t 90)),
 un (.ld 92 2 true (.t 11)),
 un (.bsl 93 2 [(.t 92)]),
 un (.app 94 2 (.t 91) (.t 93)),
 un (.fadr 95 1 (.t 8)),
 un (.st 1 (.t 95) (.t 94))]))))))))
 (.drop [39,40,10,41,42,43,11,12,44,45,46,47,48,49,50,53,54,55,56,57,58,13,59,60,61,62,63,64,65,14,15,66,67,68,69,70,71,72,73,74,75,76,77,78,79,80,81,82,83,84,85,86,87,88,89,51,52,90,91,92,93,94,95] (.reg [un (.bin 96 .add (.t 37) (.c (.int .i64 1))),
 un (.asg 37 (.t 96))])))))
def Aj1:ACode:=
 (.seq (.reg [un (.box 2 (.t 0)),
 un (.alc 4 (.agg [.int .i64 0,.nilsl 2]))])
 (.seq (.reg [un (.fadr 16 0 (.t 2)),
 un (.ld 17 1 false (.t 16)),
 un (.mk 18 1 (.int .i64 0) (.t 17)),
 un (.asg 5 (.t 18))])
 (.drop [16,17,18] (.seq (.seq (.reg [un (.mov 19 (.t 1)),
 un (.len 20 (.t 19)),
 un (.mov 21 (.c (.int .i64 0)))])
 (.block 0 (.loop Ru)))
 (.drop [19,20,21,22,23,24,25,6,7,26,27,28,29,30] (.seq (.reg [un (.mov 31 (.t 1)),
 un (.len 32 (.t 31)),
 un (.bld 33 [.int .i64 0,.nilsl 2] [(0,1,(.t 32))]),
 un (.alc 8 (.agg [.int .i64 0,.nilsl 2])),
 un (.st 2 (.t 8) (.t 33))])
 (.drop [31,32,33] (.seq (.seq (.reg [un (.fadr 34 1 (.t 2)),
 un (.ld 35 1 false (.t 34)),
 un (.len 36 (.t 35)),
 un (.mov 37 (.c (.int .i64 0)))])
 (.drop [34] (.block 2 (.loop Sp))))
 (.drop [34,35,36,37,38,39,40,10,41,42,43,11,12,44,45,46,47,48,49,50,53,54,55,56,57,58,13,59,60,61,62,63,64,65,14,15,66,67,68,69,70,71,72,73,74,75,76,77,78,79,80,81,82,83,84,85,86,87,88,89,51,52,90,91,92,93,94,95,96] (.seq (.reg [un (.ld 97 2 true (.t 8)),
 un (.st 2 (.t 4) (.t 97))])
 (.drop [97] .ret)))))))))))
abbrev Ahw:List RS:=[.c 4 2 true]
theorem Ai7:Az Tryz.prog Pu 98 Aj1 Ahw=true:=by kernel_rfl
def U6:ACode:=
 (.seq (.seq (.reg [un (.mov 30 (.t 11)),
 un (.fadr 31 0 (.t 7)),
 un (.ld 32 1 false (.t 31)),
 un (.fadr 33 0 (.t 9)),
 un (.ld 34 1 false (.t 33)),
 un (.call 35 Og [((.t 32),false),((.t 34),false)]),
 un (.bin 36 .lss (.t 30) (.t 35))])
 (.drop [30,31,32,33,34,35] (.cond (.t 36) .skip
 (.exit 2))))
 (.drop [30,31,32,33,34,35,36] (.seq (.block 3 (.seq (.reg [un (.mov 39 (.t 11)),
 un (.fadr 40 0 (.t 9)),
 un (.ld 41 1 false (.t 40)),
 un (.fadr 42 0 (.t 7)),
 un (.ld 43 1 false (.t 42)),
 un (.call 44 Rn [((.t 39),false),((.t 41),false),((.t 43),false)]),
 un (.mov 45 (.t 5)),
 un (.call 46 I0 [((.t 44),false),((.t 45),false)]),
 un (.asg 12 (.t 46))])
 (.drop [39,40,41,42,43,44,45,46] (.dreg [(un (.fadr 47 1 (.t 10)),[59]),
 (un (.ld 48 1 false (.t 47)),[59]),
 (un (.mov 49 (.t 6)),[47,48]),
 (un (.fadr 50 1 (.t 9)),[47,48,49]),
 (un (.ld 51 1 false (.t 50)),[47,48,49]),
 (un (.mov 52 (.t 12)),[47,48,49,50,51]),
 (un (.fadr 53 0 (.t 2)),[47,48,49,50,51,52]),
 (un (.ld 54 1 false (.t 53)),[47,48,49,50,51,52]),
 (un (.call 55 O9 [((.t 52),false),((.t 54),false)]),[47,48,49,50,51]),
 (un (.iad 56 1 (.t 51) (.t 55)),[47,48,49]),
 (un (.ld 57 1 false (.t 56)),[47,48,49]),
 (un (.iad 58 1 (.t 49) (.t 57)),[47,48]),
 (un (.ld 59 1 false (.t 58)),[47,48]),
 (un (.bsl 60 1 [(.t 59)]),[47,48])]
 [un (.app 61 1 (.t 48) (.t 60)),
 un (.fadr 62 1 (.t 10)),
 un (.st 1 (.t 62) (.t 61))]))))
 (.drop [39,40,41,42,43,44,45,46,12,47,48,49,50,51,52,53,54,55,56,57,58,59,60,61,62] (.reg [un (.mov 37 (.t 11)),
 un (.bin 38 .add (.t 37) (.c (.int .i64 1))),
 un (.asg 11 (.t 38))])))))
def Vb:ACode:=
 (.seq (.reg [un (.bin 24 .lss (.t 23) (.t 22))])
 (.seq (.cond (.t 24) .skip
 (.exit 0))
 (.seq (.block 1 (.seq (.reg [un (.iad 25 2 (.t 21) (.t 23)),
 un (.ld 26 2 true (.t 25)),
 un (.alc 9 (.agg [.int .i64 0,.nilsl 1])),
 un (.st 2 (.t 9) (.t 26))])
 (.drop [25,26] (.seq (.reg [un (.fadr 27 0 (.t 9)),
 un (.ld 28 1 false (.t 27)),
 un (.bld 29 [.int .i64 0,.nilsl 1] [(0,1,(.t 28))]),
 un (.alc 10 (.agg [.int .i64 0,.nilsl 1])),
 un (.st 2 (.t 10) (.t 29))])
 (.drop [27,28,29] (.seq (.seq (.reg [un (.asg 11 (.c (.int .i64 0)))])
 (.block 2 (.loop U6)))
 (.drop [11,30,31,32,33,34,35,36,39,40,41,42,43,44,45,46,12,47,48,49,50,51,52,53,54,55,56,57,58,59,60,61,62,37,38] (.reg [un (.fadr 63 1 (.t 7)),
 un (.ld 64 1 false (.t 63)),
 un (.ld 65 2 true (.t 10)),
 un (.bsl 66 2 [(.t 65)]),
 un (.app 67 2 (.t 64) (.t 66)),
 un (.fadr 68 1 (.t 7)),
 un (.st 1 (.t 68) (.t 67))]))))))))
 (.drop [25,26,9,27,28,29,10,11,30,31,32,33,34,35,36,39,40,41,42,43,44,45,46,12,47,48,49,50,51,52,53,54,55,56,57,58,59,60,61,62,37,38,63,64,65,66,67,68] (.reg [un (.bin 69 .add (.t 23) (.c (.int .i64 1))),
 un (.asg 23 (.t 69))])))))
def Anq:ACode:=
 (.seq (.reg [un (.box 2 (.t 0)),
 un (.alc 4 (.agg [.int .i64 0,.nilsl 2]))])
 (.seq (.reg [un (.mov 13 (.t 1)),
 un (.call 14 Wc [((.t 13),false)]),
 un (.mov 15 (.t 1)),
 un (.call 16 Ki [((.t 15),false)]),
 un (.asg 5 (.t 14)),
 un (.asg 6 (.t 16))])
 (.drop [13,14,15,16] (.seq (.reg [un (.mov 17 (.t 5)),
 un (.len 18 (.t 17)),
 un (.bld 19 [.int .i64 0,.nilsl 2] [(0,1,(.t 18))]),
 un (.alc 7 (.agg [.int .i64 0,.nilsl 2])),
 un (.st 2 (.t 7) (.t 19))])
 (.drop [17,18,19] (.seq (.seq (.reg [un (.fadr 20 1 (.t 2)),
 un (.ld 21 1 false (.t 20)),
 un (.len 22 (.t 21)),
 un (.mov 23 (.c (.int .i64 0)))])
 (.drop [20] (.block 0 (.loop Vb))))
 (.drop [20,21,22,23,24,25,26,9,27,28,29,10,11,30,31,32,33,34,35,36,39,40,41,42,43,44,45,46,12,47,48,49,50,51,52,53,54,55,56,57,58,59,60,61,62,37,38,63,64,65,66,67,68,69] (.seq (.reg [un (.ld 70 2 true (.t 7)),
 un (.st 2 (.t 4) (.t 70))])
 (.drop [70] .ret)))))))))
abbrev Am5:List RS:=[.c 4 2 true]
theorem Anl:Az Tryz.prog Tq 71 Anq Am5=true:=by kernel_rfl
def Ai4:ACode:=
 (.seq (.reg [un (.asg 4 (.c (.bool false)))])
 (.seq (.seq (.reg [un (.ld 5 1 false (.t 1)),
 un (.mov 6 (.t 0)),
 un (.cally 7 (.t 5) [(.t 6)] [])])
 (.drop [5,6] (.cond (.t 7) (.seq (.reg [un (.mov 8 (.t 0)),
 un (.call 9 L0 [((.t 8),false)]),
 un (.st 1 (.t 2) (.t 9))])
 (.drop [8,9] (.seq (.reg [un (.asg 4 (.c (.bool false)))])
 .ret)))
 .skip)))
 (.drop [5,6,7,8,9] (.seq (.reg [un (.asg 4 (.c (.bool true)))])
 .ret))))
abbrev Ajc:List RS:=[.t 4]
theorem Aj9:Az Tryz.prog Hm 10 Ai4 Ajc=true:=by kernel_rfl
def Ap7:ACode:=
 (.seq (.reg [un (.alc 2 (.agg [.int .i64 0,.nilsl 2]))])
 (.seq (.seq (.reg [un (.mov 3 (.t 0))])
 (.block 0 (.seq (.reg [un (.bin 5 .eql (.t 3) (.c (.int .i64 0))),
 un (.asg 4 (.t 5))])
 (.drop [5] (.cond (.t 4) (.seq (.reg [⟨none,.call 6 Bm [((.c (.str ⟨#[48,48,48,49]⟩)),false)]⟩,
 un (.bsl 7 2 [(.t 6)]),
 un (.bld 8 [.int .i64 0,.nilsl 2] [(0,1,(.c (.int .i64 2))),(1,1,(.t 7))]),
 un (.st 2 (.t 2) (.t 8))])
 (.drop [6,7,8] .ret))
 (.seq (.reg [un (.bin 10 .eql (.t 3) (.c (.int .i64 1))),
 un (.asg 9 (.t 10))])
 (.drop [10] (.cond (.t 9) (.seq (.reg [⟨none,.call 11 Bm [((.c (.str ⟨#[48,48,48,49]⟩)),false)]⟩,
 ⟨none,.call 12 Bm [((.c (.str ⟨#[48,49,49,49]⟩)),false)]⟩,
 un (.bsl 13 2 [(.t 11),(.t 12)]),
 un (.bld 14 [.int .i64 0,.nilsl 2] [(0,1,(.c (.int .i64 2))),(1,1,(.t 13))]),
 un (.st 2 (.t 2) (.t 14))])
 (.drop [11,12,13,14] .ret))
 (.seq (.reg [un (.bin 16 .eql (.t 3) (.c (.int .i64 2))),
 un (.asg 15 (.t 16))])
 (.drop [16] (.cond (.t 15) (.seq (.reg [⟨none,.call 17 Bm [((.c (.str ⟨#[48,48,48,49]⟩)),false)]⟩,
 ⟨none,.call 18 Bm [((.c (.str ⟨#[48,49,49,49]⟩)),false)]⟩,
 un (.bsl 19 1 [(.c (.int .i64 1)),(.c (.int .i64 0))]),
 un (.bld 20 [.int .i64 0,.nilsl 1] [(0,1,(.c (.int .i64 1))),(1,1,(.t 19))]),
 un (.bsl 21 2 [(.t 17),(.t 18),(.t 20)]),
 un (.bld 22 [.int .i64 0,.nilsl 2] [(0,1,(.c (.int .i64 2))),(1,1,(.t 21))]),
 un (.st 2 (.t 2) (.t 22))])
 (.drop [17,18,19,20,21,22] .ret))
 (.seq (.reg [un (.bin 24 .eql (.t 3) (.c (.int .i64 3))),
 un (.asg 23 (.t 24))])
 (.drop [24] (.cond (.t 23) (.seq (.reg [un (.call 25 M2 [((.c (.int .i64 2)),false)]),
 un (.bsl 26 2 [(.t 25)]),
 un (.bld 27 [.int .i64 0,.nilsl 2] [(0,1,(.c (.int .i64 2))),(1,1,(.t 26))]),
 un (.st 2 (.t 2) (.t 27))])
 (.drop [25,26,27] .ret))
 (.seq (.reg [un (.bin 29 .eql (.t 3) (.c (.int .i64 4))),
 un (.asg 28 (.t 29))])
 (.drop [29] (.cond (.t 28) (.seq (.reg [⟨none,.call 30 Bm [((.c (.str ⟨#[48,49,50,49,50,48,50,48,49]⟩)),false)]⟩,
 un (.bsl 31 2 [(.t 30)]),
 un (.bld 32 [.int .i64 0,.nilsl 2] [(0,1,(.c (.int .i64 3))),(1,1,(.t 31))]),
 un (.st 2 (.t 2) (.t 32))])
 (.drop [30,31,32] .ret))
 (.seq (.reg [un (.bin 34 .eql (.t 3) (.c (.int .i64 5))),
 un (.asg 33 (.t 34))])
 (.drop [34] (.cond (.t 33) (.seq (.reg [⟨none,.call 35 Bm [((.c (.str ⟨#[48,49,48,49,49,50,48,50,50]⟩)),false)]⟩,
 un (.bsl 36 2 [(.t 35)]),
 un (.bld 37 [.int .i64 0,.nilsl 2] [(0,1,(.c (.int .i64 3))),(1,1,(.t 36))]),
 un (.st 2 (.t 2) (.t 37))])
 (.drop [35,36,37] .ret))
 (.seq (.reg [un (.bin 39 .eql (.t 3) (.c (.int .i64 6))),
 un (.asg 38 (.t 39))])
 (.drop [39] (.cond (.t 38) (.seq (.reg [⟨none,.call 40 Bm [((.c (.str ⟨#[48,49,50,51,49,48,51,50,50,51,48,49,51,50,49,48]⟩)),false)]⟩,
 un (.bsl 41 2 [(.t 40)]),
 un (.bld 42 [.int .i64 0,.nilsl 2] [(0,1,(.c (.int .i64 4))),(1,1,(.t 41))]),
 un (.st 2 (.t 2) (.t 42))])
 (.drop [40,41,42] .ret))
 (.seq (.reg [un (.bin 44 .eql (.t 3) (.c (.int .i64 7))),
 un (.asg 43 (.t 44))])
 (.drop [44] (.cond (.t 43) (.seq (.reg [⟨none,.call 45 Bm [((.c (.str ⟨#[48,48,48,48,49,49,48,49,50]⟩)),false)]⟩,
 ⟨none,.call 46 Bm [((.c (.str ⟨#[48,49,50,49,49,50,50,50,50]⟩)),false)]⟩,
 un (.bsl 47 2 [(.t 45),(.t 46)]),
 un (.bld 48 [.int .i64 0,.nilsl 2] [(0,1,(.c (.int .i64 3))),(1,1,(.t 47))]),
 un (.st 2 (.t 2) (.t 48))])
 (.drop [45,46,47,48] .ret))
 (.seq (.reg [un (.bin 50 .eql (.t 3) (.c (.int .i64 8))),
 un (.asg 49 (.t 50))])
 (.drop [50] (.cond (.t 49) (.seq (.reg [un (.bsl 51 1 [(.c (.int .i64 1)),(.c (.int .i64 2)),(.c (.int .i64 3)),(.c (.int .i64 0))]),
 un (.bld 52 [.int .i64 0,.nilsl 1] [(0,1,(.c (.int .i64 1))),(1,1,(.t 51))]),
 un (.bsl 53 2 [(.t 52)]),
 un (.bld 54 [.int .i64 0,.nilsl 2] [(0,1,(.c (.int .i64 4))),(1,1,(.t 53))]),
 un (.st 2 (.t 2) (.t 54))])
 (.drop [51,52,53,54] .ret))
 (.seq (.reg [un (.bin 56 .eql (.t 3) (.c (.int .i64 9))),
 un (.asg 55 (.t 56))])
 (.drop [56] (.cond (.t 55) (.seq (.reg [un (.bsl 57 1 [(.c (.int .i64 0)),(.c (.int .i64 0)),(.c (.int .i64 0)),(.c (.int .i64 1)),(.c (.int .i64 0)),(.c (.int .i64 1)),(.c (.int .i64 1)),(.c (.int .i64 1))]),
 un (.bld 58 [.int .i64 0,.nilsl 1] [(0,1,(.c (.int .i64 3))),(1,1,(.t 57))]),
 un (.bsl 59 2 [(.t 58)]),
 un (.bld 60 [.int .i64 0,.nilsl 2] [(0,1,(.c (.int .i64 2))),(1,1,(.t 59))]),
 un (.st 2 (.t 2) (.t 60))])
 (.drop [57,58,59,60] .ret))
 (.seq (.reg [un (.bin 62 .eql (.t 3) (.c (.int .i64 10))),
 un (.asg 61 (.t 62))])
 (.drop [62] (.cond (.t 61) (.seq (.reg [⟨none,.call 63 Bm [((.c (.str ⟨#[48,48,48,49,49,49,50,50,50]⟩)),false)]⟩,
 un (.bsl 64 2 [(.t 63)]),
 un (.bld 65 [.int .i64 0,.nilsl 2] [(0,1,(.c (.int .i64 3))),(1,1,(.t 64))]),
 un (.st 2 (.t 2) (.t 65))])
 (.drop [63,64,65] .ret))
 (.seq (.reg [un (.bin 67 .eql (.t 3) (.c (.int .i64 11))),
 un (.asg 66 (.t 67))])
 (.drop [67] (.cond (.t 66) (.seq (.reg [⟨none,.call 68 Bm [((.c (.str ⟨#[48,48,48,48,48,48,49,48,48,49,48,48,50,48,50,48,48,48,51,51,48,49,50,51,52]⟩)),false)]⟩,
 ⟨none,.call 69 Bm [((.c (.str ⟨#[48,49,50,51,52,49,49,52,52,52,50,52,50,52,52,51,52,52,51,52,52,52,52,52,52]⟩)),false)]⟩,
 un (.bsl 70 2 [(.t 68),(.t 69)]),
 un (.bld 71 [.int .i64 0,.nilsl 2] [(0,1,(.c (.int .i64 5))),(1,1,(.t 70))]),
 un (.st 2 (.t 2) (.t 71))])
 (.drop [68,69,70,71] .ret))
 (.seq (.reg [un (.bin 73 .eql (.t 3) (.c (.int .i64 12))),
 un (.asg 72 (.t 73))])
 (.drop [73] (.cond (.t 72) (.seq (.reg [⟨none,.call 74 Bm [((.c (.str ⟨#[48,49,50,51,49,50,51,48,50,51,48,49,51,48,49,50]⟩)),false)]⟩,
 un (.bsl 75 2 [(.t 74)]),
 un (.bld 76 [.int .i64 0,.nilsl 2] [(0,1,(.c (.int .i64 4))),(1,1,(.t 75))]),
 un (.st 2 (.t 2) (.t 76))])
 (.drop [74,75,76] .ret))
 (.seq (.reg [un (.bin 78 .eql (.t 3) (.c (.int .i64 13))),
 un (.asg 77 (.t 78))])
 (.drop [78] (.cond (.t 77) (.seq (.reg [un (.bsl 79 1 [(.c (.int .i64 0)),(.c (.int .i64 0)),(.c (.int .i64 1))]),
 un (.bld 80 [.int .i64 0,.nilsl 1] [(0,1,(.c (.int .i64 1))),(1,1,(.t 79))]),
 un (.bsl 81 1 [(.c (.int .i64 2))]),
 un (.bld 82 [.int .i64 0,.nilsl 1] [(0,1,(.c (.int .i64 0))),(1,1,(.t 81))]),
 un (.bsl 83 2 [(.t 80),(.t 82)]),
 un (.bld 84 [.int .i64 0,.nilsl 2] [(0,1,(.c (.int .i64 3))),(1,1,(.t 83))]),
 un (.st 2 (.t 2) (.t 84))])
 (.drop [79,80,81,82,83,84] .ret))
 (.seq (.reg [un (.bin 86 .eql (.t 3) (.c (.int .i64 14))),
 un (.asg 85 (.t 86))])
 (.drop [86] (.cond (.t 85) (.seq (.reg [⟨none,.call 87 Bm [((.c (.str ⟨#[48]⟩)),false)]⟩,
 un (.bsl 88 2 [(.t 87)]),
 un (.bld 89 [.int .i64 0,.nilsl 2] [(0,1,(.c (.int .i64 1))),(1,1,(.t 88))]),
 un (.st 2 (.t 2) (.t 89))])
 (.drop [87,88,89] .ret))
 (.seq (.reg [un (.bin 91 .eql (.t 3) (.c (.int .i64 15))),
 un (.asg 90 (.t 91))])
 (.drop [91] (.cond (.t 90) (.seq (.reg [un (.call 92 M2 [((.c (.int .i64 3)),false)]),
 un (.bsl 93 2 [(.t 92)]),
 un (.bld 94 [.int .i64 0,.nilsl 2] [(0,1,(.c (.int .i64 3))),(1,1,(.t 93))]),
 un (.st 2 (.t 2) (.t 94))])
 (.drop [92,93,94] .ret))
 .skip))))))))))))))))))))))))))))))))))))))))))))))))))
 (.drop [3,5,4,6,7,8,10,9,11,12,13,14,16,15,17,18,19,20,21,22,24,23,25,26,27,29,28,30,31,32,34,33,35,36,37,39,38,40,41,42,44,43,45,46,47,48,50,49,51,52,53,54,56,55,57,58,59,60,62,61,63,64,65,67,66,68,69,70,71,73,72,74,75,76,78,77,79,80,81,82,83,84,86,85,87,88,89,91,90,92,93,94] (.seq (.reg [un (.bld 95 [.int .i64 0,.nilsl 2] [(0,1,(.c (.int .i64 2)))]),
 un (.st 2 (.t 2) (.t 95))])
 (.drop [95] .ret)))))
abbrev Aq7:List RS:=[.c 2 2 true]
theorem Apw:Az Tryz.prog Vw 96 Ap7 Aq7=true:=by kernel_rfl
def Ai8:ACode:=
 (.seq (.reg [un (.asg 4 (.c (.int .i64 0)))])
 (.seq (.seq (.reg [un (.mov 6 (.t 1)),
 un (.bin 7 .leq (.t 6) (.c (.int .i64 1)))])
 (.drop [6] (.cond (.t 7) (.seq (.reg [un (.asg 4 (.c (.int .i64 0)))])
 .ret)
 .skip)))
 (.drop [6,7] (.seq (.reg [un (.mov 8 (.t 0)),
 un (.call 9 Kk [((.t 8),true)]),
 un (.asg 5 (.t 9))])
 (.drop [8,9] (.seq (.seq (.reg [un (.mov 10 (.t 1)),
 un (.bin 11 .gtr (.t 10) (.c (.int .i64 200)))])
 (.drop [10] (.cond (.t 11) (.reg [un (.mov 12 (.t 5)),
 un (.bin 13 .mul (.t 12) (.c (.int .i64 256))),
 un (.mov 14 (.t 0)),
 un (.call 15 Kk [((.t 14),true)]),
 un (.bin 16 .add (.t 13) (.t 15)),
 un (.asg 5 (.t 16))])
 .skip)))
 (.drop [10,11,12,13,14,15,16] (.seq (.reg [un (.mov 17 (.t 5)),
 un (.mov 18 (.t 1)),
 un (.bin 19 .rem (.t 17) (.t 18)),
 un (.asg 4 (.t 19))])
 (.drop [17,18,19] .ret)))))))))
abbrev Aiq:List RS:=[.t 4]
theorem Ah1:Az Tryz.prog A8 20 Ai8 Aiq=true:=by kernel_rfl
def Azx:ACode:=
 (.seq (.reg [un (.box 2 (.t 0)),
 un (.asg 4 (.c (.bool false)))])
 (.seq (.dreg [(un (.fadr 5 0 (.t 2)),[]),
 (un (.ld 6 1 false (.t 5)),[]),
 (un (.bin 7 .geq (.t 6) (.c (.int .i64 0))),[]),
 (un (.asg 8 (.t 7)),[]),
 (⟨some (8,true),.fadr 9 0 (.t 2)⟩,[7]),
 (⟨some (8,true),.ld 10 1 false (.t 9)⟩,[7]),
 (⟨some (8,true),.bin 11 .leq (.t 10) (.c (.int .i64 3))⟩,[7]),
 (un (.pick 12 (.t 8) (.t 11) (.c (.bool false))),[7]),
 (un (.asg 13 (.t 12)),[7]),
 (⟨some (13,true),.fadr 14 1 (.t 2)⟩,[7,12]),
 (⟨some (13,true),.ld 15 1 false (.t 14)⟩,[7,12]),
 (⟨some (13,true),.len 16 (.t 15)⟩,[7,12]),
 (⟨some (13,true),.mov 17 (.t 1)⟩,[14,15,16,7,12]),
 (⟨some (13,true),.fadr 18 0 (.t 2)⟩,[14,15,16,17,7,12]),
 (⟨some (13,true),.ld 19 1 false (.t 18)⟩,[14,15,16,17,7,12]),
 (⟨some (13,true),.call 20 Og [((.t 17),false),((.t 19),false)]⟩,[14,15,16,7,12]),
 (⟨some (13,true),.bin 21 .eql (.t 16) (.t 20)⟩,[7,12]),
 (un (.pick 22 (.t 13) (.t 21) (.c (.bool false))),[7,12]),
 (un (.asg 23 (.t 22)),[7,12]),
 (⟨some (23,true),.fadr 24 1 (.t 2)⟩,[7,12,22]),
 (⟨some (23,true),.ld 25 1 false (.t 24)⟩,[7,12,22]),
 (⟨some (23,true),.mov 26 (.t 1)⟩,[24,25,7,12,22])]
 [⟨some (23,true),.call 27 Rq [((.t 25),false),((.t 26),false)]⟩,
 un (.pick 28 (.t 23) (.t 27) (.c (.bool false))),
 un (.asg 4 (.t 28))])
 (.drop [5,6,7,8,9,10,11,12,13,14,15,16,17,18,19,20,21,22,23,24,25,26,27,28] .ret)))
abbrev Ay1:List RS:=[.t 4]
theorem A1d:Az Tryz.prog Ad3 29 Azx Ay1=true:=by kernel_rfl
def Aj3:ACode:=
 (.seq (.reg [un (.asg 3 (.c (.bool false)))])
 (.seq (.dreg [(un (.ld 4 1 false (.t 1)),[6]),
 (un (.mov 5 (.t 0)),[4]),
 (un (.call 6 L0 [((.t 5),false)]),[4]),
 (un (.bsl 7 1 [(.t 6)]),[4])]
 [un (.app 8 1 (.t 4) (.t 7)),
 un (.st 1 (.t 1) (.t 8))])
 (.drop [4,5,6,7,8] (.seq (.reg [un (.ld 9 1 false (.t 1)),
 un (.len 10 (.t 9)),
 un (.bin 11 .leq (.t 10) (.c (.int .i64 300))),
 un (.asg 3 (.t 11))])
 (.drop [9,10,11] .ret)))))
abbrev Ai1:List RS:=[.t 3]
theorem Ah0:Az Tryz.prog Ke 12 Aj3 Ai1=true:=by kernel_rfl
def Aqo:ACode:=
 (.seq (.dreg [(un (.fadr 6 0 (.t 3)),[]),
 (un (.ld 7 1 false (.t 6)),[]),
 (un (.call 8 K8 [((.t 7),false),((.c (.int .i64 0)),false),((.c (.int .i64 3)),false)]),[]),
 (un (.un 9 .not (.t 8)),[]),
 (un (.asg 10 (.t 9)),[]),
 (⟨some (10,false),.fadr 11 1 (.t 3)⟩,[9]),
 (⟨some (10,false),.ld 12 1 false (.t 11)⟩,[9]),
 (⟨some (10,false),.len 13 (.t 12)⟩,[9]),
 (⟨some (10,false),.mov 14 (.t 0)⟩,[11,12,13,9]),
 (⟨some (10,false),.fadr 15 0 (.t 3)⟩,[11,12,13,14,9]),
 (⟨some (10,false),.ld 16 1 false (.t 15)⟩,[11,12,13,14,9]),
 (⟨some (10,false),.call 17 Uj [((.t 14),false),((.t 16),false)]⟩,[11,12,13,9])]
 [⟨some (10,false),.bin 18 .neq (.t 13) (.t 17)⟩,
 un (.pick 19 (.t 10) (.c (.bool true)) (.t 18))])
 (.drop [6,7,8,9,10,11,12,13,14,15,16,17,18] (.cond (.t 19) (.seq (.reg [un (.asg 4 (.c (.bool false)))])
 .ret)
 .skip)))
def Ad6:ACode:=
 (.seq (.seq (.reg [un (.mov 20 (.t 5)),
 un (.fadr 21 1 (.t 3)),
 un (.ld 22 1 false (.t 21)),
 un (.len 23 (.t 22)),
 un (.bin 24 .lss (.t 20) (.t 23))])
 (.drop [20,21,22,23] (.cond (.t 24) .skip
 (.exit 0))))
 (.drop [20,21,22,23,24] (.seq (.block 1 (.seq (.reg [un (.fadr 27 1 (.t 3)),
 un (.ld 28 1 false (.t 27)),
 un (.mov 29 (.t 5)),
 un (.iad 30 1 (.t 28) (.t 29)),
 un (.ld 31 1 false (.t 30)),
 un (.mov 32 (.t 0)),
 un (.bin 33 .sub (.t 32) (.c (.int .i64 1))),
 un (.call 34 K8 [((.t 31),false),((.c (.int .i64 0)),false),((.t 33),false)]),
 un (.un 35 .not (.t 34))])
 (.drop [27,28,29,30,31,32,33,34] (.cond (.t 35) (.seq (.reg [un (.asg 4 (.c (.bool false)))])
 .ret)
 .skip))))
 (.drop [27,28,29,30,31,32,33,34,35] (.reg [un (.mov 25 (.t 5)),
 un (.bin 26 .add (.t 25) (.c (.int .i64 1))),
 un (.asg 5 (.t 26))])))))
def A0r:ACode:=
 (.seq (.reg [un (.box 3 (.t 1)),
 un (.asg 4 (.c (.bool false)))])
 (.seq (.cut Aqo)
 (.drop [6,7,8,9,10,11,12,13,14,15,16,17,18,19] (.seq (.seq (.reg [un (.asg 5 (.c (.int .i64 0)))])
 (.block 0 (.loop Ad6)))
 (.drop [5,20,21,22,23,24,27,28,29,30,31,32,33,34,35,25,26] (.seq (.reg [un (.asg 4 (.c (.bool true)))])
 .ret))))))
abbrev Ayx:List RS:=[.t 4]
theorem Az9:Az Tryz.prog Ac9 36 A0r Ayx=true:=by kernel_rfl
def V5:ACode:=
 (.seq (.seq (.reg [un (.mov 8 (.t 7)),
 un (.mov 9 (.t 0)),
 un (.len 10 (.t 9)),
 un (.bin 11 .lss (.t 8) (.t 10))])
 (.drop [8,9,10] (.cond (.t 11) .skip
 (.exit 0))))
 (.drop [8,9,10,11] (.seq (.block 1 (.seq (.dreg [(un (.mov 14 (.t 0)),[]),
 (un (.mov 15 (.t 7)),[14]),
 (un (.iad 16 1 (.t 14) (.t 15)),[]),
 (un (.ld 17 1 false (.t 16)),[]),
 (un (.mov 18 (.t 1)),[14,15,16,17]),
 (un (.mov 19 (.t 2)),[14,15,16,17,18]),
 (un (.call 20 K8 [((.t 17),false),((.t 18),false),((.t 19),false)]),[]),
 (un (.un 21 .not (.t 20)),[]),
 (un (.asg 22 (.t 21)),[]),
 (⟨some (22,false),.mov 23 (.t 7)⟩,[21]),
 (⟨some (22,false),.bin 24 .gtr (.t 23) (.c (.int .i64 0))⟩,[21]),
 (⟨some (22,false),.asg 25 (.t 24)⟩,[21]),
 (⟨some (25,true),.mov 26 (.t 0)⟩,[21,24]),
 (⟨some (25,true),.mov 27 (.t 7)⟩,[26,21,24]),
 (⟨some (25,true),.bin 28 .sub (.t 27) (.c (.int .i64 1))⟩,[26,21,24]),
 (⟨some (25,true),.iad 29 1 (.t 26) (.t 28)⟩,[21,24]),
 (⟨some (25,true),.ld 30 1 false (.t 29)⟩,[21,24]),
 (⟨some (25,true),.mov 31 (.t 0)⟩,[26,27,28,29,30,21,24]),
 (⟨some (25,true),.mov 32 (.t 7)⟩,[26,27,28,29,30,31,21,24]),
 (⟨some (25,true),.iad 33 1 (.t 31) (.t 32)⟩,[26,27,28,29,30,21,24]),
 (⟨some (25,true),.ld 34 1 false (.t 33)⟩,[26,27,28,29,30,21,24])]
 [⟨some (25,true),.bin 35 .geq (.t 30) (.t 34)⟩,
 ⟨some (22,false),.pick 36 (.t 25) (.t 35) (.c (.bool false))⟩,
 un (.pick 37 (.t 22) (.c (.bool true)) (.t 36))])
 (.drop [14,15,16,17,18,19,20,21,22,23,24,25,26,27,28,29,30,31,32,33,34,35,36] (.cond (.t 37) (.seq (.reg [un (.asg 6 (.c (.bool false)))])
 .ret)
 .skip))))
 (.drop [14,15,16,17,18,19,20,21,22,23,24,25,26,27,28,29,30,31,32,33,34,35,36,37] (.reg [un (.mov 12 (.t 7)),
 un (.bin 13 .add (.t 12) (.c (.int .i64 1))),
 un (.asg 7 (.t 13))])))))
def Aos:ACode:=
 (.seq (.reg [un (.asg 6 (.c (.bool false)))])
 (.seq (.seq (.reg [un (.asg 7 (.c (.int .i64 0)))])
 (.block 0 (.loop V5)))
 (.drop [7,8,9,10,11,14,15,16,17,18,19,20,21,22,23,24,25,26,27,28,29,30,31,32,33,34,35,36,37,12,13] (.seq (.reg [un (.asg 6 (.c (.bool true)))])
 .ret))))
abbrev Anb:List RS:=[.t 6]
theorem Ams:Az Tryz.prog Ua 38 Aos Anb=true:=by kernel_rfl
def A3s:ACode:=
 (.seq (.reg [un (.box 2 (.t 0)),
 un (.box 3 (.t 1)),
 un (.asg 4 (.c (.bool false)))])
 (.seq (.reg [un (.fadr 5 0 (.t 2)),
 un (.ld 6 1 false (.t 5)),
 un (.fadr 7 0 (.t 3)),
 un (.ld 8 1 false (.t 7)),
 un (.bin 9 .eql (.t 6) (.t 8)),
 un (.asg 10 (.t 9)),
 ⟨some (10,true),.fadr 11 1 (.t 2)⟩,
 ⟨some (10,true),.ld 12 1 false (.t 11)⟩,
 ⟨some (10,true),.fadr 13 1 (.t 3)⟩,
 ⟨some (10,true),.ld 14 1 false (.t 13)⟩,
 ⟨some (10,true),.call 15 Jb [((.t 12),false),((.t 14),false)]⟩,
 un (.pick 16 (.t 10) (.t 15) (.c (.bool false))),
 un (.asg 4 (.t 16))])
 (.drop [5,6,7,8,9,10,11,12,13,14,15,16] .ret)))
abbrev A31:List RS:=[.t 4]
theorem A16:Az Tryz.prog Agr 17 A3s A31=true:=by kernel_rfl
def Zo:ACode:=
 (.seq (.seq (.reg [un (.mov 8 (.t 5)),
 un (.bin 9 .gtr (.t 8) (.c (.int .i64 0))),
 un (.asg 10 (.t 9)),
 ⟨some (10,true),.mov 11 (.t 1)⟩,
 ⟨some (10,true),.len 12 (.t 11)⟩,
 ⟨some (10,true),.mov 13 (.t 0)⟩,
 ⟨some (10,true),.mov 14 (.t 5)⟩,
 ⟨some (10,true),.bin 15 .sub (.t 14) (.c (.int .i64 1))⟩,
 ⟨some (10,true),.iad 16 1 (.t 13) (.t 15)⟩,
 ⟨some (10,true),.ld 17 1 false (.t 16)⟩,
 ⟨some (10,true),.len 18 (.t 17)⟩,
 ⟨some (10,true),.bin 19 .lss (.t 12) (.t 18)⟩,
 ⟨some (10,true),.asg 20 (.t 19)⟩,
 ⟨some (20,false),.mov 21 (.t 1)⟩,
 ⟨some (20,false),.len 22 (.t 21)⟩,
 ⟨some (20,false),.mov 23 (.t 0)⟩,
 ⟨some (20,false),.mov 24 (.t 5)⟩,
 ⟨some (20,false),.bin 25 .sub (.t 24) (.c (.int .i64 1))⟩,
 ⟨some (20,false),.iad 26 1 (.t 23) (.t 25)⟩,
 ⟨some (20,false),.ld 27 1 false (.t 26)⟩,
 ⟨some (20,false),.len 28 (.t 27)⟩,
 ⟨some (20,false),.bin 29 .eql (.t 22) (.t 28)⟩,
 ⟨some (20,false),.asg 30 (.t 29)⟩,
 ⟨some (30,true),.mov 31 (.t 1)⟩,
 ⟨some (30,true),.mov 32 (.t 0)⟩,
 ⟨some (30,true),.mov 33 (.t 5)⟩,
 ⟨some (30,true),.bin 34 .sub (.t 33) (.c (.int .i64 1))⟩,
 ⟨some (30,true),.iad 35 1 (.t 32) (.t 34)⟩,
 ⟨some (30,true),.ld 36 1 false (.t 35)⟩,
 ⟨some (30,true),.call 37 Rp [((.t 31),false),((.t 36),false)]⟩,
 ⟨some (20,false),.pick 38 (.t 30) (.t 37) (.c (.bool false))⟩,
 ⟨some (10,true),.pick 39 (.t 20) (.c (.bool true)) (.t 38)⟩,
 un (.pick 40 (.t 10) (.t 39) (.c (.bool false)))])
 (.drop [8,9,10,11,12,13,14,15,16,17,18,19,20,21,22,23,24,25,26,27,28,29,30,31,32,33,34,35,36,37,38,39] (.cond (.t 40) .skip
 (.exit 0))))
 (.drop [8,9,10,11,12,13,14,15,16,17,18,19,20,21,22,23,24,25,26,27,28,29,30,31,32,33,34,35,36,37,38,39,40] (.block 1 (.reg [un (.mov 41 (.t 5)),
 un (.bin 42 .sub (.t 41) (.c (.int .i64 1))),
 un (.asg 5 (.t 42))]))))
def Asv:ACode:=
 (.seq (.reg [un (.asg 4 (.c (.nilsl 1)))])
 (.seq (.reg [un (.mov 6 (.t 0)),
 un (.len 7 (.t 6)),
 un (.asg 5 (.t 7))])
 (.drop [6,7] (.seq (.block 0 (.loop Zo))
 (.drop [8,9,10,11,12,13,14,15,16,17,18,19,20,21,22,23,24,25,26,27,28,29,30,31,32,33,34,35,36,37,38,39,40,41,42] (.seq (.dreg [(un (.bsl 43 1 []),[48]),
 (un (.mov 44 (.t 0)),[43,48]),
 (un (.mov 45 (.t 5)),[43,44,48]),
 (un (.slc 46 1 (.t 44) none (some (.t 45))),[43,48]),
 (un (.app 47 1 (.t 43) (.t 46)),[48]),
 (un (.mov 48 (.t 1)),[43,44,45,46,47,43]),
 (un (.bsl 49 1 [(.t 48)]),[43,44,45,46,47,43]),
 (un (.app 50 1 (.t 47) (.t 49)),[43,48]),
 (un (.mov 51 (.t 0)),[43,44,45,46,47,48,49,50,43,48,47]),
 (un (.mov 52 (.t 5)),[43,44,45,46,47,48,49,50,51,43,48,47]),
 (un (.slc 53 1 (.t 51) (some (.t 52)) none),[43,44,45,46,47,48,49,50,43,48,47])]
 [un (.app 54 1 (.t 50) (.t 53)),
 un (.asg 4 (.t 54))])
 (.drop [43,44,45,46,47,48,49,50,51,52,53,54] .ret)))))))
abbrev Atw:List RS:=[.t 4]
theorem As6:Az Tryz.prog Ym 55 Asv Atw=true:=by kernel_rfl
def Xv:ACode:=
 (.seq (.seq (.reg [un (.mov 30 (.t 10)),
 un (.mov 31 (.t 0)),
 un (.len 32 (.t 31)),
 un (.bin 33 .lss (.t 30) (.t 32))])
 (.drop [30,31,32] (.cond (.t 33) .skip
 (.exit 0))))
 (.drop [30,31,32,33] (.seq (.block 1 (.seq (.reg [un (.mov 36 (.t 0)),
 un (.mov 37 (.t 10)),
 un (.iad 38 1 (.t 36) (.t 37)),
 un (.ld 39 1 false (.t 38)),
 un (.mov 40 (.t 8)),
 un (.bin 41 .eql (.t 39) (.t 40))])
 (.drop [36,37,38,39,40] (.cond (.t 41) (.reg [un (.mov 42 (.t 9)),
 un (.mov 43 (.t 7)),
 un (.bsl 44 1 [(.t 43)]),
 un (.app 45 1 (.t 42) (.t 44)),
 un (.asg 9 (.t 45))])
 (.reg [un (.mov 46 (.t 9)),
 un (.mov 47 (.t 0)),
 un (.mov 48 (.t 10)),
 un (.iad 49 1 (.t 47) (.t 48)),
 un (.ld 50 1 false (.t 49)),
 un (.bsl 51 1 [(.t 50)]),
 un (.app 52 1 (.t 46) (.t 51)),
 un (.asg 9 (.t 52))])))))
 (.drop [36,37,38,39,40,41,42,43,44,45,46,47,48,49,50,51,52] (.reg [un (.mov 34 (.t 10)),
 un (.bin 35 .add (.t 34) (.c (.int .i64 1))),
 un (.asg 10 (.t 35))])))))
def Ap6:ACode:=
 (.seq (.reg [un (.asg 6 (.c (.nilsl 1)))])
 (.seq (.dreg [(un (.mov 11 (.t 0)),[]),
 (un (.mov 12 (.t 1)),[11]),
 (un (.iad 13 1 (.t 11) (.t 12)),[]),
 (un (.ld 14 1 false (.t 13)),[]),
 (un (.mov 15 (.t 0)),[11,12,13,14]),
 (un (.mov 16 (.t 2)),[11,12,13,14,15]),
 (un (.iad 17 1 (.t 15) (.t 16)),[11,12,13,14]),
 (un (.ld 18 1 false (.t 17)),[11,12,13,14]),
 (un (.call 19 Oj [((.t 14),false),((.t 18),false)]),[]),
 (un (.mov 20 (.t 0)),[11,12,13,14,15,16,17,18,19]),
 (un (.mov 21 (.t 1)),[11,12,13,14,15,16,17,18,19,20]),
 (un (.iad 22 1 (.t 20) (.t 21)),[11,12,13,14,15,16,17,18,19]),
 (un (.ld 23 1 false (.t 22)),[11,12,13,14,15,16,17,18,19]),
 (un (.mov 24 (.t 0)),[11,12,13,14,15,16,17,18,19,20,21,22,23]),
 (un (.mov 25 (.t 2)),[11,12,13,14,15,16,17,18,19,20,21,22,23,24]),
 (un (.iad 26 1 (.t 24) (.t 25)),[11,12,13,14,15,16,17,18,19,20,21,22,23]),
 (un (.ld 27 1 false (.t 26)),[11,12,13,14,15,16,17,18,19,20,21,22,23])]
 [un (.call 28 Ri [((.t 23),false),((.t 27),false)]),
 un (.asg 7 (.t 19)),
 un (.asg 8 (.t 28))])
 (.drop [11,12,13,14,15,16,17,18,19,20,21,22,23,24,25,26,27,28] (.seq (.reg [un (.bsl 29 1 []),
 un (.asg 9 (.t 29))])
 (.drop [29] (.seq (.seq (.reg [un (.asg 10 (.c (.int .i64 0)))])
 (.block 0 (.loop Xv)))
 (.drop [10,30,31,32,33,36,37,38,39,40,41,42,43,44,45,46,47,48,49,50,51,52,34,35] (.seq (.reg [un (.mov 53 (.t 9)),
 un (.asg 6 (.t 53))])
 (.drop [53] .ret)))))))))
abbrev Arg:List RS:=[.t 6]
theorem Aqd:Az Tryz.prog Io 54 Ap6 Arg=true:=by kernel_rfl
def Ab2:ACode:=
 (.seq (.seq (.reg [un (.mov 6 (.t 5)),
 un (.mov 7 (.t 0)),
 un (.len 8 (.t 7)),
 un (.bin 9 .lss (.t 6) (.t 8)),
 un (.asg 10 (.t 9)),
 ⟨some (10,true),.mov 11 (.t 0)⟩,
 ⟨some (10,true),.mov 12 (.t 5)⟩,
 ⟨some (10,true),.iad 13 1 (.t 11) (.t 12)⟩,
 ⟨some (10,true),.ld 14 1 false (.t 13)⟩,
 ⟨some (10,true),.call 15 Is [((.t 14),false)]⟩,
 ⟨some (10,true),.mov 16 (.t 1)⟩,
 ⟨some (10,true),.call 17 Is [((.t 16),false)]⟩,
 ⟨some (10,true),.bin 18 .gtr (.t 15) (.t 17)⟩,
 ⟨some (10,true),.asg 19 (.t 18)⟩,
 ⟨some (19,false),.mov 20 (.t 0)⟩,
 ⟨some (19,false),.mov 21 (.t 5)⟩,
 ⟨some (19,false),.iad 22 1 (.t 20) (.t 21)⟩,
 ⟨some (19,false),.ld 23 1 false (.t 22)⟩,
 ⟨some (19,false),.call 24 Is [((.t 23),false)]⟩,
 ⟨some (19,false),.mov 25 (.t 1)⟩,
 ⟨some (19,false),.call 26 Is [((.t 25),false)]⟩,
 ⟨some (19,false),.bin 27 .eql (.t 24) (.t 26)⟩,
 ⟨some (19,false),.asg 28 (.t 27)⟩,
 ⟨some (28,true),.mov 29 (.t 0)⟩,
 ⟨some (28,true),.mov 30 (.t 5)⟩,
 ⟨some (28,true),.iad 31 1 (.t 29) (.t 30)⟩,
 ⟨some (28,true),.ld 32 1 false (.t 31)⟩,
 ⟨some (28,true),.mov 33 (.t 1)⟩,
 ⟨some (28,true),.call 34 Rp [((.t 32),false),((.t 33),false)]⟩,
 ⟨some (19,false),.pick 35 (.t 28) (.t 34) (.c (.bool false))⟩,
 ⟨some (10,true),.pick 36 (.t 19) (.c (.bool true)) (.t 35)⟩,
 un (.pick 37 (.t 10) (.t 36) (.c (.bool false)))])
 (.drop [6,7,8,9,10,11,12,13,14,15,16,17,18,19,20,21,22,23,24,25,26,27,28,29,30,31,32,33,34,35,36] (.cond (.t 37) .skip
 (.exit 0))))
 (.drop [6,7,8,9,10,11,12,13,14,15,16,17,18,19,20,21,22,23,24,25,26,27,28,29,30,31,32,33,34,35,36,37] (.block 1 (.reg [un (.mov 38 (.t 5)),
 un (.bin 39 .add (.t 38) (.c (.int .i64 1))),
 un (.asg 5 (.t 39))]))))
def Aog:ACode:=
 (.seq (.reg [un (.mov 40 (.t 5)),
 un (.mov 41 (.t 0)),
 un (.len 42 (.t 41)),
 un (.bin 43 .lss (.t 40) (.t 42)),
 un (.asg 44 (.t 43)),
 ⟨some (44,true),.mov 45 (.t 0)⟩,
 ⟨some (44,true),.mov 46 (.t 5)⟩,
 ⟨some (44,true),.iad 47 1 (.t 45) (.t 46)⟩,
 ⟨some (44,true),.ld 48 1 false (.t 47)⟩,
 ⟨some (44,true),.mov 49 (.t 1)⟩,
 ⟨some (44,true),.call 50 Ms [((.t 48),false),((.t 49),false)]⟩,
 un (.pick 51 (.t 44) (.t 50) (.c (.bool false)))])
 (.drop [40,41,42,43,44,45,46,47,48,49,50] (.cond (.t 51) (.seq (.reg [un (.mov 52 (.t 0)),
 un (.asg 4 (.t 52))])
 (.drop [52] .ret))
 .skip)))
def Aw5:ACode:=
 (.seq (.reg [un (.asg 4 (.c (.nilsl 1)))])
 (.seq (.reg [un (.asg 5 (.c (.int .i64 0)))])
 (.seq (.block 0 (.loop Ab2))
 (.drop [6,7,8,9,10,11,12,13,14,15,16,17,18,19,20,21,22,23,24,25,26,27,28,29,30,31,32,33,34,35,36,37,38,39] (.seq (.cut Aog)
 (.drop [40,41,42,43,44,45,46,47,48,49,50,51,52] (.seq (.dreg [(un (.bsl 53 1 []),[58]),
 (un (.mov 54 (.t 0)),[53,58]),
 (un (.mov 55 (.t 5)),[53,54,58]),
 (un (.slc 56 1 (.t 54) none (some (.t 55))),[53,58]),
 (un (.app 57 1 (.t 53) (.t 56)),[58]),
 (un (.mov 58 (.t 1)),[53,54,55,56,57,53]),
 (un (.bsl 59 1 [(.t 58)]),[53,54,55,56,57,53]),
 (un (.app 60 1 (.t 57) (.t 59)),[53,58]),
 (un (.mov 61 (.t 0)),[53,54,55,56,57,58,59,60,53,58,57]),
 (un (.mov 62 (.t 5)),[53,54,55,56,57,58,59,60,61,53,58,57]),
 (un (.slc 63 1 (.t 61) (some (.t 62)) none),[53,54,55,56,57,58,59,60,53,58,57])]
 [un (.app 64 1 (.t 60) (.t 63)),
 un (.asg 4 (.t 64))])
 (.drop [53,54,55,56,57,58,59,60,61,62,63,64] .ret))))))))
abbrev Av7:List RS:=[.t 4]
theorem Awq:Az Tryz.prog Uu 65 Aw5 Av7=true:=by kernel_rfl
def Mi:ACode:=
 (.seq (.reg [un (.bin 32 .lss (.t 31) (.t 30))])
 (.seq (.cond (.t 32) .skip
 (.exit 6))
 (.seq (.block 7 (.seq (.reg [un (.mov 33 (.t 31)),
 un (.iad 34 1 (.t 29) (.t 31)),
 un (.ld 35 1 false (.t 34)),
 un (.asg 11 (.t 33)),
 un (.asg 12 (.t 35))])
 (.drop [33,34,35] (.seq (.dreg [(un (.mov 36 (.t 11)),[]),
 (un (.mov 37 (.t 9)),[36]),
 (un (.bin 38 .quo (.t 36) (.t 37)),[]),
 (un (.fadr 39 0 (.t 2)),[36,37,38]),
 (un (.ld 40 1 false (.t 39)),[36,37,38])]
 [un (.bin 41 .rem (.t 38) (.t 40)),
 un (.asg 13 (.t 41))])
 (.drop [36,37,38,39,40,41] (.seq (.dreg [(un (.mov 42 (.t 1)),[]),
 (un (.mov 43 (.t 12)),[42]),
 (un (.fadr 44 1 (.t 8)),[42,43]),
 (un (.ld 45 1 false (.t 44)),[42,43]),
 (un (.mov 46 (.t 11)),[42,43,44,45]),
 (un (.mov 47 (.t 1)),[42,43,44,45,46]),
 (un (.mov 48 (.t 13)),[42,43,44,45,46,47]),
 (un (.iad 49 1 (.t 47) (.t 48)),[42,43,44,45,46]),
 (un (.ld 50 1 false (.t 49)),[42,43,44,45,46]),
 (un (.mov 51 (.t 13)),[42,43,44,45,46,47,48,49,50]),
 (un (.bin 52 .sub (.t 50) (.t 51)),[42,43,44,45,46]),
 (un (.mov 53 (.t 9)),[42,43,44,45,46,47,48,49,50,51,52]),
 (un (.bin 54 .mul (.t 52) (.t 53)),[42,43,44,45,46]),
 (un (.bin 55 .add (.t 46) (.t 54)),[42,43,44,45]),
 (un (.iad 56 1 (.t 45) (.t 55)),[42,43]),
 (un (.ld 57 1 false (.t 56)),[42,43])]
 [un (.call 58 Abh [((.t 42),true),((.t 43),false),((.t 57),false)])])
 (.drop [42,43,44,45,46,47,48,49,50,51,52,53,54,55,56,57] (.cond (.t 58) (.reg [un (.asg 6 (.c (.bool true))),
 un (.asg 5 (.c (.bool true)))])
 .skip))))))))
 (.drop [33,34,35,11,12,36,37,38,39,40,41,13,42,43,44,45,46,47,48,49,50,51,52,53,54,55,56,57,58] (.reg [un (.bin 59 .add (.t 31) (.c (.int .i64 1))),
 un (.asg 31 (.t 59))])))))
def Ml:ACode:=
 (.seq (.seq (.reg [un (.mov 22 (.t 10)),
 un (.fadr 23 0 (.t 8)),
 un (.ld 24 1 false (.t 23)),
 un (.bin 25 .lss (.t 22) (.t 24))])
 (.drop [22,23,24] (.cond (.t 25) .skip
 (.exit 4))))
 (.drop [22,23,24,25] (.seq (.block 5 (.seq (.seq (.reg [un (.fadr 28 1 (.t 8)),
 un (.ld 29 1 false (.t 28)),
 un (.len 30 (.t 29)),
 un (.mov 31 (.c (.int .i64 0)))])
 (.drop [28] (.block 6 (.loop Mi))))
 (.drop [28,29,30,31,32,33,34,35,11,12,36,37,38,39,40,41,13,42,43,44,45,46,47,48,49,50,51,52,53,54,55,56,57,58,59] (.reg [un (.mov 60 (.t 9)),
 un (.fadr 61 0 (.t 2)),
 un (.ld 62 1 false (.t 61)),
 un (.bin 63 .mul (.t 60) (.t 62)),
 un (.asg 9 (.t 63))]))))
 (.drop [28,29,30,31,32,33,34,35,11,12,36,37,38,39,40,41,13,42,43,44,45,46,47,48,49,50,51,52,53,54,55,56,57,58,59,60,61,62,63] (.reg [un (.mov 26 (.t 10)),
 un (.bin 27 .add (.t 26) (.c (.int .i64 1))),
 un (.asg 10 (.t 27))])))))
def Ma:ACode:=
 (.seq (.reg [un (.bin 19 .lss (.t 18) (.t 17))])
 (.seq (.cond (.t 19) .skip
 (.exit 2))
 (.seq (.block 3 (.seq (.reg [un (.iad 20 2 (.t 16) (.t 18)),
 un (.ld 21 2 true (.t 20)),
 un (.alc 8 (.agg [.int .i64 0,.nilsl 1])),
 un (.st 2 (.t 8) (.t 21))])
 (.drop [20,21] (.seq (.reg [un (.asg 9 (.c (.int .i64 1)))])
 (.seq (.reg [un (.asg 10 (.c (.int .i64 0)))])
 (.block 4 (.loop Ml)))))))
 (.drop [20,21,8,9,10,22,23,24,25,28,29,30,31,32,33,34,35,11,12,36,37,38,39,40,41,13,42,43,44,45,46,47,48,49,50,51,52,53,54,55,56,57,58,59,60,61,62,63,26,27] (.reg [un (.bin 64 .add (.t 18) (.c (.int .i64 1))),
 un (.asg 18 (.t 64))])))))
def Mz:ACode:=
 (.seq (.seq (.reg [un (.mov 14 (.t 6))])
 (.cond (.t 14) .skip
 (.exit 0)))
 (.drop [14] (.block 1 (.seq (.reg [un (.asg 6 (.c (.bool false)))])
 (.seq (.reg [un (.fadr 15 1 (.t 2)),
 un (.ld 16 1 false (.t 15)),
 un (.len 17 (.t 16)),
 un (.mov 18 (.c (.int .i64 0)))])
 (.drop [15] (.block 2 (.loop Ma))))))))
def Acj:ACode:=
 (.seq (.reg [un (.box 2 (.t 0)),
 un (.asg 4 (.c (.bool false)))])
 (.seq (.reg [un (.asg 5 (.c (.bool false)))])
 (.seq (.seq (.reg [un (.asg 6 (.c (.bool true)))])
 (.block 0 (.loop Mz)))
 (.drop [6,14,15,16,17,18,19,20,21,8,9,10,22,23,24,25,28,29,30,31,32,33,34,35,11,12,36,37,38,39,40,41,13,42,43,44,45,46,47,48,49,50,51,52,53,54,55,56,57,58,59,60,61,62,63,26,27,64] (.seq (.reg [un (.mov 65 (.t 5)),
 un (.asg 4 (.t 65))])
 (.drop [65] .ret))))))
abbrev Acq:List RS:=[.t 4]
theorem Acr:Az Tryz.prog Kb 66 Acj Acq=true:=by kernel_rfl
end Go.Proofs.YtmkgjnphianalaaGreat.Ax
