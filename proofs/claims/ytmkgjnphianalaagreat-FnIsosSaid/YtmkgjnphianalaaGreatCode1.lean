/-
  The small code of the functions, written by program; that the program's code is this one, the kernel looks at.
-/
import Derived.Test.YtmkgjnphianalaaGreatAx3
import Derived.Test.YtmkgjnphianalaaGreatProg
import Derived.KernelRfl
import Derived.Test.YtmkgjnphianalaaGreatNum
namespace Go.Proofs.YtmkgjnphianalaaGreat.Ax
open Go
set_option maxRecDepth 100000
def Azq:ACode:=
 (.seq (.reg [un (.asg 2 (.c (.bool false)))])
 (.seq (.reg [un (.mov 3 (.t 0)),
 un (.len 4 (.t 3)),
 un (.bin 5 .gtr (.t 4) (.c (.int .i64 65536))),
 un (.asg 2 (.t 5))])
 (.drop [3,4,5] .ret)))
abbrev Aza:List RS:=[.t 2]
theorem Axi:Ay Tryz.prog Ada 6 Azq Aza=true:=by kernel_rfl
def Aaj:ACode:=
 (.seq (.seq (.reg [un (.mov 11 (.t 5)),
 un (.mov 12 (.t 0)),
 un (.len 13 (.t 12)),
 un (.bin 14 .lss (.t 11) (.t 13))])
 (.drop [11,12,13] (.cond (.t 14) .skip
 (.exit 0))))
 (.drop [11,12,13,14] (.seq (.block 1 (.seq (.dreg [(un (.mov 17 (.t 0)),[]),
 (un (.mov 18 (.t 5)),[17]),
 (un (.iad 19 1 (.t 17) (.t 18)),[]),
 (un (.ld 20 1 false (.t 19)),[]),
 (un (.mov 21 (.t 1)),[17,18,19,20]),
 (un (.mov 22 (.t 5)),[17,18,19,20,21]),
 (un (.iad 23 1 (.t 21) (.t 22)),[17,18,19,20]),
 (un (.ld 24 1 false (.t 23)),[17,18,19,20])]
 [un (.bin 25 .neq (.t 20) (.t 24))])
 (.drop [17,18,19,20,21,22,23,24] (.cond (.t 25) (.seq (.reg [un (.asg 4 (.c (.bool false)))])
 .ret)
 .skip))))
 (.drop [17,18,19,20,21,22,23,24,25] (.reg [un (.mov 15 (.t 5)),
 un (.bin 16 .add (.t 15) (.c (.int .i64 1))),
 un (.asg 5 (.t 16))])))))
def Au5:ACode:=
 (.seq (.reg [un (.asg 4 (.c (.bool false)))])
 (.seq (.seq (.reg [un (.mov 6 (.t 0)),
 un (.len 7 (.t 6)),
 un (.mov 8 (.t 1)),
 un (.len 9 (.t 8)),
 un (.bin 10 .neq (.t 7) (.t 9))])
 (.drop [6,7,8,9] (.cond (.t 10) (.seq (.reg [un (.asg 4 (.c (.bool false)))])
 .ret)
 .skip)))
 (.drop [6,7,8,9,10] (.seq (.seq (.reg [un (.asg 5 (.c (.int .i64 0)))])
 (.block 0 (.loop Aaj)))
 (.drop [5,11,12,13,14,17,18,19,20,21,22,23,24,25,15,16] (.seq (.reg [un (.asg 4 (.c (.bool true)))])
 .ret))))))
abbrev Au7:List RS:=[.t 4]
theorem Avr:Ay Tryz.prog S0 26 Au5 Au7=true:=by kernel_rfl
def Arr:ACode:=
 (.seq (.reg [un (.asg 2 (.c (.bool false)))])
 (.seq (.reg [un (.asg 2 (.c (.bool true)))])
 .ret))
abbrev Ar1:List RS:=[.t 2]
theorem Ary:Ay Tryz.prog L5 3 Arr Ar1=true:=by kernel_rfl
def Ap6:ACode:=
 (.seq (.reg [un (.asg 4 (.c (.int .i64 0)))])
 (.seq (.seq (.reg [un (.mov 5 (.t 0)),
 un (.mov 6 (.t 1)),
 un (.bin 7 .lss (.t 5) (.t 6))])
 (.drop [5,6] (.cond (.t 7) (.seq (.reg [un (.mov 8 (.t 0)),
 un (.asg 4 (.t 8))])
 (.drop [8] .ret))
 .skip)))
 (.drop [5,6,7,8] (.seq (.reg [un (.mov 9 (.t 1)),
 un (.asg 4 (.t 9))])
 (.drop [9] .ret)))))
abbrev Aow:List RS:=[.t 4]
theorem Apb:Ay Tryz.prog Tx 10 Ap6 Aow=true:=by kernel_rfl
def Yy:ACode:=
 (.seq (.reg [un (.bin 10 .lss (.t 9) (.t 8))])
 (.seq (.cond (.t 10) .skip
 (.exit 0))
 (.seq (.block 1 (.seq (.reg [un (.mov 11 (.t 9)),
 un (.iad 12 1 (.t 7) (.t 9)),
 un (.ld 13 1 false (.t 12)),
 un (.asg 4 (.t 11)),
 un (.asg 5 (.t 13))])
 (.drop [11,12,13] (.seq (.reg [un (.mov 14 (.t 5))])
 (.cond (.t 14) (.reg [un (.mov 15 (.t 3)),
 un (.mov 16 (.t 4)),
 un (.bsl 17 1 [(.t 16)]),
 un (.app 18 1 (.t 15) (.t 17)),
 un (.asg 3 (.t 18))])
 .skip)))))
 (.drop [11,12,13,4,5,14,15,16,17,18] (.reg [un (.bin 19 .add (.t 9) (.c (.int .i64 1))),
 un (.asg 9 (.t 19))])))))
def Ase:ACode:=
 (.seq (.reg [un (.asg 2 (.c (.nilsl 1)))])
 (.seq (.reg [un (.bsl 6 1 []),
 un (.asg 3 (.t 6))])
 (.drop [6] (.seq (.seq (.reg [un (.mov 7 (.t 0)),
 un (.len 8 (.t 7)),
 un (.mov 9 (.c (.int .i64 0)))])
 (.block 0 (.loop Yy)))
 (.drop [7,8,9,10,11,12,13,4,5,14,15,16,17,18,19] (.seq (.reg [un (.mov 20 (.t 3)),
 un (.asg 2 (.t 20))])
 (.drop [20] .ret)))))))
abbrev Aqz:List RS:=[.t 2]
theorem Ars:Ay Tryz.prog Wz 21 Ase Aqz=true:=by kernel_rfl
def Aag:ACode:=
 (.seq (.seq (.reg [un (.mov 6 (.t 5)),
 un (.mov 7 (.t 0)),
 un (.len 8 (.t 7)),
 un (.bin 9 .lss (.t 6) (.t 8)),
 un (.asg 10 (.t 9)),
 ⟨some (10,true),.mov 11 (.t 0)⟩,
 ⟨some (10,true),.mov 12 (.t 5)⟩,
 ⟨some (10,true),.iad 13 1 (.t 11) (.t 12)⟩,
 ⟨some (10,true),.ld 14 1 false (.t 13)⟩,
 ⟨some (10,true),.mov 15 (.t 1)⟩,
 ⟨some (10,true),.bin 16 .lss (.t 14) (.t 15)⟩,
 un (.pick 17 (.t 10) (.t 16) (.c (.bool false)))])
 (.drop [6,7,8,9,10,11,12,13,14,15,16] (.cond (.t 17) .skip
 (.exit 0))))
 (.drop [6,7,8,9,10,11,12,13,14,15,16,17] (.block 1 (.reg [un (.mov 18 (.t 5)),
 un (.bin 19 .add (.t 18) (.c (.int .i64 1))),
 un (.asg 5 (.t 19))]))))
def Al0:ACode:=
 (.seq (.reg [un (.mov 20 (.t 5)),
 un (.mov 21 (.t 0)),
 un (.len 22 (.t 21)),
 un (.bin 23 .lss (.t 20) (.t 22)),
 un (.asg 24 (.t 23)),
 ⟨some (24,true),.mov 25 (.t 0)⟩,
 ⟨some (24,true),.mov 26 (.t 5)⟩,
 ⟨some (24,true),.iad 27 1 (.t 25) (.t 26)⟩,
 ⟨some (24,true),.ld 28 1 false (.t 27)⟩,
 ⟨some (24,true),.mov 29 (.t 1)⟩,
 ⟨some (24,true),.bin 30 .eql (.t 28) (.t 29)⟩,
 un (.pick 31 (.t 24) (.t 30) (.c (.bool false)))])
 (.drop [20,21,22,23,24,25,26,27,28,29,30] (.cond (.t 31) (.seq (.reg [un (.mov 32 (.t 0)),
 un (.asg 4 (.t 32))])
 (.drop [32] .ret))
 .skip)))
def Av6:ACode:=
 (.seq (.reg [un (.asg 4 (.c (.nilsl 1)))])
 (.seq (.reg [un (.asg 5 (.c (.int .i64 0)))])
 (.seq (.block 0 (.loop Aag))
 (.drop [6,7,8,9,10,11,12,13,14,15,16,17,18,19] (.seq (.cut Al0)
 (.drop [20,21,22,23,24,25,26,27,28,29,30,31,32] (.seq (.dreg [(un (.bsl 33 1 []),[38]),
 (un (.mov 34 (.t 0)),[33,38]),
 (un (.mov 35 (.t 5)),[33,34,38]),
 (un (.slc 36 1 (.t 34) none (some (.t 35))),[33,38]),
 (un (.app 37 1 (.t 33) (.t 36)),[38]),
 (un (.mov 38 (.t 1)),[33,34,35,36,37,33]),
 (un (.bsl 39 1 [(.t 38)]),[33,34,35,36,37,33]),
 (un (.app 40 1 (.t 37) (.t 39)),[33,38]),
 (un (.mov 41 (.t 0)),[33,34,35,36,37,38,39,40,33,38,37]),
 (un (.mov 42 (.t 5)),[33,34,35,36,37,38,39,40,41,33,38,37]),
 (un (.slc 43 1 (.t 41) (some (.t 42)) none),[33,34,35,36,37,38,39,40,33,38,37])]
 [un (.app 44 1 (.t 40) (.t 43)),
 un (.asg 4 (.t 44))])
 (.drop [33,34,35,36,37,38,39,40,41,42,43,44] .ret))))))))
abbrev Aux:List RS:=[.t 4]
theorem Awh:Ay Tryz.prog Z1 45 Av6 Aux=true:=by kernel_rfl
def Tf:ACode:=
 (.seq (.reg [un (.bin 15 .lss (.t 14) (.t 13))])
 (.seq (.cond (.t 15) .skip
 (.exit 0))
 (.seq (.block 1 (.seq (.reg [un (.mov 16 (.t 14)),
 un (.iad 17 1 (.t 12) (.t 14)),
 un (.ld 18 1 false (.t 17)),
 un (.asg 5 (.t 16)),
 un (.asg 6 (.t 18))])
 (.drop [16,17,18] (.seq (.reg [un (.mov 19 (.t 1)),
 un (.mov 20 (.t 5)),
 un (.iad 21 1 (.t 19) (.t 20)),
 un (.ld 22 1 false (.t 21)),
 un (.mov 23 (.t 6)),
 un (.bin 24 .neq (.t 22) (.t 23))])
 (.drop [19,20,21,22,23] (.cond (.t 24) (.seq (.reg [un (.asg 4 (.c (.bool false)))])
 .ret)
 .skip))))))
 (.drop [16,17,18,5,6,19,20,21,22,23,24] (.reg [un (.bin 25 .add (.t 14) (.c (.int .i64 1))),
 un (.asg 14 (.t 25))])))))
def Ak3:ACode:=
 (.seq (.reg [un (.asg 4 (.c (.bool false)))])
 (.seq (.seq (.reg [un (.mov 7 (.t 0)),
 un (.len 8 (.t 7)),
 un (.mov 9 (.t 1)),
 un (.len 10 (.t 9)),
 un (.bin 11 .neq (.t 8) (.t 10))])
 (.drop [7,8,9,10] (.cond (.t 11) (.seq (.reg [un (.asg 4 (.c (.bool false)))])
 .ret)
 .skip)))
 (.drop [7,8,9,10,11] (.seq (.seq (.reg [un (.mov 12 (.t 0)),
 un (.len 13 (.t 12)),
 un (.mov 14 (.c (.int .i64 0)))])
 (.block 0 (.loop Tf)))
 (.drop [12,13,14,15,16,17,18,5,6,19,20,21,22,23,24,25] (.seq (.reg [un (.asg 4 (.c (.bool true)))])
 .ret))))))
abbrev Amo:List RS:=[.t 4]
theorem Amf:Ay Tryz.prog Mg 26 Ak3 Amo=true:=by kernel_rfl
def Wh:ACode:=
 (.seq (.reg [un (.bin 14 .lss (.t 13) (.t 12))])
 (.seq (.cond (.t 14) .skip
 (.exit 0))
 (.seq (.block 1 (.seq (.reg [un (.mov 15 (.t 13)),
 un (.iad 16 1 (.t 11) (.t 13)),
 un (.ld 17 1 false (.t 16)),
 un (.asg 6 (.t 15)),
 un (.asg 7 (.t 17))])
 (.drop [15,16,17] (.reg [un (.mov 18 (.t 5)),
 un (.mov 19 (.t 6)),
 un (.mov 20 (.t 1)),
 un (.mov 21 (.t 7)),
 un (.iad 22 1 (.t 20) (.t 21)),
 un (.ld 23 1 false (.t 22)),
 un (.iad 24 1 (.t 18) (.t 19)),
 un (.st 1 (.t 24) (.t 23))]))))
 (.drop [15,16,17,6,7,18,19,20,21,22,23,24] (.reg [un (.bin 25 .add (.t 13) (.c (.int .i64 1))),
 un (.asg 13 (.t 25))])))))
def Ao4:ACode:=
 (.seq (.reg [un (.asg 4 (.c (.nilsl 1)))])
 (.seq (.reg [un (.mov 8 (.t 0)),
 un (.len 9 (.t 8)),
 un (.mk 10 1 (.int .i64 0) (.t 9)),
 un (.asg 5 (.t 10))])
 (.drop [8,9,10] (.seq (.seq (.reg [un (.mov 11 (.t 0)),
 un (.len 12 (.t 11)),
 un (.mov 13 (.c (.int .i64 0)))])
 (.block 0 (.loop Wh)))
 (.drop [11,12,13,14,15,16,17,6,7,18,19,20,21,22,23,24,25] (.seq (.reg [un (.mov 26 (.t 5)),
 un (.asg 4 (.t 26))])
 (.drop [26] .ret)))))))
abbrev Ap0:List RS:=[.t 4]
theorem Ap2:Ay Tryz.prog Ty 27 Ao4 Ap0=true:=by kernel_rfl
def Yv:ACode:=
 (.seq (.seq (.reg [un (.mov 11 (.t 5)),
 un (.mov 12 (.t 0)),
 un (.len 13 (.t 12)),
 un (.bin 14 .lss (.t 11) (.t 13))])
 (.drop [11,12,13] (.cond (.t 14) .skip
 (.exit 0))))
 (.drop [11,12,13,14] (.seq (.block 1 (.seq (.dreg [(un (.mov 17 (.t 0)),[]),
 (un (.mov 18 (.t 5)),[17]),
 (un (.iad 19 1 (.t 17) (.t 18)),[]),
 (un (.ld 20 1 false (.t 19)),[]),
 (un (.mov 21 (.t 1)),[17,18,19,20]),
 (un (.mov 22 (.t 5)),[17,18,19,20,21]),
 (un (.iad 23 1 (.t 21) (.t 22)),[17,18,19,20]),
 (un (.ld 24 1 false (.t 23)),[17,18,19,20])]
 [un (.bin 25 .neq (.t 20) (.t 24))])
 (.drop [17,18,19,20,21,22,23,24] (.cond (.t 25) (.seq (.reg [un (.asg 4 (.c (.bool false)))])
 .ret)
 .skip))))
 (.drop [17,18,19,20,21,22,23,24,25] (.reg [un (.mov 15 (.t 5)),
 un (.bin 16 .add (.t 15) (.c (.int .i64 1))),
 un (.asg 5 (.t 16))])))))
def Asb:ACode:=
 (.seq (.reg [un (.asg 4 (.c (.bool false)))])
 (.seq (.seq (.reg [un (.mov 6 (.t 0)),
 un (.len 7 (.t 6)),
 un (.mov 8 (.t 1)),
 un (.len 9 (.t 8)),
 un (.bin 10 .neq (.t 7) (.t 9))])
 (.drop [6,7,8,9] (.cond (.t 10) (.seq (.reg [un (.asg 4 (.c (.bool false)))])
 .ret)
 .skip)))
 (.drop [6,7,8,9,10] (.seq (.seq (.reg [un (.asg 5 (.c (.int .i64 0)))])
 (.block 0 (.loop Yv)))
 (.drop [5,11,12,13,14,17,18,19,20,21,22,23,24,25,15,16] (.seq (.reg [un (.asg 4 (.c (.bool true)))])
 .ret))))))
abbrev Aq1:List RS:=[.t 4]
theorem Asx:Ay Tryz.prog L6 26 Asb Aq1=true:=by kernel_rfl
def Ue:ACode:=
 (.seq (.seq (.reg [un (.mov 8 (.t 6)),
 un (.mov 9 (.t 1)),
 un (.len 10 (.t 9)),
 un (.bin 11 .lss (.t 8) (.t 10))])
 (.drop [8,9,10] (.cond (.t 11) .skip
 (.exit 0))))
 (.drop [8,9,10,11] (.seq (.block 1 (.reg [un (.mov 14 (.t 5)),
 un (.mov 15 (.t 0)),
 un (.mov 16 (.t 1)),
 un (.mov 17 (.t 6)),
 un (.iad 18 1 (.t 16) (.t 17)),
 un (.ld 19 1 false (.t 18)),
 un (.iad 20 1 (.t 15) (.t 19)),
 un (.ld 21 1 false (.t 20)),
 un (.bsl 22 1 [(.t 21)]),
 un (.app 23 1 (.t 14) (.t 22)),
 un (.asg 5 (.t 23))]))
 (.drop [14,15,16,17,18,19,20,21,22,23] (.reg [un (.mov 12 (.t 6)),
 un (.bin 13 .add (.t 12) (.c (.int .i64 1))),
 un (.asg 6 (.t 13))])))))
def Ala:ACode:=
 (.seq (.reg [un (.asg 4 (.c (.nilsl 1)))])
 (.seq (.reg [un (.bsl 7 1 []),
 un (.asg 5 (.t 7))])
 (.drop [7] (.seq (.seq (.reg [un (.asg 6 (.c (.int .i64 0)))])
 (.block 0 (.loop Ue)))
 (.drop [6,8,9,10,11,14,15,16,17,18,19,20,21,22,23,12,13] (.seq (.reg [un (.mov 24 (.t 5)),
 un (.asg 4 (.t 24))])
 (.drop [24] .ret)))))))
abbrev Alj:List RS:=[.t 4]
theorem Ali:Ay Tryz.prog Mh 25 Ala Alj=true:=by kernel_rfl
def Awt:ACode:=
 (.seq (.reg [un (.asg 2 (.c (.nilsl 1)))])
 (.seq (.reg [un (.bsl 3 1 []),
 un (.mov 4 (.t 0)),
 un (.app 5 1 (.t 3) (.t 4)),
 un (.asg 2 (.t 5))])
 (.drop [3,4,5] .ret)))
abbrev Aup:List RS:=[.t 2]
theorem Avh:Ay Tryz.prog Lc 6 Awt Aup=true:=by kernel_rfl
def Aau:ACode:=
 (.seq (.seq (.reg [un (.mov 6 (.t 1)),
 un (.bin 7 .gtr (.t 6) (.c (.int .i64 0)))])
 (.drop [6] (.cond (.t 7) .skip
 (.exit 0))))
 (.drop [6,7] (.seq (.block 1 (.reg [un (.mov 10 (.t 5)),
 un (.mov 11 (.t 0)),
 un (.bin 12 .mul (.t 10) (.t 11)),
 un (.asg 5 (.t 12))]))
 (.drop [10,11,12] (.reg [un (.mov 8 (.t 1)),
 un (.bin 9 .sub (.t 8) (.c (.int .i64 1))),
 un (.asg 1 (.t 9))])))))
def Avw:ACode:=
 (.seq (.reg [un (.asg 4 (.c (.int .i64 0)))])
 (.seq (.reg [un (.asg 5 (.c (.int .i64 1)))])
 (.seq (.block 0 (.loop Aau))
 (.drop [6,7,10,11,12,8,9] (.seq (.reg [un (.mov 13 (.t 5)),
 un (.asg 4 (.t 13))])
 (.drop [13] .ret))))))
abbrev Awu:List RS:=[.t 4]
theorem Au1:Ay Tryz.prog Nr 14 Avw Awu=true:=by kernel_rfl
def Yg:ACode:=
 (.seq (.reg [un (.bin 10 .lss (.t 9) (.t 8))])
 (.seq (.cond (.t 10) .skip
 (.exit 0))
 (.seq (.block 1 (.seq (.reg [un (.iad 11 1 (.t 7) (.t 9)),
 un (.ld 12 1 false (.t 11)),
 un (.asg 6 (.t 12))])
 (.drop [11,12] (.seq (.reg [un (.mov 13 (.t 6)),
 un (.bin 14 .lss (.t 13) (.c (.int .i64 0))),
 un (.asg 15 (.t 14)),
 ⟨some (15,false),.mov 16 (.t 6)⟩,
 ⟨some (15,false),.mov 17 (.t 1)⟩,
 ⟨some (15,false),.bin 18 .geq (.t 16) (.t 17)⟩,
 un (.pick 19 (.t 15) (.c (.bool true)) (.t 18))])
 (.drop [13,14,15,16,17,18] (.cond (.t 19) (.seq (.reg [un (.asg 4 (.c (.bool false)))])
 .ret)
 .skip))))))
 (.drop [11,12,6,13,14,15,16,17,18,19] (.reg [un (.bin 20 .add (.t 9) (.c (.int .i64 1))),
 un (.asg 9 (.t 20))])))))
def Ar6:ACode:=
 (.seq (.reg [un (.asg 4 (.c (.bool false)))])
 (.seq (.seq (.reg [un (.mov 7 (.t 0)),
 un (.len 8 (.t 7)),
 un (.mov 9 (.c (.int .i64 0)))])
 (.block 0 (.loop Yg)))
 (.drop [7,8,9,10,11,12,6,13,14,15,16,17,18,19,20] (.seq (.reg [un (.asg 4 (.c (.bool true)))])
 .ret))))
abbrev Asi:List RS:=[.t 4]
theorem Ash:Ay Tryz.prog Ly 21 Ar6 Asi=true:=by kernel_rfl
def Xb:ACode:=
 (.seq (.seq (.reg [un (.mov 13 (.t 8)),
 un (.bin 14 .geq (.t 13) (.c (.int .i64 0)))])
 (.drop [13] (.cond (.t 14) .skip
 (.exit 0))))
 (.drop [13,14] (.seq (.block 1 (.seq (.reg [un (.mov 17 (.t 7)),
 un (.mov 18 (.t 8)),
 un (.mov 19 (.t 0)),
 un (.mov 20 (.t 2)),
 un (.bin 21 .rem (.t 19) (.t 20)),
 un (.iad 22 1 (.t 17) (.t 18)),
 un (.st 1 (.t 22) (.t 21))])
 (.drop [17,18,19,20,21,22] (.reg [un (.mov 23 (.t 0)),
 un (.mov 24 (.t 2)),
 un (.bin 25 .quo (.t 23) (.t 24)),
 un (.asg 0 (.t 25))]))))
 (.drop [17,18,19,20,21,22,23,24,25] (.reg [un (.mov 15 (.t 8)),
 un (.bin 16 .sub (.t 15) (.c (.int .i64 1))),
 un (.asg 8 (.t 16))])))))
def Aqs:ACode:=
 (.seq (.reg [un (.asg 6 (.c (.nilsl 1)))])
 (.seq (.reg [un (.mov 9 (.t 1)),
 un (.mk 10 1 (.int .i64 0) (.t 9)),
 un (.asg 7 (.t 10))])
 (.drop [9,10] (.seq (.seq (.reg [un (.mov 11 (.t 1)),
 un (.bin 12 .sub (.t 11) (.c (.int .i64 1))),
 un (.asg 8 (.t 12))])
 (.drop [11,12] (.block 0 (.loop Xb))))
 (.drop [11,12,8,13,14,17,18,19,20,21,22,23,24,25,15,16] (.seq (.reg [un (.mov 26 (.t 7)),
 un (.asg 6 (.t 26))])
 (.drop [26] .ret)))))))
abbrev Art:List RS:=[.t 6]
theorem Asn:Ay Tryz.prog W0 27 Aqs Art=true:=by kernel_rfl
def Vn:ACode:=
 (.seq (.reg [un (.bin 11 .lss (.t 10) (.t 9))])
 (.seq (.cond (.t 11) .skip
 (.exit 0))
 (.seq (.block 1 (.seq (.reg [un (.iad 12 1 (.t 8) (.t 10)),
 un (.ld 13 1 false (.t 12)),
 un (.asg 7 (.t 13))])
 (.drop [12,13] (.reg [un (.mov 14 (.t 5)),
 un (.mov 15 (.t 1)),
 un (.bin 16 .mul (.t 14) (.t 15)),
 un (.mov 17 (.t 7)),
 un (.bin 18 .add (.t 16) (.t 17)),
 un (.asg 5 (.t 18))]))))
 (.drop [12,13,7,14,15,16,17,18] (.reg [un (.bin 19 .add (.t 10) (.c (.int .i64 1))),
 un (.asg 10 (.t 19))])))))
def Ap7:ACode:=
 (.seq (.reg [un (.asg 4 (.c (.int .i64 0)))])
 (.seq (.reg [un (.asg 5 (.c (.int .i64 0)))])
 (.seq (.seq (.reg [un (.mov 8 (.t 0)),
 un (.len 9 (.t 8)),
 un (.mov 10 (.c (.int .i64 0)))])
 (.block 0 (.loop Vn)))
 (.drop [8,9,10,11,12,13,7,14,15,16,17,18,19] (.seq (.reg [un (.mov 20 (.t 5)),
 un (.asg 4 (.t 20))])
 (.drop [20] .ret))))))
abbrev An1:List RS:=[.t 4]
theorem Aoy:Ay Tryz.prog Ua 21 Ap7 An1=true:=by kernel_rfl
def Azc:ACode:=
 (.seq (.reg [un (.asg 6 (.c (.bool false)))])
 (.seq (.reg [un (.mov 7 (.t 0)),
 un (.mov 8 (.t 1)),
 un (.bin 9 .geq (.t 7) (.t 8)),
 un (.asg 10 (.t 9)),
 ⟨some (10,true),.mov 11 (.t 0)⟩,
 ⟨some (10,true),.mov 12 (.t 2)⟩,
 ⟨some (10,true),.bin 13 .leq (.t 11) (.t 12)⟩,
 un (.pick 14 (.t 10) (.t 13) (.c (.bool false))),
 un (.asg 6 (.t 14))])
 (.drop [7,8,9,10,11,12,13,14] .ret)))
abbrev Axf:List RS:=[.t 6]
theorem Ayi:Ay Tryz.prog Kz 15 Azc Axf=true:=by kernel_rfl
def Av3:ACode:=
 (.seq (.reg [un (.asg 2 (.c (.nilsl 1)))])
 (.seq (.reg [un (.bsl 3 1 []),
 un (.mov 4 (.t 0)),
 un (.app 5 1 (.t 3) (.t 4)),
 un (.asg 2 (.t 5))])
 (.drop [3,4,5] .ret)))
abbrev Av8:List RS:=[.t 2]
theorem At8:Ay Tryz.prog Oe 6 Av3 Av8=true:=by kernel_rfl
def Z6:ACode:=
 (.seq (.seq (.reg [un (.mov 6 (.t 1)),
 un (.bin 7 .gtr (.t 6) (.c (.int .i64 0)))])
 (.drop [6] (.cond (.t 7) .skip
 (.exit 0))))
 (.drop [6,7] (.seq (.block 1 (.reg [un (.mov 10 (.t 5)),
 un (.mov 11 (.t 0)),
 un (.bin 12 .mul (.t 10) (.t 11)),
 un (.asg 5 (.t 12))]))
 (.drop [10,11,12] (.reg [un (.mov 8 (.t 1)),
 un (.bin 9 .sub (.t 8) (.c (.int .i64 1))),
 un (.asg 1 (.t 9))])))))
def Awa:ACode:=
 (.seq (.reg [un (.asg 4 (.c (.int .i64 0)))])
 (.seq (.reg [un (.asg 5 (.c (.int .i64 1)))])
 (.seq (.block 0 (.loop Z6))
 (.drop [6,7,10,11,12,8,9] (.seq (.reg [un (.mov 13 (.t 5)),
 un (.asg 4 (.t 13))])
 (.drop [13] .ret))))))
abbrev Auv:List RS:=[.t 4]
theorem Awr:Ay Tryz.prog Zi 14 Awa Auv=true:=by kernel_rfl
def Xw:ACode:=
 (.seq (.seq (.reg [un (.mov 6 (.t 4)),
 un (.fadr 7 1 (.t 1)),
 un (.ld 8 1 false (.t 7)),
 un (.len 9 (.t 8)),
 un (.bin 10 .lss (.t 6) (.t 9))])
 (.drop [6,7,8,9] (.cond (.t 10) .skip
 (.exit 0))))
 (.drop [6,7,8,9,10] (.seq (.block 1 (.reg [un (.mov 13 (.t 3)),
 un (.fadr 14 1 (.t 1)),
 un (.ld 15 1 false (.t 14)),
 un (.mov 16 (.t 4)),
 un (.iad 17 2 (.t 15) (.t 16)),
 un (.fadr 18 0 (.t 17)),
 un (.ld 19 1 false (.t 18)),
 un (.bsl 20 1 [(.t 19)]),
 un (.app 21 1 (.t 13) (.t 20)),
 un (.asg 3 (.t 21))]))
 (.drop [13,14,15,16,17,18,19,20,21] (.reg [un (.mov 11 (.t 4)),
 un (.bin 12 .add (.t 11) (.c (.int .i64 1))),
 un (.asg 4 (.t 12))])))))
def Aq9:ACode:=
 (.seq (.reg [un (.box 1 (.t 0)),
 un (.asg 2 (.c (.nilsl 1)))])
 (.seq (.reg [un (.bsl 5 1 []),
 un (.asg 3 (.t 5))])
 (.drop [5] (.seq (.seq (.reg [un (.asg 4 (.c (.int .i64 0)))])
 (.block 0 (.loop Xw)))
 (.drop [4,6,7,8,9,10,13,14,15,16,17,18,19,20,21,11,12] (.seq (.reg [un (.mov 22 (.t 3)),
 un (.asg 2 (.t 22))])
 (.drop [22] .ret)))))))
abbrev Arn:List RS:=[.t 2]
theorem Aq7:Ay Tryz.prog Qu 23 Aq9 Arn=true:=by kernel_rfl
def Xv:ACode:=
 (.seq (.seq (.reg [un (.mov 13 (.t 8)),
 un (.bin 14 .geq (.t 13) (.c (.int .i64 0)))])
 (.drop [13] (.cond (.t 14) .skip
 (.exit 0))))
 (.drop [13,14] (.seq (.block 1 (.seq (.reg [un (.mov 17 (.t 7)),
 un (.mov 18 (.t 8)),
 un (.mov 19 (.t 2)),
 un (.mov 20 (.t 0)),
 un (.bin 21 .rem (.t 19) (.t 20)),
 un (.iad 22 1 (.t 17) (.t 18)),
 un (.st 1 (.t 22) (.t 21))])
 (.drop [17,18,19,20,21,22] (.reg [un (.mov 23 (.t 2)),
 un (.mov 24 (.t 0)),
 un (.bin 25 .quo (.t 23) (.t 24)),
 un (.asg 2 (.t 25))]))))
 (.drop [17,18,19,20,21,22,23,24,25] (.reg [un (.mov 15 (.t 8)),
 un (.bin 16 .sub (.t 15) (.c (.int .i64 1))),
 un (.asg 8 (.t 16))])))))
def Ara:ACode:=
 (.seq (.reg [un (.asg 6 (.c (.nilsl 1)))])
 (.seq (.reg [un (.mov 9 (.t 1)),
 un (.mk 10 1 (.int .i64 0) (.t 9)),
 un (.asg 7 (.t 10))])
 (.drop [9,10] (.seq (.seq (.reg [un (.mov 11 (.t 1)),
 un (.bin 12 .sub (.t 11) (.c (.int .i64 1))),
 un (.asg 8 (.t 12))])
 (.drop [11,12] (.block 0 (.loop Xv))))
 (.drop [11,12,8,13,14,17,18,19,20,21,22,23,24,25,15,16] (.seq (.reg [un (.mov 26 (.t 7)),
 un (.asg 6 (.t 26))])
 (.drop [26] .ret)))))))
abbrev Aq6:List RS:=[.t 6]
theorem Arv:Ay Tryz.prog Jy 27 Ara Aq6=true:=by kernel_rfl
def Aab:ACode:=
 (.seq (.seq (.reg [un (.mov 6 (.t 5)),
 un (.mov 7 (.t 0)),
 un (.len 8 (.t 7)),
 un (.bin 9 .lss (.t 6) (.t 8))])
 (.drop [6,7,8] (.cond (.t 9) .skip
 (.exit 0))))
 (.drop [6,7,8,9] (.seq (.block 1 (.seq (.reg [un (.mov 12 (.t 0)),
 un (.mov 13 (.t 5)),
 un (.iad 14 1 (.t 12) (.t 13)),
 un (.ld 15 1 false (.t 14)),
 un (.mov 16 (.t 1)),
 un (.bin 17 .eql (.t 15) (.t 16))])
 (.drop [12,13,14,15,16] (.cond (.t 17) (.seq (.reg [un (.asg 4 (.c (.bool true)))])
 .ret)
 .skip))))
 (.drop [12,13,14,15,16,17] (.reg [un (.mov 10 (.t 5)),
 un (.bin 11 .add (.t 10) (.c (.int .i64 1))),
 un (.asg 5 (.t 11))])))))
def Awn:ACode:=
 (.seq (.reg [un (.asg 4 (.c (.bool false)))])
 (.seq (.seq (.reg [un (.asg 5 (.c (.int .i64 0)))])
 (.block 0 (.loop Aab)))
 (.drop [5,6,7,8,9,12,13,14,15,16,17,10,11] (.seq (.reg [un (.asg 4 (.c (.bool false)))])
 .ret))))
abbrev Auo:List RS:=[.t 4]
theorem Aw4:Ay Tryz.prog Oy 18 Awn Auo=true:=by kernel_rfl
def V1:ACode:=
 (.seq (.seq (.reg [un (.mov 9 (.t 8)),
 un (.mov 10 (.t 2)),
 un (.len 11 (.t 10)),
 un (.bin 12 .lss (.t 9) (.t 11))])
 (.drop [9,10,11] (.cond (.t 12) .skip
 (.exit 0))))
 (.drop [9,10,11,12] (.seq (.block 1 (.dreg [(un (.mov 15 (.t 7)),[]),
 (un (.fadr 16 0 (.t 3)),[15]),
 (un (.ld 17 1 false (.t 16)),[15]),
 (un (.bin 18 .mul (.t 15) (.t 17)),[]),
 (un (.mov 19 (.t 2)),[15,16,17,18]),
 (un (.mov 20 (.t 8)),[15,16,17,18,19]),
 (un (.iad 21 1 (.t 19) (.t 20)),[15,16,17,18]),
 (un (.ld 22 1 false (.t 21)),[15,16,17,18])]
 [un (.bin 23 .add (.t 18) (.t 22)),
 un (.asg 7 (.t 23))]))
 (.drop [15,16,17,18,19,20,21,22,23] (.reg [un (.mov 13 (.t 8)),
 un (.bin 14 .add (.t 13) (.c (.int .i64 1))),
 un (.asg 8 (.t 14))])))))
def Aph:ACode:=
 (.seq (.reg [un (.box 3 (.t 0)),
 un (.asg 6 (.c (.int .i64 0)))])
 (.seq (.reg [un (.asg 7 (.c (.int .i64 0)))])
 (.seq (.seq (.reg [un (.asg 8 (.c (.int .i64 0)))])
 (.block 0 (.loop V1)))
 (.drop [8,9,10,11,12,15,16,17,18,19,20,21,22,23,13,14] (.seq (.reg [un (.fadr 24 1 (.t 3)),
 un (.ld 25 1 false (.t 24)),
 un (.mov 26 (.t 1)),
 un (.iad 27 2 (.t 25) (.t 26)),
 un (.fadr 28 1 (.t 27)),
 un (.ld 29 1 false (.t 28)),
 un (.mov 30 (.t 7)),
 un (.iad 31 1 (.t 29) (.t 30)),
 un (.ld 32 1 false (.t 31)),
 un (.asg 6 (.t 32))])
 (.drop [24,25,26,27,28,29,30,31,32] .ret))))))
abbrev Apk:List RS:=[.t 6]
theorem And:Ay Tryz.prog Ny 33 Aph Apk=true:=by kernel_rfl
def Tr:ACode:=
 (.seq (.seq (.reg [un (.mov 6 (.t 4)),
 un (.mov 7 (.t 0)),
 un (.slen 8 (.t 7)),
 un (.bin 9 .lss (.t 6) (.t 8))])
 (.drop [6,7,8] (.cond (.t 9) .skip
 (.exit 0))))
 (.drop [6,7,8,9] (.seq (.block 1 (.dreg [(un (.fadr 12 1 (.t 3)),[18]),
 (un (.ld 13 1 false (.t 12)),[18]),
 (un (.mov 14 (.t 0)),[12,13]),
 (un (.mov 15 (.t 4)),[12,13,14]),
 (un (.sidx 16 (.t 14) (.t 15)),[12,13]),
 (un (.bin 17 .sub (.t 16) (.c (.int .u8 48))),[12,13]),
 (un (.cnv 18 .i64 (.t 17)),[12,13]),
 (un (.bsl 19 1 [(.t 18)]),[12,13])]
 [un (.app 20 1 (.t 13) (.t 19)),
 un (.fadr 21 1 (.t 3)),
 un (.st 1 (.t 21) (.t 20))]))
 (.drop [12,13,14,15,16,17,18,19,20,21] (.reg [un (.mov 10 (.t 4)),
 un (.bin 11 .add (.t 10) (.c (.int .i64 1))),
 un (.asg 4 (.t 11))])))))
def Alf:ACode:=
 (.seq (.reg [un (.alc 2 (.agg [.int .i64 0,.nilsl 1]))])
 (.seq (.reg [un (.bld 5 [.int .i64 0,.nilsl 1] [(0,1,(.c (.int .i64 2)))]),
 un (.alc 3 (.agg [.int .i64 0,.nilsl 1])),
 un (.st 2 (.t 3) (.t 5))])
 (.drop [5] (.seq (.seq (.reg [un (.asg 4 (.c (.int .i64 0)))])
 (.block 0 (.loop Tr)))
 (.drop [4,6,7,8,9,12,13,14,15,16,17,18,19,20,21,10,11] (.seq (.reg [un (.ld 22 2 true (.t 3)),
 un (.st 2 (.t 2) (.t 22))])
 (.drop [22] .ret)))))))
abbrev Amg:List RS:=[.c 2 2 true]
theorem Aky:Ay Tryz.prog Bo 23 Alf Amg=true:=by kernel_rfl
def Tz:ACode:=
 (.seq (.seq (.reg [un (.mov 6 (.t 4)),
 un (.mov 7 (.t 0)),
 un (.mov 8 (.t 0)),
 un (.bin 9 .mul (.t 7) (.t 8)),
 un (.mov 10 (.t 0)),
 un (.bin 11 .mul (.t 9) (.t 10)),
 un (.bin 12 .lss (.t 6) (.t 11))])
 (.drop [6,7,8,9,10,11] (.cond (.t 12) .skip
 (.exit 0))))
 (.drop [6,7,8,9,10,11,12] (.seq (.block 1 (.dreg [(un (.fadr 15 1 (.t 3)),[35]),
 (un (.ld 16 1 false (.t 15)),[35]),
 (un (.mov 17 (.t 4)),[15,16]),
 (un (.mov 18 (.t 0)),[15,16,17]),
 (un (.mov 19 (.t 0)),[15,16,17,18]),
 (un (.bin 20 .mul (.t 18) (.t 19)),[15,16,17]),
 (un (.bin 21 .quo (.t 17) (.t 20)),[15,16]),
 (un (.mov 22 (.t 0)),[15,16,17,18,19,20,21]),
 (un (.bin 23 .add (.t 21) (.t 22)),[15,16]),
 (un (.mov 24 (.t 4)),[15,16,17,18,19,20,21,22,23]),
 (un (.mov 25 (.t 0)),[15,16,17,18,19,20,21,22,23,24]),
 (un (.bin 26 .quo (.t 24) (.t 25)),[15,16,17,18,19,20,21,22,23]),
 (un (.mov 27 (.t 0)),[15,16,17,18,19,20,21,22,23,24,25,26]),
 (un (.bin 28 .rem (.t 26) (.t 27)),[15,16,17,18,19,20,21,22,23]),
 (un (.bin 29 .sub (.t 23) (.t 28)),[15,16]),
 (un (.mov 30 (.t 4)),[15,16,17,18,19,20,21,22,23,24,25,26,27,28,29]),
 (un (.mov 31 (.t 0)),[15,16,17,18,19,20,21,22,23,24,25,26,27,28,29,30]),
 (un (.bin 32 .rem (.t 30) (.t 31)),[15,16,17,18,19,20,21,22,23,24,25,26,27,28,29]),
 (un (.bin 33 .add (.t 29) (.t 32)),[15,16]),
 (un (.mov 34 (.t 0)),[15,16,17,18,19,20,21,22,23,24,25,26,27,28,29,30,31,32,33]),
 (un (.bin 35 .rem (.t 33) (.t 34)),[15,16]),
 (un (.bsl 36 1 [(.t 35)]),[15,16])]
 [un (.app 37 1 (.t 16) (.t 36)),
 un (.fadr 38 1 (.t 3)),
 un (.st 1 (.t 38) (.t 37))]))
 (.drop [15,16,17,18,19,20,21,22,23,24,25,26,27,28,29,30,31,32,33,34,35,36,37,38] (.reg [un (.mov 13 (.t 4)),
 un (.bin 14 .add (.t 13) (.c (.int .i64 1))),
 un (.asg 4 (.t 14))])))))
def Akx:ACode:=
 (.seq (.reg [un (.alc 2 (.agg [.int .i64 0,.nilsl 1]))])
 (.seq (.reg [un (.bld 5 [.int .i64 0,.nilsl 1] [(0,1,(.c (.int .i64 3)))]),
 un (.alc 3 (.agg [.int .i64 0,.nilsl 1])),
 un (.st 2 (.t 3) (.t 5))])
 (.drop [5] (.seq (.seq (.reg [un (.asg 4 (.c (.int .i64 0)))])
 (.block 0 (.loop Tz)))
 (.drop [4,6,7,8,9,10,11,12,15,16,17,18,19,20,21,22,23,24,25,26,27,28,29,30,31,32,33,34,35,36,37,38,13,14] (.seq (.reg [un (.ld 39 2 true (.t 3)),
 un (.st 2 (.t 2) (.t 39))])
 (.drop [39] .ret)))))))
abbrev Amp:List RS:=[.c 2 2 true]
theorem Ak8:Ay Tryz.prog Md 40 Akx Amp=true:=by kernel_rfl
def Abl:ACode:=
 (.seq (.dreg [(un (.mov 4 (.t 0)),[]),
 (un (.nck 5 (.t 4)),[]),
 (un (.fadr 6 1 (.t 5)),[]),
 (un (.ld 7 1 false (.t 6)),[]),
 (un (.mov 8 (.t 0)),[4,5,6,7]),
 (un (.nck 9 (.t 8)),[4,5,6,7]),
 (un (.fadr 10 0 (.t 9)),[4,5,6,7]),
 (un (.ld 11 1 false (.t 10)),[4,5,6,7]),
 (un (.len 12 (.t 11)),[4,5,6,7])]
 [un (.bin 13 .lss (.t 7) (.t 12))])
 (.drop [4,5,6,7,8,9,10,11,12] (.cond (.t 13) (.dreg [(un (.mov 14 (.t 0)),[]),
 (un (.nck 15 (.t 14)),[]),
 (un (.fadr 16 0 (.t 15)),[]),
 (un (.ld 17 1 false (.t 16)),[]),
 (un (.mov 18 (.t 0)),[14,15,16,17]),
 (un (.nck 19 (.t 18)),[14,15,16,17]),
 (un (.fadr 20 1 (.t 19)),[14,15,16,17]),
 (un (.ld 21 1 false (.t 20)),[14,15,16,17])]
 [un (.iad 22 1 (.t 17) (.t 21)),
 un (.ld 23 1 false (.t 22)),
 un (.cnv 24 .i64 (.t 23)),
 un (.asg 3 (.t 24))])
 .skip)))
def Ahs:ACode:=
 (.seq (.reg [un (.asg 2 (.c (.int .i64 0)))])
 (.seq (.reg [un (.asg 3 (.c (.int .i64 0)))])
 (.seq (.cut Abl)
 (.drop [4,5,6,7,8,9,10,11,12,13,14,15,16,17,18,19,20,21,22,23,24] (.seq (.reg [un (.mov 25 (.t 0)),
 un (.nck 26 (.t 25)),
 un (.fadr 27 1 (.t 26)),
 un (.ld 28 1 false (.t 27)),
 un (.bin 29 .add (.t 28) (.c (.int .i64 1))),
 un (.nck 30 (.t 25)),
 un (.fadr 31 1 (.t 30)),
 un (.st 1 (.t 31) (.t 29))])
 (.drop [25,26,27,28,29,30,31] (.seq (.reg [un (.mov 32 (.t 0)),
 un (.mov 33 (.t 0)),
 un (.nck 34 (.t 33)),
 un (.fadr 35 2 (.t 34)),
 un (.ld 36 1 false (.t 35)),
 un (.bin 37 .mul (.t 36) (.c (.int .u64 6364136223846793005))),
 un (.mov 38 (.t 3)),
 un (.cnv 39 .u64 (.t 38)),
 un (.bin 40 .add (.t 37) (.t 39)),
 un (.bin 41 .add (.t 40) (.c (.int .u64 550289))),
 un (.nck 42 (.t 32)),
 un (.fadr 43 2 (.t 42)),
 un (.st 1 (.t 43) (.t 41))])
 (.drop [32,33,34,35,36,37,38,39,40,41,42,43] (.seq (.seq (.dreg [(un (.mov 44 (.t 0)),[]),
 (un (.nck 45 (.t 44)),[]),
 (un (.fadr 46 1 (.t 45)),[]),
 (un (.ld 47 1 false (.t 46)),[]),
 (un (.mov 48 (.t 0)),[44,45,46,47]),
 (un (.nck 49 (.t 48)),[44,45,46,47]),
 (un (.fadr 50 0 (.t 49)),[44,45,46,47]),
 (un (.ld 51 1 false (.t 50)),[44,45,46,47]),
 (un (.len 52 (.t 51)),[44,45,46,47])]
 [un (.bin 53 .leq (.t 47) (.t 52))])
 (.drop [44,45,46,47,48,49,50,51,52] (.cond (.t 53) (.seq (.reg [un (.mov 54 (.t 3)),
 un (.asg 2 (.t 54))])
 (.drop [54] .ret))
 .skip)))
 (.drop [44,45,46,47,48,49,50,51,52,53,54] (.seq (.reg [un (.mov 55 (.t 0)),
 un (.nck 56 (.t 55)),
 un (.fadr 57 2 (.t 56)),
 un (.ld 58 1 false (.t 57)),
 un (.bin 59 .shr (.t 58) (.c (.int .u64 40))),
 un (.bin 60 .and (.t 59) (.c (.int .u64 255))),
 un (.cnv 61 .i64 (.t 60)),
 un (.asg 2 (.t 61))])
 (.drop [55,56,57,58,59,60,61] .ret))))))))))))
abbrev Agl:List RS:=[.t 2]
theorem Ag9:Ay Tryz.prog Kb 62 Ahs Agl=true:=by kernel_rfl
def Rp:ACode:=
 (.seq (.seq (.reg [un (.mov 14 (.t 13)),
 un (.mov 15 (.t 1)),
 un (.bin 16 .lss (.t 14) (.t 15))])
 (.drop [14,15] (.cond (.t 16) .skip
 (.exit 0))))
 (.drop [14,15,16] (.seq (.block 1 (.seq (.reg [un (.mov 19 (.t 11)),
 un (.mov 20 (.t 4)),
 un (.mov 21 (.t 0)),
 un (.fadr 22 0 (.t 7)),
 un (.ld 23 1 false (.t 22)),
 un (.bin 24 .rem (.t 21) (.t 23)),
 un (.iad 25 1 (.t 20) (.t 24)),
 un (.ld 26 1 false (.t 25)),
 un (.mov 27 (.t 12)),
 un (.bin 28 .mul (.t 26) (.t 27)),
 un (.bin 29 .add (.t 19) (.t 28)),
 un (.asg 11 (.t 29))])
 (.drop [19,20,21,22,23,24,25,26,27,28,29] (.seq (.reg [un (.mov 30 (.t 0)),
 un (.fadr 31 0 (.t 7)),
 un (.ld 32 1 false (.t 31)),
 un (.bin 33 .quo (.t 30) (.t 32)),
 un (.asg 0 (.t 33))])
 (.drop [30,31,32,33] (.reg [un (.mov 34 (.t 12)),
 un (.fadr 35 0 (.t 8)),
 un (.ld 36 1 false (.t 35)),
 un (.bin 37 .mul (.t 34) (.t 36)),
 un (.asg 12 (.t 37))]))))))
 (.drop [19,20,21,22,23,24,25,26,27,28,29,30,31,32,33,34,35,36,37] (.reg [un (.mov 17 (.t 13)),
 un (.bin 18 .add (.t 17) (.c (.int .i64 1))),
 un (.asg 13 (.t 18))])))))
def Ag5:ACode:=
 (.seq (.reg [un (.box 7 (.t 2)),
 un (.box 8 (.t 3)),
 un (.asg 10 (.c (.int .i64 0)))])
 (.seq (.reg [un (.asg 11 (.c (.int .i64 0))),
 un (.asg 12 (.c (.int .i64 1)))])
 (.seq (.seq (.reg [un (.asg 13 (.c (.int .i64 0)))])
 (.block 0 (.loop Rp)))
 (.drop [13,14,15,16,19,20,21,22,23,24,25,26,27,28,29,30,31,32,33,34,35,36,37,17,18] (.seq (.reg [un (.mov 38 (.t 11)),
 un (.asg 10 (.t 38))])
 (.drop [38] .ret))))))
abbrev Agx:List RS:=[.t 10]
theorem Ahf:Ay Tryz.prog Ke 39 Ag5 Agx=true:=by kernel_rfl
def Xy:ACode:=
 (.seq (.seq (.reg [un (.mov 6 (.t 0)),
 un (.mov 7 (.t 4)),
 un (.bin 8 .shr (.t 6) (.t 7)),
 un (.bin 9 .gtr (.t 8) (.c (.int .i64 0)))])
 (.drop [6,7,8] (.cond (.t 9) .skip
 (.exit 0))))
 (.drop [6,7,8,9] (.seq (.block 1 (.seq (.reg [un (.mov 12 (.t 0)),
 un (.mov 13 (.t 4)),
 un (.bin 14 .shr (.t 12) (.t 13)),
 un (.bin 15 .and (.t 14) (.c (.int .i64 1))),
 un (.bin 16 .eql (.t 15) (.c (.int .i64 1)))])
 (.drop [12,13,14,15] (.cond (.t 16) (.reg [un (.mov 17 (.t 3)),
 un (.mov 18 (.t 4)),
 un (.bsl 19 1 [(.t 18)]),
 un (.app 20 1 (.t 17) (.t 19)),
 un (.asg 3 (.t 20))])
 .skip))))
 (.drop [12,13,14,15,16,17,18,19,20] (.reg [un (.mov 10 (.t 4)),
 un (.bin 11 .add (.t 10) (.c (.int .i64 1))),
 un (.asg 4 (.t 11))])))))
def Ard:ACode:=
 (.seq (.reg [un (.asg 2 (.c (.nilsl 1)))])
 (.seq (.reg [un (.bsl 5 1 []),
 un (.asg 3 (.t 5))])
 (.drop [5] (.seq (.seq (.reg [un (.asg 4 (.c (.int .i64 0)))])
 (.block 0 (.loop Xy)))
 (.drop [4,6,7,8,9,12,13,14,15,16,17,18,19,20,10,11] (.seq (.reg [un (.mov 21 (.t 3)),
 un (.asg 2 (.t 21))])
 (.drop [21] .ret)))))))
abbrev Aqw:List RS:=[.t 2]
theorem Aqn:Ay Tryz.prog W1 22 Ard Aqw=true:=by kernel_rfl
def Abs:ACode:=
 (.seq (.seq (.reg [un (.mov 9 (.t 6)),
 un (.mov 10 (.t 1)),
 un (.len 11 (.t 10)),
 un (.bin 12 .lss (.t 9) (.t 11))])
 (.drop [9,10,11] (.cond (.t 12) .skip
 (.exit 0))))
 (.drop [9,10,11,12] (.seq (.block 1 (.reg [un (.mov 15 (.t 5)),
 un (.mov 16 (.t 1)),
 un (.mov 17 (.t 6)),
 un (.iad 18 1 (.t 16) (.t 17)),
 un (.ld 19 1 false (.t 18)),
 un (.iad 20 1 (.t 15) (.t 19)),
 un (.st 1 (.t 20) (.c (.bool true)))]))
 (.drop [15,16,17,18,19,20] (.reg [un (.mov 13 (.t 6)),
 un (.bin 14 .add (.t 13) (.c (.int .i64 1))),
 un (.asg 6 (.t 14))])))))
def Ayv:ACode:=
 (.seq (.reg [un (.asg 4 (.c (.nilsl 1)))])
 (.seq (.reg [un (.mov 7 (.t 0)),
 un (.mk 8 1 (.bool false) (.t 7)),
 un (.asg 5 (.t 8))])
 (.drop [7,8] (.seq (.seq (.reg [un (.asg 6 (.c (.int .i64 0)))])
 (.block 0 (.loop Abs)))
 (.drop [6,9,10,11,12,15,16,17,18,19,20,13,14] (.seq (.reg [un (.mov 21 (.t 5)),
 un (.asg 4 (.t 21))])
 (.drop [21] .ret)))))))
abbrev Ayh:List RS:=[.t 4]
theorem Ayc:Ay Tryz.prog Ach 22 Ayv Ayh=true:=by kernel_rfl
def Xr:ACode:=
 (.seq (.seq (.reg [un (.mov 6 (.t 4)),
 un (.mov 7 (.t 0)),
 un (.len 8 (.t 7)),
 un (.bin 9 .lss (.t 6) (.t 8))])
 (.drop [6,7,8] (.cond (.t 9) .skip
 (.exit 0))))
 (.drop [6,7,8,9] (.seq (.block 1 (.seq (.reg [un (.mov 12 (.t 0)),
 un (.mov 13 (.t 4)),
 un (.iad 14 1 (.t 12) (.t 13)),
 un (.ld 15 1 false (.t 14))])
 (.drop [12,13,14] (.cond (.t 15) (.reg [un (.mov 16 (.t 3)),
 un (.mov 17 (.t 4)),
 un (.bsl 18 1 [(.t 17)]),
 un (.app 19 1 (.t 16) (.t 18)),
 un (.asg 3 (.t 19))])
 .skip))))
 (.drop [12,13,14,15,16,17,18,19] (.reg [un (.mov 10 (.t 4)),
 un (.bin 11 .add (.t 10) (.c (.int .i64 1))),
 un (.asg 4 (.t 11))])))))
def Aqq:ACode:=
 (.seq (.reg [un (.asg 2 (.c (.nilsl 1)))])
 (.seq (.reg [un (.bsl 5 1 []),
 un (.asg 3 (.t 5))])
 (.drop [5] (.seq (.seq (.reg [un (.asg 4 (.c (.int .i64 0)))])
 (.block 0 (.loop Xr)))
 (.drop [4,6,7,8,9,12,13,14,15,16,17,18,19,10,11] (.seq (.reg [un (.mov 20 (.t 3)),
 un (.asg 2 (.t 20))])
 (.drop [20] .ret)))))))
abbrev Aq4:List RS:=[.t 2]
theorem Are:Ay Tryz.prog Ww 21 Aqq Aq4=true:=by kernel_rfl
def Wg:ACode:=
 (.seq (.seq (.reg [un (.mov 6 (.t 5)),
 un (.mov 7 (.t 0)),
 un (.len 8 (.t 7)),
 un (.bin 9 .lss (.t 6) (.t 8))])
 (.drop [6,7,8] (.cond (.t 9) .skip
 (.exit 0))))
 (.drop [6,7,8,9] (.seq (.block 1 (.seq (.reg [un (.mov 12 (.t 0)),
 un (.mov 13 (.t 5)),
 un (.iad 14 1 (.t 12) (.t 13)),
 un (.ld 15 1 false (.t 14)),
 un (.mov 16 (.t 1)),
 un (.bin 17 .eql (.t 15) (.t 16))])
 (.drop [12,13,14,15,16] (.cond (.t 17) (.seq (.reg [un (.mov 18 (.t 5)),
 un (.asg 4 (.t 18))])
 (.drop [18] .ret))
 .skip))))
 (.drop [12,13,14,15,16,17,18] (.reg [un (.mov 10 (.t 5)),
 un (.bin 11 .add (.t 10) (.c (.int .i64 1))),
 un (.asg 5 (.t 11))])))))
def Aps:ACode:=
 (.seq (.reg [un (.asg 4 (.c (.int .i64 0)))])
 (.seq (.seq (.reg [un (.asg 5 (.c (.int .i64 0)))])
 (.block 0 (.loop Wg)))
 (.drop [5,6,7,8,9,12,13,14,15,16,17,18,10,11] (.seq (.reg [un (.asg 4 (.c (.int .i64 (-1))))])
 .ret))))
abbrev Aop:List RS:=[.t 4]
theorem Aox:Ay Tryz.prog Uh 19 Aps Aop=true:=by kernel_rfl
def Zb:ACode:=
 (.seq (.reg [un (.bin 11 .lss (.t 10) (.t 9))])
 (.seq (.cond (.t 11) .skip
 (.exit 0))
 (.seq (.block 1 (.seq (.reg [un (.iad 12 2 (.t 8) (.t 10)),
 un (.ld 13 2 true (.t 12)),
 un (.alc 5 (.agg [.int .i64 0,.nilsl 1])),
 un (.st 2 (.t 5) (.t 13))])
 (.drop [12,13] (.reg [un (.mov 14 (.t 3)),
 un (.fadr 15 0 (.t 5)),
 un (.ld 16 1 false (.t 15)),
 un (.bsl 17 1 [(.t 16)]),
 un (.app 18 1 (.t 14) (.t 17)),
 un (.asg 3 (.t 18))]))))
 (.drop [12,13,5,14,15,16,17,18] (.reg [un (.bin 19 .add (.t 10) (.c (.int .i64 1))),
 un (.asg 10 (.t 19))])))))
def Aqe:ACode:=
 (.seq (.reg [un (.box 1 (.t 0)),
 un (.asg 2 (.c (.nilsl 1)))])
 (.seq (.reg [un (.bsl 6 1 []),
 un (.asg 3 (.t 6))])
 (.drop [6] (.seq (.seq (.reg [un (.fadr 7 1 (.t 1)),
 un (.ld 8 1 false (.t 7)),
 un (.len 9 (.t 8)),
 un (.mov 10 (.c (.int .i64 0)))])
 (.drop [7] (.block 0 (.loop Zb))))
 (.drop [7,8,9,10,11,12,13,5,14,15,16,17,18,19] (.seq (.reg [un (.mov 20 (.t 3)),
 un (.asg 2 (.t 20))])
 (.drop [20] .ret)))))))
abbrev Asv:List RS:=[.t 2]
theorem Aqv:Ay Tryz.prog Qt 21 Aqe Asv=true:=by kernel_rfl
def Yh:ACode:=
 (.seq (.seq (.reg [un (.mov 6 (.t 5)),
 un (.mov 7 (.t 0)),
 un (.len 8 (.t 7)),
 un (.bin 9 .lss (.t 6) (.t 8))])
 (.drop [6,7,8] (.cond (.t 9) .skip
 (.exit 0))))
 (.drop [6,7,8,9] (.seq (.block 1 (.seq (.dreg [(un (.mov 12 (.t 0)),[]),
 (un (.mov 13 (.t 5)),[12]),
 (un (.iad 14 1 (.t 12) (.t 13)),[]),
 (un (.ld 15 1 false (.t 14)),[]),
 (un (.mov 16 (.t 1)),[12,13,14,15]),
 (un (.mov 17 (.t 5)),[12,13,14,15,16]),
 (un (.iad 18 1 (.t 16) (.t 17)),[12,13,14,15]),
 (un (.ld 19 1 false (.t 18)),[12,13,14,15])]
 [un (.bin 20 .neq (.t 15) (.t 19))])
 (.drop [12,13,14,15,16,17,18,19] (.cond (.t 20) (.seq (.dreg [(un (.mov 21 (.t 0)),[]),
 (un (.mov 22 (.t 5)),[21]),
 (un (.iad 23 1 (.t 21) (.t 22)),[]),
 (un (.ld 24 1 false (.t 23)),[]),
 (un (.mov 25 (.t 1)),[21,22,23,24]),
 (un (.mov 26 (.t 5)),[21,22,23,24,25]),
 (un (.iad 27 1 (.t 25) (.t 26)),[21,22,23,24]),
 (un (.ld 28 1 false (.t 27)),[21,22,23,24])]
 [un (.bin 29 .lss (.t 24) (.t 28)),
 un (.asg 4 (.t 29))])
 (.drop [21,22,23,24,25,26,27,28,29] .ret))
 .skip))))
 (.drop [12,13,14,15,16,17,18,19,20,21,22,23,24,25,26,27,28,29] (.reg [un (.mov 10 (.t 5)),
 un (.bin 11 .add (.t 10) (.c (.int .i64 1))),
 un (.asg 5 (.t 11))])))))
def Ar8:ACode:=
 (.seq (.reg [un (.asg 4 (.c (.bool false)))])
 (.seq (.seq (.reg [un (.asg 5 (.c (.int .i64 0)))])
 (.block 0 (.loop Yh)))
 (.drop [5,6,7,8,9,12,13,14,15,16,17,18,19,20,21,22,23,24,25,26,27,28,29,10,11] (.seq (.reg [un (.asg 4 (.c (.bool false)))])
 .ret))))
abbrev Asq:List RS:=[.t 4]
theorem Arj:Ay Tryz.prog W5 30 Ar8 Asq=true:=by kernel_rfl
def S8:ACode:=
 (.seq (.seq (.reg [un (.mov 9 (.t 1)),
 un (.bin 10 .gtr (.t 9) (.c (.int .i64 0)))])
 (.drop [9] (.cond (.t 10) .skip
 (.exit 0))))
 (.drop [9,10] (.seq (.block 1 (.seq (.seq (.reg [un (.mov 13 (.t 3)),
 un (.mov 14 (.t 0)),
 un (.mov 15 (.t 2)),
 un (.bin 16 .rem (.t 14) (.t 15)),
 un (.iad 17 1 (.t 13) (.t 16)),
 un (.ld 18 1 false (.t 17)),
 un (.bin 19 .lss (.t 18) (.c (.int .i64 0)))])
 (.drop [13,14,15,16,17,18] (.cond (.t 19) (.seq (.reg [un (.asg 8 (.c (.bool false)))])
 .ret)
 .skip)))
 (.drop [13,14,15,16,17,18,19] (.reg [un (.mov 20 (.t 0)),
 un (.mov 21 (.t 2)),
 un (.bin 22 .quo (.t 20) (.t 21)),
 un (.asg 0 (.t 22))]))))
 (.drop [13,14,15,16,17,18,19,20,21,22] (.reg [un (.mov 11 (.t 1)),
 un (.bin 12 .sub (.t 11) (.c (.int .i64 1))),
 un (.asg 1 (.t 12))])))))
def Amj:ACode:=
 (.seq (.reg [un (.asg 8 (.c (.bool false)))])
 (.seq (.block 0 (.loop S8))
 (.drop [9,10,13,14,15,16,17,18,19,20,21,22,11,12] (.seq (.reg [un (.asg 8 (.c (.bool true)))])
 .ret))))
abbrev Ald:List RS:=[.t 8]
theorem Aku:Ay Tryz.prog R1 23 Amj Ald=true:=by kernel_rfl
def Y8:ACode:=
 (.seq (.seq (.reg [un (.mov 11 (.t 5)),
 un (.mov 12 (.t 0)),
 un (.len 13 (.t 12)),
 un (.bin 14 .lss (.t 11) (.t 13))])
 (.drop [11,12,13] (.cond (.t 14) .skip
 (.exit 0))))
 (.drop [11,12,13,14] (.seq (.block 1 (.seq (.dreg [(un (.mov 17 (.t 0)),[]),
 (un (.mov 18 (.t 5)),[17]),
 (un (.iad 19 1 (.t 17) (.t 18)),[]),
 (un (.ld 20 1 false (.t 19)),[]),
 (un (.mov 21 (.t 1)),[17,18,19,20]),
 (un (.mov 22 (.t 5)),[17,18,19,20,21]),
 (un (.iad 23 1 (.t 21) (.t 22)),[17,18,19,20]),
 (un (.ld 24 1 false (.t 23)),[17,18,19,20])]
 [un (.call 25 S0 [((.t 20),false),((.t 24),false)]),
 un (.un 26 .not (.t 25))])
 (.drop [17,18,19,20,21,22,23,24,25] (.cond (.t 26) (.seq (.reg [un (.asg 4 (.c (.bool false)))])
 .ret)
 .skip))))
 (.drop [17,18,19,20,21,22,23,24,25,26] (.reg [un (.mov 15 (.t 5)),
 un (.bin 16 .add (.t 15) (.c (.int .i64 1))),
 un (.asg 5 (.t 16))])))))
def Aqa:ACode:=
 (.seq (.reg [un (.asg 4 (.c (.bool false)))])
 (.seq (.seq (.reg [un (.mov 6 (.t 0)),
 un (.len 7 (.t 6)),
 un (.mov 8 (.t 1)),
 un (.len 9 (.t 8)),
 un (.bin 10 .neq (.t 7) (.t 9))])
 (.drop [6,7,8,9] (.cond (.t 10) (.seq (.reg [un (.asg 4 (.c (.bool false)))])
 .ret)
 .skip)))
 (.drop [6,7,8,9,10] (.seq (.seq (.reg [un (.asg 5 (.c (.int .i64 0)))])
 (.block 0 (.loop Y8)))
 (.drop [5,11,12,13,14,17,18,19,20,21,22,23,24,25,26,15,16] (.seq (.reg [un (.asg 4 (.c (.bool true)))])
 .ret))))))
abbrev Aqu:List RS:=[.t 4]
theorem Arb:Ay Tryz.prog Jt 27 Aqa Aqu=true:=by kernel_rfl
def Agy:ACode:=
 (.seq (.reg [un (.mov 8 (.t 0)),
 un (.len 9 (.t 8)),
 un (.mov 10 (.t 1)),
 un (.bin 11 .neq (.t 9) (.t 10)),
 un (.asg 12 (.t 11)),
 ⟨some (12,false),.mov 13 (.t 0)⟩,
 ⟨some (12,false),.mov 14 (.t 1)⟩,
 ⟨some (12,false),.call 15 Ly [((.t 13),false),((.t 14),false)]⟩,
 ⟨some (12,false),.un 16 .not (.t 15)⟩,
 un (.pick 17 (.t 12) (.c (.bool true)) (.t 16))])
 (.drop [8,9,10,11,12,13,14,15,16] (.cond (.t 17) (.seq (.reg [un (.asg 4 (.c (.bool false)))])
 .ret)
 .skip)))
def V4:ACode:=
 (.seq (.reg [un (.bin 23 .lss (.t 22) (.t 21))])
 (.seq (.cond (.t 23) .skip
 (.exit 0))
 (.seq (.block 1 (.seq (.reg [un (.iad 24 1 (.t 20) (.t 22)),
 un (.ld 25 1 false (.t 24)),
 un (.asg 7 (.t 25))])
 (.drop [24,25] (.seq (.seq (.reg [un (.mov 26 (.t 5)),
 un (.mov 27 (.t 7)),
 un (.iad 28 1 (.t 26) (.t 27)),
 un (.ld 29 1 false (.t 28))])
 (.drop [26,27,28] (.cond (.t 29) (.seq (.reg [un (.asg 4 (.c (.bool false)))])
 .ret)
 .skip)))
 (.drop [26,27,28,29] (.reg [un (.mov 30 (.t 5)),
 un (.mov 31 (.t 7)),
 un (.iad 32 1 (.t 30) (.t 31)),
 un (.st 1 (.t 32) (.c (.bool true)))]))))))
 (.drop [24,25,7,26,27,28,29,30,31,32] (.reg [un (.bin 33 .add (.t 22) (.c (.int .i64 1))),
 un (.asg 22 (.t 33))])))))
def Am5:ACode:=
 (.seq (.reg [un (.asg 4 (.c (.bool false)))])
 (.seq (.cut Agy)
 (.drop [8,9,10,11,12,13,14,15,16,17] (.seq (.reg [un (.mov 18 (.t 1)),
 un (.mk 19 1 (.bool false) (.t 18)),
 un (.asg 5 (.t 19))])
 (.drop [18,19] (.seq (.seq (.reg [un (.mov 20 (.t 0)),
 un (.len 21 (.t 20)),
 un (.mov 22 (.c (.int .i64 0)))])
 (.block 0 (.loop V4)))
 (.drop [20,21,22,23,24,25,7,26,27,28,29,30,31,32,33] (.seq (.reg [un (.asg 4 (.c (.bool true)))])
 .ret))))))))
abbrev Apz:List RS:=[.t 4]
theorem An3:Ay Tryz.prog Uf 34 Am5 Apz=true:=by kernel_rfl
def Agf:ACode:=
 (.seq (.reg [un (.asg 4 (.c (.bool false)))])
 (.seq (.seq (.reg [un (.ld 5 1 false (.t 1)),
 un (.mov 6 (.t 0)),
 un (.cally 7 (.t 5) [(.t 6)] [])])
 (.drop [5,6] (.cond (.t 7) (.seq (.reg [un (.mov 8 (.t 0)),
 un (.call 9 Lc [((.t 8),false)]),
 un (.st 1 (.t 2) (.t 9))])
 (.drop [8,9] (.seq (.reg [un (.asg 4 (.c (.bool false)))])
 .ret)))
 .skip)))
 (.drop [5,6,7,8,9] (.seq (.reg [un (.asg 4 (.c (.bool true)))])
 .ret))))
abbrev Age:List RS:=[.t 4]
theorem Ah0:Ay Tryz.prog Ho 10 Agf Age=true:=by kernel_rfl
def Arm:ACode:=
 (.seq (.reg [un (.box 2 (.t 0)),
 un (.box 3 (.t 1)),
 un (.asg 4 (.c (.bool false)))])
 (.seq (.dreg [(un (.ld 5 2 true (.t 2)),[]),
 (un (.call 6 Qu [((.t 5),false)]),[]),
 (un (.ld 7 2 true (.t 3)),[5,6])]
 [un (.call 8 Qu [((.t 7),false)]),
 un (.call 9 L6 [((.t 6),false),((.t 8),false)]),
 un (.asg 4 (.t 9))])
 (.drop [5,6,7,8,9] .ret)))
abbrev Ass:List RS:=[.t 4]
theorem Aru:Ay Tryz.prog Qm 10 Arm Ass=true:=by kernel_rfl
def Agw:ACode:=
 (.seq (.reg [un (.mov 63 (.t 8)),
 un (.mov 64 (.t 13)),
 un (.iad 65 1 (.t 63) (.t 64)),
 un (.ld 66 1 false (.t 65)),
 un (.bin 67 .geq (.t 66) (.c (.int .i64 0))),
 un (.asg 68 (.t 67)),
 ⟨some (68,true),.mov 69 (.t 8)⟩,
 ⟨some (68,true),.mov 70 (.t 13)⟩,
 ⟨some (68,true),.iad 71 1 (.t 69) (.t 70)⟩,
 ⟨some (68,true),.ld 72 1 false (.t 71)⟩,
 ⟨some (68,true),.mov 73 (.t 14)⟩,
 ⟨some (68,true),.bin 74 .neq (.t 72) (.t 73)⟩,
 un (.pick 75 (.t 68) (.t 74) (.c (.bool false)))])
 (.drop [63,64,65,66,67,68,69,70,71,72,73,74] (.cond (.t 75) (.seq (.reg [un (.bsl 76 1 []),
 un (.asg 6 (.t 76)),
 un (.asg 7 (.c (.bool false)))])
 (.drop [76] .ret))
 .skip)))
def Vg:ACode:=
 (.seq (.seq (.reg [un (.mov 25 (.t 11)),
 un (.fadr 26 1 (.t 3)),
 un (.ld 27 1 false (.t 26)),
 un (.mov 28 (.t 10)),
 un (.iad 29 2 (.t 27) (.t 28)),
 un (.fadr 30 1 (.t 29)),
 un (.ld 31 1 false (.t 30)),
 un (.len 32 (.t 31)),
 un (.bin 33 .lss (.t 25) (.t 32))])
 (.drop [25,26,27,28,29,30,31,32] (.cond (.t 33) .skip
 (.exit 4))))
 (.drop [25,26,27,28,29,30,31,32,33] (.seq (.block 5 (.seq (.dreg [(un (.mov 36 (.t 8)),[]),
 (un (.fadr 37 0 (.t 3)),[36]),
 (un (.ld 38 1 false (.t 37)),[36]),
 (un (.fadr 39 1 (.t 3)),[36,37,38]),
 (un (.ld 40 1 false (.t 39)),[36,37,38]),
 (un (.mov 41 (.t 10)),[36,37,38,39,40]),
 (un (.iad 42 2 (.t 40) (.t 41)),[36,37,38]),
 (un (.fadr 43 0 (.t 42)),[36,37,38]),
 (un (.ld 44 1 false (.t 43)),[36,37,38]),
 (un (.mov 45 (.t 11)),[36,37,38,39,40,41,42,43,44]),
 (un (.call 46 Jy [((.t 38),false),((.t 44),false),((.t 45),false)]),[36])]
 [un (.call 47 Mh [((.t 36),false),((.t 46),false)]),
 un (.asg 12 (.t 47))])
 (.drop [36,37,38,39,40,41,42,43,44,45,46,47] (.seq (.seq (.reg [un (.mov 48 (.t 12)),
 un (.call 49 Oy [((.t 48),false),((.c (.int .i64 (-1))),false)])])
 (.drop [48] (.cond (.t 49) (.exit 5)
 .skip)))
 (.drop [48,49] (.seq (.dreg [(un (.fadr 50 1 (.t 3)),[]),
 (un (.ld 51 1 false (.t 50)),[]),
 (un (.mov 52 (.t 10)),[50,51]),
 (un (.iad 53 2 (.t 51) (.t 52)),[]),
 (un (.fadr 54 1 (.t 53)),[]),
 (un (.ld 55 1 false (.t 54)),[]),
 (un (.mov 56 (.t 11)),[50,51,52,53,54,55]),
 (un (.iad 57 1 (.t 55) (.t 56)),[]),
 (un (.ld 58 1 false (.t 57)),[]),
 (un (.ld 59 2 true (.t 4)),[50,51,52,53,54,55,56,57,58]),
 (un (.mov 60 (.t 10)),[50,51,52,53,54,55,56,57,58,59]),
 (un (.mov 61 (.t 12)),[50,51,52,53,54,55,56,57,58,59,60]),
 (un (.call 62 Ny [((.t 59),false),((.t 60),false),((.t 61),false)]),[50,51,52,53,54,55,56,57,58])]
 [un (.asg 13 (.t 58)),
 un (.asg 14 (.t 62))])
 (.drop [50,51,52,53,54,55,56,57,58,59,60,61,62] (.seq (.cut Agw)
 (.drop [63,64,65,66,67,68,69,70,71,72,73,74,75,76] (.seq (.reg [un (.mov 77 (.t 8)),
 un (.mov 78 (.t 13)),
 un (.iad 79 1 (.t 77) (.t 78)),
 un (.ld 80 1 false (.t 79)),
 un (.bin 81 .lss (.t 80) (.c (.int .i64 0)))])
 (.drop [77,78,79,80] (.cond (.t 81) (.seq (.reg [un (.mov 82 (.t 8)),
 un (.mov 83 (.t 13)),
 un (.mov 84 (.t 14)),
 un (.iad 85 1 (.t 82) (.t 83)),
 un (.st 1 (.t 85) (.t 84))])
 (.drop [82,83,84,85] (.reg [un (.asg 9 (.c (.bool true)))])))
 .skip))))))))))))
 (.drop [36,37,38,39,40,41,42,43,44,45,46,47,12,48,49,50,51,52,53,54,55,56,57,58,59,60,61,62,13,14,63,64,65,66,67,68,69,70,71,72,73,74,75,76,77,78,79,80,81,82,83,84,85] (.reg [un (.mov 34 (.t 11)),
 un (.bin 35 .add (.t 34) (.c (.int .i64 1))),
 un (.asg 11 (.t 35))])))))
def Wi:ACode:=
 (.seq (.seq (.reg [un (.mov 18 (.t 10)),
 un (.fadr 19 1 (.t 3)),
 un (.ld 20 1 false (.t 19)),
 un (.len 21 (.t 20)),
 un (.bin 22 .lss (.t 18) (.t 21))])
 (.drop [18,19,20,21] (.cond (.t 22) .skip
 (.exit 2))))
 (.drop [18,19,20,21,22] (.seq (.block 3 (.seq (.reg [un (.asg 11 (.c (.int .i64 0)))])
 (.block 4 (.loop Vg))))
 (.drop [11,25,26,27,28,29,30,31,32,33,36,37,38,39,40,41,42,43,44,45,46,47,12,48,49,50,51,52,53,54,55,56,57,58,59,60,61,62,13,14,63,64,65,66,67,68,69,70,71,72,73,74,75,76,77,78,79,80,81,82,83,84,85,34,35] (.reg [un (.mov 23 (.t 10)),
 un (.bin 24 .add (.t 23) (.c (.int .i64 1))),
 un (.asg 10 (.t 24))])))))
def Vk:ACode:=
 (.seq (.seq (.reg [un (.mov 17 (.t 9))])
 (.cond (.t 17) .skip
 (.exit 0)))
 (.drop [17] (.block 1 (.seq (.reg [un (.asg 9 (.c (.bool false)))])
 (.seq (.reg [un (.asg 10 (.c (.int .i64 0)))])
 (.block 2 (.loop Wi)))))))
def Anr:ACode:=
 (.seq (.reg [un (.box 3 (.t 0)),
 un (.box 4 (.t 1)),
 un (.asg 6 (.c (.nilsl 1))),
 un (.asg 7 (.c (.bool false)))])
 (.seq (.reg [un (.mov 15 (.t 2)),
 un (.call 16 Oe [((.t 15),false)]),
 un (.asg 8 (.t 16))])
 (.drop [15,16] (.seq (.seq (.reg [un (.asg 9 (.c (.bool true)))])
 (.block 0 (.loop Vk)))
 (.drop [9,17,10,18,19,20,21,22,11,25,26,27,28,29,30,31,32,33,36,37,38,39,40,41,42,43,44,45,46,47,12,48,49,50,51,52,53,54,55,56,57,58,59,60,61,62,13,14,63,64,65,66,67,68,69,70,71,72,73,74,75,76,77,78,79,80,81,82,83,84,85,34,35,23,24] (.seq (.reg [un (.mov 86 (.t 8)),
 un (.asg 6 (.t 86)),
 un (.asg 7 (.c (.bool true)))])
 (.drop [86] .ret)))))))
abbrev Aof:List RS:=[.t 6,.t 7]
theorem Am3:Ay Tryz.prog Ol 87 Anr Aof=true:=by kernel_rfl
def X9:ACode:=
 (.seq (.seq (.reg [un (.mov 4 (.t 3)),
 un (.mov 5 (.t 0)),
 un (.len 6 (.t 5)),
 un (.bin 7 .lss (.t 4) (.t 6))])
 (.drop [4,5,6] (.cond (.t 7) .skip
 (.exit 0))))
 (.drop [4,5,6,7] (.seq (.block 1 (.seq (.dreg [(un (.mov 10 (.t 0)),[]),
 (un (.mov 11 (.t 3)),[10]),
 (un (.iad 12 1 (.t 10) (.t 11)),[]),
 (un (.ld 13 1 false (.t 12)),[]),
 (un (.bin 14 .geq (.t 13) (.c (.int .i64 0))),[]),
 (un (.asg 15 (.t 14)),[]),
 (⟨some (15,true),.mov 16 (.t 0)⟩,[14]),
 (⟨some (15,true),.mov 17 (.t 3)⟩,[16,14]),
 (⟨some (15,true),.slc 18 1 (.t 16) none (some (.t 17))⟩,[14]),
 (⟨some (15,true),.mov 19 (.t 0)⟩,[16,17,18,14]),
 (⟨some (15,true),.mov 20 (.t 3)⟩,[16,17,18,19,14]),
 (⟨some (15,true),.iad 21 1 (.t 19) (.t 20)⟩,[16,17,18,14]),
 (⟨some (15,true),.ld 22 1 false (.t 21)⟩,[16,17,18,14])]
 [⟨some (15,true),.call 23 Oy [((.t 18),false),((.t 22),false)]⟩,
 un (.pick 24 (.t 15) (.t 23) (.c (.bool false)))])
 (.drop [10,11,12,13,14,15,16,17,18,19,20,21,22,23] (.cond (.t 24) (.seq (.reg [un (.asg 2 (.c (.bool false)))])
 .ret)
 .skip))))
 (.drop [10,11,12,13,14,15,16,17,18,19,20,21,22,23,24] (.reg [un (.mov 8 (.t 3)),
 un (.bin 9 .add (.t 8) (.c (.int .i64 1))),
 un (.asg 3 (.t 9))])))))
def Ar2:ACode:=
 (.seq (.reg [un (.asg 2 (.c (.bool false)))])
 (.seq (.seq (.reg [un (.asg 3 (.c (.int .i64 0)))])
 (.block 0 (.loop X9)))
 (.drop [3,4,5,6,7,10,11,12,13,14,15,16,17,18,19,20,21,22,23,24,8,9] (.seq (.reg [un (.asg 2 (.c (.bool true)))])
 .ret))))
abbrev Asm:List RS:=[.t 2]
theorem Aso:Ay Tryz.prog Qs 25 Ar2 Asm=true:=by kernel_rfl
def Aoo:ACode:=
 (.seq (.reg [un (.alc 2 (.agg [.int .i64 0,.nilsl 2]))])
 (.seq (.seq (.reg [un (.mov 3 (.t 0))])
 (.block 0 (.seq (.reg [un (.bin 5 .eql (.t 3) (.c (.int .i64 0))),
 un (.asg 4 (.t 5))])
 (.drop [5] (.cond (.t 4) (.seq (.reg [⟨none,.call 6 Bo [((.c (.str ⟨#[48,48,48,49]⟩)),false)]⟩,
 un (.bsl 7 2 [(.t 6)]),
 un (.bld 8 [.int .i64 0,.nilsl 2] [(0,1,(.c (.int .i64 2))),(1,1,(.t 7))]),
 un (.st 2 (.t 2) (.t 8))])
 (.drop [6,7,8] .ret))
 (.seq (.reg [un (.bin 10 .eql (.t 3) (.c (.int .i64 1))),
 un (.asg 9 (.t 10))])
 (.drop [10] (.cond (.t 9) (.seq (.reg [⟨none,.call 11 Bo [((.c (.str ⟨#[48,48,48,49]⟩)),false)]⟩,
 ⟨none,.call 12 Bo [((.c (.str ⟨#[48,49,49,49]⟩)),false)]⟩,
 un (.bsl 13 2 [(.t 11),(.t 12)]),
 un (.bld 14 [.int .i64 0,.nilsl 2] [(0,1,(.c (.int .i64 2))),(1,1,(.t 13))]),
 un (.st 2 (.t 2) (.t 14))])
 (.drop [11,12,13,14] .ret))
 (.seq (.reg [un (.bin 16 .eql (.t 3) (.c (.int .i64 2))),
 un (.asg 15 (.t 16))])
 (.drop [16] (.cond (.t 15) (.seq (.reg [⟨none,.call 17 Bo [((.c (.str ⟨#[48,48,48,49]⟩)),false)]⟩,
 ⟨none,.call 18 Bo [((.c (.str ⟨#[48,49,49,49]⟩)),false)]⟩,
 un (.bsl 19 1 [(.c (.int .i64 1)),(.c (.int .i64 0))]),
 un (.bld 20 [.int .i64 0,.nilsl 1] [(0,1,(.c (.int .i64 1))),(1,1,(.t 19))]),
 un (.bsl 21 2 [(.t 17),(.t 18),(.t 20)]),
 un (.bld 22 [.int .i64 0,.nilsl 2] [(0,1,(.c (.int .i64 2))),(1,1,(.t 21))]),
 un (.st 2 (.t 2) (.t 22))])
 (.drop [17,18,19,20,21,22] .ret))
 (.seq (.reg [un (.bin 24 .eql (.t 3) (.c (.int .i64 3))),
 un (.asg 23 (.t 24))])
 (.drop [24] (.cond (.t 23) (.seq (.reg [un (.call 25 Md [((.c (.int .i64 2)),false)]),
 un (.bsl 26 2 [(.t 25)]),
 un (.bld 27 [.int .i64 0,.nilsl 2] [(0,1,(.c (.int .i64 2))),(1,1,(.t 26))]),
 un (.st 2 (.t 2) (.t 27))])
 (.drop [25,26,27] .ret))
 (.seq (.reg [un (.bin 29 .eql (.t 3) (.c (.int .i64 4))),
 un (.asg 28 (.t 29))])
 (.drop [29] (.cond (.t 28) (.seq (.reg [⟨none,.call 30 Bo [((.c (.str ⟨#[48,49,50,49,50,48,50,48,49]⟩)),false)]⟩,
 un (.bsl 31 2 [(.t 30)]),
 un (.bld 32 [.int .i64 0,.nilsl 2] [(0,1,(.c (.int .i64 3))),(1,1,(.t 31))]),
 un (.st 2 (.t 2) (.t 32))])
 (.drop [30,31,32] .ret))
 (.seq (.reg [un (.bin 34 .eql (.t 3) (.c (.int .i64 5))),
 un (.asg 33 (.t 34))])
 (.drop [34] (.cond (.t 33) (.seq (.reg [⟨none,.call 35 Bo [((.c (.str ⟨#[48,49,48,49,49,50,48,50,50]⟩)),false)]⟩,
 un (.bsl 36 2 [(.t 35)]),
 un (.bld 37 [.int .i64 0,.nilsl 2] [(0,1,(.c (.int .i64 3))),(1,1,(.t 36))]),
 un (.st 2 (.t 2) (.t 37))])
 (.drop [35,36,37] .ret))
 (.seq (.reg [un (.bin 39 .eql (.t 3) (.c (.int .i64 6))),
 un (.asg 38 (.t 39))])
 (.drop [39] (.cond (.t 38) (.seq (.reg [⟨none,.call 40 Bo [((.c (.str ⟨#[48,49,50,51,49,48,51,50,50,51,48,49,51,50,49,48]⟩)),false)]⟩,
 un (.bsl 41 2 [(.t 40)]),
 un (.bld 42 [.int .i64 0,.nilsl 2] [(0,1,(.c (.int .i64 4))),(1,1,(.t 41))]),
 un (.st 2 (.t 2) (.t 42))])
 (.drop [40,41,42] .ret))
 (.seq (.reg [un (.bin 44 .eql (.t 3) (.c (.int .i64 7))),
 un (.asg 43 (.t 44))])
 (.drop [44] (.cond (.t 43) (.seq (.reg [⟨none,.call 45 Bo [((.c (.str ⟨#[48,48,48,48,49,49,48,49,50]⟩)),false)]⟩,
 ⟨none,.call 46 Bo [((.c (.str ⟨#[48,49,50,49,49,50,50,50,50]⟩)),false)]⟩,
 un (.bsl 47 2 [(.t 45),(.t 46)]),
 un (.bld 48 [.int .i64 0,.nilsl 2] [(0,1,(.c (.int .i64 3))),(1,1,(.t 47))]),
 un (.st 2 (.t 2) (.t 48))])
 (.drop [45,46,47,48] .ret))
 (.seq (.reg [un (.bin 50 .eql (.t 3) (.c (.int .i64 8))),
 un (.asg 49 (.t 50))])
 (.drop [50] (.cond (.t 49) (.seq (.reg [un (.bsl 51 1 [(.c (.int .i64 1)),(.c (.int .i64 2)),(.c (.int .i64 3)),(.c (.int .i64 0))]),
 un (.bld 52 [.int .i64 0,.nilsl 1] [(0,1,(.c (.int .i64 1))),(1,1,(.t 51))]),
 un (.bsl 53 2 [(.t 52)]),
 un (.bld 54 [.int .i64 0,.nilsl 2] [(0,1,(.c (.int .i64 4))),(1,1,(.t 53))]),
 un (.st 2 (.t 2) (.t 54))])
 (.drop [51,52,53,54] .ret))
 (.seq (.reg [un (.bin 56 .eql (.t 3) (.c (.int .i64 9))),
 un (.asg 55 (.t 56))])
 (.drop [56] (.cond (.t 55) (.seq (.reg [un (.bsl 57 1 [(.c (.int .i64 0)),(.c (.int .i64 0)),(.c (.int .i64 0)),(.c (.int .i64 1)),(.c (.int .i64 0)),(.c (.int .i64 1)),(.c (.int .i64 1)),(.c (.int .i64 1))]),
 un (.bld 58 [.int .i64 0,.nilsl 1] [(0,1,(.c (.int .i64 3))),(1,1,(.t 57))]),
 un (.bsl 59 2 [(.t 58)]),
 un (.bld 60 [.int .i64 0,.nilsl 2] [(0,1,(.c (.int .i64 2))),(1,1,(.t 59))]),
 un (.st 2 (.t 2) (.t 60))])
 (.drop [57,58,59,60] .ret))
 (.seq (.reg [un (.bin 62 .eql (.t 3) (.c (.int .i64 10))),
 un (.asg 61 (.t 62))])
 (.drop [62] (.cond (.t 61) (.seq (.reg [⟨none,.call 63 Bo [((.c (.str ⟨#[48,48,48,49,49,49,50,50,50]⟩)),false)]⟩,
 un (.bsl 64 2 [(.t 63)]),
 un (.bld 65 [.int .i64 0,.nilsl 2] [(0,1,(.c (.int .i64 3))),(1,1,(.t 64))]),
 un (.st 2 (.t 2) (.t 65))])
 (.drop [63,64,65] .ret))
 (.seq (.reg [un (.bin 67 .eql (.t 3) (.c (.int .i64 11))),
 un (.asg 66 (.t 67))])
 (.drop [67] (.cond (.t 66) (.seq (.reg [⟨none,.call 68 Bo [((.c (.str ⟨#[48,48,48,48,48,48,49,48,48,49,48,48,50,48,50,48,48,48,51,51,48,49,50,51,52]⟩)),false)]⟩,
 ⟨none,.call 69 Bo [((.c (.str ⟨#[48,49,50,51,52,49,49,52,52,52,50,52,50,52,52,51,52,52,51,52,52,52,52,52,52]⟩)),false)]⟩,
 un (.bsl 70 2 [(.t 68),(.t 69)]),
 un (.bld 71 [.int .i64 0,.nilsl 2] [(0,1,(.c (.int .i64 5))),(1,1,(.t 70))]),
 un (.st 2 (.t 2) (.t 71))])
 (.drop [68,69,70,71] .ret))
 (.seq (.reg [un (.bin 73 .eql (.t 3) (.c (.int .i64 12))),
 un (.asg 72 (.t 73))])
 (.drop [73] (.cond (.t 72) (.seq (.reg [⟨none,.call 74 Bo [((.c (.str ⟨#[48,49,50,51,49,50,51,48,50,51,48,49,51,48,49,50]⟩)),false)]⟩,
 un (.bsl 75 2 [(.t 74)]),
 un (.bld 76 [.int .i64 0,.nilsl 2] [(0,1,(.c (.int .i64 4))),(1,1,(.t 75))]),
 un (.st 2 (.t 2) (.t 76))])
 (.drop [74,75,76] .ret))
 (.seq (.reg [un (.bin 78 .eql (.t 3) (.c (.int .i64 13))),
 un (.asg 77 (.t 78))])
 (.drop [78] (.cond (.t 77) (.seq (.reg [un (.bsl 79 1 [(.c (.int .i64 0)),(.c (.int .i64 0)),(.c (.int .i64 1))]),
 un (.bld 80 [.int .i64 0,.nilsl 1] [(0,1,(.c (.int .i64 1))),(1,1,(.t 79))]),
 un (.bsl 81 1 [(.c (.int .i64 2))]),
 un (.bld 82 [.int .i64 0,.nilsl 1] [(0,1,(.c (.int .i64 0))),(1,1,(.t 81))]),
 un (.bsl 83 2 [(.t 80),(.t 82)]),
 un (.bld 84 [.int .i64 0,.nilsl 2] [(0,1,(.c (.int .i64 3))),(1,1,(.t 83))]),
 un (.st 2 (.t 2) (.t 84))])
 (.drop [79,80,81,82,83,84] .ret))
 (.seq (.reg [un (.bin 86 .eql (.t 3) (.c (.int .i64 14))),
 un (.asg 85 (.t 86))])
 (.drop [86] (.cond (.t 85) (.seq (.reg [⟨none,.call 87 Bo [((.c (.str ⟨#[48]⟩)),false)]⟩,
 un (.bsl 88 2 [(.t 87)]),
 un (.bld 89 [.int .i64 0,.nilsl 2] [(0,1,(.c (.int .i64 1))),(1,1,(.t 88))]),
 un (.st 2 (.t 2) (.t 89))])
 (.drop [87,88,89] .ret))
 (.seq (.reg [un (.bin 91 .eql (.t 3) (.c (.int .i64 15))),
 un (.asg 90 (.t 91))])
 (.drop [91] (.cond (.t 90) (.seq (.reg [un (.call 92 Md [((.c (.int .i64 3)),false)]),
 un (.bsl 93 2 [(.t 92)]),
 un (.bld 94 [.int .i64 0,.nilsl 2] [(0,1,(.c (.int .i64 3))),(1,1,(.t 93))]),
 un (.st 2 (.t 2) (.t 94))])
 (.drop [92,93,94] .ret))
 .skip))))))))))))))))))))))))))))))))))))))))))))))))))
 (.drop [3,5,4,6,7,8,10,9,11,12,13,14,16,15,17,18,19,20,21,22,24,23,25,26,27,29,28,30,31,32,34,33,35,36,37,39,38,40,41,42,44,43,45,46,47,48,50,49,51,52,53,54,56,55,57,58,59,60,62,61,63,64,65,67,66,68,69,70,71,73,72,74,75,76,78,77,79,80,81,82,83,84,86,85,87,88,89,91,90,92,93,94] (.seq (.reg [un (.bld 95 [.int .i64 0,.nilsl 2] [(0,1,(.c (.int .i64 2)))]),
 un (.st 2 (.t 2) (.t 95))])
 (.drop [95] .ret)))))
abbrev Ao9:List RS:=[.c 2 2 true]
theorem Aoc:Ay Tryz.prog Ul 96 Aoo Ao9=true:=by kernel_rfl
def Agj:ACode:=
 (.seq (.reg [un (.asg 4 (.c (.int .i64 0)))])
 (.seq (.seq (.reg [un (.mov 6 (.t 1)),
 un (.bin 7 .leq (.t 6) (.c (.int .i64 1)))])
 (.drop [6] (.cond (.t 7) (.seq (.reg [un (.asg 4 (.c (.int .i64 0)))])
 .ret)
 .skip)))
 (.drop [6,7] (.seq (.reg [un (.mov 8 (.t 0)),
 un (.call 9 Kb [((.t 8),true)]),
 un (.asg 5 (.t 9))])
 (.drop [8,9] (.seq (.seq (.reg [un (.mov 10 (.t 1)),
 un (.bin 11 .gtr (.t 10) (.c (.int .i64 200)))])
 (.drop [10] (.cond (.t 11) (.reg [un (.mov 12 (.t 5)),
 un (.bin 13 .mul (.t 12) (.c (.int .i64 256))),
 un (.mov 14 (.t 0)),
 un (.call 15 Kb [((.t 14),true)]),
 un (.bin 16 .add (.t 13) (.t 15)),
 un (.asg 5 (.t 16))])
 .skip)))
 (.drop [10,11,12,13,14,15,16] (.seq (.reg [un (.mov 17 (.t 5)),
 un (.mov 18 (.t 1)),
 un (.bin 19 .rem (.t 17) (.t 18)),
 un (.asg 4 (.t 19))])
 (.drop [17,18,19] .ret)))))))))
abbrev Af7:List RS:=[.t 4]
theorem Agm:Ay Tryz.prog Ba 20 Agj Af7=true:=by kernel_rfl
def Ax3:ACode:=
 (.seq (.reg [un (.box 2 (.t 0)),
 un (.asg 4 (.c (.bool false)))])
 (.seq (.dreg [(un (.fadr 5 0 (.t 2)),[]),
 (un (.ld 6 1 false (.t 5)),[]),
 (un (.bin 7 .geq (.t 6) (.c (.int .i64 0))),[]),
 (un (.asg 8 (.t 7)),[]),
 (⟨some (8,true),.fadr 9 0 (.t 2)⟩,[7]),
 (⟨some (8,true),.ld 10 1 false (.t 9)⟩,[7]),
 (⟨some (8,true),.bin 11 .leq (.t 10) (.c (.int .i64 3))⟩,[7]),
 (un (.pick 12 (.t 8) (.t 11) (.c (.bool false))),[7]),
 (un (.asg 13 (.t 12)),[7]),
 (⟨some (13,true),.fadr 14 1 (.t 2)⟩,[7,12]),
 (⟨some (13,true),.ld 15 1 false (.t 14)⟩,[7,12]),
 (⟨some (13,true),.len 16 (.t 15)⟩,[7,12]),
 (⟨some (13,true),.mov 17 (.t 1)⟩,[14,15,16,7,12]),
 (⟨some (13,true),.fadr 18 0 (.t 2)⟩,[14,15,16,17,7,12]),
 (⟨some (13,true),.ld 19 1 false (.t 18)⟩,[14,15,16,17,7,12]),
 (⟨some (13,true),.call 20 Zi [((.t 17),false),((.t 19),false)]⟩,[14,15,16,7,12]),
 (⟨some (13,true),.bin 21 .eql (.t 16) (.t 20)⟩,[7,12]),
 (un (.pick 22 (.t 13) (.t 21) (.c (.bool false))),[7,12]),
 (un (.asg 23 (.t 22)),[7,12]),
 (⟨some (23,true),.fadr 24 1 (.t 2)⟩,[7,12,22]),
 (⟨some (23,true),.ld 25 1 false (.t 24)⟩,[7,12,22]),
 (⟨some (23,true),.mov 26 (.t 1)⟩,[24,25,7,12,22])]
 [⟨some (23,true),.call 27 Ly [((.t 25),false),((.t 26),false)]⟩,
 un (.pick 28 (.t 23) (.t 27) (.c (.bool false))),
 un (.asg 4 (.t 28))])
 (.drop [5,6,7,8,9,10,11,12,13,14,15,16,17,18,19,20,21,22,23,24,25,26,27,28] .ret)))
abbrev Axb:List RS:=[.t 4]
theorem Axw:Ay Tryz.prog Ack 29 Ax3 Axb=true:=by kernel_rfl
def Avd:ACode:=
 (.seq (.reg [un (.box 3 (.t 0)),
 un (.box 4 (.t 1)),
 un (.asg 6 (.c (.bool false)))])
 (.seq (.reg [un (.mov 7 (.t 2)),
 un (.len 8 (.t 7)),
 un (.fadr 9 0 (.t 3)),
 un (.ld 10 1 false (.t 9)),
 un (.bin 11 .eql (.t 8) (.t 10)),
 un (.asg 12 (.t 11)),
 ⟨some (12,true),.mov 13 (.t 2)⟩,
 ⟨some (12,true),.fadr 14 0 (.t 4)⟩,
 ⟨some (12,true),.ld 15 1 false (.t 14)⟩,
 ⟨some (12,true),.call 16 Ly [((.t 13),false),((.t 15),false)]⟩,
 un (.pick 17 (.t 12) (.t 16) (.c (.bool false))),
 un (.asg 6 (.t 17))])
 (.drop [7,8,9,10,11,12,13,14,15,16,17] .ret)))
abbrev At7:List RS:=[.t 6]
theorem Aw2:Ay Tryz.prog Zm 18 Avd At7=true:=by kernel_rfl
def V9:ACode:=
 (.seq (.reg [un (.bin 24 .lss (.t 23) (.t 22))])
 (.seq (.cond (.t 24) .skip
 (.exit 2))
 (.seq (.block 3 (.seq (.reg [un (.mov 25 (.t 23)),
 un (.iad 26 1 (.t 21) (.t 23)),
 un (.ld 27 1 false (.t 26)),
 un (.asg 10 (.t 25)),
 un (.asg 11 (.t 27))])
 (.drop [25,26,27] (.seq (.dreg [(un (.mov 28 (.t 2)),[]),
 (un (.mov 29 (.t 11)),[28]),
 (un (.iad 30 1 (.t 28) (.t 29)),[]),
 (un (.ld 31 1 false (.t 30)),[]),
 (un (.fadr 32 1 (.t 4)),[28,29,30,31]),
 (un (.ld 33 1 false (.t 32)),[28,29,30,31]),
 (un (.mov 34 (.t 8)),[28,29,30,31,32,33]),
 (un (.iad 35 2 (.t 33) (.t 34)),[28,29,30,31]),
 (un (.fadr 36 1 (.t 35)),[28,29,30,31]),
 (un (.ld 37 1 false (.t 36)),[28,29,30,31]),
 (un (.mov 38 (.t 10)),[28,29,30,31,32,33,34,35,36,37]),
 (un (.fadr 39 0 (.t 9)),[28,29,30,31,32,33,34,35,36,37,38]),
 (un (.ld 40 1 false (.t 39)),[28,29,30,31,32,33,34,35,36,37,38]),
 (un (.ld 41 2 true (.t 3)),[28,29,30,31,32,33,34,35,36,37,38,39,40]),
 (un (.ld 42 2 true (.t 4)),[28,29,30,31,32,33,34,35,36,37,38,39,40,41]),
 (un (.mov 43 (.t 2)),[28,29,30,31,32,33,34,35,36,37,38,39,40,41,42]),
 (un (.call 44 Ke [((.t 38),false),((.t 40),false),((.t 41),false),((.t 42),false),((.t 43),false)]),[28,29,30,31,32,33,34,35,36,37]),
 (un (.iad 45 1 (.t 37) (.t 44)),[28,29,30,31]),
 (un (.ld 46 1 false (.t 45)),[28,29,30,31])]
 [un (.bin 47 .neq (.t 31) (.t 46))])
 (.drop [28,29,30,31,32,33,34,35,36,37,38,39,40,41,42,43,44,45,46] (.cond (.t 47) (.seq (.reg [un (.mov 48 (.t 8)),
 un (.mov 49 (.t 10)),
 un (.asg 6 (.t 48)),
 un (.asg 7 (.t 49))])
 (.drop [48,49] .ret))
 .skip))))))
 (.drop [25,26,27,10,11,28,29,30,31,32,33,34,35,36,37,38,39,40,41,42,43,44,45,46,47,48,49] (.reg [un (.bin 50 .add (.t 23) (.c (.int .i64 1))),
 un (.asg 23 (.t 50))])))))
def Wk:ACode:=
 (.seq (.reg [un (.bin 16 .lss (.t 15) (.t 14))])
 (.seq (.cond (.t 16) .skip
 (.exit 0))
 (.seq (.block 1 (.seq (.reg [un (.mov 17 (.t 15)),
 un (.iad 18 2 (.t 13) (.t 15)),
 un (.ld 19 2 true (.t 18)),
 un (.alc 9 (.agg [.int .i64 0,.nilsl 1])),
 un (.asg 8 (.t 17)),
 un (.st 2 (.t 9) (.t 19))])
 (.drop [17,18,19] (.seq (.reg [un (.fadr 20 1 (.t 9)),
 un (.ld 21 1 false (.t 20)),
 un (.len 22 (.t 21)),
 un (.mov 23 (.c (.int .i64 0)))])
 (.drop [20] (.block 2 (.loop V9)))))))
 (.drop [17,18,19,9,8,20,21,22,23,24,25,26,27,10,11,28,29,30,31,32,33,34,35,36,37,38,39,40,41,42,43,44,45,46,47,48,49,50] (.reg [un (.bin 51 .add (.t 15) (.c (.int .i64 1))),
 un (.asg 15 (.t 51))])))))
def Apa:ACode:=
 (.seq (.reg [un (.box 3 (.t 0)),
 un (.box 4 (.t 1)),
 un (.asg 6 (.c (.int .i64 0))),
 un (.asg 7 (.c (.int .i64 0)))])
 (.seq (.seq (.reg [un (.fadr 12 1 (.t 3)),
 un (.ld 13 1 false (.t 12)),
 un (.len 14 (.t 13)),
 un (.mov 15 (.c (.int .i64 0)))])
 (.drop [12] (.block 0 (.loop Wk))))
 (.drop [12,13,14,15,16,17,18,19,9,8,20,21,22,23,24,25,26,27,10,11,28,29,30,31,32,33,34,35,36,37,38,39,40,41,42,43,44,45,46,47,48,49,50,51] (.seq (.reg [un (.asg 6 (.c (.int .i64 (-1)))),
 un (.asg 7 (.c (.int .i64 0)))])
 .ret))))
abbrev An7:List RS:=[.t 6,.t 7]
theorem Ap1:Ay Tryz.prog S9 52 Apa An7=true:=by kernel_rfl
def Af8:ACode:=
 (.seq (.reg [un (.asg 3 (.c (.bool false)))])
 (.seq (.dreg [(un (.ld 4 1 false (.t 1)),[6]),
 (un (.mov 5 (.t 0)),[4]),
 (un (.call 6 Lc [((.t 5),false)]),[4]),
 (un (.bsl 7 1 [(.t 6)]),[4])]
 [un (.app 8 1 (.t 4) (.t 7)),
 un (.st 1 (.t 1) (.t 8))])
 (.drop [4,5,6,7,8] (.seq (.reg [un (.ld 9 1 false (.t 1)),
 un (.len 10 (.t 9)),
 un (.bin 11 .leq (.t 10) (.c (.int .i64 300))),
 un (.asg 3 (.t 11))])
 (.drop [9,10,11] .ret)))))
abbrev Ah2:List RS:=[.t 3]
theorem Af1:Ay Tryz.prog Hi 12 Af8 Ah2=true:=by kernel_rfl
def Ap3:ACode:=
 (.seq (.dreg [(un (.fadr 6 0 (.t 3)),[]),
 (un (.ld 7 1 false (.t 6)),[]),
 (un (.call 8 Kz [((.t 7),false),((.c (.int .i64 0)),false),((.c (.int .i64 3)),false)]),[]),
 (un (.un 9 .not (.t 8)),[]),
 (un (.asg 10 (.t 9)),[]),
 (⟨some (10,false),.fadr 11 1 (.t 3)⟩,[9]),
 (⟨some (10,false),.ld 12 1 false (.t 11)⟩,[9]),
 (⟨some (10,false),.len 13 (.t 12)⟩,[9]),
 (⟨some (10,false),.mov 14 (.t 0)⟩,[11,12,13,9]),
 (⟨some (10,false),.fadr 15 0 (.t 3)⟩,[11,12,13,14,9]),
 (⟨some (10,false),.ld 16 1 false (.t 15)⟩,[11,12,13,14,9]),
 (⟨some (10,false),.call 17 Nr [((.t 14),false),((.t 16),false)]⟩,[11,12,13,9])]
 [⟨some (10,false),.bin 18 .neq (.t 13) (.t 17)⟩,
 un (.pick 19 (.t 10) (.c (.bool true)) (.t 18))])
 (.drop [6,7,8,9,10,11,12,13,14,15,16,17,18] (.cond (.t 19) (.seq (.reg [un (.asg 4 (.c (.bool false)))])
 .ret)
 .skip)))
def Abz:ACode:=
 (.seq (.seq (.reg [un (.mov 20 (.t 5)),
 un (.fadr 21 1 (.t 3)),
 un (.ld 22 1 false (.t 21)),
 un (.len 23 (.t 22)),
 un (.bin 24 .lss (.t 20) (.t 23))])
 (.drop [20,21,22,23] (.cond (.t 24) .skip
 (.exit 0))))
 (.drop [20,21,22,23,24] (.seq (.block 1 (.seq (.reg [un (.fadr 27 1 (.t 3)),
 un (.ld 28 1 false (.t 27)),
 un (.mov 29 (.t 5)),
 un (.iad 30 1 (.t 28) (.t 29)),
 un (.ld 31 1 false (.t 30)),
 un (.mov 32 (.t 0)),
 un (.bin 33 .sub (.t 32) (.c (.int .i64 1))),
 un (.call 34 Kz [((.t 31),false),((.c (.int .i64 0)),false),((.t 33),false)]),
 un (.un 35 .not (.t 34))])
 (.drop [27,28,29,30,31,32,33,34] (.cond (.t 35) (.seq (.reg [un (.asg 4 (.c (.bool false)))])
 .ret)
 .skip))))
 (.drop [27,28,29,30,31,32,33,34,35] (.reg [un (.mov 25 (.t 5)),
 un (.bin 26 .add (.t 25) (.c (.int .i64 1))),
 un (.asg 5 (.t 26))])))))
def Azm:ACode:=
 (.seq (.reg [un (.box 3 (.t 1)),
 un (.asg 4 (.c (.bool false)))])
 (.seq (.cut Ap3)
 (.drop [6,7,8,9,10,11,12,13,14,15,16,17,18,19] (.seq (.seq (.reg [un (.asg 5 (.c (.int .i64 0)))])
 (.block 0 (.loop Abz)))
 (.drop [5,20,21,22,23,24,27,28,29,30,31,32,33,34,35,25,26] (.seq (.reg [un (.asg 4 (.c (.bool true)))])
 .ret))))))
abbrev Azn:List RS:=[.t 4]
theorem Ay2:Ay Tryz.prog Acf 36 Azm Azn=true:=by kernel_rfl
def Tg:ACode:=
 (.seq (.seq (.reg [un (.mov 8 (.t 7)),
 un (.mov 9 (.t 0)),
 un (.len 10 (.t 9)),
 un (.bin 11 .lss (.t 8) (.t 10))])
 (.drop [8,9,10] (.cond (.t 11) .skip
 (.exit 0))))
 (.drop [8,9,10,11] (.seq (.block 1 (.seq (.dreg [(un (.mov 14 (.t 0)),[]),
 (un (.mov 15 (.t 7)),[14]),
 (un (.iad 16 1 (.t 14) (.t 15)),[]),
 (un (.ld 17 1 false (.t 16)),[]),
 (un (.mov 18 (.t 1)),[14,15,16,17]),
 (un (.mov 19 (.t 2)),[14,15,16,17,18]),
 (un (.call 20 Kz [((.t 17),false),((.t 18),false),((.t 19),false)]),[]),
 (un (.un 21 .not (.t 20)),[]),
 (un (.asg 22 (.t 21)),[]),
 (⟨some (22,false),.mov 23 (.t 7)⟩,[21]),
 (⟨some (22,false),.bin 24 .gtr (.t 23) (.c (.int .i64 0))⟩,[21]),
 (⟨some (22,false),.asg 25 (.t 24)⟩,[21]),
 (⟨some (25,true),.mov 26 (.t 0)⟩,[21,24]),
 (⟨some (25,true),.mov 27 (.t 7)⟩,[26,21,24]),
 (⟨some (25,true),.bin 28 .sub (.t 27) (.c (.int .i64 1))⟩,[26,21,24]),
 (⟨some (25,true),.iad 29 1 (.t 26) (.t 28)⟩,[21,24]),
 (⟨some (25,true),.ld 30 1 false (.t 29)⟩,[21,24]),
 (⟨some (25,true),.mov 31 (.t 0)⟩,[26,27,28,29,30,21,24]),
 (⟨some (25,true),.mov 32 (.t 7)⟩,[26,27,28,29,30,31,21,24]),
 (⟨some (25,true),.iad 33 1 (.t 31) (.t 32)⟩,[26,27,28,29,30,21,24]),
 (⟨some (25,true),.ld 34 1 false (.t 33)⟩,[26,27,28,29,30,21,24])]
 [⟨some (25,true),.bin 35 .geq (.t 30) (.t 34)⟩,
 ⟨some (22,false),.pick 36 (.t 25) (.t 35) (.c (.bool false))⟩,
 un (.pick 37 (.t 22) (.c (.bool true)) (.t 36))])
 (.drop [14,15,16,17,18,19,20,21,22,23,24,25,26,27,28,29,30,31,32,33,34,35,36] (.cond (.t 37) (.seq (.reg [un (.asg 6 (.c (.bool false)))])
 .ret)
 .skip))))
 (.drop [14,15,16,17,18,19,20,21,22,23,24,25,26,27,28,29,30,31,32,33,34,35,36,37] (.reg [un (.mov 12 (.t 7)),
 un (.bin 13 .add (.t 12) (.c (.int .i64 1))),
 un (.asg 7 (.t 13))])))))
def Alz:ACode:=
 (.seq (.reg [un (.asg 6 (.c (.bool false)))])
 (.seq (.seq (.reg [un (.asg 7 (.c (.int .i64 0)))])
 (.block 0 (.loop Tg)))
 (.drop [7,8,9,10,11,14,15,16,17,18,19,20,21,22,23,24,25,26,27,28,29,30,31,32,33,34,35,36,37,12,13] (.seq (.reg [un (.asg 6 (.c (.bool true)))])
 .ret))))
abbrev Amk:List RS:=[.t 6]
theorem Als:Ay Tryz.prog Rt 38 Alz Amk=true:=by kernel_rfl
def Uk:ACode:=
 (.seq (.seq (.reg [un (.mov 50 (.t 11)),
 un (.mov 51 (.t 9)),
 un (.len 52 (.t 51)),
 un (.bin 53 .lss (.t 50) (.t 52))])
 (.drop [50,51,52] (.cond (.t 53) .skip
 (.exit 4))))
 (.drop [50,51,52,53] (.seq (.block 5 (.dreg [(un (.mov 56 (.t 10)),[]),
 (un (.fadr 57 0 (.t 2)),[56]),
 (un (.ld 58 1 false (.t 57)),[56]),
 (un (.bin 59 .mul (.t 56) (.t 58)),[]),
 (un (.mov 60 (.t 1)),[56,57,58,59]),
 (un (.mov 61 (.t 9)),[56,57,58,59,60]),
 (un (.mov 62 (.t 11)),[56,57,58,59,60,61]),
 (un (.iad 63 1 (.t 61) (.t 62)),[56,57,58,59,60]),
 (un (.ld 64 1 false (.t 63)),[56,57,58,59,60]),
 (un (.iad 65 1 (.t 60) (.t 64)),[56,57,58,59]),
 (un (.ld 66 1 false (.t 65)),[56,57,58,59])]
 [un (.bin 67 .add (.t 59) (.t 66)),
 un (.asg 10 (.t 67))]))
 (.drop [56,57,58,59,60,61,62,63,64,65,66,67] (.reg [un (.mov 54 (.t 11)),
 un (.bin 55 .add (.t 54) (.c (.int .i64 1))),
 un (.asg 11 (.t 55))])))))
def Th:ACode:=
 (.seq (.seq (.reg [un (.mov 37 (.t 8)),
 un (.fadr 38 1 (.t 7)),
 un (.ld 39 1 false (.t 38)),
 un (.len 40 (.t 39)),
 un (.bin 41 .lss (.t 37) (.t 40))])
 (.drop [37,38,39,40] (.cond (.t 41) .skip
 (.exit 2))))
 (.drop [37,38,39,40,41] (.seq (.block 3 (.seq (.reg [un (.fadr 44 0 (.t 2)),
 un (.ld 45 1 false (.t 44)),
 un (.fadr 46 0 (.t 7)),
 un (.ld 47 1 false (.t 46)),
 un (.mov 48 (.t 8)),
 un (.call 49 Jy [((.t 45),false),((.t 47),false),((.t 48),false)]),
 un (.asg 9 (.t 49))])
 (.drop [44,45,46,47,48,49] (.seq (.reg [un (.asg 10 (.c (.int .i64 0)))])
 (.seq (.seq (.reg [un (.asg 11 (.c (.int .i64 0)))])
 (.block 4 (.loop Uk)))
 (.drop [11,50,51,52,53,56,57,58,59,60,61,62,63,64,65,66,67,54,55] (.dreg [(un (.fadr 68 1 (.t 7)),[]),
 (un (.ld 69 1 false (.t 68)),[]),
 (un (.mov 70 (.t 10)),[68,69]),
 (un (.mov 71 (.t 1)),[68,69,70]),
 (un (.fadr 72 1 (.t 2)),[68,69,70,71]),
 (un (.ld 73 1 false (.t 72)),[68,69,70,71]),
 (un (.mov 74 (.t 6)),[68,69,70,71,72,73]),
 (un (.iad 75 2 (.t 73) (.t 74)),[68,69,70,71]),
 (un (.fadr 76 1 (.t 75)),[68,69,70,71]),
 (un (.ld 77 1 false (.t 76)),[68,69,70,71]),
 (un (.mov 78 (.t 8)),[68,69,70,71,72,73,74,75,76,77]),
 (un (.iad 79 1 (.t 77) (.t 78)),[68,69,70,71]),
 (un (.ld 80 1 false (.t 79)),[68,69,70,71]),
 (un (.iad 81 1 (.t 71) (.t 80)),[68,69,70]),
 (un (.ld 82 1 false (.t 81)),[68,69,70])]
 [un (.iad 83 1 (.t 69) (.t 70)),
 un (.st 1 (.t 83) (.t 82))])))))))
 (.drop [44,45,46,47,48,49,9,10,11,50,51,52,53,56,57,58,59,60,61,62,63,64,65,66,67,54,55,68,69,70,71,72,73,74,75,76,77,78,79,80,81,82,83] (.reg [un (.mov 42 (.t 8)),
 un (.bin 43 .add (.t 42) (.c (.int .i64 1))),
 un (.asg 8 (.t 43))])))))
def Tq:ACode:=
 (.seq (.seq (.reg [un (.mov 15 (.t 6)),
 un (.fadr 16 1 (.t 2)),
 un (.ld 17 1 false (.t 16)),
 un (.len 18 (.t 17)),
 un (.bin 19 .lss (.t 15) (.t 18))])
 (.drop [15,16,17,18] (.cond (.t 19) .skip
 (.exit 0))))
 (.drop [15,16,17,18,19] (.seq (.block 1 (.seq (.dreg [(un (.fadr 22 1 (.t 2)),[]),
 (un (.ld 23 1 false (.t 22)),[]),
 (un (.mov 24 (.t 6)),[22,23]),
 (un (.iad 25 2 (.t 23) (.t 24)),[]),
 (un (.fadr 26 0 (.t 25)),[]),
 (un (.ld 27 1 false (.t 26)),[]),
 (un (.fadr 28 1 (.t 2)),[22,23,24,25,26,27]),
 (un (.ld 29 1 false (.t 28)),[22,23,24,25,26,27]),
 (un (.mov 30 (.t 6)),[22,23,24,25,26,27,28,29]),
 (un (.iad 31 2 (.t 29) (.t 30)),[22,23,24,25,26,27]),
 (un (.fadr 32 1 (.t 31)),[22,23,24,25,26,27]),
 (un (.ld 33 1 false (.t 32)),[22,23,24,25,26,27]),
 (un (.len 34 (.t 33)),[22,23,24,25,26,27]),
 (un (.mk 35 1 (.int .i64 0) (.t 34)),[22,23,24,25,26,27]),
 (un (.bld 36 [.int .i64 0,.nilsl 1] [(0,1,(.t 27)),(1,1,(.t 35))]),[]),
 (un (.alc 7 (.agg [.int .i64 0,.nilsl 1])),[22,23,24,25,26,27,28,29,30,31,32,33,34,35,36])]
 [un (.st 2 (.t 7) (.t 36))])
 (.drop [22,23,24,25,26,27,28,29,30,31,32,33,34,35,36] (.seq (.seq (.reg [un (.asg 8 (.c (.int .i64 0)))])
 (.block 2 (.loop Th)))
 (.drop [8,37,38,39,40,41,44,45,46,47,48,49,9,10,11,50,51,52,53,56,57,58,59,60,61,62,63,64,65,66,67,54,55,68,69,70,71,72,73,74,75,76,77,78,79,80,81,82,83,42,43] (.reg [un (.fadr 84 1 (.t 5)),
 un (.ld 85 1 false (.t 84)),
 un (.ld 86 2 true (.t 7)),
 un (.bsl 87 2 [(.t 86)]),
 un (.app 88 2 (.t 85) (.t 87)),
 un (.fadr 89 1 (.t 5)),
 un (.st 1 (.t 89) (.t 88))]))))))
 (.drop [22,23,24,25,26,27,28,29,30,31,32,33,34,35,36,7,8,37,38,39,40,41,44,45,46,47,48,49,9,10,11,50,51,52,53,56,57,58,59,60,61,62,63,64,65,66,67,54,55,68,69,70,71,72,73,74,75,76,77,78,79,80,81,82,83,42,43,84,85,86,87,88,89] (.reg [un (.mov 20 (.t 6)),
 un (.bin 21 .add (.t 20) (.c (.int .i64 1))),
 un (.asg 6 (.t 21))])))))
def Akv:ACode:=
 (.seq (.reg [un (.box 2 (.t 0)),
 un (.alc 4 (.agg [.int .i64 0,.nilsl 2]))])
 (.seq (.reg [un (.fadr 12 0 (.t 2)),
 un (.ld 13 1 false (.t 12)),
 un (.bld 14 [.int .i64 0,.nilsl 2] [(0,1,(.t 13))]),
 un (.alc 5 (.agg [.int .i64 0,.nilsl 2])),
 un (.st 2 (.t 5) (.t 14))])
 (.drop [12,13,14] (.seq (.seq (.reg [un (.asg 6 (.c (.int .i64 0)))])
 (.block 0 (.loop Tq)))
 (.drop [6,15,16,17,18,19,22,23,24,25,26,27,28,29,30,31,32,33,34,35,36,7,8,37,38,39,40,41,44,45,46,47,48,49,9,10,11,50,51,52,53,56,57,58,59,60,61,62,63,64,65,66,67,54,55,68,69,70,71,72,73,74,75,76,77,78,79,80,81,82,83,42,43,84,85,86,87,88,89,20,21] (.seq (.reg [un (.ld 90 2 true (.t 5)),
 un (.st 2 (.t 4) (.t 90))])
 (.drop [90] .ret)))))))
abbrev Aln:List RS:=[.c 4 2 true]
theorem Alb:Ay Tryz.prog Sd 91 Akv Aln=true:=by kernel_rfl
def Aai:ACode:=
 (.seq (.seq (.reg [un (.mov 43 (.t 10)),
 un (.mov 44 (.t 9)),
 un (.len 45 (.t 44)),
 un (.bin 46 .lss (.t 43) (.t 45))])
 (.drop [43,44,45] (.cond (.t 46) .skip
 (.exit 4))))
 (.drop [43,44,45,46] (.seq (.block 5 (.reg [un (.mov 49 (.t 9)),
 un (.mov 50 (.t 10)),
 un (.mov 51 (.t 1)),
 un (.mov 52 (.t 9)),
 un (.mov 53 (.t 10)),
 un (.iad 54 1 (.t 52) (.t 53)),
 un (.ld 55 1 false (.t 54)),
 un (.iad 56 1 (.t 51) (.t 55)),
 un (.ld 57 1 false (.t 56)),
 un (.iad 58 1 (.t 49) (.t 50)),
 un (.st 1 (.t 58) (.t 57))]))
 (.drop [49,50,51,52,53,54,55,56,57,58] (.reg [un (.mov 47 (.t 10)),
 un (.bin 48 .add (.t 47) (.c (.int .i64 1))),
 un (.asg 10 (.t 48))])))))
def Aaq:ACode:=
 (.seq (.seq (.reg [un (.mov 28 (.t 8)),
 un (.mov 29 (.t 1)),
 un (.len 30 (.t 29)),
 un (.fadr 31 0 (.t 7)),
 un (.ld 32 1 false (.t 31)),
 un (.call 33 Nr [((.t 30),false),((.t 32),false)]),
 un (.bin 34 .lss (.t 28) (.t 33))])
 (.drop [28,29,30,31,32,33] (.cond (.t 34) .skip
 (.exit 2))))
 (.drop [28,29,30,31,32,33,34] (.seq (.block 3 (.seq (.reg [un (.mov 37 (.t 1)),
 un (.len 38 (.t 37)),
 un (.fadr 39 0 (.t 7)),
 un (.ld 40 1 false (.t 39)),
 un (.mov 41 (.t 8)),
 un (.call 42 Jy [((.t 38),false),((.t 40),false),((.t 41),false)]),
 un (.asg 9 (.t 42))])
 (.drop [37,38,39,40,41,42] (.seq (.seq (.reg [un (.asg 10 (.c (.int .i64 0)))])
 (.block 4 (.loop Aai)))
 (.drop [10,43,44,45,46,49,50,51,52,53,54,55,56,57,58,47,48] (.dreg [(un (.fadr 59 1 (.t 7)),[66]),
 (un (.ld 60 1 false (.t 59)),[66]),
 (un (.mov 61 (.t 1)),[59,60]),
 (un (.ld 62 2 true (.t 2)),[59,60,61]),
 (un (.mov 63 (.t 6)),[59,60,61,62]),
 (un (.mov 64 (.t 9)),[59,60,61,62,63]),
 (un (.call 65 Ny [((.t 62),false),((.t 63),false),((.t 64),false)]),[59,60,61]),
 (un (.call 66 Uh [((.t 61),false),((.t 65),false)]),[59,60]),
 (un (.bsl 67 1 [(.t 66)]),[59,60])]
 [un (.app 68 1 (.t 60) (.t 67)),
 un (.fadr 69 1 (.t 7)),
 un (.st 1 (.t 69) (.t 68))]))))))
 (.drop [37,38,39,40,41,42,9,10,43,44,45,46,49,50,51,52,53,54,55,56,57,58,47,48,59,60,61,62,63,64,65,66,67,68,69] (.reg [un (.mov 35 (.t 8)),
 un (.bin 36 .add (.t 35) (.c (.int .i64 1))),
 un (.asg 8 (.t 36))])))))
def Aay:ACode:=
 (.seq (.seq (.reg [un (.mov 14 (.t 6)),
 un (.fadr 15 1 (.t 2)),
 un (.ld 16 1 false (.t 15)),
 un (.len 17 (.t 16)),
 un (.bin 18 .lss (.t 14) (.t 17))])
 (.drop [14,15,16,17] (.cond (.t 18) .skip
 (.exit 0))))
 (.drop [14,15,16,17,18] (.seq (.block 1 (.seq (.reg [un (.fadr 21 1 (.t 2)),
 un (.ld 22 1 false (.t 21)),
 un (.mov 23 (.t 6)),
 un (.iad 24 2 (.t 22) (.t 23)),
 un (.fadr 25 0 (.t 24)),
 un (.ld 26 1 false (.t 25)),
 un (.bld 27 [.int .i64 0,.nilsl 1] [(0,1,(.t 26))]),
 un (.alc 7 (.agg [.int .i64 0,.nilsl 1])),
 un (.st 2 (.t 7) (.t 27))])
 (.drop [21,22,23,24,25,26,27] (.seq (.seq (.reg [un (.asg 8 (.c (.int .i64 0)))])
 (.block 2 (.loop Aaq)))
 (.drop [8,28,29,30,31,32,33,34,37,38,39,40,41,42,9,10,43,44,45,46,49,50,51,52,53,54,55,56,57,58,47,48,59,60,61,62,63,64,65,66,67,68,69,35,36] (.reg [un (.fadr 70 1 (.t 5)),
 un (.ld 71 1 false (.t 70)),
 un (.ld 72 2 true (.t 7)),
 un (.bsl 73 2 [(.t 72)]),
 un (.app 74 2 (.t 71) (.t 73)),
 un (.fadr 75 1 (.t 5)),
 un (.st 1 (.t 75) (.t 74))]))))))
 (.drop [21,22,23,24,25,26,27,7,8,28,29,30,31,32,33,34,37,38,39,40,41,42,9,10,43,44,45,46,49,50,51,52,53,54,55,56,57,58,47,48,59,60,61,62,63,64,65,66,67,68,69,35,36,70,71,72,73,74,75] (.reg [un (.mov 19 (.t 6)),
 un (.bin 20 .add (.t 19) (.c (.int .i64 1))),
 un (.asg 6 (.t 20))])))))
def Avc:ACode:=
 (.seq (.reg [un (.box 2 (.t 0)),
 un (.alc 4 (.agg [.int .i64 0,.nilsl 2]))])
 (.seq (.reg [un (.mov 11 (.t 1)),
 un (.len 12 (.t 11)),
 un (.bld 13 [.int .i64 0,.nilsl 2] [(0,1,(.t 12))]),
 un (.alc 5 (.agg [.int .i64 0,.nilsl 2])),
 un (.st 2 (.t 5) (.t 13))])
 (.drop [11,12,13] (.seq (.seq (.reg [un (.asg 6 (.c (.int .i64 0)))])
 (.block 0 (.loop Aay)))
 (.drop [6,14,15,16,17,18,21,22,23,24,25,26,27,7,8,28,29,30,31,32,33,34,37,38,39,40,41,42,9,10,43,44,45,46,49,50,51,52,53,54,55,56,57,58,47,48,59,60,61,62,63,64,65,66,67,68,69,35,36,70,71,72,73,74,75,19,20] (.seq (.reg [un (.ld 76 2 true (.t 5)),
 un (.st 2 (.t 4) (.t 76))])
 (.drop [76] .ret)))))))
abbrev Aub:List RS:=[.c 4 2 true]
theorem Au3:Ay Tryz.prog Zr 77 Avc Aub=true:=by kernel_rfl
def X0:ACode:=
 (.seq (.seq (.reg [un (.mov 6 (.t 5)),
 un (.mov 7 (.t 0)),
 un (.bin 8 .lss (.t 6) (.t 7))])
 (.drop [6,7] (.cond (.t 8) .skip
 (.exit 0))))
 (.drop [6,7,8] (.seq (.block 1 (.seq (.reg [un (.mov 11 (.t 1)),
 un (.mov 12 (.t 5)),
 un (.call 13 Oy [((.t 11),false),((.t 12),false)]),
 un (.un 14 .not (.t 13))])
 (.drop [11,12,13] (.cond (.t 14) (.seq (.reg [un (.asg 4 (.c (.bool false)))])
 .ret)
 .skip))))
 (.drop [11,12,13,14] (.reg [un (.mov 9 (.t 5)),
 un (.bin 10 .add (.t 9) (.c (.int .i64 1))),
 un (.asg 5 (.t 10))])))))
def Aqd:ACode:=
 (.seq (.reg [un (.asg 4 (.c (.bool false)))])
 (.seq (.seq (.reg [un (.asg 5 (.c (.int .i64 0)))])
 (.block 0 (.loop X0)))
 (.drop [5,6,7,8,11,12,13,14,9,10] (.seq (.reg [un (.asg 4 (.c (.bool true)))])
 .ret))))
abbrev Aqh:List RS:=[.t 4]
theorem Aqy:Ay Tryz.prog Wt 15 Aqd Aqh=true:=by kernel_rfl
def An4:ACode:=
 (.seq (.reg [un (.box 1 (.t 0)),
 un (.alc 2 (.agg [.int .i64 0,.nilsl 1]))])
 (.seq (.dreg [(un (.fadr 3 0 (.t 1)),[]),
 (un (.ld 4 1 false (.t 3)),[]),
 (un (.fadr 5 1 (.t 1)),[3,4]),
 (un (.ld 6 1 false (.t 5)),[3,4]),
 (un (.call 7 Lc [((.t 6),false)]),[3,4])]
 [un (.bld 8 [.int .i64 0,.nilsl 1] [(0,1,(.t 4)),(1,1,(.t 7))]),
 un (.st 2 (.t 2) (.t 8))])
 (.drop [3,4,5,6,7,8] .ret)))
abbrev Aoi:List RS:=[.c 2 2 true]
theorem Aor:Ay Tryz.prog Tu 9 An4 Aoi=true:=by kernel_rfl
def Xd:ACode:=
 (.seq (.seq (.reg [un (.mov 8 (.t 5)),
 un (.bin 9 .gtr (.t 8) (.c (.int .i64 0))),
 un (.asg 10 (.t 9)),
 ⟨some (10,true),.mov 11 (.t 1)⟩,
 ⟨some (10,true),.len 12 (.t 11)⟩,
 ⟨some (10,true),.mov 13 (.t 0)⟩,
 ⟨some (10,true),.mov 14 (.t 5)⟩,
 ⟨some (10,true),.bin 15 .sub (.t 14) (.c (.int .i64 1))⟩,
 ⟨some (10,true),.iad 16 1 (.t 13) (.t 15)⟩,
 ⟨some (10,true),.ld 17 1 false (.t 16)⟩,
 ⟨some (10,true),.len 18 (.t 17)⟩,
 ⟨some (10,true),.bin 19 .lss (.t 12) (.t 18)⟩,
 ⟨some (10,true),.asg 20 (.t 19)⟩,
 ⟨some (20,false),.mov 21 (.t 1)⟩,
 ⟨some (20,false),.len 22 (.t 21)⟩,
 ⟨some (20,false),.mov 23 (.t 0)⟩,
 ⟨some (20,false),.mov 24 (.t 5)⟩,
 ⟨some (20,false),.bin 25 .sub (.t 24) (.c (.int .i64 1))⟩,
 ⟨some (20,false),.iad 26 1 (.t 23) (.t 25)⟩,
 ⟨some (20,false),.ld 27 1 false (.t 26)⟩,
 ⟨some (20,false),.len 28 (.t 27)⟩,
 ⟨some (20,false),.bin 29 .eql (.t 22) (.t 28)⟩,
 ⟨some (20,false),.asg 30 (.t 29)⟩,
 ⟨some (30,true),.mov 31 (.t 1)⟩,
 ⟨some (30,true),.mov 32 (.t 0)⟩,
 ⟨some (30,true),.mov 33 (.t 5)⟩,
 ⟨some (30,true),.bin 34 .sub (.t 33) (.c (.int .i64 1))⟩,
 ⟨some (30,true),.iad 35 1 (.t 32) (.t 34)⟩,
 ⟨some (30,true),.ld 36 1 false (.t 35)⟩,
 ⟨some (30,true),.call 37 W5 [((.t 31),false),((.t 36),false)]⟩,
 ⟨some (20,false),.pick 38 (.t 30) (.t 37) (.c (.bool false))⟩,
 ⟨some (10,true),.pick 39 (.t 20) (.c (.bool true)) (.t 38)⟩,
 un (.pick 40 (.t 10) (.t 39) (.c (.bool false)))])
 (.drop [8,9,10,11,12,13,14,15,16,17,18,19,20,21,22,23,24,25,26,27,28,29,30,31,32,33,34,35,36,37,38,39] (.cond (.t 40) .skip
 (.exit 0))))
 (.drop [8,9,10,11,12,13,14,15,16,17,18,19,20,21,22,23,24,25,26,27,28,29,30,31,32,33,34,35,36,37,38,39,40] (.block 1 (.reg [un (.mov 41 (.t 5)),
 un (.bin 42 .sub (.t 41) (.c (.int .i64 1))),
 un (.asg 5 (.t 42))]))))
def Asd:ACode:=
 (.seq (.reg [un (.asg 4 (.c (.nilsl 1)))])
 (.seq (.reg [un (.mov 6 (.t 0)),
 un (.len 7 (.t 6)),
 un (.asg 5 (.t 7))])
 (.drop [6,7] (.seq (.block 0 (.loop Xd))
 (.drop [8,9,10,11,12,13,14,15,16,17,18,19,20,21,22,23,24,25,26,27,28,29,30,31,32,33,34,35,36,37,38,39,40,41,42] (.seq (.dreg [(un (.bsl 43 1 []),[48]),
 (un (.mov 44 (.t 0)),[43,48]),
 (un (.mov 45 (.t 5)),[43,44,48]),
 (un (.slc 46 1 (.t 44) none (some (.t 45))),[43,48]),
 (un (.app 47 1 (.t 43) (.t 46)),[48]),
 (un (.mov 48 (.t 1)),[43,44,45,46,47,43]),
 (un (.bsl 49 1 [(.t 48)]),[43,44,45,46,47,43]),
 (un (.app 50 1 (.t 47) (.t 49)),[43,48]),
 (un (.mov 51 (.t 0)),[43,44,45,46,47,48,49,50,43,48,47]),
 (un (.mov 52 (.t 5)),[43,44,45,46,47,48,49,50,51,43,48,47]),
 (un (.slc 53 1 (.t 51) (some (.t 52)) none),[43,44,45,46,47,48,49,50,43,48,47])]
 [un (.app 54 1 (.t 50) (.t 53)),
 un (.asg 4 (.t 54))])
 (.drop [43,44,45,46,47,48,49,50,51,52,53,54] .ret)))))))
abbrev Aq2:List RS:=[.t 4]
theorem Aqm:Ay Tryz.prog Wq 55 Asd Aq2=true:=by kernel_rfl
def Y3:ACode:=
 (.seq (.seq (.reg [un (.mov 42 (.t 10)),
 un (.mov 43 (.t 8)),
 un (.len 44 (.t 43)),
 un (.bin 45 .lss (.t 42) (.t 44))])
 (.drop [42,43,44] (.cond (.t 45) .skip
 (.exit 4))))
 (.drop [42,43,44,45] (.seq (.block 5 (.reg [un (.mov 48 (.t 9)),
 un (.asg 49 (.t 48)),
 ⟨some (49,true),.mov 50 (.t 1)⟩,
 ⟨some (49,true),.mov 51 (.t 8)⟩,
 ⟨some (49,true),.mov 52 (.t 10)⟩,
 ⟨some (49,true),.iad 53 1 (.t 51) (.t 52)⟩,
 ⟨some (49,true),.ld 54 1 false (.t 53)⟩,
 ⟨some (49,true),.iad 55 1 (.t 50) (.t 54)⟩,
 ⟨some (49,true),.ld 56 1 false (.t 55)⟩,
 un (.pick 57 (.t 49) (.t 56) (.c (.bool false))),
 un (.asg 9 (.t 57))]))
 (.drop [48,49,50,51,52,53,54,55,56,57] (.reg [un (.mov 46 (.t 10)),
 un (.bin 47 .add (.t 46) (.c (.int .i64 1))),
 un (.asg 10 (.t 47))])))))
def X3:ACode:=
 (.seq (.seq (.reg [un (.mov 21 (.t 7)),
 un (.fadr 22 1 (.t 2)),
 un (.ld 23 1 false (.t 22)),
 un (.mov 24 (.t 6)),
 un (.iad 25 2 (.t 23) (.t 24)),
 un (.fadr 26 1 (.t 25)),
 un (.ld 27 1 false (.t 26)),
 un (.len 28 (.t 27)),
 un (.bin 29 .lss (.t 21) (.t 28))])
 (.drop [21,22,23,24,25,26,27,28] (.cond (.t 29) .skip
 (.exit 2))))
 (.drop [21,22,23,24,25,26,27,28,29] (.seq (.block 3 (.seq (.dreg [(un (.fadr 32 0 (.t 2)),[]),
 (un (.ld 33 1 false (.t 32)),[]),
 (un (.fadr 34 1 (.t 2)),[32,33]),
 (un (.ld 35 1 false (.t 34)),[32,33]),
 (un (.mov 36 (.t 6)),[32,33,34,35]),
 (un (.iad 37 2 (.t 35) (.t 36)),[32,33]),
 (un (.fadr 38 0 (.t 37)),[32,33]),
 (un (.ld 39 1 false (.t 38)),[32,33]),
 (un (.mov 40 (.t 7)),[32,33,34,35,36,37,38,39])]
 [un (.call 41 Jy [((.t 33),false),((.t 39),false),((.t 40),false)]),
 un (.asg 8 (.t 41))])
 (.drop [32,33,34,35,36,37,38,39,40,41] (.seq (.reg [un (.asg 9 (.c (.bool true)))])
 (.seq (.seq (.reg [un (.asg 10 (.c (.int .i64 0)))])
 (.block 4 (.loop Y3)))
 (.drop [10,42,43,44,45,48,49,50,51,52,53,54,55,56,57,46,47] (.seq (.reg [un (.mov 58 (.t 9))])
 (.cond (.t 58) (.reg [un (.mov 59 (.t 5)),
 un (.fadr 60 1 (.t 2)),
 un (.ld 61 1 false (.t 60)),
 un (.mov 62 (.t 6)),
 un (.iad 63 2 (.t 61) (.t 62)),
 un (.fadr 64 1 (.t 63)),
 un (.ld 65 1 false (.t 64)),
 un (.mov 66 (.t 7)),
 un (.iad 67 1 (.t 65) (.t 66)),
 un (.ld 68 1 false (.t 67)),
 un (.iad 69 1 (.t 59) (.t 68)),
 un (.st 1 (.t 69) (.c (.bool true)))])
 .skip))))))))
 (.drop [32,33,34,35,36,37,38,39,40,41,8,9,10,42,43,44,45,48,49,50,51,52,53,54,55,56,57,46,47,58,59,60,61,62,63,64,65,66,67,68,69] (.reg [un (.mov 30 (.t 7)),
 un (.bin 31 .add (.t 30) (.c (.int .i64 1))),
 un (.asg 7 (.t 31))])))))
def Yr:ACode:=
 (.seq (.seq (.reg [un (.mov 14 (.t 6)),
 un (.fadr 15 1 (.t 2)),
 un (.ld 16 1 false (.t 15)),
 un (.len 17 (.t 16)),
 un (.bin 18 .lss (.t 14) (.t 17))])
 (.drop [14,15,16,17] (.cond (.t 18) .skip
 (.exit 0))))
 (.drop [14,15,16,17,18] (.seq (.block 1 (.seq (.reg [un (.asg 7 (.c (.int .i64 0)))])
 (.block 2 (.loop X3))))
 (.drop [7,21,22,23,24,25,26,27,28,29,32,33,34,35,36,37,38,39,40,41,8,9,10,42,43,44,45,48,49,50,51,52,53,54,55,56,57,46,47,58,59,60,61,62,63,64,65,66,67,68,69,30,31] (.reg [un (.mov 19 (.t 6)),
 un (.bin 20 .add (.t 19) (.c (.int .i64 1))),
 un (.asg 6 (.t 20))])))))
def Asj:ACode:=
 (.seq (.reg [un (.box 2 (.t 0)),
 un (.asg 4 (.c (.nilsl 1)))])
 (.seq (.reg [un (.bsl 11 1 []),
 un (.mov 12 (.t 1)),
 un (.app 13 1 (.t 11) (.t 12)),
 un (.asg 5 (.t 13))])
 (.drop [11,12,13] (.seq (.seq (.reg [un (.asg 6 (.c (.int .i64 0)))])
 (.block 0 (.loop Yr)))
 (.drop [6,14,15,16,17,18,7,21,22,23,24,25,26,27,28,29,32,33,34,35,36,37,38,39,40,41,8,9,10,42,43,44,45,48,49,50,51,52,53,54,55,56,57,46,47,58,59,60,61,62,63,64,65,66,67,68,69,30,31,19,20] (.seq (.reg [un (.mov 70 (.t 5)),
 un (.asg 4 (.t 70))])
 (.drop [70] .ret)))))))
abbrev Asg:List RS:=[.t 4]
theorem Ast:Ay Tryz.prog W8 71 Asj Asg=true:=by kernel_rfl
def Aqk:ACode:=
 (.seq (.reg [un (.box 1 (.t 0)),
 un (.alc 2 (.agg [.int .i64 0,.nilsl 1]))])
 (.seq (.dreg [(un (.fadr 3 0 (.t 1)),[]),
 (un (.ld 4 1 false (.t 3)),[]),
 (un (.fadr 5 1 (.t 1)),[3,4]),
 (un (.ld 6 1 false (.t 5)),[3,4]),
 (un (.call 7 Oe [((.t 6),false)]),[3,4])]
 [un (.bld 8 [.int .i64 0,.nilsl 1] [(0,1,(.t 4)),(1,1,(.t 7))]),
 un (.st 2 (.t 2) (.t 8))])
 (.drop [3,4,5,6,7,8] .ret)))
abbrev Aqg:List RS:=[.c 2 2 true]
theorem Ari:Ay Tryz.prog Ws 9 Aqk Aqg=true:=by kernel_rfl
def Rc:ACode:=
 (.seq (.seq (.reg [un (.mov 6 (.t 5)),
 un (.mov 7 (.t 1)),
 un (.len 8 (.t 7)),
 un (.bin 9 .lss (.t 6) (.t 8))])
 (.drop [6,7,8] (.cond (.t 9) .skip
 (.exit 0))))
 (.drop [6,7,8,9] (.seq (.block 1 (.seq (.reg [un (.mov 12 (.t 1)),
 un (.mov 13 (.t 5)),
 un (.iad 14 1 (.t 12) (.t 13)),
 un (.ld 15 1 false (.t 14)),
 un (.mov 16 (.t 0)),
 un (.bin 17 .sub (.t 16) (.c (.int .i64 1))),
 un (.call 18 Kz [((.t 15),false),((.c (.int .i64 0)),false),((.t 17),false)]),
 un (.un 19 .not (.t 18))])
 (.drop [12,13,14,15,16,17,18] (.cond (.t 19) (.seq (.reg [un (.asg 4 (.c (.bool false)))])
 .ret)
 .skip))))
 (.drop [12,13,14,15,16,17,18,19] (.reg [un (.mov 10 (.t 5)),
 un (.bin 11 .add (.t 10) (.c (.int .i64 1))),
 un (.asg 5 (.t 11))])))))
def Af9:ACode:=
 (.seq (.reg [un (.asg 4 (.c (.bool false)))])
 (.seq (.seq (.reg [un (.asg 5 (.c (.int .i64 0)))])
 (.block 0 (.loop Rc)))
 (.drop [5,6,7,8,9,12,13,14,15,16,17,18,19,10,11] (.seq (.reg [un (.asg 4 (.c (.bool true)))])
 .ret))))
abbrev Ag0:List RS:=[.t 4]
theorem Agp:Ay Tryz.prog Nq 20 Af9 Ag0=true:=by kernel_rfl
def To:ACode:=
 (.seq (.reg [un (.bin 26 .lss (.t 25) (.t 24))])
 (.seq (.cond (.t 26) .skip
 (.exit 4))
 (.seq (.block 5 (.seq (.reg [un (.mov 27 (.t 25)),
 un (.iad 28 1 (.t 23) (.t 25)),
 un (.ld 29 1 false (.t 28)),
 un (.asg 10 (.t 27)),
 un (.asg 11 (.t 29))])
 (.drop [27,28,29] (.seq (.seq (.reg [un (.mov 30 (.t 10)),
 un (.fadr 31 0 (.t 9)),
 un (.ld 32 1 false (.t 31)),
 un (.fadr 33 0 (.t 3)),
 un (.ld 34 1 false (.t 33)),
 un (.mov 35 (.t 2)),
 un (.call 36 R1 [((.t 30),false),((.t 32),false),((.t 34),false),((.t 35),false)]),
 un (.un 37 .not (.t 36))])
 (.drop [30,31,32,33,34,35,36] (.cond (.t 37) (.exit 5)
 .skip)))
 (.drop [30,31,32,33,34,35,36,37] (.seq (.dreg [(un (.fadr 38 1 (.t 4)),[]),
 (un (.ld 39 1 false (.t 38)),[]),
 (un (.mov 40 (.t 8)),[38,39]),
 (un (.iad 41 2 (.t 39) (.t 40)),[]),
 (un (.fadr 42 1 (.t 41)),[]),
 (un (.ld 43 1 false (.t 42)),[]),
 (un (.mov 44 (.t 10)),[38,39,40,41,42,43]),
 (un (.fadr 45 0 (.t 9)),[38,39,40,41,42,43,44]),
 (un (.ld 46 1 false (.t 45)),[38,39,40,41,42,43,44]),
 (un (.ld 47 2 true (.t 3)),[38,39,40,41,42,43,44,45,46]),
 (un (.ld 48 2 true (.t 4)),[38,39,40,41,42,43,44,45,46,47]),
 (un (.mov 49 (.t 2)),[38,39,40,41,42,43,44,45,46,47,48]),
 (un (.call 50 Ke [((.t 44),false),((.t 46),false),((.t 47),false),((.t 48),false),((.t 49),false)]),[38,39,40,41,42,43])]
 [un (.iad 51 1 (.t 43) (.t 50)),
 un (.ld 52 1 false (.t 51)),
 un (.asg 12 (.t 52))])
 (.drop [38,39,40,41,42,43,44,45,46,47,48,49,50,51,52] (.seq (.reg [un (.mov 53 (.t 2)),
 un (.mov 54 (.t 11)),
 un (.iad 55 1 (.t 53) (.t 54)),
 un (.ld 56 1 false (.t 55)),
 un (.bin 57 .lss (.t 56) (.c (.int .i64 0)))])
 (.drop [53,54,55,56] (.cond (.t 57) (.seq (.reg [un (.mov 58 (.t 2)),
 un (.mov 59 (.t 11)),
 un (.mov 60 (.t 12)),
 un (.iad 61 1 (.t 58) (.t 59)),
 un (.st 1 (.t 61) (.t 60))])
 (.drop [58,59,60,61] (.reg [un (.asg 7 (.c (.bool true)))])))
 (.seq (.reg [un (.mov 62 (.t 2)),
 un (.mov 63 (.t 11)),
 un (.iad 64 1 (.t 62) (.t 63)),
 un (.ld 65 1 false (.t 64)),
 un (.mov 66 (.t 12)),
 un (.bin 67 .neq (.t 65) (.t 66))])
 (.drop [62,63,64,65,66] (.cond (.t 67) (.seq (.reg [un (.asg 6 (.c (.bool false)))])
 .ret)
 .skip)))))))))))))
 (.drop [27,28,29,10,11,30,31,32,33,34,35,36,37,38,39,40,41,42,43,44,45,46,47,48,49,50,51,52,12,53,54,55,56,57,58,59,60,61,62,63,64,65,66,67] (.reg [un (.bin 68 .add (.t 25) (.c (.int .i64 1))),
 un (.asg 25 (.t 68))])))))
def Ut:ACode:=
 (.seq (.reg [un (.bin 18 .lss (.t 17) (.t 16))])
 (.seq (.cond (.t 18) .skip
 (.exit 2))
 (.seq (.block 3 (.seq (.reg [un (.mov 19 (.t 17)),
 un (.iad 20 2 (.t 15) (.t 17)),
 un (.ld 21 2 true (.t 20)),
 un (.alc 9 (.agg [.int .i64 0,.nilsl 1])),
 un (.asg 8 (.t 19)),
 un (.st 2 (.t 9) (.t 21))])
 (.drop [19,20,21] (.seq (.reg [un (.fadr 22 1 (.t 9)),
 un (.ld 23 1 false (.t 22)),
 un (.len 24 (.t 23)),
 un (.mov 25 (.c (.int .i64 0)))])
 (.drop [22] (.block 4 (.loop To)))))))
 (.drop [19,20,21,9,8,22,23,24,25,26,27,28,29,10,11,30,31,32,33,34,35,36,37,38,39,40,41,42,43,44,45,46,47,48,49,50,51,52,12,53,54,55,56,57,58,59,60,61,62,63,64,65,66,67,68] (.reg [un (.bin 69 .add (.t 17) (.c (.int .i64 1))),
 un (.asg 17 (.t 69))])))))
def Tc:ACode:=
 (.seq (.seq (.reg [un (.mov 13 (.t 7))])
 (.cond (.t 13) .skip
 (.exit 0)))
 (.drop [13] (.block 1 (.seq (.reg [un (.asg 7 (.c (.bool false)))])
 (.seq (.reg [un (.fadr 14 1 (.t 3)),
 un (.ld 15 1 false (.t 14)),
 un (.len 16 (.t 15)),
 un (.mov 17 (.c (.int .i64 0)))])
 (.drop [14] (.block 2 (.loop Ut))))))))
def Al5:ACode:=
 (.seq (.reg [un (.box 3 (.t 0)),
 un (.box 4 (.t 1)),
 un (.asg 6 (.c (.bool false)))])
 (.seq (.seq (.reg [un (.asg 7 (.c (.bool true)))])
 (.block 0 (.loop Tc)))
 (.drop [7,13,14,15,16,17,18,19,20,21,9,8,22,23,24,25,26,27,28,29,10,11,30,31,32,33,34,35,36,37,38,39,40,41,42,43,44,45,46,47,48,49,50,51,52,12,53,54,55,56,57,58,59,60,61,62,63,64,65,66,67,68,69] (.seq (.reg [un (.asg 6 (.c (.bool true)))])
 .ret))))
abbrev Amq:List RS:=[.t 6]
theorem Ak9:Ay Tryz.prog R5 70 Al5 Amq=true:=by kernel_rfl
def Ad1:ACode:=
 (.seq (.reg [un (.fadr 5 0 (.t 1)),
 un (.ld 6 1 false (.t 5)),
 un (.bin 7 .lss (.t 6) (.c (.int .i64 1))),
 un (.asg 8 (.t 7)),
 ⟨some (8,false),.fadr 9 0 (.t 1)⟩,
 ⟨some (8,false),.ld 10 1 false (.t 9)⟩,
 ⟨some (8,false),.bin 11 .gtr (.t 10) (.c (.int .i64 8))⟩,
 un (.pick 12 (.t 8) (.c (.bool true)) (.t 11)),
 un (.asg 13 (.t 12)),
 ⟨some (13,false),.fadr 14 1 (.t 1)⟩,
 ⟨some (13,false),.ld 15 1 false (.t 14)⟩,
 ⟨some (13,false),.len 16 (.t 15)⟩,
 ⟨some (13,false),.bin 17 .gtr (.t 16) (.c (.int .i64 4))⟩,
 un (.pick 18 (.t 13) (.c (.bool true)) (.t 17))])
 (.drop [5,6,7,8,9,10,11,12,13,14,15,16,17] (.cond (.t 18) (.seq (.reg [un (.asg 2 (.c (.bool false)))])
 .ret)
 .skip)))
def Sn:ACode:=
 (.seq (.reg [un (.bin 23 .lss (.t 22) (.t 21))])
 (.seq (.cond (.t 23) .skip
 (.exit 0))
 (.seq (.block 1 (.seq (.reg [un (.iad 24 2 (.t 20) (.t 22)),
 un (.ld 25 2 true (.t 24)),
 un (.alc 4 (.agg [.int .i64 0,.nilsl 1])),
 un (.st 2 (.t 4) (.t 25))])
 (.drop [24,25] (.seq (.reg [un (.ld 26 2 true (.t 4)),
 un (.fadr 27 0 (.t 1)),
 un (.ld 28 1 false (.t 27)),
 un (.call 29 Ack [((.t 26),false),((.t 28),false)]),
 un (.un 30 .not (.t 29))])
 (.drop [26,27,28,29] (.cond (.t 30) (.seq (.reg [un (.asg 2 (.c (.bool false)))])
 .ret)
 .skip))))))
 (.drop [24,25,4,26,27,28,29,30] (.reg [un (.bin 31 .add (.t 22) (.c (.int .i64 1))),
 un (.asg 22 (.t 31))])))))
def Ail:ACode:=
 (.seq (.reg [un (.box 1 (.t 0)),
 un (.asg 2 (.c (.bool false)))])
 (.seq (.cut Ad1)
 (.drop [5,6,7,8,9,10,11,12,13,14,15,16,17,18] (.seq (.seq (.reg [un (.fadr 19 1 (.t 1)),
 un (.ld 20 1 false (.t 19)),
 un (.len 21 (.t 20)),
 un (.mov 22 (.c (.int .i64 0)))])
 (.drop [19] (.block 0 (.loop Sn))))
 (.drop [19,20,21,22,23,24,25,4,26,27,28,29,30,31] (.seq (.reg [un (.asg 2 (.c (.bool true)))])
 .ret))))))
abbrev Ah9:List RS:=[.t 2]
theorem Ajs:Ay Tryz.prog D4 32 Ail Ah9=true:=by kernel_rfl
def Aws:ACode:=
 (.seq (.reg [un (.box 3 (.t 0)),
 un (.box 4 (.t 1)),
 un (.asg 6 (.c (.bool false)))])
 (.seq (.seq (.reg [un (.ld 9 2 true (.t 3)),
 un (.ld 10 2 true (.t 4)),
 un (.mov 11 (.t 2)),
 un (.call 12 Zm [((.t 9),false),((.t 10),false),((.t 11),false)]),
 un (.un 13 .not (.t 12))])
 (.drop [9,10,11,12] (.cond (.t 13) (.seq (.reg [un (.asg 6 (.c (.bool false)))])
 .ret)
 .skip)))
 (.drop [9,10,11,12,13] (.seq (.reg [un (.ld 15 2 true (.t 3)),
 un (.ld 16 2 true (.t 4)),
 un (.mov 17 (.t 2)),
 un (.call 18 S9 [((.t 15),false),((.t 16),false),((.t 17),false)]),
 un (.asg 14 (.t 18)),
 un (.ext 19 (.t 14) 0),
 un (.ext 20 (.t 14) 1),
 un (.asg 7 (.t 19)),
 un (.asg 8 (.t 20))])
 (.drop [15,16,17,18,14,19,20,8] (.seq (.reg [un (.mov 21 (.t 7)),
 un (.bin 22 .lss (.t 21) (.c (.int .i64 0))),
 un (.asg 6 (.t 22))])
 (.drop [21,22] .ret)))))))
abbrev Aut:List RS:=[.t 6]
theorem Av4:Ay Tryz.prog Zu 23 Aws Aut=true:=by kernel_rfl
end Go.Proofs.YtmkgjnphianalaaGreat.Ax
