/-
  The small code of the functions, written by program; that the program's code is this one, the kernel looks at.
-/
import Derived.Test.YtjcekpmojnnmbaaGreatAx3
import Derived.Test.YtjcekpmojnnmbaaGreatProg
import Derived.KernelRfl
import Derived.Test.YtjcekpmojnnmbaaGreatNum
namespace Go.Proofs.YtjcekpmojnnmbaaGreat.Ax
open Go
set_option maxRecDepth 100000
def Aso:ACode:=
 (.seq (.reg [un (.asg 2 (.c (.bool false)))])
 (.seq (.reg [un (.mov 3 (.t 0)),
 un (.len 4 (.t 3)),
 un (.bin 5 .gtr (.t 4) (.c (.int .i64 65536))),
 un (.asg 2 (.t 5))])
 (.drop [3,4,5] .ret)))
abbrev Arp:List RS:=[.t 2]
theorem Aqj:Ay Tryz.prog X4 6 Aso Arp=true:=by kernel_rfl
def Wn:ACode:=
 (.seq (.seq (.reg [un (.mov 11 (.t 5)),
 un (.mov 12 (.t 0)),
 un (.len 13 (.t 12)),
 un (.bin 14 .lss (.t 11) (.t 13))])
 (.drop [11,12,13] (.cond (.t 14) .skip
 (.exit 0))))
 (.drop [11,12,13,14] (.seq (.block 1 (.seq (.dreg [(un (.mov 17 (.t 0)),[]),
 (un (.mov 18 (.t 5)),[17]),
 (un (.iad 19 1 (.t 17) (.t 18)),[]),
 (un (.ld 20 1 false (.t 19)),[]),
 (un (.mov 21 (.t 1)),[17,18,19,20]),
 (un (.mov 22 (.t 5)),[17,18,19,20,21]),
 (un (.iad 23 1 (.t 21) (.t 22)),[17,18,19,20]),
 (un (.ld 24 1 false (.t 23)),[17,18,19,20])]
 [un (.bin 25 .neq (.t 20) (.t 24))])
 (.drop [17,18,19,20,21,22,23,24] (.cond (.t 25) (.seq (.reg [un (.asg 4 (.c (.bool false)))])
 .ret)
 .skip))))
 (.drop [17,18,19,20,21,22,23,24,25] (.reg [un (.mov 15 (.t 5)),
 un (.bin 16 .add (.t 15) (.c (.int .i64 1))),
 un (.asg 5 (.t 16))])))))
def Aot:ACode:=
 (.seq (.reg [un (.asg 4 (.c (.bool false)))])
 (.seq (.seq (.reg [un (.mov 6 (.t 0)),
 un (.len 7 (.t 6)),
 un (.mov 8 (.t 1)),
 un (.len 9 (.t 8)),
 un (.bin 10 .neq (.t 7) (.t 9))])
 (.drop [6,7,8,9] (.cond (.t 10) (.seq (.reg [un (.asg 4 (.c (.bool false)))])
 .ret)
 .skip)))
 (.drop [6,7,8,9,10] (.seq (.seq (.reg [un (.asg 5 (.c (.int .i64 0)))])
 (.block 0 (.loop Wn)))
 (.drop [5,11,12,13,14,17,18,19,20,21,22,23,24,25,15,16] (.seq (.reg [un (.asg 4 (.c (.bool true)))])
 .ret))))))
abbrev Apg:List RS:=[.t 4]
theorem Aoj:Ay Tryz.prog L3 26 Aot Apg=true:=by kernel_rfl
def Wr:ACode:=
 (.seq (.reg [un (.bin 10 .lss (.t 9) (.t 8))])
 (.seq (.cond (.t 10) .skip
 (.exit 0))
 (.seq (.block 1 (.seq (.reg [un (.mov 11 (.t 9)),
 un (.iad 12 1 (.t 7) (.t 9)),
 un (.ld 13 1 false (.t 12)),
 un (.asg 5 (.t 11)),
 un (.asg 6 (.t 13))])
 (.drop [11,12,13] (.seq (.dreg [(un (.mov 14 (.t 1)),[]),
 (un (.mov 15 (.t 6)),[14]),
 (un (.iad 16 1 (.t 14) (.t 15)),[]),
 (un (.ld 17 1 false (.t 16)),[]),
 (un (.mov 18 (.t 1)),[14,15,16,17]),
 (un (.mov 19 (.t 5)),[14,15,16,17,18]),
 (un (.iad 20 1 (.t 18) (.t 19)),[14,15,16,17]),
 (un (.ld 21 1 false (.t 20)),[14,15,16,17])]
 [un (.bin 22 .neq (.t 17) (.t 21))])
 (.drop [14,15,16,17,18,19,20,21] (.cond (.t 22) (.seq (.reg [un (.asg 4 (.c (.bool false)))])
 .ret)
 .skip))))))
 (.drop [11,12,13,5,6,14,15,16,17,18,19,20,21,22] (.reg [un (.bin 23 .add (.t 9) (.c (.int .i64 1))),
 un (.asg 9 (.t 23))])))))
def Aoz:ACode:=
 (.seq (.reg [un (.asg 4 (.c (.bool false)))])
 (.seq (.seq (.reg [un (.mov 7 (.t 0)),
 un (.len 8 (.t 7)),
 un (.mov 9 (.c (.int .i64 0)))])
 (.block 0 (.loop Wr)))
 (.drop [7,8,9,10,11,12,13,5,6,14,15,16,17,18,19,20,21,22,23] (.seq (.reg [un (.asg 4 (.c (.bool true)))])
 .ret))))
abbrev An7:List RS:=[.t 4]
theorem Aqd:Ay Tryz.prog Jh 24 Aoz An7=true:=by kernel_rfl
def Nw:ACode:=
 (.seq (.seq (.reg [un (.mov 6 (.t 4)),
 un (.mov 7 (.t 0)),
 un (.bin 8 .lss (.t 6) (.t 7))])
 (.drop [6,7] (.cond (.t 8) .skip
 (.exit 0))))
 (.drop [6,7,8] (.seq (.block 1 (.reg [un (.mov 11 (.t 3)),
 un (.mov 12 (.t 4)),
 un (.bsl 13 1 [(.t 12)]),
 un (.app 14 1 (.t 11) (.t 13)),
 un (.asg 3 (.t 14))]))
 (.drop [11,12,13,14] (.reg [un (.mov 9 (.t 4)),
 un (.bin 10 .add (.t 9) (.c (.int .i64 1))),
 un (.asg 4 (.t 10))])))))
def Ab5:ACode:=
 (.seq (.reg [un (.asg 2 (.c (.nilsl 1)))])
 (.seq (.reg [un (.bsl 5 1 []),
 un (.asg 3 (.t 5))])
 (.drop [5] (.seq (.seq (.reg [un (.asg 4 (.c (.int .i64 0)))])
 (.block 0 (.loop Nw)))
 (.drop [4,6,7,8,11,12,13,14,9,10] (.seq (.reg [un (.mov 15 (.t 3)),
 un (.asg 2 (.t 15))])
 (.drop [15] .ret)))))))
abbrev Ace:List RS:=[.t 2]
theorem Adu:Ay Tryz.prog D7 16 Ab5 Ace=true:=by kernel_rfl
def Amm:ACode:=
 (.seq (.reg [un (.asg 2 (.c (.bool false)))])
 (.seq (.reg [un (.mov 3 (.t 0)),
 un (.bin 4 .geq (.t 3) (.c (.int .i64 1))),
 un (.asg 5 (.t 4)),
 ⟨some (5,true),.mov 6 (.t 0)⟩,
 ⟨some (5,true),.bin 7 .leq (.t 6) (.c (.int .i64 8))⟩,
 un (.pick 8 (.t 5) (.t 7) (.c (.bool false))),
 un (.asg 2 (.t 8))])
 (.drop [3,4,5,6,7,8] .ret)))
abbrev Alh:List RS:=[.t 2]
theorem Alz:Ay Tryz.prog Ng 9 Amm Alh=true:=by kernel_rfl
def Mg:ACode:=
 (.seq (.reg [un (.bin 14 .lss (.t 13) (.t 12))])
 (.seq (.cond (.t 14) .skip
 (.exit 0))
 (.seq (.block 1 (.seq (.reg [un (.mov 15 (.t 13)),
 un (.iad 16 1 (.t 11) (.t 13)),
 un (.ld 17 1 false (.t 16)),
 un (.asg 5 (.t 15)),
 un (.asg 6 (.t 17))])
 (.drop [15,16,17] (.seq (.reg [un (.mov 18 (.t 6)),
 un (.bin 19 .lss (.t 18) (.c (.int .i64 0))),
 un (.asg 20 (.t 19)),
 ⟨some (20,false),.mov 21 (.t 6)⟩,
 ⟨some (20,false),.mov 22 (.t 5)⟩,
 ⟨some (20,false),.bin 23 .gtr (.t 21) (.t 22)⟩,
 un (.pick 24 (.t 20) (.c (.bool true)) (.t 23)),
 un (.asg 25 (.t 24)),
 ⟨some (25,false),.mov 26 (.t 1)⟩,
 ⟨some (25,false),.mov 27 (.t 6)⟩,
 ⟨some (25,false),.iad 28 1 (.t 26) (.t 27)⟩,
 ⟨some (25,false),.ld 29 1 false (.t 28)⟩,
 ⟨some (25,false),.mov 30 (.t 6)⟩,
 ⟨some (25,false),.bin 31 .neq (.t 29) (.t 30)⟩,
 un (.pick 32 (.t 25) (.c (.bool true)) (.t 31))])
 (.drop [18,19,20,21,22,23,24,25,26,27,28,29,30,31] (.cond (.t 32) (.seq (.reg [un (.asg 4 (.c (.bool false)))])
 .ret)
 .skip))))))
 (.drop [15,16,17,5,6,18,19,20,21,22,23,24,25,26,27,28,29,30,31,32] (.reg [un (.bin 33 .add (.t 13) (.c (.int .i64 1))),
 un (.asg 13 (.t 33))])))))
def Aan:ACode:=
 (.seq (.reg [un (.asg 4 (.c (.bool false)))])
 (.seq (.seq (.reg [un (.mov 7 (.t 1)),
 un (.len 8 (.t 7)),
 un (.mov 9 (.t 0)),
 un (.bin 10 .neq (.t 8) (.t 9))])
 (.drop [7,8,9] (.cond (.t 10) (.seq (.reg [un (.asg 4 (.c (.bool false)))])
 .ret)
 .skip)))
 (.drop [7,8,9,10] (.seq (.seq (.reg [un (.mov 11 (.t 1)),
 un (.len 12 (.t 11)),
 un (.mov 13 (.c (.int .i64 0)))])
 (.block 0 (.loop Mg)))
 (.drop [11,12,13,14,15,16,17,5,6,18,19,20,21,22,23,24,25,26,27,28,29,30,31,32,33] (.seq (.reg [un (.asg 4 (.c (.bool true)))])
 .ret))))))
abbrev Aa2:List RS:=[.t 4]
theorem Abx:Ay Tryz.prog F7 34 Aan Aa2=true:=by kernel_rfl
def Aal:ACode:=
 (.seq (.reg [un (.mov 18 (.t 6)),
 un (.mov 19 (.t 5)),
 un (.bin 20 .eql (.t 18) (.t 19))])
 (.drop [18,19] (.cond (.t 20) (.seq (.reg [un (.mov 21 (.t 3)),
 un (.mov 22 (.t 5)),
 un (.mov 23 (.t 4)),
 un (.len 24 (.t 23)),
 un (.iad 25 1 (.t 21) (.t 22)),
 un (.st 1 (.t 25) (.t 24))])
 (.drop [21,22,23,24,25] (.reg [un (.mov 26 (.t 4)),
 un (.bsl 27 1 []),
 un (.bsl 28 1 [(.t 27)]),
 un (.app 29 1 (.t 26) (.t 28)),
 un (.asg 4 (.t 29))])))
 .skip)))
def Qz:ACode:=
 (.seq (.reg [un (.bin 14 .lss (.t 13) (.t 12))])
 (.seq (.cond (.t 14) .skip
 (.exit 0))
 (.seq (.block 1 (.seq (.reg [un (.mov 15 (.t 13)),
 un (.iad 16 1 (.t 11) (.t 13)),
 un (.ld 17 1 false (.t 16)),
 un (.asg 5 (.t 15)),
 un (.asg 6 (.t 17))])
 (.drop [15,16,17] (.seq (.cut Aal)
 (.drop [18,19,20,21,22,23,24,25,26,27,28,29] (.dregl [(0,.mov 30 (.t 4)),
 (1,.mov 31 (.t 3)),
 (2,.mov 32 (.t 6)),
 (3,.iad 33 1 (.t 31) (.t 32)),
 (4,.ld 34 1 false (.t 33)),
 (5,.mov 35 (.t 4)),
 (6,.mov 36 (.t 3)),
 (7,.mov 37 (.t 6)),
 (8,.iad 38 1 (.t 36) (.t 37)),
 (9,.ld 39 1 false (.t 38)),
 (10,.iad 40 1 (.t 35) (.t 39)),
 (11,.ld 41 1 false (.t 40)),
 (12,.mov 42 (.t 5))]
 (.alt 13 (.bsl 43 1 [(.t 42)]) [0,1,2,3,4,5,6,7,8,9,10,11,12] [] (.alt 14 (.app 44 1 (.t 41) (.t 43)) [0,1,2,3,4,5,6,7,8,9,10,11] [41] (.alt 15 (.iad 45 1 (.t 30) (.t 34)) [0,1,2,3,4] [] (.alt 16 (.st 1 (.t 45) (.t 44)) [] [] .nil .nil) .nil) .nil) .nil)))))))
 (.drop [15,16,17,5,6,18,19,20,21,22,23,24,25,26,27,28,29,30,31,32,33,34,35,36,37,38,39,40,41,42,43,44,45] (.reg [un (.bin 46 .add (.t 13) (.c (.int .i64 1))),
 un (.asg 13 (.t 46))])))))
def Ag1:ACode:=
 (.seq (.reg [un (.asg 2 (.c (.nilsl 1)))])
 (.seq (.reg [un (.mov 7 (.t 0)),
 un (.len 8 (.t 7)),
 un (.mk 9 1 (.int .i64 0) (.t 8)),
 un (.asg 3 (.t 9))])
 (.drop [7,8,9] (.seq (.reg [un (.bsl 10 1 []),
 un (.asg 4 (.t 10))])
 (.drop [10] (.seq (.seq (.reg [un (.mov 11 (.t 0)),
 un (.len 12 (.t 11)),
 un (.mov 13 (.c (.int .i64 0)))])
 (.block 0 (.loop Qz)))
 (.drop [11,12,13,14,15,16,17,5,6,18,19,20,21,22,23,24,25,26,27,28,29,30,31,32,33,34,35,36,37,38,39,40,41,42,43,44,45,46] (.seq (.reg [un (.mov 47 (.t 4)),
 un (.asg 2 (.t 47))])
 (.drop [47] .ret)))))))))
abbrev Agl:List RS:=[.t 2]
theorem Ahm:Ay Tryz.prog On 48 Ag1 Agl=true:=by kernel_rfl
def Xq:ACode:=
 (.seq (.dreg [(un (.mov 4 (.t 0)),[]),
 (un (.nck 5 (.t 4)),[]),
 (un (.fadr 6 1 (.t 5)),[]),
 (un (.ld 7 1 false (.t 6)),[]),
 (un (.mov 8 (.t 0)),[4,5,6,7]),
 (un (.nck 9 (.t 8)),[4,5,6,7]),
 (un (.fadr 10 0 (.t 9)),[4,5,6,7]),
 (un (.ld 11 1 false (.t 10)),[4,5,6,7]),
 (un (.len 12 (.t 11)),[4,5,6,7])]
 [un (.bin 13 .lss (.t 7) (.t 12))])
 (.drop [4,5,6,7,8,9,10,11,12] (.cond (.t 13) (.dreg [(un (.mov 14 (.t 0)),[]),
 (un (.nck 15 (.t 14)),[]),
 (un (.fadr 16 0 (.t 15)),[]),
 (un (.ld 17 1 false (.t 16)),[]),
 (un (.mov 18 (.t 0)),[14,15,16,17]),
 (un (.nck 19 (.t 18)),[14,15,16,17]),
 (un (.fadr 20 1 (.t 19)),[14,15,16,17]),
 (un (.ld 21 1 false (.t 20)),[14,15,16,17])]
 [un (.iad 22 1 (.t 17) (.t 21)),
 un (.ld 23 1 false (.t 22)),
 un (.cnv 24 .i64 (.t 23)),
 un (.asg 3 (.t 24))])
 .skip)))
def Add:ACode:=
 (.seq (.reg [un (.asg 2 (.c (.int .i64 0)))])
 (.seq (.reg [un (.asg 3 (.c (.int .i64 0)))])
 (.seq (.cut Xq)
 (.drop [4,5,6,7,8,9,10,11,12,13,14,15,16,17,18,19,20,21,22,23,24] (.seq (.reg [un (.mov 25 (.t 0)),
 un (.nck 26 (.t 25)),
 un (.fadr 27 1 (.t 26)),
 un (.ld 28 1 false (.t 27)),
 un (.bin 29 .add (.t 28) (.c (.int .i64 1))),
 un (.nck 30 (.t 25)),
 un (.fadr 31 1 (.t 30)),
 un (.st 1 (.t 31) (.t 29))])
 (.drop [25,26,27,28,29,30,31] (.seq (.reg [un (.mov 32 (.t 0)),
 un (.mov 33 (.t 0)),
 un (.nck 34 (.t 33)),
 un (.fadr 35 2 (.t 34)),
 un (.ld 36 1 false (.t 35)),
 un (.bin 37 .mul (.t 36) (.c (.int .u64 6364136223846793005))),
 un (.mov 38 (.t 3)),
 un (.cnv 39 .u64 (.t 38)),
 un (.bin 40 .add (.t 37) (.t 39)),
 un (.bin 41 .add (.t 40) (.c (.int .u64 550289))),
 un (.nck 42 (.t 32)),
 un (.fadr 43 2 (.t 42)),
 un (.st 1 (.t 43) (.t 41))])
 (.drop [32,33,34,35,36,37,38,39,40,41,42,43] (.seq (.seq (.dreg [(un (.mov 44 (.t 0)),[]),
 (un (.nck 45 (.t 44)),[]),
 (un (.fadr 46 1 (.t 45)),[]),
 (un (.ld 47 1 false (.t 46)),[]),
 (un (.mov 48 (.t 0)),[44,45,46,47]),
 (un (.nck 49 (.t 48)),[44,45,46,47]),
 (un (.fadr 50 0 (.t 49)),[44,45,46,47]),
 (un (.ld 51 1 false (.t 50)),[44,45,46,47]),
 (un (.len 52 (.t 51)),[44,45,46,47])]
 [un (.bin 53 .leq (.t 47) (.t 52))])
 (.drop [44,45,46,47,48,49,50,51,52] (.cond (.t 53) (.seq (.reg [un (.mov 54 (.t 3)),
 un (.asg 2 (.t 54))])
 (.drop [54] .ret))
 .skip)))
 (.drop [44,45,46,47,48,49,50,51,52,53,54] (.seq (.reg [un (.mov 55 (.t 0)),
 un (.nck 56 (.t 55)),
 un (.fadr 57 2 (.t 56)),
 un (.ld 58 1 false (.t 57)),
 un (.bin 59 .shr (.t 58) (.c (.int .u64 40))),
 un (.bin 60 .and (.t 59) (.c (.int .u64 255))),
 un (.cnv 61 .i64 (.t 60)),
 un (.asg 2 (.t 61))])
 (.drop [55,56,57,58,59,60,61] .ret))))))))))))
abbrev Adk:List RS:=[.t 2]
theorem Ab7:Ay Tryz.prog Ij 62 Add Adk=true:=by kernel_rfl
def An3:ACode:=
 (.seq (.reg [un (.asg 2 (.c (.nilsl 1)))])
 (.seq (.reg [un (.bsl 3 1 []),
 un (.mov 4 (.t 0)),
 un (.app 5 1 (.t 3) (.t 4)),
 un (.asg 2 (.t 5))])
 (.drop [3,4,5] .ret)))
abbrev Aof:List RS:=[.t 2]
theorem Aom:Ay Tryz.prog Pv 6 An3 Aof=true:=by kernel_rfl
def Wi:ACode:=
 (.seq (.seq (.reg [un (.mov 6 (.t 1)),
 un (.bin 7 .gtr (.t 6) (.c (.int .i64 0)))])
 (.drop [6] (.cond (.t 7) .skip
 (.exit 0))))
 (.drop [6,7] (.seq (.block 1 (.reg [un (.mov 10 (.t 5)),
 un (.mov 11 (.t 0)),
 un (.bin 12 .mul (.t 10) (.t 11)),
 un (.asg 5 (.t 12))]))
 (.drop [10,11,12] (.reg [un (.mov 8 (.t 1)),
 un (.bin 9 .sub (.t 8) (.c (.int .i64 1))),
 un (.asg 1 (.t 9))])))))
def Apz:ACode:=
 (.seq (.reg [un (.asg 4 (.c (.int .i64 0)))])
 (.seq (.reg [un (.asg 5 (.c (.int .i64 1)))])
 (.seq (.block 0 (.loop Wi))
 (.drop [6,7,10,11,12,8,9] (.seq (.reg [un (.mov 13 (.t 5)),
 un (.asg 4 (.t 13))])
 (.drop [13] .ret))))))
abbrev Ap6:List RS:=[.t 4]
theorem Ap5:Ay Tryz.prog Vv 14 Apz Ap6=true:=by kernel_rfl
def Wg:ACode:=
 (.seq (.reg [un (.bin 13 .lss (.t 12) (.t 11))])
 (.seq (.cond (.t 13) .skip
 (.exit 0))
 (.seq (.block 1 (.seq (.reg [un (.iad 14 1 (.t 10) (.t 12)),
 un (.ld 15 1 false (.t 14)),
 un (.asg 5 (.t 15))])
 (.drop [14,15] (.reg [un (.mov 16 (.t 3)),
 un (.mov 17 (.t 5)),
 un (.bin 18 .shr (.t 17) (.c (.int .u64 8))),
 un (.cnv 19 .u8 (.t 18)),
 un (.mov 20 (.t 5)),
 un (.cnv 21 .u8 (.t 20)),
 un (.bsl 22 1 [(.t 19),(.t 21)]),
 un (.app 23 1 (.t 16) (.t 22)),
 un (.asg 3 (.t 23))]))))
 (.drop [14,15,5,16,17,18,19,20,21,22,23] (.reg [un (.bin 24 .add (.t 12) (.c (.int .i64 1))),
 un (.asg 12 (.t 24))])))))
def Ao7:ACode:=
 (.seq (.reg [⟨none,.asg 2 (.c (.str ⟨#[]⟩))⟩])
 (.seq (.reg [un (.mov 6 (.t 0)),
 un (.len 7 (.t 6)),
 un (.bin 8 .mul (.c (.int .i64 2)) (.t 7)),
 un (.mkc 9 1 (.int .u8 0) (.t 8)),
 un (.asg 3 (.t 9))])
 (.drop [6,7,8,9] (.seq (.seq (.reg [un (.mov 10 (.t 0)),
 un (.len 11 (.t 10)),
 un (.mov 12 (.c (.int .i64 0)))])
 (.block 0 (.loop Wg)))
 (.drop [10,11,12,13,14,15,5,16,17,18,19,20,21,22,23,24] (.seq (.reg [un (.mov 25 (.t 3)),
 un (.bstr 26 (.t 25)),
 un (.asg 2 (.t 26))])
 (.drop [25,26] .ret)))))))
abbrev Apq:List RS:=[.t 2]
theorem Aop:Ay Tryz.prog Pk 27 Ao7 Apq=true:=by kernel_rfl
def Zo:ACode:=
 (.seq (.reg [un (.ld 14 1 false (.t 2)),
 un (.mov 15 (.t 8)),
 un (.iad 16 1 (.t 14) (.t 15)),
 un (.ld 17 1 false (.t 16)),
 un (.asg 18 (.t 17)),
 ⟨some (18,false),.ld 19 1 false (.t 3)⟩,
 ⟨some (18,false),.mov 20 (.t 0)⟩,
 ⟨some (18,false),.mov 21 (.t 8)⟩,
 ⟨some (18,false),.cally 22 (.t 19) [(.t 20),(.t 21)] [true,false,true,false,false]⟩,
 ⟨some (18,false),.un 23 .not (.t 22)⟩,
 un (.pick 24 (.t 18) (.c (.bool true)) (.t 23))])
 (.drop [14,15,16,17,18,19,20,21,22,23] (.cond (.t 24) (.exit 1)
 .skip)))
def O8:ACode:=
 (.seq (.seq (.reg [un (.mov 9 (.t 8)),
 un (.ld 10 1 false (.t 1)),
 un (.bin 11 .lss (.t 9) (.t 10))])
 (.drop [9,10] (.cond (.t 11) .skip
 (.exit 0))))
 (.drop [9,10,11] (.seq (.block 1 (.seq (.cut Zo)
 (.drop [14,15,16,17,18,19,20,21,22,23,24] (.seq (.reg [un (.ld 25 1 false (.t 2)),
 un (.mov 26 (.t 8)),
 un (.iad 27 1 (.t 25) (.t 26)),
 un (.st 1 (.t 27) (.c (.bool true)))])
 (.drop [25,26,27] (.seq (.dreg [(un (.ld 28 1 false (.t 4)),[]),
 (un (.mov 29 (.t 8)),[28]),
 (un (.iad 30 1 (.t 28) (.t 29)),[]),
 (un (.ld 31 1 false (.t 30)),[]),
 (un (.bin 32 .lss (.t 31) (.c (.int .i64 0))),[]),
 (un (.asg 33 (.t 32)),[]),
 (⟨some (33,false),.ld 34 1 false (.t 5)⟩,[32]),
 (⟨some (33,false),.ld 35 1 false (.t 4)⟩,[34,32]),
 (⟨some (33,false),.mov 36 (.t 8)⟩,[34,35,32]),
 (⟨some (33,false),.iad 37 1 (.t 35) (.t 36)⟩,[34,32]),
 (⟨some (33,false),.ld 38 1 false (.t 37)⟩,[34,32])]
 [⟨some (33,false),.cally 39 (.t 34) [(.t 38)] [false,true,false,true,false]⟩,
 un (.pick 40 (.t 33) (.c (.bool true)) (.t 39))])
 (.drop [28,29,30,31,32,33,34,35,36,37,38,39] (.cond (.t 40) (.seq (.reg [un (.ld 41 1 false (.t 4)),
 un (.mov 42 (.t 8)),
 un (.mov 43 (.t 0)),
 un (.iad 44 1 (.t 41) (.t 42)),
 un (.st 1 (.t 44) (.t 43))])
 (.drop [41,42,43,44] (.seq (.reg [un (.asg 7 (.c (.bool true)))])
 .ret)))
 .skip))))))))
 (.drop [14,15,16,17,18,19,20,21,22,23,24,25,26,27,28,29,30,31,32,33,34,35,36,37,38,39,40,41,42,43,44] (.reg [un (.mov 12 (.t 8)),
 un (.bin 13 .add (.t 12) (.c (.int .i64 1))),
 un (.asg 8 (.t 13))])))))
def Afa:ACode:=
 (.seq (.reg [un (.asg 7 (.c (.bool false)))])
 (.seq (.seq (.reg [un (.asg 8 (.c (.int .i64 0)))])
 (.block 0 (.loop O8)))
 (.drop [8,9,10,11,14,15,16,17,18,19,20,21,22,23,24,25,26,27,28,29,30,31,32,33,34,35,36,37,38,39,40,41,42,43,44,12,13] (.seq (.reg [un (.asg 7 (.c (.bool false)))])
 .ret))))
abbrev Ad9:List RS:=[.t 7]
theorem Aeb:Ay Tryz.prog Cd 45 Afa Ad9=true:=by kernel_rfl
def Sy:ACode:=
 (.seq (.seq (.reg [un (.mov 6 (.t 5)),
 un (.mov 7 (.t 0)),
 un (.len 8 (.t 7)),
 un (.bin 9 .lss (.t 6) (.t 8))])
 (.drop [6,7,8] (.cond (.t 9) .skip
 (.exit 0))))
 (.drop [6,7,8,9] (.seq (.block 1 (.seq (.dreg [(un (.mov 12 (.t 1)),[]),
 (un (.mov 13 (.t 0)),[12]),
 (un (.mov 14 (.t 5)),[12,13]),
 (un (.iad 15 1 (.t 13) (.t 14)),[12]),
 (un (.ld 16 1 false (.t 15)),[12]),
 (un (.iad 17 1 (.t 12) (.t 16)),[]),
 (un (.ld 18 1 false (.t 17)),[]),
 (un (.mov 19 (.t 1)),[12,13,14,15,16,17,18]),
 (un (.mov 20 (.t 5)),[12,13,14,15,16,17,18,19]),
 (un (.iad 21 1 (.t 19) (.t 20)),[12,13,14,15,16,17,18]),
 (un (.ld 22 1 false (.t 21)),[12,13,14,15,16,17,18])]
 [un (.bin 23 .neq (.t 18) (.t 22))])
 (.drop [12,13,14,15,16,17,18,19,20,21,22] (.cond (.t 23) (.seq (.reg [un (.asg 4 (.c (.bool false)))])
 .ret)
 .skip))))
 (.drop [12,13,14,15,16,17,18,19,20,21,22,23] (.reg [un (.mov 10 (.t 5)),
 un (.bin 11 .add (.t 10) (.c (.int .i64 1))),
 un (.asg 5 (.t 11))])))))
def Ai5:ACode:=
 (.seq (.reg [un (.asg 4 (.c (.bool false)))])
 (.seq (.seq (.reg [un (.asg 5 (.c (.int .i64 0)))])
 (.block 0 (.loop Sy)))
 (.drop [5,6,7,8,9,12,13,14,15,16,17,18,19,20,21,22,23,10,11] (.seq (.reg [un (.asg 4 (.c (.bool true)))])
 .ret))))
abbrev Ajp:List RS:=[.t 4]
theorem Aiy:Ay Tryz.prog Ha 24 Ai5 Ajp=true:=by kernel_rfl
def Ur:ACode:=
 (.seq (.seq (.reg [un (.mov 11 (.t 5)),
 un (.mov 12 (.t 0)),
 un (.len 13 (.t 12)),
 un (.bin 14 .lss (.t 11) (.t 13))])
 (.drop [11,12,13] (.cond (.t 14) .skip
 (.exit 0))))
 (.drop [11,12,13,14] (.seq (.block 1 (.seq (.dreg [(un (.mov 17 (.t 0)),[]),
 (un (.mov 18 (.t 5)),[17]),
 (un (.iad 19 1 (.t 17) (.t 18)),[]),
 (un (.ld 20 1 false (.t 19)),[]),
 (un (.mov 21 (.t 1)),[17,18,19,20]),
 (un (.mov 22 (.t 5)),[17,18,19,20,21]),
 (un (.iad 23 1 (.t 21) (.t 22)),[17,18,19,20]),
 (un (.ld 24 1 false (.t 23)),[17,18,19,20])]
 [un (.bin 25 .neq (.t 20) (.t 24))])
 (.drop [17,18,19,20,21,22,23,24] (.cond (.t 25) (.seq (.reg [un (.asg 4 (.c (.bool false)))])
 .ret)
 .skip))))
 (.drop [17,18,19,20,21,22,23,24,25] (.reg [un (.mov 15 (.t 5)),
 un (.bin 16 .add (.t 15) (.c (.int .i64 1))),
 un (.asg 5 (.t 16))])))))
def Al7:ACode:=
 (.seq (.reg [un (.asg 4 (.c (.bool false)))])
 (.seq (.seq (.reg [un (.mov 6 (.t 0)),
 un (.len 7 (.t 6)),
 un (.mov 8 (.t 1)),
 un (.len 9 (.t 8)),
 un (.bin 10 .neq (.t 7) (.t 9))])
 (.drop [6,7,8,9] (.cond (.t 10) (.seq (.reg [un (.asg 4 (.c (.bool false)))])
 .ret)
 .skip)))
 (.drop [6,7,8,9,10] (.seq (.seq (.reg [un (.asg 5 (.c (.int .i64 0)))])
 (.block 0 (.loop Ur)))
 (.drop [5,11,12,13,14,17,18,19,20,21,22,23,24,25,15,16] (.seq (.reg [un (.asg 4 (.c (.bool true)))])
 .ret))))))
abbrev Ak1:List RS:=[.t 4]
theorem Alo:Ay Tryz.prog H4 26 Al7 Ak1=true:=by kernel_rfl
def Asf:ACode:=
 (.seq (.reg [un (.asg 6 (.c (.bool false)))])
 (.seq (.reg [un (.mov 7 (.t 0)),
 un (.mov 8 (.t 1)),
 un (.bin 9 .geq (.t 7) (.t 8)),
 un (.asg 10 (.t 9)),
 ⟨some (10,true),.mov 11 (.t 0)⟩,
 ⟨some (10,true),.mov 12 (.t 2)⟩,
 ⟨some (10,true),.bin 13 .leq (.t 11) (.t 12)⟩,
 un (.pick 14 (.t 10) (.t 13) (.c (.bool false))),
 un (.asg 6 (.t 14))])
 (.drop [7,8,9,10,11,12,13,14] .ret)))
abbrev Aq7:List RS:=[.t 6]
theorem Arg:Ay Tryz.prog Oa 15 Asf Aq7=true:=by kernel_rfl
def Uf:ACode:=
 (.seq (.reg [un (.bin 10 .lss (.t 9) (.t 8))])
 (.seq (.cond (.t 10) .skip
 (.exit 0))
 (.seq (.block 1 (.seq (.reg [un (.iad 11 1 (.t 7) (.t 9)),
 un (.ld 12 1 false (.t 11)),
 un (.asg 6 (.t 12))])
 (.drop [11,12] (.seq (.reg [un (.mov 13 (.t 6)),
 un (.bin 14 .lss (.t 13) (.c (.int .i64 0))),
 un (.asg 15 (.t 14)),
 ⟨some (15,false),.mov 16 (.t 6)⟩,
 ⟨some (15,false),.mov 17 (.t 1)⟩,
 ⟨some (15,false),.bin 18 .geq (.t 16) (.t 17)⟩,
 un (.pick 19 (.t 15) (.c (.bool true)) (.t 18))])
 (.drop [13,14,15,16,17,18] (.cond (.t 19) (.seq (.reg [un (.asg 4 (.c (.bool false)))])
 .ret)
 .skip))))))
 (.drop [11,12,6,13,14,15,16,17,18,19] (.reg [un (.bin 20 .add (.t 9) (.c (.int .i64 1))),
 un (.asg 9 (.t 20))])))))
def Alf:ACode:=
 (.seq (.reg [un (.asg 4 (.c (.bool false)))])
 (.seq (.seq (.reg [un (.mov 7 (.t 0)),
 un (.len 8 (.t 7)),
 un (.mov 9 (.c (.int .i64 0)))])
 (.block 0 (.loop Uf)))
 (.drop [7,8,9,10,11,12,6,13,14,15,16,17,18,19,20] (.seq (.reg [un (.asg 4 (.c (.bool true)))])
 .ret))))
abbrev Al0:List RS:=[.t 4]
theorem Alm:Ay Tryz.prog Tj 21 Alf Al0=true:=by kernel_rfl
def Ws:ACode:=
 (.seq (.seq (.reg [un (.mov 6 (.t 1)),
 un (.bin 7 .gtr (.t 6) (.c (.int .i64 0)))])
 (.drop [6] (.cond (.t 7) .skip
 (.exit 0))))
 (.drop [6,7] (.seq (.block 1 (.reg [un (.mov 10 (.t 5)),
 un (.mov 11 (.t 0)),
 un (.bin 12 .mul (.t 10) (.t 11)),
 un (.asg 5 (.t 12))]))
 (.drop [10,11,12] (.reg [un (.mov 8 (.t 1)),
 un (.bin 9 .sub (.t 8) (.c (.int .i64 1))),
 un (.asg 1 (.t 9))])))))
def Aor:ACode:=
 (.seq (.reg [un (.asg 4 (.c (.int .i64 0)))])
 (.seq (.reg [un (.asg 5 (.c (.int .i64 1)))])
 (.seq (.block 0 (.loop Ws))
 (.drop [6,7,10,11,12,8,9] (.seq (.reg [un (.mov 13 (.t 5)),
 un (.asg 4 (.t 13))])
 (.drop [13] .ret))))))
abbrev Apc:List RS:=[.t 4]
theorem Ap4:Ay Tryz.prog Ph 14 Aor Apc=true:=by kernel_rfl
def Nz:ACode:=
 (.seq (.reg [un (.bin 10 .lss (.t 9) (.t 8))])
 (.seq (.cond (.t 10) .skip
 (.exit 0))
 (.seq (.block 1 (.seq (.reg [un (.mov 11 (.t 9)),
 un (.asg 4 (.t 11))])
 (.drop [11] (.reg [un (.mov 12 (.t 3)),
 un (.mov 13 (.t 4)),
 un (.mov 14 (.t 4)),
 un (.iad 15 1 (.t 12) (.t 13)),
 un (.st 1 (.t 15) (.t 14))]))))
 (.drop [11,4,12,13,14,15] (.reg [un (.bin 16 .add (.t 9) (.c (.int .i64 1))),
 un (.asg 9 (.t 16))])))))
def Ab6:ACode:=
 (.seq (.reg [un (.asg 2 (.c (.nilsl 1)))])
 (.seq (.reg [un (.mov 5 (.t 0)),
 un (.mk 6 1 (.int .i64 0) (.t 5)),
 un (.asg 3 (.t 6))])
 (.drop [5,6] (.seq (.seq (.reg [un (.mov 7 (.t 3)),
 un (.len 8 (.t 7)),
 un (.mov 9 (.c (.int .i64 0)))])
 (.drop [7] (.block 0 (.loop Nz))))
 (.drop [7,8,9,10,11,4,12,13,14,15,16] (.seq (.reg [un (.mov 17 (.t 3)),
 un (.asg 2 (.t 17))])
 (.drop [17] .ret)))))))
abbrev Adg:List RS:=[.t 2]
theorem Acn:Ay Tryz.prog Ik 18 Ab6 Adg=true:=by kernel_rfl
def Ty:ACode:=
 (.seq (.seq (.reg [un (.mov 13 (.t 8)),
 un (.bin 14 .geq (.t 13) (.c (.int .i64 0)))])
 (.drop [13] (.cond (.t 14) .skip
 (.exit 0))))
 (.drop [13,14] (.seq (.block 1 (.seq (.reg [un (.mov 17 (.t 7)),
 un (.mov 18 (.t 8)),
 un (.mov 19 (.t 2)),
 un (.mov 20 (.t 0)),
 un (.bin 21 .rem (.t 19) (.t 20)),
 un (.iad 22 1 (.t 17) (.t 18)),
 un (.st 1 (.t 22) (.t 21))])
 (.drop [17,18,19,20,21,22] (.reg [un (.mov 23 (.t 2)),
 un (.mov 24 (.t 0)),
 un (.bin 25 .quo (.t 23) (.t 24)),
 un (.asg 2 (.t 25))]))))
 (.drop [17,18,19,20,21,22,23,24,25] (.reg [un (.mov 15 (.t 8)),
 un (.bin 16 .sub (.t 15) (.c (.int .i64 1))),
 un (.asg 8 (.t 16))])))))
def Alu:ACode:=
 (.seq (.reg [un (.asg 6 (.c (.nilsl 1)))])
 (.seq (.reg [un (.mov 9 (.t 1)),
 un (.mk 10 1 (.int .i64 0) (.t 9)),
 un (.asg 7 (.t 10))])
 (.drop [9,10] (.seq (.seq (.reg [un (.mov 11 (.t 1)),
 un (.bin 12 .sub (.t 11) (.c (.int .i64 1))),
 un (.asg 8 (.t 12))])
 (.drop [11,12] (.block 0 (.loop Ty))))
 (.drop [11,12,8,13,14,17,18,19,20,21,22,23,24,25,15,16] (.seq (.reg [un (.mov 26 (.t 7)),
 un (.asg 6 (.t 26))])
 (.drop [26] .ret)))))))
abbrev Ak5:List RS:=[.t 6]
theorem Alj:Ay Tryz.prog Tf 27 Alu Ak5=true:=by kernel_rfl
def Ape:ACode:=
 (.seq (.reg [un (.asg 2 (.c (.nilsl 1)))])
 (.seq (.reg [un (.bsl 3 1 []),
 un (.mov 4 (.t 0)),
 un (.app 5 1 (.t 3) (.t 4)),
 un (.asg 2 (.t 5))])
 (.drop [3,4,5] .ret)))
abbrev Aos:List RS:=[.t 2]
theorem Ao2:Ay Tryz.prog Lw 6 Ape Aos=true:=by kernel_rfl
def Vh:ACode:=
 (.seq (.reg [un (.mov 6 (.t 5)),
 un (.mov 7 (.t 0)),
 un (.len 8 (.t 7)),
 un (.bin 9 .lss (.t 6) (.t 8)),
 un (.asg 10 (.t 9)),
 ⟨some (10,true),.mov 11 (.t 5)⟩,
 ⟨some (10,true),.mov 12 (.t 1)⟩,
 ⟨some (10,true),.len 13 (.t 12)⟩,
 ⟨some (10,true),.bin 14 .lss (.t 11) (.t 13)⟩,
 un (.pick 15 (.t 10) (.t 14) (.c (.bool false)))])
 (.drop [6,7,8,9,10,11,12,13,14] (.cond (.t 15) .skip
 (.exit 0))))
def Lz:ACode:=
 (.seq (.cut Vh)
 (.drop [6,7,8,9,10,11,12,13,14,15] (.seq (.block 1 (.seq (.dreg [(un (.mov 18 (.t 0)),[]),
 (un (.mov 19 (.t 5)),[18]),
 (un (.iad 20 1 (.t 18) (.t 19)),[]),
 (un (.ld 21 1 false (.t 20)),[]),
 (un (.mov 22 (.t 1)),[18,19,20,21]),
 (un (.mov 23 (.t 5)),[18,19,20,21,22]),
 (un (.iad 24 1 (.t 22) (.t 23)),[18,19,20,21]),
 (un (.ld 25 1 false (.t 24)),[18,19,20,21])]
 [un (.bin 26 .neq (.t 21) (.t 25))])
 (.drop [18,19,20,21,22,23,24,25] (.cond (.t 26) (.seq (.seq (.dreg [(un (.mov 27 (.t 0)),[]),
 (un (.mov 28 (.t 5)),[27]),
 (un (.iad 29 1 (.t 27) (.t 28)),[]),
 (un (.ld 30 1 false (.t 29)),[]),
 (un (.mov 31 (.t 1)),[27,28,29,30]),
 (un (.mov 32 (.t 5)),[27,28,29,30,31]),
 (un (.iad 33 1 (.t 31) (.t 32)),[27,28,29,30]),
 (un (.ld 34 1 false (.t 33)),[27,28,29,30])]
 [un (.bin 35 .lss (.t 30) (.t 34))])
 (.drop [27,28,29,30,31,32,33,34] (.cond (.t 35) (.seq (.reg [un (.asg 4 (.c (.int .i64 (-1))))])
 .ret)
 .skip)))
 (.drop [27,28,29,30,31,32,33,34,35] (.seq (.reg [un (.asg 4 (.c (.int .i64 1)))])
 .ret)))
 .skip))))
 (.drop [18,19,20,21,22,23,24,25,26,27,28,29,30,31,32,33,34,35] (.reg [un (.mov 16 (.t 5)),
 un (.bin 17 .add (.t 16) (.c (.int .i64 1))),
 un (.asg 5 (.t 17))])))))
def Zx:ACode:=
 (.seq (.reg [un (.asg 4 (.c (.int .i64 0)))])
 (.seq (.seq (.reg [un (.asg 5 (.c (.int .i64 0)))])
 (.block 0 (.loop Lz)))
 (.drop [5,6,7,8,9,10,11,12,13,14,15,18,19,20,21,22,23,24,25,26,27,28,29,30,31,32,33,34,35,16,17] (.seq (.block 2 (.seq (.reg [un (.mov 37 (.t 0)),
 un (.len 38 (.t 37)),
 un (.mov 39 (.t 1)),
 un (.len 40 (.t 39)),
 un (.bin 41 .lss (.t 38) (.t 40)),
 un (.asg 36 (.t 41))])
 (.drop [37,38,39,40,41] (.cond (.t 36) (.seq (.reg [un (.asg 4 (.c (.int .i64 (-1))))])
 .ret)
 (.seq (.reg [un (.mov 43 (.t 0)),
 un (.len 44 (.t 43)),
 un (.mov 45 (.t 1)),
 un (.len 46 (.t 45)),
 un (.bin 47 .gtr (.t 44) (.t 46)),
 un (.asg 42 (.t 47))])
 (.drop [43,44,45,46,47] (.cond (.t 42) (.seq (.reg [un (.asg 4 (.c (.int .i64 1)))])
 .ret)
 .skip)))))))
 (.drop [37,38,39,40,41,36,43,44,45,46,47,42] (.seq (.reg [un (.asg 4 (.c (.int .i64 0)))])
 .ret))))))
abbrev Zz:List RS:=[.t 4]
theorem Zs:Ay Tryz.prog Jm 48 Zx Zz=true:=by kernel_rfl
def Qw:ACode:=
 (.seq (.seq (.reg [un (.mov 6 (.t 4)),
 un (.mov 7 (.t 0)),
 un (.slen 8 (.t 7)),
 un (.bin 9 .lss (.t 6) (.t 8))])
 (.drop [6,7,8] (.cond (.t 9) .skip
 (.exit 0))))
 (.drop [6,7,8,9] (.seq (.block 1 (.dreg [(un (.fadr 12 1 (.t 3)),[18]),
 (un (.ld 13 1 false (.t 12)),[18]),
 (un (.mov 14 (.t 0)),[12,13]),
 (un (.mov 15 (.t 4)),[12,13,14]),
 (un (.sidx 16 (.t 14) (.t 15)),[12,13]),
 (un (.bin 17 .sub (.t 16) (.c (.int .u8 48))),[12,13]),
 (un (.cnv 18 .i64 (.t 17)),[12,13]),
 (un (.bsl 19 1 [(.t 18)]),[12,13])]
 [un (.app 20 1 (.t 13) (.t 19)),
 un (.fadr 21 1 (.t 3)),
 un (.st 1 (.t 21) (.t 20))]))
 (.drop [12,13,14,15,16,17,18,19,20,21] (.reg [un (.mov 10 (.t 4)),
 un (.bin 11 .add (.t 10) (.c (.int .i64 1))),
 un (.asg 4 (.t 11))])))))
def Ahe:ACode:=
 (.seq (.reg [un (.alc 2 (.agg [.int .i64 0,.nilsl 1]))])
 (.seq (.reg [un (.bld 5 [.int .i64 0,.nilsl 1] [(0,1,(.c (.int .i64 2)))]),
 un (.alc 3 (.agg [.int .i64 0,.nilsl 1])),
 un (.st 2 (.t 3) (.t 5))])
 (.drop [5] (.seq (.seq (.reg [un (.asg 4 (.c (.int .i64 0)))])
 (.block 0 (.loop Qw)))
 (.drop [4,6,7,8,9,12,13,14,15,16,17,18,19,20,21,10,11] (.seq (.reg [un (.ld 22 2 true (.t 3)),
 un (.st 2 (.t 2) (.t 22))])
 (.drop [22] .ret)))))))
abbrev Age:List RS:=[.c 2 2 true]
theorem Ahn:Ay Tryz.prog Bf 23 Ahe Age=true:=by kernel_rfl
def P5:ACode:=
 (.seq (.seq (.reg [un (.mov 6 (.t 4)),
 un (.mov 7 (.t 0)),
 un (.mov 8 (.t 0)),
 un (.bin 9 .mul (.t 7) (.t 8)),
 un (.mov 10 (.t 0)),
 un (.bin 11 .mul (.t 9) (.t 10)),
 un (.bin 12 .lss (.t 6) (.t 11))])
 (.drop [6,7,8,9,10,11] (.cond (.t 12) .skip
 (.exit 0))))
 (.drop [6,7,8,9,10,11,12] (.seq (.block 1 (.dreg [(un (.fadr 15 1 (.t 3)),[35]),
 (un (.ld 16 1 false (.t 15)),[35]),
 (un (.mov 17 (.t 4)),[15,16]),
 (un (.mov 18 (.t 0)),[15,16,17]),
 (un (.mov 19 (.t 0)),[15,16,17,18]),
 (un (.bin 20 .mul (.t 18) (.t 19)),[15,16,17]),
 (un (.bin 21 .quo (.t 17) (.t 20)),[15,16]),
 (un (.mov 22 (.t 0)),[15,16,17,18,19,20,21]),
 (un (.bin 23 .add (.t 21) (.t 22)),[15,16]),
 (un (.mov 24 (.t 4)),[15,16,17,18,19,20,21,22,23]),
 (un (.mov 25 (.t 0)),[15,16,17,18,19,20,21,22,23,24]),
 (un (.bin 26 .quo (.t 24) (.t 25)),[15,16,17,18,19,20,21,22,23]),
 (un (.mov 27 (.t 0)),[15,16,17,18,19,20,21,22,23,24,25,26]),
 (un (.bin 28 .rem (.t 26) (.t 27)),[15,16,17,18,19,20,21,22,23]),
 (un (.bin 29 .sub (.t 23) (.t 28)),[15,16]),
 (un (.mov 30 (.t 4)),[15,16,17,18,19,20,21,22,23,24,25,26,27,28,29]),
 (un (.mov 31 (.t 0)),[15,16,17,18,19,20,21,22,23,24,25,26,27,28,29,30]),
 (un (.bin 32 .rem (.t 30) (.t 31)),[15,16,17,18,19,20,21,22,23,24,25,26,27,28,29]),
 (un (.bin 33 .add (.t 29) (.t 32)),[15,16]),
 (un (.mov 34 (.t 0)),[15,16,17,18,19,20,21,22,23,24,25,26,27,28,29,30,31,32,33]),
 (un (.bin 35 .rem (.t 33) (.t 34)),[15,16]),
 (un (.bsl 36 1 [(.t 35)]),[15,16])]
 [un (.app 37 1 (.t 16) (.t 36)),
 un (.fadr 38 1 (.t 3)),
 un (.st 1 (.t 38) (.t 37))]))
 (.drop [15,16,17,18,19,20,21,22,23,24,25,26,27,28,29,30,31,32,33,34,35,36,37,38] (.reg [un (.mov 13 (.t 4)),
 un (.bin 14 .add (.t 13) (.c (.int .i64 1))),
 un (.asg 4 (.t 14))])))))
def Agr:ACode:=
 (.seq (.reg [un (.alc 2 (.agg [.int .i64 0,.nilsl 1]))])
 (.seq (.reg [un (.bld 5 [.int .i64 0,.nilsl 1] [(0,1,(.c (.int .i64 3)))]),
 un (.alc 3 (.agg [.int .i64 0,.nilsl 1])),
 un (.st 2 (.t 3) (.t 5))])
 (.drop [5] (.seq (.seq (.reg [un (.asg 4 (.c (.int .i64 0)))])
 (.block 0 (.loop P5)))
 (.drop [4,6,7,8,9,10,11,12,15,16,17,18,19,20,21,22,23,24,25,26,27,28,29,30,31,32,33,34,35,36,37,38,13,14] (.seq (.reg [un (.ld 39 2 true (.t 3)),
 un (.st 2 (.t 2) (.t 39))])
 (.drop [39] .ret)))))))
abbrev Agh:List RS:=[.c 2 2 true]
theorem Agm:Ay Tryz.prog Ko 40 Agr Agh=true:=by kernel_rfl
def Ahg:ACode:=
 (.seq (.reg [un (.mov 19 (.t 1)),
 un (.mov 20 (.t 2)),
 un (.bin 21 .gtr (.t 19) (.t 20))])
 (.drop [19,20] (.cond (.t 21) (.reg [un (.mov 22 (.t 2)),
 un (.mov 23 (.t 1)),
 un (.asg 1 (.t 22)),
 un (.asg 2 (.t 23))])
 .skip)))
def Wt:ACode:=
 (.seq (.reg [un (.bin 27 .lss (.t 26) (.t 25))])
 (.seq (.cond (.t 27) .skip
 (.exit 0))
 (.seq (.block 1 (.seq (.reg [un (.mov 28 (.t 26)),
 un (.asg 7 (.t 28))])
 (.drop [28] (.seq (.reg [un (.mov 29 (.t 0)),
 un (.mov 30 (.t 7)),
 un (.iad 31 1 (.t 29) (.t 30)),
 un (.ld 32 1 false (.t 31)),
 un (.mov 33 (.t 2)),
 un (.bin 34 .eql (.t 32) (.t 33))])
 (.drop [29,30,31,32,33] (.cond (.t 34) (.reg [un (.mov 35 (.t 0)),
 un (.mov 36 (.t 7)),
 un (.mov 37 (.t 1)),
 un (.iad 38 1 (.t 35) (.t 36)),
 un (.st 1 (.t 38) (.t 37))])
 .skip))))))
 (.drop [28,7,29,30,31,32,33,34,35,36,37,38] (.reg [un (.bin 39 .add (.t 26) (.c (.int .i64 1))),
 un (.asg 26 (.t 39))])))))
def Aod:ACode:=
 (.seq (.reg [un (.asg 6 (.c (.bool false)))])
 (.seq (.dregp 2 [1] [(un (.mov 8 (.t 0)),[]),
 (un (.mov 9 (.t 1)),[8]),
 (un (.iad 10 1 (.t 8) (.t 9)),[]),
 (un (.ld 11 1 false (.t 10)),[]),
 (un (.mov 12 (.t 0)),[8,9,10,11,11]),
 (un (.mov 13 (.t 2)),[8,9,10,11,12,11]),
 (un (.iad 14 1 (.t 12) (.t 13)),[8,9,10,11,11]),
 (un (.ld 15 1 false (.t 14)),[8,9,10,11,11]),
 (un (.asg 1 (.t 11)),[12,13,14,15])]
 [un (.asg 2 (.t 15))])
 (.drop [8,9,10,11,12,13,14,15] (.seq (.seq (.reg [un (.mov 16 (.t 1)),
 un (.mov 17 (.t 2)),
 un (.bin 18 .eql (.t 16) (.t 17))])
 (.drop [16,17] (.cond (.t 18) (.seq (.reg [un (.asg 6 (.c (.bool false)))])
 .ret)
 .skip)))
 (.drop [16,17,18] (.seq (.cut Ahg)
 (.drop [19,20,21,22,23] (.seq (.seq (.reg [un (.mov 24 (.t 0)),
 un (.len 25 (.t 24)),
 un (.mov 26 (.c (.int .i64 0)))])
 (.drop [24] (.block 0 (.loop Wt))))
 (.drop [24,25,26,27,28,7,29,30,31,32,33,34,35,36,37,38,39] (.seq (.reg [un (.asg 6 (.c (.bool true)))])
 .ret))))))))))
abbrev Aok:List RS:=[.t 6]
theorem An9:Ay Tryz.prog L4 40 Aod Aok=true:=by kernel_rfl
def Acg:ACode:=
 (.seq (.reg [un (.asg 6 (.c (.bool false)))])
 (.seq (.dreg [(un (.ld 7 1 false (.t 2)),[]),
 (un (.ld 8 1 false (.t 3)),[7]),
 (un (.mov 9 (.t 0)),[7,8]),
 (un (.iad 10 1 (.t 8) (.t 9)),[7]),
 (un (.ld 11 1 false (.t 10)),[7]),
 (un (.ld 12 1 false (.t 3)),[7,8,9,10,11]),
 (un (.mov 13 (.t 1)),[7,8,9,10,11,12]),
 (un (.iad 14 1 (.t 12) (.t 13)),[7,8,9,10,11]),
 (un (.ld 15 1 false (.t 14)),[7,8,9,10,11])]
 [un (.cally 16 (.t 7) [(.t 11),(.t 15)] []),
 un (.bin 17 .lss (.t 16) (.c (.int .i64 0))),
 un (.asg 6 (.t 17))])
 (.drop [7,8,9,10,11,12,13,14,15,16,17] .ret)))
abbrev Ab9:List RS:=[.t 6]
theorem Ac0:Ay Tryz.prog Sn 18 Acg Ab9=true:=by kernel_rfl
def Nr:ACode:=
 (.seq (.reg [un (.bin 9 .lss (.t 8) (.t 7))])
 (.seq (.cond (.t 9) .skip
 (.exit 0))
 (.seq (.block 1 (.seq (.reg [un (.mov 10 (.t 8)),
 un (.iad 11 1 (.t 6) (.t 8)),
 un (.ld 12 1 false (.t 11)),
 un (.asg 4 (.t 10)),
 un (.asg 5 (.t 12))])
 (.drop [10,11,12] (.seq (.reg [un (.mov 13 (.t 5)),
 un (.mov 14 (.t 4)),
 un (.bin 15 .eql (.t 13) (.t 14))])
 (.drop [13,14] (.cond (.t 15) (.reg [un (.mov 16 (.t 3)),
 un (.bin 17 .add (.t 16) (.c (.int .i64 1))),
 un (.asg 3 (.t 17))])
 .skip))))))
 (.drop [10,11,12,4,5,13,14,15,16,17] (.reg [un (.bin 18 .add (.t 8) (.c (.int .i64 1))),
 un (.asg 8 (.t 18))])))))
def Acw:ACode:=
 (.seq (.reg [un (.asg 2 (.c (.int .i64 0)))])
 (.seq (.reg [un (.asg 3 (.c (.int .i64 0)))])
 (.seq (.seq (.reg [un (.mov 6 (.t 0)),
 un (.len 7 (.t 6)),
 un (.mov 8 (.c (.int .i64 0)))])
 (.block 0 (.loop Nr)))
 (.drop [6,7,8,9,10,11,12,4,5,13,14,15,16,17,18] (.seq (.reg [un (.mov 19 (.t 3)),
 un (.asg 2 (.t 19))])
 (.drop [19] .ret))))))
abbrev Adq:List RS:=[.t 2]
theorem Adr:Ay Tryz.prog Il 20 Acw Adq=true:=by kernel_rfl
def Sx:ACode:=
 (.seq (.seq (.reg [un (.mov 5 (.t 4)),
 un (.mov 6 (.t 0)),
 un (.len 7 (.t 6)),
 un (.bin 8 .lss (.t 5) (.t 7))])
 (.drop [5,6,7] (.cond (.t 8) .skip
 (.exit 0))))
 (.drop [5,6,7,8] (.seq (.block 1 (.seq (.reg [un (.mov 11 (.t 0)),
 un (.mov 12 (.t 4)),
 un (.iad 13 1 (.t 11) (.t 12)),
 un (.ld 14 1 false (.t 13)),
 un (.mov 15 (.t 4)),
 un (.bin 16 .eql (.t 14) (.t 15))])
 (.drop [11,12,13,14,15] (.cond (.t 16) (.reg [un (.mov 17 (.t 3)),
 un (.bin 18 .add (.t 17) (.c (.int .i64 1))),
 un (.asg 3 (.t 18))])
 .skip))))
 (.drop [11,12,13,14,15,16,17,18] (.reg [un (.mov 9 (.t 4)),
 un (.bin 10 .add (.t 9) (.c (.int .i64 1))),
 un (.asg 4 (.t 10))])))))
def Aiw:ACode:=
 (.seq (.reg [un (.asg 2 (.c (.int .i64 0)))])
 (.seq (.reg [un (.asg 3 (.c (.int .i64 0)))])
 (.seq (.seq (.reg [un (.asg 4 (.c (.int .i64 0)))])
 (.block 0 (.loop Sx)))
 (.drop [4,5,6,7,8,11,12,13,14,15,16,17,18,9,10] (.seq (.reg [un (.mov 19 (.t 3)),
 un (.asg 2 (.t 19))])
 (.drop [19] .ret))))))
abbrev Ako:List RS:=[.t 2]
theorem Akf:Ay Tryz.prog Hi 20 Aiw Ako=true:=by kernel_rfl
def Vd:ACode:=
 (.seq (.seq (.reg [un (.mov 6 (.t 5)),
 un (.mov 7 (.t 0)),
 un (.len 8 (.t 7)),
 un (.bin 9 .lss (.t 6) (.t 8))])
 (.drop [6,7,8] (.cond (.t 9) .skip
 (.exit 0))))
 (.drop [6,7,8,9] (.seq (.block 1 (.seq (.dreg [(un (.mov 12 (.t 0)),[]),
 (un (.mov 13 (.t 5)),[12]),
 (un (.iad 14 1 (.t 12) (.t 13)),[]),
 (un (.ld 15 1 false (.t 14)),[]),
 (un (.mov 16 (.t 1)),[12,13,14,15]),
 (un (.mov 17 (.t 5)),[12,13,14,15,16]),
 (un (.iad 18 1 (.t 16) (.t 17)),[12,13,14,15]),
 (un (.ld 19 1 false (.t 18)),[12,13,14,15])]
 [un (.bin 20 .neq (.t 15) (.t 19))])
 (.drop [12,13,14,15,16,17,18,19] (.cond (.t 20) (.seq (.dreg [(un (.mov 21 (.t 0)),[]),
 (un (.mov 22 (.t 5)),[21]),
 (un (.iad 23 1 (.t 21) (.t 22)),[]),
 (un (.ld 24 1 false (.t 23)),[]),
 (un (.mov 25 (.t 1)),[21,22,23,24]),
 (un (.mov 26 (.t 5)),[21,22,23,24,25]),
 (un (.iad 27 1 (.t 25) (.t 26)),[21,22,23,24]),
 (un (.ld 28 1 false (.t 27)),[21,22,23,24])]
 [un (.bin 29 .lss (.t 24) (.t 28)),
 un (.asg 4 (.t 29))])
 (.drop [21,22,23,24,25,26,27,28,29] .ret))
 .skip))))
 (.drop [12,13,14,15,16,17,18,19,20,21,22,23,24,25,26,27,28,29] (.reg [un (.mov 10 (.t 5)),
 un (.bin 11 .add (.t 10) (.c (.int .i64 1))),
 un (.asg 5 (.t 11))])))))
def Alb:ACode:=
 (.seq (.reg [un (.asg 4 (.c (.bool false)))])
 (.seq (.seq (.reg [un (.asg 5 (.c (.int .i64 0)))])
 (.block 0 (.loop Vd)))
 (.drop [5,6,7,8,9,12,13,14,15,16,17,18,19,20,21,22,23,24,25,26,27,28,29,10,11] (.seq (.reg [un (.asg 4 (.c (.bool false)))])
 .ret))))
abbrev Ak7:List RS:=[.t 4]
theorem Alw:Ay Tryz.prog Tw 30 Alb Ak7=true:=by kernel_rfl
def Alv:ACode:=
 (.seq (.reg [un (.asg 4 (.c (.int .i64 0)))])
 (.seq (.seq (.reg [un (.mov 5 (.t 0)),
 un (.mov 6 (.t 1)),
 un (.bin 7 .gtr (.t 5) (.t 6))])
 (.drop [5,6] (.cond (.t 7) (.seq (.reg [un (.mov 8 (.t 0)),
 un (.asg 4 (.t 8))])
 (.drop [8] .ret))
 .skip)))
 (.drop [5,6,7,8] (.seq (.reg [un (.mov 9 (.t 1)),
 un (.asg 4 (.t 9))])
 (.drop [9] .ret)))))
abbrev Alq:List RS:=[.t 4]
theorem Amh:Ay Tryz.prog To 10 Alv Alq=true:=by kernel_rfl
def Ai4:ACode:=
 (.seq (.reg [un (.asg 4 (.c (.int .i64 0)))])
 (.seq (.seq (.reg [un (.mov 5 (.t 0)),
 un (.mov 6 (.t 1)),
 un (.bin 7 .lss (.t 5) (.t 6))])
 (.drop [5,6] (.cond (.t 7) (.seq (.reg [un (.mov 8 (.t 0)),
 un (.asg 4 (.t 8))])
 (.drop [8] .ret))
 .skip)))
 (.drop [5,6,7,8] (.seq (.reg [un (.mov 9 (.t 1)),
 un (.asg 4 (.t 9))])
 (.drop [9] .ret)))))
abbrev Ajr:List RS:=[.t 4]
theorem Akb:Ay Tryz.prog Q3 10 Ai4 Ajr=true:=by kernel_rfl
def Sh:ACode:=
 (.seq (.seq (.reg [un (.mov 9 (.t 8)),
 un (.mov 10 (.t 2)),
 un (.len 11 (.t 10)),
 un (.bin 12 .lss (.t 9) (.t 11))])
 (.drop [9,10,11] (.cond (.t 12) .skip
 (.exit 0))))
 (.drop [9,10,11,12] (.seq (.block 1 (.dreg [(un (.mov 15 (.t 7)),[]),
 (un (.fadr 16 0 (.t 3)),[15]),
 (un (.ld 17 1 false (.t 16)),[15]),
 (un (.bin 18 .mul (.t 15) (.t 17)),[]),
 (un (.mov 19 (.t 2)),[15,16,17,18]),
 (un (.mov 20 (.t 8)),[15,16,17,18,19]),
 (un (.iad 21 1 (.t 19) (.t 20)),[15,16,17,18]),
 (un (.ld 22 1 false (.t 21)),[15,16,17,18])]
 [un (.bin 23 .add (.t 18) (.t 22)),
 un (.asg 7 (.t 23))]))
 (.drop [15,16,17,18,19,20,21,22,23] (.reg [un (.mov 13 (.t 8)),
 un (.bin 14 .add (.t 13) (.c (.int .i64 1))),
 un (.asg 8 (.t 14))])))))
def Akk:ACode:=
 (.seq (.reg [un (.box 3 (.t 0)),
 un (.asg 6 (.c (.int .i64 0)))])
 (.seq (.reg [un (.asg 7 (.c (.int .i64 0)))])
 (.seq (.seq (.reg [un (.asg 8 (.c (.int .i64 0)))])
 (.block 0 (.loop Sh)))
 (.drop [8,9,10,11,12,15,16,17,18,19,20,21,22,23,13,14] (.seq (.reg [un (.fadr 24 1 (.t 3)),
 un (.ld 25 1 false (.t 24)),
 un (.mov 26 (.t 1)),
 un (.iad 27 2 (.t 25) (.t 26)),
 un (.fadr 28 1 (.t 27)),
 un (.ld 29 1 false (.t 28)),
 un (.mov 30 (.t 7)),
 un (.iad 31 1 (.t 29) (.t 30)),
 un (.ld 32 1 false (.t 31)),
 un (.asg 6 (.t 32))])
 (.drop [24,25,26,27,28,29,30,31,32] .ret))))))
abbrev Ajs:List RS:=[.t 6]
theorem Akj:Ay Tryz.prog Q4 33 Akk Ajs=true:=by kernel_rfl
def Uc:ACode:=
 (.seq (.seq (.reg [un (.mov 11 (.t 5)),
 un (.mov 12 (.t 0)),
 un (.len 13 (.t 12)),
 un (.bin 14 .lss (.t 11) (.t 13))])
 (.drop [11,12,13] (.cond (.t 14) .skip
 (.exit 0))))
 (.drop [11,12,13,14] (.seq (.block 1 (.seq (.dreg [(un (.mov 17 (.t 0)),[]),
 (un (.mov 18 (.t 5)),[17]),
 (un (.iad 19 1 (.t 17) (.t 18)),[]),
 (un (.ld 20 1 false (.t 19)),[]),
 (un (.mov 21 (.t 1)),[17,18,19,20]),
 (un (.mov 22 (.t 5)),[17,18,19,20,21]),
 (un (.iad 23 1 (.t 21) (.t 22)),[17,18,19,20]),
 (un (.ld 24 1 false (.t 23)),[17,18,19,20])]
 [un (.call 25 L3 [((.t 20),false),((.t 24),false)]),
 un (.un 26 .not (.t 25))])
 (.drop [17,18,19,20,21,22,23,24,25] (.cond (.t 26) (.seq (.reg [un (.asg 4 (.c (.bool false)))])
 .ret)
 .skip))))
 (.drop [17,18,19,20,21,22,23,24,25,26] (.reg [un (.mov 15 (.t 5)),
 un (.bin 16 .add (.t 15) (.c (.int .i64 1))),
 un (.asg 5 (.t 16))])))))
def Als:ACode:=
 (.seq (.reg [un (.asg 4 (.c (.bool false)))])
 (.seq (.seq (.reg [un (.mov 6 (.t 0)),
 un (.len 7 (.t 6)),
 un (.mov 8 (.t 1)),
 un (.len 9 (.t 8)),
 un (.bin 10 .neq (.t 7) (.t 9))])
 (.drop [6,7,8,9] (.cond (.t 10) (.seq (.reg [un (.asg 4 (.c (.bool false)))])
 .ret)
 .skip)))
 (.drop [6,7,8,9,10] (.seq (.seq (.reg [un (.asg 5 (.c (.int .i64 0)))])
 (.block 0 (.loop Uc)))
 (.drop [5,11,12,13,14,17,18,19,20,21,22,23,24,25,26,15,16] (.seq (.reg [un (.asg 4 (.c (.bool true)))])
 .ret))))))
abbrev Alg:List RS:=[.t 4]
theorem Ala:Ay Tryz.prog Nj 27 Als Alg=true:=by kernel_rfl
def Agi:ACode:=
 (.seq (.reg [un (.asg 4 (.c (.nilsl 1))),
 un (.asg 5 (.c (.bool false)))])
 (.seq (.seq (.reg [un (.mov 6 (.t 0)),
 un (.call 7 Ng [((.t 6),false)]),
 un (.un 8 .not (.t 7)),
 un (.asg 9 (.t 8)),
 ⟨some (9,false),.mov 10 (.t 0)⟩,
 ⟨some (9,false),.mov 11 (.t 1)⟩,
 ⟨some (9,false),.call 12 F7 [((.t 10),false),((.t 11),false)]⟩,
 ⟨some (9,false),.un 13 .not (.t 12)⟩,
 un (.pick 14 (.t 9) (.c (.bool true)) (.t 13))])
 (.drop [6,7,8,9,10,11,12,13] (.cond (.t 14) (.seq (.reg [un (.bsl 15 1 []),
 un (.asg 4 (.t 15)),
 un (.asg 5 (.c (.bool false)))])
 (.drop [15] .ret))
 .skip)))
 (.drop [6,7,8,9,10,11,12,13,14,15] (.seq (.reg [un (.mov 16 (.t 1)),
 un (.call 17 On [((.t 16),false)]),
 un (.asg 4 (.t 17)),
 un (.asg 5 (.c (.bool true)))])
 (.drop [16,17] .ret)))))
abbrev Ag5:List RS:=[.t 4,.t 5]
theorem Ag4:Ay Tryz.prog Oi 18 Agi Ag5=true:=by kernel_rfl
def Adi:ACode:=
 (.seq (.reg [un (.asg 4 (.c (.int .i64 0)))])
 (.seq (.seq (.reg [un (.mov 6 (.t 1)),
 un (.bin 7 .leq (.t 6) (.c (.int .i64 1)))])
 (.drop [6] (.cond (.t 7) (.seq (.reg [un (.asg 4 (.c (.int .i64 0)))])
 .ret)
 .skip)))
 (.drop [6,7] (.seq (.reg [un (.mov 8 (.t 0)),
 un (.call 9 Ij [((.t 8),true)]),
 un (.asg 5 (.t 9))])
 (.drop [8,9] (.seq (.seq (.reg [un (.mov 10 (.t 1)),
 un (.bin 11 .gtr (.t 10) (.c (.int .i64 200)))])
 (.drop [10] (.cond (.t 11) (.reg [un (.mov 12 (.t 5)),
 un (.bin 13 .mul (.t 12) (.c (.int .i64 256))),
 un (.mov 14 (.t 0)),
 un (.call 15 Ij [((.t 14),true)]),
 un (.bin 16 .add (.t 13) (.t 15)),
 un (.asg 5 (.t 16))])
 .skip)))
 (.drop [10,11,12,13,14,15,16] (.seq (.reg [un (.mov 17 (.t 5)),
 un (.mov 18 (.t 1)),
 un (.bin 19 .rem (.t 17) (.t 18)),
 un (.asg 4 (.t 19))])
 (.drop [17,18,19] .ret)))))))))
abbrev Acf:List RS:=[.t 4]
theorem Ab2:Ay Tryz.prog B5 20 Adi Acf=true:=by kernel_rfl
def Ny:ACode:=
 (.seq (.reg [un (.bin 19 .lss (.t 18) (.t 17))])
 (.seq (.cond (.t 19) .skip
 (.exit 2))
 (.seq (.block 3 (.seq (.reg [un (.iad 20 1 (.t 16) (.t 18)),
 un (.ld 21 1 false (.t 20)),
 un (.asg 7 (.t 21))])
 (.drop [20,21] (.reg [un (.mov 22 (.t 5)),
 un (.asg 23 (.t 22)),
 ⟨some (23,true),.mov 24 (.t 4)⟩,
 ⟨some (23,true),.mov 25 (.t 7)⟩,
 ⟨some (23,true),.call 26 Jh [((.t 24),false),((.t 25),false)]⟩,
 un (.pick 27 (.t 23) (.t 26) (.c (.bool false))),
 un (.asg 5 (.t 27))]))))
 (.drop [20,21,7,22,23,24,25,26,27] (.reg [un (.bin 28 .add (.t 18) (.c (.int .i64 1))),
 un (.asg 18 (.t 28))])))))
def N7:ACode:=
 (.seq (.reg [un (.bin 12 .lss (.t 11) (.t 10))])
 (.seq (.cond (.t 12) .skip
 (.exit 0))
 (.seq (.block 1 (.seq (.reg [un (.iad 13 1 (.t 9) (.t 11)),
 un (.ld 14 1 false (.t 13)),
 un (.asg 4 (.t 14))])
 (.drop [13,14] (.seq (.reg [un (.asg 5 (.c (.bool true)))])
 (.seq (.seq (.reg [un (.mov 15 (.t 0)),
 un (.slc 16 1 (.t 15) (some (.c (.int .i64 1))) none),
 un (.len 17 (.t 16)),
 un (.mov 18 (.c (.int .i64 0)))])
 (.drop [15] (.block 2 (.loop Ny))))
 (.drop [15,16,17,18,19,20,21,7,22,23,24,25,26,27,28] (.seq (.reg [un (.mov 29 (.t 5))])
 (.cond (.t 29) (.seq (.reg [un (.mov 30 (.t 4)),
 un (.asg 2 (.t 30))])
 (.drop [30] .ret))
 .skip))))))))
 (.drop [13,14,4,5,15,16,17,18,19,20,21,7,22,23,24,25,26,27,28,29,30] (.reg [un (.bin 31 .add (.t 11) (.c (.int .i64 1))),
 un (.asg 11 (.t 31))])))))
def Adb:ACode:=
 (.seq (.reg [un (.asg 2 (.c (.nl 1)))])
 (.seq (.seq (.reg [un (.mov 8 (.t 0)),
 un (.slc 9 1 (.t 8) (some (.c (.int .i64 1))) none),
 un (.len 10 (.t 9)),
 un (.mov 11 (.c (.int .i64 0)))])
 (.drop [8] (.block 0 (.loop N7))))
 (.drop [8,9,10,11,12,13,14,4,5,15,16,17,18,19,20,21,7,22,23,24,25,26,27,28,29,30,31] (.seq (.reg [un (.asg 2 (.c (.nl 1)))])
 .ret))))
abbrev Ac1:List RS:=[.t 2]
theorem Adv:Ay Tryz.prog Ih 32 Adb Ac1=true:=by kernel_rfl
def Sp:ACode:=
 (.seq (.reg [un (.bin 16 .lss (.t 15) (.t 14))])
 (.seq (.cond (.t 16) .skip
 (.exit 0))
 (.seq (.block 1 (.seq (.reg [un (.mov 17 (.t 15)),
 un (.asg 6 (.t 17))])
 (.drop [17] (.reg [un (.ld 18 1 false (.t 5)),
 un (.mov 19 (.t 6)),
 un (.iad 20 1 (.t 18) (.t 19)),
 un (.st 1 (.t 20) (.c (.int .i64 (-1))))]))))
 (.drop [17,6,18,19,20] (.reg [un (.bin 21 .add (.t 15) (.c (.int .i64 1))),
 un (.asg 15 (.t 21))])))))
def S8:ACode:=
 (.seq (.seq (.reg [un (.mov 24 (.t 10)),
 un (.ld 25 1 false (.t 2)),
 un (.bin 26 .lss (.t 24) (.t 25))])
 (.drop [24,25] (.cond (.t 26) .skip
 (.exit 2))))
 (.drop [24,25,26] (.seq (.block 3 (.seq (.reg [un (.ld 29 1 false (.t 2)),
 un (.mk 30 1 (.bool false) (.t 29)),
 un (.st 1 (.t 7) (.t 30))])
 (.drop [29,30] (.seq (.reg [un (.ld 31 1 false (.t 8)),
 un (.mov 32 (.t 10)),
 un (.cally 33 (.t 31) [(.t 32)] [false,true,false,true,false])])
 (.drop [31,32] (.cond (.t 33) (.reg [un (.mov 34 (.t 9)),
 un (.bin 35 .sub (.t 34) (.c (.int .i64 1))),
 un (.asg 9 (.t 35))])
 .skip))))))
 (.drop [29,30,31,32,33,34,35] (.reg [un (.mov 27 (.t 10)),
 un (.bin 28 .add (.t 27) (.c (.int .i64 1))),
 un (.asg 10 (.t 28))])))))
def Akp:ACode:=
 (.seq (.reg [un (.box 2 (.t 0)),
 un (.box 3 (.t 1)),
 un (.asg 4 (.c (.int .i64 0)))])
 (.seq (.reg [un (.ld 11 1 false (.t 2)),
 un (.mk 12 1 (.int .i64 0) (.t 11)),
 un (.alc 5 (.nilsl 1)),
 un (.st 1 (.t 5) (.t 12))])
 (.drop [11,12] (.seq (.seq (.reg [un (.ld 13 1 false (.t 5)),
 un (.len 14 (.t 13)),
 un (.mov 15 (.c (.int .i64 0)))])
 (.drop [13] (.block 0 (.loop Sp))))
 (.drop [13,14,15,16,17,6,18,19,20,21] (.seq (.reg [un (.alc 7 (.nilsl 1))])
 (.seq (.reg [un (.alf 8)])
 (.seq (.reg [un (.mkf 22 Cd [(.t 2),(.t 7),(.t 3),(.t 5),(.t 8)]),
 un (.tie (.t 8) (.t 22))])
 (.drop [22] (.seq (.reg [un (.ld 23 1 false (.t 2)),
 un (.asg 9 (.t 23))])
 (.drop [23] (.seq (.seq (.reg [un (.asg 10 (.c (.int .i64 0)))])
 (.block 2 (.loop S8)))
 (.drop [10,24,25,26,29,30,31,32,33,34,35,27,28] (.seq (.reg [un (.mov 36 (.t 9)),
 un (.asg 4 (.t 36))])
 (.drop [36] .ret)))))))))))))))
abbrev Ajf:List RS:=[.t 4]
theorem Ah2:Ay Tryz.prog Q5 37 Akp Ajf=true:=by kernel_rfl
def Pi:ACode:=
 (.seq (.reg [un (.asg 5 (.c (.bool false)))])
 (.seq (.dreg [(un (.mov 6 (.t 0)),[]),
 (un (.mov 7 (.t 1)),[6]),
 (un (.bin 8 .neq (.t 6) (.t 7)),[]),
 (un (.asg 9 (.t 8)),[]),
 (⟨some (9,true),.ld 10 1 false (.t 2)⟩,[8]),
 (⟨some (9,true),.mov 11 (.t 0)⟩,[10,8]),
 (⟨some (9,true),.iad 12 1 (.t 10) (.t 11)⟩,[8]),
 (⟨some (9,true),.ld 13 1 false (.t 12)⟩,[8]),
 (⟨some (9,true),.ld 14 1 false (.t 2)⟩,[10,11,12,13,8]),
 (⟨some (9,true),.mov 15 (.t 1)⟩,[10,11,12,13,14,8]),
 (⟨some (9,true),.iad 16 1 (.t 14) (.t 15)⟩,[10,11,12,13,8]),
 (⟨some (9,true),.ld 17 1 false (.t 16)⟩,[10,11,12,13,8])]
 [⟨some (9,true),.call 18 Jh [((.t 13),false),((.t 17),false)]⟩,
 un (.pick 19 (.t 9) (.t 18) (.c (.bool false))),
 un (.asg 5 (.t 19))])
 (.drop [6,7,8,9,10,11,12,13,14,15,16,17,18,19] .ret)))
abbrev Pc:List RS:=[.t 5]
theorem Pf:Ay Tryz.prog Dt 20 Pi Pc=true:=by kernel_rfl
def Q7:ACode:=
 (.seq (.reg [un (.bin 22 .lss (.t 21) (.t 20))])
 (.seq (.cond (.t 22) .skip
 (.exit 2))
 (.seq (.block 3 (.seq (.reg [un (.mov 23 (.t 21)),
 un (.iad 24 1 (.t 19) (.t 21)),
 un (.ld 25 1 false (.t 24)),
 un (.asg 9 (.t 23)),
 un (.asg 10 (.t 25))])
 (.drop [23,24,25] (.seq (.reg [un (.mov 26 (.t 9)),
 un (.mov 27 (.t 6)),
 un (.bin 28 .neq (.t 26) (.t 27)),
 un (.asg 29 (.t 28)),
 ⟨some (29,true),.mov 30 (.t 1)⟩,
 ⟨some (29,true),.mov 31 (.t 7)⟩,
 ⟨some (29,true),.mov 32 (.t 10)⟩,
 ⟨some (29,true),.cally 33 (.t 30) [(.t 31),(.t 32)] []⟩,
 un (.pick 34 (.t 29) (.t 33) (.c (.bool false)))])
 (.drop [26,27,28,29,30,31,32,33] (.cond (.t 34) (.reg [un (.asg 8 (.c (.bool false)))])
 .skip))))))
 (.drop [23,24,25,9,10,26,27,28,29,30,31,32,33,34] (.reg [un (.bin 35 .add (.t 21) (.c (.int .i64 1))),
 un (.asg 21 (.t 35))])))))
def Qd:ACode:=
 (.seq (.reg [un (.bin 15 .lss (.t 14) (.t 13))])
 (.seq (.cond (.t 15) .skip
 (.exit 0))
 (.seq (.block 1 (.seq (.reg [un (.mov 16 (.t 14)),
 un (.iad 17 1 (.t 12) (.t 14)),
 un (.ld 18 1 false (.t 17)),
 un (.asg 6 (.t 16)),
 un (.asg 7 (.t 18))])
 (.drop [16,17,18] (.seq (.reg [un (.asg 8 (.c (.bool true)))])
 (.seq (.seq (.reg [un (.mov 19 (.t 0)),
 un (.len 20 (.t 19)),
 un (.mov 21 (.c (.int .i64 0)))])
 (.block 2 (.loop Q7)))
 (.drop [19,20,21,22,23,24,25,9,10,26,27,28,29,30,31,32,33,34,35] (.seq (.reg [un (.mov 36 (.t 8))])
 (.cond (.t 36) (.reg [un (.mov 37 (.t 5)),
 un (.mov 38 (.t 7)),
 un (.call 39 Pv [((.t 38),false)]),
 un (.bsl 40 1 [(.t 39)]),
 un (.app 41 1 (.t 37) (.t 40)),
 un (.asg 5 (.t 41))])
 .skip))))))))
 (.drop [16,17,18,6,7,8,19,20,21,22,23,24,25,9,10,26,27,28,29,30,31,32,33,34,35,36,37,38,39,40,41] (.reg [un (.bin 42 .add (.t 14) (.c (.int .i64 1))),
 un (.asg 14 (.t 42))])))))
def Aht:ACode:=
 (.seq (.reg [un (.asg 4 (.c (.nilsl 1)))])
 (.seq (.reg [un (.bsl 11 1 []),
 un (.asg 5 (.t 11))])
 (.drop [11] (.seq (.seq (.reg [un (.mov 12 (.t 0)),
 un (.len 13 (.t 12)),
 un (.mov 14 (.c (.int .i64 0)))])
 (.block 0 (.loop Qd)))
 (.drop [12,13,14,15,16,17,18,6,7,8,19,20,21,22,23,24,25,9,10,26,27,28,29,30,31,32,33,34,35,36,37,38,39,40,41,42] (.seq (.reg [un (.mov 43 (.t 5)),
 un (.asg 4 (.t 43))])
 (.drop [43] .ret)))))))
abbrev Agw:List RS:=[.t 4]
theorem Ago:Ay Tryz.prog Od 44 Aht Agw=true:=by kernel_rfl
def Pr:ACode:=
 (.seq (.reg [un (.asg 4 (.c (.bool false)))])
 (.seq (.reg [un (.mov 5 (.t 1)),
 un (.mov 6 (.t 0)),
 un (.call 7 Jh [((.t 5),false),((.t 6),false)]),
 un (.asg 4 (.t 7))])
 (.drop [5,6,7] .ret)))
abbrev Pt:List RS:=[.t 4]
theorem Pl:Ay Tryz.prog Du 8 Pr Pt=true:=by kernel_rfl
def Aa5:ACode:=
 (.reg [un (.mov 16 (.t 1)),
 un (.mov 17 (.t 0)),
 un (.mov 18 (.t 6)),
 un (.iad 19 1 (.t 17) (.t 18)),
 un (.ld 20 1 false (.t 19)),
 un (.call 21 Ha [((.t 16),false),((.t 20),false)]),
 un (.asg 22 (.t 21)),
 ⟨some (22,true),.mov 23 (.t 1)⟩,
 ⟨some (22,true),.mov 24 (.t 0)⟩,
 ⟨some (22,true),.mov 25 (.t 6)⟩,
 ⟨some (22,true),.iad 26 1 (.t 24) (.t 25)⟩,
 ⟨some (22,true),.ld 27 1 false (.t 26)⟩,
 ⟨some (22,true),.call 28 H4 [((.t 23),false),((.t 27),false)]⟩,
 ⟨some (22,true),.un 29 .not (.t 28)⟩,
 un (.pick 30 (.t 22) (.t 29) (.c (.bool false))),
 un (.asg 7 (.t 30))])
def Abt:ACode:=
 (.seq (.reg [un (.mov 31 (.t 8)),
 un (.mov 32 (.t 0)),
 un (.len 33 (.t 32)),
 un (.bin 34 .lss (.t 31) (.t 33)),
 un (.asg 35 (.t 34)),
 ⟨some (35,true),.mov 36 (.t 7)⟩,
 un (.pick 37 (.t 35) (.t 36) (.c (.bool false)))])
 (.drop [31,32,33,34,35,36] (.cond (.t 37) .skip
 (.exit 2))))
def P4:ACode:=
 (.seq (.cut Abt)
 (.drop [31,32,33,34,35,36,37] (.seq (.block 3 (.seq (.dreg [(un (.mov 40 (.t 1)),[]),
 (un (.mov 41 (.t 0)),[40]),
 (un (.mov 42 (.t 8)),[40,41]),
 (un (.iad 43 1 (.t 41) (.t 42)),[40]),
 (un (.ld 44 1 false (.t 43)),[40]),
 (un (.call 45 Ha [((.t 40),false),((.t 44),false)]),[]),
 (un (.asg 46 (.t 45)),[]),
 (⟨some (46,true),.mov 47 (.t 0)⟩,[45]),
 (⟨some (46,true),.mov 48 (.t 8)⟩,[47,45]),
 (⟨some (46,true),.iad 49 1 (.t 47) (.t 48)⟩,[45]),
 (⟨some (46,true),.ld 50 1 false (.t 49)⟩,[45]),
 (⟨some (46,true),.mov 51 (.t 0)⟩,[47,48,49,50,45]),
 (⟨some (46,true),.mov 52 (.t 6)⟩,[47,48,49,50,51,45]),
 (⟨some (46,true),.iad 53 1 (.t 51) (.t 52)⟩,[47,48,49,50,45]),
 (⟨some (46,true),.ld 54 1 false (.t 53)⟩,[47,48,49,50,45]),
 (⟨some (46,true),.call 55 Ha [((.t 50),false),((.t 54),false)]⟩,[45]),
 (un (.pick 56 (.t 46) (.t 55) (.c (.bool false))),[45]),
 (un (.asg 57 (.t 56)),[45]),
 (⟨some (57,true),.mov 58 (.t 0)⟩,[45,56]),
 (⟨some (57,true),.mov 59 (.t 8)⟩,[58,45,56]),
 (⟨some (57,true),.iad 60 1 (.t 58) (.t 59)⟩,[45,56]),
 (⟨some (57,true),.ld 61 1 false (.t 60)⟩,[45,56]),
 (⟨some (57,true),.mov 62 (.t 1)⟩,[58,59,60,61,45,56]),
 (⟨some (57,true),.call 63 H4 [((.t 61),false),((.t 62),false)]⟩,[45,56]),
 (⟨some (57,true),.un 64 .not (.t 63)⟩,[45,56]),
 (un (.pick 65 (.t 57) (.t 64) (.c (.bool false))),[45,56]),
 (un (.asg 66 (.t 65)),[45,56]),
 (⟨some (66,true),.mov 67 (.t 0)⟩,[45,56,65]),
 (⟨some (66,true),.mov 68 (.t 8)⟩,[67,45,56,65]),
 (⟨some (66,true),.iad 69 1 (.t 67) (.t 68)⟩,[45,56,65]),
 (⟨some (66,true),.ld 70 1 false (.t 69)⟩,[45,56,65]),
 (⟨some (66,true),.mov 71 (.t 0)⟩,[67,68,69,70,45,56,65]),
 (⟨some (66,true),.mov 72 (.t 6)⟩,[67,68,69,70,71,45,56,65]),
 (⟨some (66,true),.iad 73 1 (.t 71) (.t 72)⟩,[67,68,69,70,45,56,65]),
 (⟨some (66,true),.ld 74 1 false (.t 73)⟩,[67,68,69,70,45,56,65])]
 [⟨some (66,true),.call 75 H4 [((.t 70),false),((.t 74),false)]⟩,
 ⟨some (66,true),.un 76 .not (.t 75)⟩,
 un (.pick 77 (.t 66) (.t 76) (.c (.bool false)))])
 (.drop [40,41,42,43,44,45,46,47,48,49,50,51,52,53,54,55,56,57,58,59,60,61,62,63,64,65,66,67,68,69,70,71,72,73,74,75,76] (.cond (.t 77) (.reg [un (.asg 7 (.c (.bool false)))])
 .skip))))
 (.drop [40,41,42,43,44,45,46,47,48,49,50,51,52,53,54,55,56,57,58,59,60,61,62,63,64,65,66,67,68,69,70,71,72,73,74,75,76,77] (.reg [un (.mov 38 (.t 8)),
 un (.bin 39 .add (.t 38) (.c (.int .i64 1))),
 un (.asg 8 (.t 39))])))))
def Qc:ACode:=
 (.seq (.seq (.reg [un (.mov 10 (.t 6)),
 un (.mov 11 (.t 0)),
 un (.len 12 (.t 11)),
 un (.bin 13 .lss (.t 10) (.t 12))])
 (.drop [10,11,12] (.cond (.t 13) .skip
 (.exit 0))))
 (.drop [10,11,12,13] (.seq (.block 1 (.seq (.cut Aa5)
 (.drop [16,17,18,19,20,21,22,23,24,25,26,27,28,29,30] (.seq (.seq (.reg [un (.asg 8 (.c (.int .i64 0)))])
 (.block 2 (.loop P4)))
 (.drop [8,31,32,33,34,35,36,37,40,41,42,43,44,45,46,47,48,49,50,51,52,53,54,55,56,57,58,59,60,61,62,63,64,65,66,67,68,69,70,71,72,73,74,75,76,77,38,39] (.seq (.reg [un (.mov 78 (.t 7))])
 (.cond (.t 78) (.reg [un (.mov 79 (.t 5)),
 un (.mov 80 (.t 0)),
 un (.mov 81 (.t 6)),
 un (.iad 82 1 (.t 80) (.t 81)),
 un (.ld 83 1 false (.t 82)),
 un (.bsl 84 1 [(.t 83)]),
 un (.app 85 1 (.t 79) (.t 84)),
 un (.asg 5 (.t 85))])
 .skip)))))))
 (.drop [16,17,18,19,20,21,22,23,24,25,26,27,28,29,30,7,8,31,32,33,34,35,36,37,40,41,42,43,44,45,46,47,48,49,50,51,52,53,54,55,56,57,58,59,60,61,62,63,64,65,66,67,68,69,70,71,72,73,74,75,76,77,38,39,78,79,80,81,82,83,84,85] (.reg [un (.mov 14 (.t 6)),
 un (.bin 15 .add (.t 14) (.c (.int .i64 1))),
 un (.asg 6 (.t 15))])))))
def Agy:ACode:=
 (.seq (.reg [un (.asg 4 (.c (.nilsl 1)))])
 (.seq (.reg [un (.bsl 9 1 []),
 un (.asg 5 (.t 9))])
 (.drop [9] (.seq (.seq (.reg [un (.asg 6 (.c (.int .i64 0)))])
 (.block 0 (.loop Qc)))
 (.drop [6,10,11,12,13,16,17,18,19,20,21,22,23,24,25,26,27,28,29,30,7,8,31,32,33,34,35,36,37,40,41,42,43,44,45,46,47,48,49,50,51,52,53,54,55,56,57,58,59,60,61,62,63,64,65,66,67,68,69,70,71,72,73,74,75,76,77,38,39,78,79,80,81,82,83,84,85,14,15] (.seq (.reg [un (.mov 86 (.t 5)),
 un (.asg 4 (.t 86))])
 (.drop [86] .ret)))))))
abbrev Ahu:List RS:=[.t 4]
theorem Ahb:Ay Tryz.prog Kp 87 Agy Ahu=true:=by kernel_rfl
def X9:ACode:=
 (.seq (.reg [un (.asg 6 (.c (.bool false)))])
 (.seq (.reg [un (.mov 7 (.t 0)),
 un (.call 8 Ng [((.t 7),false)]),
 un (.asg 9 (.t 8)),
 ⟨some (9,true),.mov 10 (.t 0)⟩,
 ⟨some (9,true),.mov 11 (.t 1)⟩,
 ⟨some (9,true),.call 12 F7 [((.t 10),false),((.t 11),false)]⟩,
 un (.pick 13 (.t 9) (.t 12) (.c (.bool false))),
 un (.asg 14 (.t 13)),
 ⟨some (14,true),.mov 15 (.t 0)⟩,
 ⟨some (14,true),.mov 16 (.t 2)⟩,
 ⟨some (14,true),.call 17 F7 [((.t 15),false),((.t 16),false)]⟩,
 un (.pick 18 (.t 14) (.t 17) (.c (.bool false))),
 un (.asg 6 (.t 18))])
 (.drop [7,8,9,10,11,12,13,14,15,16,17,18] .ret)))
abbrev Ys:List RS:=[.t 6]
theorem Xo:Ay Tryz.prog Iy 19 X9 Ys=true:=by kernel_rfl
def Ar6:ACode:=
 (.seq (.reg [un (.box 2 (.t 0)),
 un (.asg 4 (.c (.bool false)))])
 (.seq (.dreg [(un (.fadr 5 0 (.t 2)),[]),
 (un (.ld 6 1 false (.t 5)),[]),
 (un (.bin 7 .geq (.t 6) (.c (.int .i64 0))),[]),
 (un (.asg 8 (.t 7)),[]),
 (⟨some (8,true),.fadr 9 0 (.t 2)⟩,[7]),
 (⟨some (8,true),.ld 10 1 false (.t 9)⟩,[7]),
 (⟨some (8,true),.bin 11 .leq (.t 10) (.c (.int .i64 3))⟩,[7]),
 (un (.pick 12 (.t 8) (.t 11) (.c (.bool false))),[7]),
 (un (.asg 13 (.t 12)),[7]),
 (⟨some (13,true),.fadr 14 1 (.t 2)⟩,[7,12]),
 (⟨some (13,true),.ld 15 1 false (.t 14)⟩,[7,12]),
 (⟨some (13,true),.len 16 (.t 15)⟩,[7,12]),
 (⟨some (13,true),.mov 17 (.t 1)⟩,[14,15,16,7,12]),
 (⟨some (13,true),.fadr 18 0 (.t 2)⟩,[14,15,16,17,7,12]),
 (⟨some (13,true),.ld 19 1 false (.t 18)⟩,[14,15,16,17,7,12]),
 (⟨some (13,true),.call 20 Vv [((.t 17),false),((.t 19),false)]⟩,[14,15,16,7,12]),
 (⟨some (13,true),.bin 21 .eql (.t 16) (.t 20)⟩,[7,12]),
 (un (.pick 22 (.t 13) (.t 21) (.c (.bool false))),[7,12]),
 (un (.asg 23 (.t 22)),[7,12]),
 (⟨some (23,true),.fadr 24 1 (.t 2)⟩,[7,12,22]),
 (⟨some (23,true),.ld 25 1 false (.t 24)⟩,[7,12,22]),
 (⟨some (23,true),.mov 26 (.t 1)⟩,[24,25,7,12,22])]
 [⟨some (23,true),.call 27 Tj [((.t 25),false),((.t 26),false)]⟩,
 un (.pick 28 (.t 23) (.t 27) (.c (.bool false))),
 un (.asg 4 (.t 28))])
 (.drop [5,6,7,8,9,10,11,12,13,14,15,16,17,18,19,20,21,22,23,24,25,26,27,28] .ret)))
abbrev Aq3:List RS:=[.t 4]
theorem Arj:Ay Tryz.prog X1 29 Ar6 Aq3=true:=by kernel_rfl
def Zt:ACode:=
 (.seq (.dreg [(un (.mov 16 (.t 9)),[]),
 (un (.mov 17 (.t 1)),[16]),
 (un (.bin 18 .eql (.t 16) (.t 17)),[]),
 (un (.asg 19 (.t 18)),[]),
 (⟨some (19,false),.mov 20 (.t 2)⟩,[18]),
 (⟨some (19,false),.mov 21 (.t 9)⟩,[20,18]),
 (⟨some (19,false),.iad 22 1 (.t 20) (.t 21)⟩,[18]),
 (⟨some (19,false),.ld 23 1 false (.t 22)⟩,[18]),
 (un (.pick 24 (.t 19) (.c (.bool true)) (.t 23)),[18]),
 (un (.asg 25 (.t 24)),[18]),
 (⟨some (25,false),.mov 26 (.t 0)⟩,[18,24]),
 (⟨some (25,false),.mov 27 (.t 1)⟩,[26,18,24]),
 (⟨some (25,false),.iad 28 1 (.t 26) (.t 27)⟩,[18,24]),
 (⟨some (25,false),.ld 29 1 false (.t 28)⟩,[18,24]),
 (⟨some (25,false),.mov 30 (.t 0)⟩,[26,27,28,29,18,24]),
 (⟨some (25,false),.mov 31 (.t 9)⟩,[26,27,28,29,30,18,24]),
 (⟨some (25,false),.iad 32 1 (.t 30) (.t 31)⟩,[26,27,28,29,18,24]),
 (⟨some (25,false),.ld 33 1 false (.t 32)⟩,[26,27,28,29,18,24])]
 [⟨some (25,false),.call 34 Ha [((.t 29),false),((.t 33),false)]⟩,
 ⟨some (25,false),.un 35 .not (.t 34)⟩,
 un (.pick 36 (.t 25) (.c (.bool true)) (.t 35))])
 (.drop [16,17,18,19,20,21,22,23,24,25,26,27,28,29,30,31,32,33,34,35] (.cond (.t 36) (.exit 1)
 .skip)))
def O5:ACode:=
 (.seq (.seq (.reg [un (.mov 10 (.t 9)),
 un (.mov 11 (.t 0)),
 un (.len 12 (.t 11)),
 un (.bin 13 .lss (.t 10) (.t 12))])
 (.drop [10,11,12] (.cond (.t 13) .skip
 (.exit 0))))
 (.drop [10,11,12,13] (.seq (.block 1 (.seq (.cut Zt)
 (.drop [16,17,18,19,20,21,22,23,24,25,26,27,28,29,30,31,32,33,34,35,36] (.seq (.reg [un (.mov 37 (.t 2)),
 un (.mov 38 (.t 9)),
 un (.iad 39 1 (.t 37) (.t 38)),
 un (.st 1 (.t 39) (.c (.bool true)))])
 (.drop [37,38,39] (.seq (.reg [un (.mov 40 (.t 3)),
 un (.mov 41 (.t 9)),
 un (.iad 42 1 (.t 40) (.t 41)),
 un (.ld 43 1 false (.t 42)),
 un (.bin 44 .lss (.t 43) (.c (.int .i64 0))),
 un (.asg 45 (.t 44)),
 ⟨some (45,false),.mov 46 (.t 0)⟩,
 ⟨some (45,false),.mov 47 (.t 3)⟩,
 ⟨some (45,false),.mov 48 (.t 9)⟩,
 ⟨some (45,false),.iad 49 1 (.t 47) (.t 48)⟩,
 ⟨some (45,false),.ld 50 1 false (.t 49)⟩,
 ⟨some (45,false),.mov 51 (.t 2)⟩,
 ⟨some (45,false),.mov 52 (.t 3)⟩,
 ⟨some (45,false),.call 53 Dp [((.t 46),false),((.t 50),false),((.t 51),true),((.t 52),true)]⟩,
 un (.pick 54 (.t 45) (.c (.bool true)) (.t 53))])
 (.drop [40,41,42,43,44,45,46,47,48,49,50,51,52,53] (.cond (.t 54) (.seq (.reg [un (.mov 55 (.t 3)),
 un (.mov 56 (.t 9)),
 un (.mov 57 (.t 1)),
 un (.iad 58 1 (.t 55) (.t 56)),
 un (.st 1 (.t 58) (.t 57))])
 (.drop [55,56,57,58] (.seq (.reg [un (.asg 8 (.c (.bool true)))])
 .ret)))
 .skip))))))))
 (.drop [16,17,18,19,20,21,22,23,24,25,26,27,28,29,30,31,32,33,34,35,36,37,38,39,40,41,42,43,44,45,46,47,48,49,50,51,52,53,54,55,56,57,58] (.reg [un (.mov 14 (.t 9)),
 un (.bin 15 .add (.t 14) (.c (.int .i64 1))),
 un (.asg 9 (.t 15))])))))
def Aen:ACode:=
 (.seq (.reg [un (.asg 8 (.c (.bool false)))])
 (.seq (.seq (.reg [un (.asg 9 (.c (.int .i64 0)))])
 (.block 0 (.loop O5)))
 (.drop [9,10,11,12,13,16,17,18,19,20,21,22,23,24,25,26,27,28,29,30,31,32,33,34,35,36,37,38,39,40,41,42,43,44,45,46,47,48,49,50,51,52,53,54,55,56,57,58,14,15] (.seq (.reg [un (.asg 8 (.c (.bool false)))])
 .ret))))
abbrev Ad6:List RS:=[.t 8]
theorem Aef:Ay Tryz.prog Dp 59 Aen Ad6=true:=by kernel_rfl
def Ajx:ACode:=
 (.seq (.reg [un (.alc 2 (.agg [.int .i64 0,.nilsl 2]))])
 (.seq (.seq (.reg [un (.mov 3 (.t 0))])
 (.block 0 (.seq (.reg [un (.bin 5 .eql (.t 3) (.c (.int .i64 0))),
 un (.asg 4 (.t 5))])
 (.drop [5] (.cond (.t 4) (.seq (.reg [⟨none,.call 6 Bf [((.c (.str ⟨#[48,48,48,49]⟩)),false)]⟩,
 un (.bsl 7 2 [(.t 6)]),
 un (.bld 8 [.int .i64 0,.nilsl 2] [(0,1,(.c (.int .i64 2))),(1,1,(.t 7))]),
 un (.st 2 (.t 2) (.t 8))])
 (.drop [6,7,8] .ret))
 (.seq (.reg [un (.bin 10 .eql (.t 3) (.c (.int .i64 1))),
 un (.asg 9 (.t 10))])
 (.drop [10] (.cond (.t 9) (.seq (.reg [⟨none,.call 11 Bf [((.c (.str ⟨#[48,48,48,49]⟩)),false)]⟩,
 ⟨none,.call 12 Bf [((.c (.str ⟨#[48,49,49,49]⟩)),false)]⟩,
 un (.bsl 13 2 [(.t 11),(.t 12)]),
 un (.bld 14 [.int .i64 0,.nilsl 2] [(0,1,(.c (.int .i64 2))),(1,1,(.t 13))]),
 un (.st 2 (.t 2) (.t 14))])
 (.drop [11,12,13,14] .ret))
 (.seq (.reg [un (.bin 16 .eql (.t 3) (.c (.int .i64 2))),
 un (.asg 15 (.t 16))])
 (.drop [16] (.cond (.t 15) (.seq (.reg [⟨none,.call 17 Bf [((.c (.str ⟨#[48,48,48,49]⟩)),false)]⟩,
 ⟨none,.call 18 Bf [((.c (.str ⟨#[48,49,49,49]⟩)),false)]⟩,
 un (.bsl 19 1 [(.c (.int .i64 1)),(.c (.int .i64 0))]),
 un (.bld 20 [.int .i64 0,.nilsl 1] [(0,1,(.c (.int .i64 1))),(1,1,(.t 19))]),
 un (.bsl 21 2 [(.t 17),(.t 18),(.t 20)]),
 un (.bld 22 [.int .i64 0,.nilsl 2] [(0,1,(.c (.int .i64 2))),(1,1,(.t 21))]),
 un (.st 2 (.t 2) (.t 22))])
 (.drop [17,18,19,20,21,22] .ret))
 (.seq (.reg [un (.bin 24 .eql (.t 3) (.c (.int .i64 3))),
 un (.asg 23 (.t 24))])
 (.drop [24] (.cond (.t 23) (.seq (.reg [un (.call 25 Ko [((.c (.int .i64 2)),false)]),
 un (.bsl 26 2 [(.t 25)]),
 un (.bld 27 [.int .i64 0,.nilsl 2] [(0,1,(.c (.int .i64 2))),(1,1,(.t 26))]),
 un (.st 2 (.t 2) (.t 27))])
 (.drop [25,26,27] .ret))
 (.seq (.reg [un (.bin 29 .eql (.t 3) (.c (.int .i64 4))),
 un (.asg 28 (.t 29))])
 (.drop [29] (.cond (.t 28) (.seq (.reg [⟨none,.call 30 Bf [((.c (.str ⟨#[48,49,50,49,50,48,50,48,49]⟩)),false)]⟩,
 un (.bsl 31 2 [(.t 30)]),
 un (.bld 32 [.int .i64 0,.nilsl 2] [(0,1,(.c (.int .i64 3))),(1,1,(.t 31))]),
 un (.st 2 (.t 2) (.t 32))])
 (.drop [30,31,32] .ret))
 (.seq (.reg [un (.bin 34 .eql (.t 3) (.c (.int .i64 5))),
 un (.asg 33 (.t 34))])
 (.drop [34] (.cond (.t 33) (.seq (.reg [⟨none,.call 35 Bf [((.c (.str ⟨#[48,49,48,49,49,50,48,50,50]⟩)),false)]⟩,
 un (.bsl 36 2 [(.t 35)]),
 un (.bld 37 [.int .i64 0,.nilsl 2] [(0,1,(.c (.int .i64 3))),(1,1,(.t 36))]),
 un (.st 2 (.t 2) (.t 37))])
 (.drop [35,36,37] .ret))
 (.seq (.reg [un (.bin 39 .eql (.t 3) (.c (.int .i64 6))),
 un (.asg 38 (.t 39))])
 (.drop [39] (.cond (.t 38) (.seq (.reg [⟨none,.call 40 Bf [((.c (.str ⟨#[48,49,50,51,49,48,51,50,50,51,48,49,51,50,49,48]⟩)),false)]⟩,
 un (.bsl 41 2 [(.t 40)]),
 un (.bld 42 [.int .i64 0,.nilsl 2] [(0,1,(.c (.int .i64 4))),(1,1,(.t 41))]),
 un (.st 2 (.t 2) (.t 42))])
 (.drop [40,41,42] .ret))
 (.seq (.reg [un (.bin 44 .eql (.t 3) (.c (.int .i64 7))),
 un (.asg 43 (.t 44))])
 (.drop [44] (.cond (.t 43) (.seq (.reg [⟨none,.call 45 Bf [((.c (.str ⟨#[48,48,48,48,49,49,48,49,50]⟩)),false)]⟩,
 ⟨none,.call 46 Bf [((.c (.str ⟨#[48,49,50,49,49,50,50,50,50]⟩)),false)]⟩,
 un (.bsl 47 2 [(.t 45),(.t 46)]),
 un (.bld 48 [.int .i64 0,.nilsl 2] [(0,1,(.c (.int .i64 3))),(1,1,(.t 47))]),
 un (.st 2 (.t 2) (.t 48))])
 (.drop [45,46,47,48] .ret))
 (.seq (.reg [un (.bin 50 .eql (.t 3) (.c (.int .i64 8))),
 un (.asg 49 (.t 50))])
 (.drop [50] (.cond (.t 49) (.seq (.reg [un (.bsl 51 1 [(.c (.int .i64 1)),(.c (.int .i64 2)),(.c (.int .i64 3)),(.c (.int .i64 0))]),
 un (.bld 52 [.int .i64 0,.nilsl 1] [(0,1,(.c (.int .i64 1))),(1,1,(.t 51))]),
 un (.bsl 53 2 [(.t 52)]),
 un (.bld 54 [.int .i64 0,.nilsl 2] [(0,1,(.c (.int .i64 4))),(1,1,(.t 53))]),
 un (.st 2 (.t 2) (.t 54))])
 (.drop [51,52,53,54] .ret))
 (.seq (.reg [un (.bin 56 .eql (.t 3) (.c (.int .i64 9))),
 un (.asg 55 (.t 56))])
 (.drop [56] (.cond (.t 55) (.seq (.reg [un (.bsl 57 1 [(.c (.int .i64 0)),(.c (.int .i64 0)),(.c (.int .i64 0)),(.c (.int .i64 1)),(.c (.int .i64 0)),(.c (.int .i64 1)),(.c (.int .i64 1)),(.c (.int .i64 1))]),
 un (.bld 58 [.int .i64 0,.nilsl 1] [(0,1,(.c (.int .i64 3))),(1,1,(.t 57))]),
 un (.bsl 59 2 [(.t 58)]),
 un (.bld 60 [.int .i64 0,.nilsl 2] [(0,1,(.c (.int .i64 2))),(1,1,(.t 59))]),
 un (.st 2 (.t 2) (.t 60))])
 (.drop [57,58,59,60] .ret))
 (.seq (.reg [un (.bin 62 .eql (.t 3) (.c (.int .i64 10))),
 un (.asg 61 (.t 62))])
 (.drop [62] (.cond (.t 61) (.seq (.reg [⟨none,.call 63 Bf [((.c (.str ⟨#[48,48,48,49,49,49,50,50,50]⟩)),false)]⟩,
 un (.bsl 64 2 [(.t 63)]),
 un (.bld 65 [.int .i64 0,.nilsl 2] [(0,1,(.c (.int .i64 3))),(1,1,(.t 64))]),
 un (.st 2 (.t 2) (.t 65))])
 (.drop [63,64,65] .ret))
 (.seq (.reg [un (.bin 67 .eql (.t 3) (.c (.int .i64 11))),
 un (.asg 66 (.t 67))])
 (.drop [67] (.cond (.t 66) (.seq (.reg [⟨none,.call 68 Bf [((.c (.str ⟨#[48,48,48,48,48,48,49,48,48,49,48,48,50,48,50,48,48,48,51,51,48,49,50,51,52]⟩)),false)]⟩,
 ⟨none,.call 69 Bf [((.c (.str ⟨#[48,49,50,51,52,49,49,52,52,52,50,52,50,52,52,51,52,52,51,52,52,52,52,52,52]⟩)),false)]⟩,
 un (.bsl 70 2 [(.t 68),(.t 69)]),
 un (.bld 71 [.int .i64 0,.nilsl 2] [(0,1,(.c (.int .i64 5))),(1,1,(.t 70))]),
 un (.st 2 (.t 2) (.t 71))])
 (.drop [68,69,70,71] .ret))
 (.seq (.reg [un (.bin 73 .eql (.t 3) (.c (.int .i64 12))),
 un (.asg 72 (.t 73))])
 (.drop [73] (.cond (.t 72) (.seq (.reg [⟨none,.call 74 Bf [((.c (.str ⟨#[48,49,50,51,49,50,51,48,50,51,48,49,51,48,49,50]⟩)),false)]⟩,
 un (.bsl 75 2 [(.t 74)]),
 un (.bld 76 [.int .i64 0,.nilsl 2] [(0,1,(.c (.int .i64 4))),(1,1,(.t 75))]),
 un (.st 2 (.t 2) (.t 76))])
 (.drop [74,75,76] .ret))
 (.seq (.reg [un (.bin 78 .eql (.t 3) (.c (.int .i64 13))),
 un (.asg 77 (.t 78))])
 (.drop [78] (.cond (.t 77) (.seq (.reg [un (.bsl 79 1 [(.c (.int .i64 0)),(.c (.int .i64 0)),(.c (.int .i64 1))]),
 un (.bld 80 [.int .i64 0,.nilsl 1] [(0,1,(.c (.int .i64 1))),(1,1,(.t 79))]),
 un (.bsl 81 1 [(.c (.int .i64 2))]),
 un (.bld 82 [.int .i64 0,.nilsl 1] [(0,1,(.c (.int .i64 0))),(1,1,(.t 81))]),
 un (.bsl 83 2 [(.t 80),(.t 82)]),
 un (.bld 84 [.int .i64 0,.nilsl 2] [(0,1,(.c (.int .i64 3))),(1,1,(.t 83))]),
 un (.st 2 (.t 2) (.t 84))])
 (.drop [79,80,81,82,83,84] .ret))
 (.seq (.reg [un (.bin 86 .eql (.t 3) (.c (.int .i64 14))),
 un (.asg 85 (.t 86))])
 (.drop [86] (.cond (.t 85) (.seq (.reg [⟨none,.call 87 Bf [((.c (.str ⟨#[48]⟩)),false)]⟩,
 un (.bsl 88 2 [(.t 87)]),
 un (.bld 89 [.int .i64 0,.nilsl 2] [(0,1,(.c (.int .i64 1))),(1,1,(.t 88))]),
 un (.st 2 (.t 2) (.t 89))])
 (.drop [87,88,89] .ret))
 (.seq (.reg [un (.bin 91 .eql (.t 3) (.c (.int .i64 15))),
 un (.asg 90 (.t 91))])
 (.drop [91] (.cond (.t 90) (.seq (.reg [un (.call 92 Ko [((.c (.int .i64 3)),false)]),
 un (.bsl 93 2 [(.t 92)]),
 un (.bld 94 [.int .i64 0,.nilsl 2] [(0,1,(.c (.int .i64 3))),(1,1,(.t 93))]),
 un (.st 2 (.t 2) (.t 94))])
 (.drop [92,93,94] .ret))
 .skip))))))))))))))))))))))))))))))))))))))))))))))))))
 (.drop [3,5,4,6,7,8,10,9,11,12,13,14,16,15,17,18,19,20,21,22,24,23,25,26,27,29,28,30,31,32,34,33,35,36,37,39,38,40,41,42,44,43,45,46,47,48,50,49,51,52,53,54,56,55,57,58,59,60,62,61,63,64,65,67,66,68,69,70,71,73,72,74,75,76,78,77,79,80,81,82,83,84,86,85,87,88,89,91,90,92,93,94] (.seq (.reg [un (.bld 95 [.int .i64 0,.nilsl 2] [(0,1,(.c (.int .i64 2)))]),
 un (.st 2 (.t 2) (.t 95))])
 (.drop [95] .ret)))))
abbrev Aku:List RS:=[.c 2 2 true]
theorem Aiu:Ay Tryz.prog Ra 96 Ajx Aku=true:=by kernel_rfl
def X3:ACode:=
 (.seq (.reg [un (.bin 13 .lss (.t 12) (.t 11))])
 (.seq (.cond (.t 13) .skip
 (.exit 0))
 (.seq (.block 1 (.seq (.reg [un (.mov 14 (.t 12)),
 un (.iad 15 1 (.t 10) (.t 12)),
 un (.ld 16 1 false (.t 15)),
 un (.asg 6 (.t 14)),
 un (.asg 7 (.t 16))])
 (.drop [14,15,16] (.reg [un (.mov 17 (.t 5)),
 un (.mov 18 (.t 6)),
 un (.mov 19 (.t 7)),
 un (.call 20 L4 [((.t 17),true),((.t 18),false),((.t 19),false)])]))))
 (.drop [14,15,16,6,7,17,18,19,20] (.reg [un (.bin 21 .add (.t 12) (.c (.int .i64 1))),
 un (.asg 12 (.t 21))])))))
def Aq4:ACode:=
 (.seq (.reg [un (.asg 4 (.c (.nilsl 1)))])
 (.seq (.reg [un (.mov 8 (.t 0)),
 un (.call 9 Pv [((.t 8),false)]),
 un (.asg 5 (.t 9))])
 (.drop [8,9] (.seq (.seq (.reg [un (.mov 10 (.t 1)),
 un (.len 11 (.t 10)),
 un (.mov 12 (.c (.int .i64 0)))])
 (.block 0 (.loop X3)))
 (.drop [10,11,12,13,14,15,16,6,7,17,18,19,20,21] (.seq (.reg [un (.mov 22 (.t 5)),
 un (.asg 4 (.t 22))])
 (.drop [22] .ret)))))))
abbrev Aqw:List RS:=[.t 4]
theorem Aqn:Ay Tryz.prog Yj 23 Aq4 Aqw=true:=by kernel_rfl
def Rt:ACode:=
 (.seq (.reg [un (.asg 4 (.c (.int .i64 0)))])
 (.seq (.seq (.reg [un (.mov 6 (.t 1)),
 un (.call 7 Il [((.t 6),false)]),
 un (.mov 8 (.t 0)),
 un (.call 9 Il [((.t 8),false)]),
 un (.bin 10 .sub (.t 7) (.t 9)),
 un (.asg 5 (.t 10))])
 (.drop [6,7,8,9,10] (.seq (.reg [un (.mov 11 (.t 5)),
 un (.bin 12 .neq (.t 11) (.c (.int .i64 0)))])
 (.drop [11] (.cond (.t 12) (.seq (.reg [un (.mov 13 (.t 5)),
 un (.asg 4 (.t 13))])
 (.drop [13] .ret))
 .skip)))))
 (.drop [6,7,8,9,10,5,11,12,13] (.seq (.reg [un (.mov 14 (.t 0)),
 un (.mov 15 (.t 1)),
 un (.call 16 Jm [((.t 14),false),((.t 15),false)]),
 un (.asg 4 (.t 16))])
 (.drop [14,15,16] .ret)))))
abbrev R5:List RS:=[.t 4]
theorem R3:Ay Tryz.prog Ec 17 Rt R5=true:=by kernel_rfl
def Ajz:ACode:=
 (.seq (.dreg [(un (.fadr 6 0 (.t 3)),[]),
 (un (.ld 7 1 false (.t 6)),[]),
 (un (.call 8 Oa [((.t 7),false),((.c (.int .i64 0)),false),((.c (.int .i64 3)),false)]),[]),
 (un (.un 9 .not (.t 8)),[]),
 (un (.asg 10 (.t 9)),[]),
 (⟨some (10,false),.fadr 11 1 (.t 3)⟩,[9]),
 (⟨some (10,false),.ld 12 1 false (.t 11)⟩,[9]),
 (⟨some (10,false),.len 13 (.t 12)⟩,[9]),
 (⟨some (10,false),.mov 14 (.t 0)⟩,[11,12,13,9]),
 (⟨some (10,false),.fadr 15 0 (.t 3)⟩,[11,12,13,14,9]),
 (⟨some (10,false),.ld 16 1 false (.t 15)⟩,[11,12,13,14,9]),
 (⟨some (10,false),.call 17 Ph [((.t 14),false),((.t 16),false)]⟩,[11,12,13,9])]
 [⟨some (10,false),.bin 18 .neq (.t 13) (.t 17)⟩,
 un (.pick 19 (.t 10) (.c (.bool true)) (.t 18))])
 (.drop [6,7,8,9,10,11,12,13,14,15,16,17,18] (.cond (.t 19) (.seq (.reg [un (.asg 4 (.c (.bool false)))])
 .ret)
 .skip)))
def Yd:ACode:=
 (.seq (.seq (.reg [un (.mov 20 (.t 5)),
 un (.fadr 21 1 (.t 3)),
 un (.ld 22 1 false (.t 21)),
 un (.len 23 (.t 22)),
 un (.bin 24 .lss (.t 20) (.t 23))])
 (.drop [20,21,22,23] (.cond (.t 24) .skip
 (.exit 0))))
 (.drop [20,21,22,23,24] (.seq (.block 1 (.seq (.reg [un (.fadr 27 1 (.t 3)),
 un (.ld 28 1 false (.t 27)),
 un (.mov 29 (.t 5)),
 un (.iad 30 1 (.t 28) (.t 29)),
 un (.ld 31 1 false (.t 30)),
 un (.mov 32 (.t 0)),
 un (.bin 33 .sub (.t 32) (.c (.int .i64 1))),
 un (.call 34 Oa [((.t 31),false),((.c (.int .i64 0)),false),((.t 33),false)]),
 un (.un 35 .not (.t 34))])
 (.drop [27,28,29,30,31,32,33,34] (.cond (.t 35) (.seq (.reg [un (.asg 4 (.c (.bool false)))])
 .ret)
 .skip))))
 (.drop [27,28,29,30,31,32,33,34,35] (.reg [un (.mov 25 (.t 5)),
 un (.bin 26 .add (.t 25) (.c (.int .i64 1))),
 un (.asg 5 (.t 26))])))))
def Ar8:ACode:=
 (.seq (.reg [un (.box 3 (.t 1)),
 un (.asg 4 (.c (.bool false)))])
 (.seq (.cut Ajz)
 (.drop [6,7,8,9,10,11,12,13,14,15,16,17,18,19] (.seq (.seq (.reg [un (.asg 5 (.c (.int .i64 0)))])
 (.block 0 (.loop Yd)))
 (.drop [5,20,21,22,23,24,27,28,29,30,31,32,33,34,35,25,26] (.seq (.reg [un (.asg 4 (.c (.bool true)))])
 .ret))))))
abbrev Art:List RS:=[.t 4]
theorem Aq5:Ay Tryz.prog Xz 36 Ar8 Art=true:=by kernel_rfl
def Ww:ACode:=
 (.seq (.seq (.reg [un (.mov 6 (.t 5)),
 un (.mov 7 (.t 0)),
 un (.len 8 (.t 7)),
 un (.bin 9 .lss (.t 6) (.t 8)),
 un (.asg 10 (.t 9)),
 ⟨some (10,true),.mov 11 (.t 0)⟩,
 ⟨some (10,true),.mov 12 (.t 5)⟩,
 ⟨some (10,true),.iad 13 1 (.t 11) (.t 12)⟩,
 ⟨some (10,true),.ld 14 1 false (.t 13)⟩,
 ⟨some (10,true),.call 15 Hi [((.t 14),false)]⟩,
 ⟨some (10,true),.mov 16 (.t 1)⟩,
 ⟨some (10,true),.call 17 Hi [((.t 16),false)]⟩,
 ⟨some (10,true),.bin 18 .gtr (.t 15) (.t 17)⟩,
 ⟨some (10,true),.asg 19 (.t 18)⟩,
 ⟨some (19,false),.mov 20 (.t 0)⟩,
 ⟨some (19,false),.mov 21 (.t 5)⟩,
 ⟨some (19,false),.iad 22 1 (.t 20) (.t 21)⟩,
 ⟨some (19,false),.ld 23 1 false (.t 22)⟩,
 ⟨some (19,false),.call 24 Hi [((.t 23),false)]⟩,
 ⟨some (19,false),.mov 25 (.t 1)⟩,
 ⟨some (19,false),.call 26 Hi [((.t 25),false)]⟩,
 ⟨some (19,false),.bin 27 .eql (.t 24) (.t 26)⟩,
 ⟨some (19,false),.asg 28 (.t 27)⟩,
 ⟨some (28,true),.mov 29 (.t 0)⟩,
 ⟨some (28,true),.mov 30 (.t 5)⟩,
 ⟨some (28,true),.iad 31 1 (.t 29) (.t 30)⟩,
 ⟨some (28,true),.ld 32 1 false (.t 31)⟩,
 ⟨some (28,true),.mov 33 (.t 1)⟩,
 ⟨some (28,true),.call 34 Tw [((.t 32),false),((.t 33),false)]⟩,
 ⟨some (19,false),.pick 35 (.t 28) (.t 34) (.c (.bool false))⟩,
 ⟨some (10,true),.pick 36 (.t 19) (.c (.bool true)) (.t 35)⟩,
 un (.pick 37 (.t 10) (.t 36) (.c (.bool false)))])
 (.drop [6,7,8,9,10,11,12,13,14,15,16,17,18,19,20,21,22,23,24,25,26,27,28,29,30,31,32,33,34,35,36] (.cond (.t 37) .skip
 (.exit 0))))
 (.drop [6,7,8,9,10,11,12,13,14,15,16,17,18,19,20,21,22,23,24,25,26,27,28,29,30,31,32,33,34,35,36,37] (.block 1 (.reg [un (.mov 38 (.t 5)),
 un (.bin 39 .add (.t 38) (.c (.int .i64 1))),
 un (.asg 5 (.t 39))]))))
def Aha:ACode:=
 (.seq (.reg [un (.mov 40 (.t 5)),
 un (.mov 41 (.t 0)),
 un (.len 42 (.t 41)),
 un (.bin 43 .lss (.t 40) (.t 42)),
 un (.asg 44 (.t 43)),
 ⟨some (44,true),.mov 45 (.t 0)⟩,
 ⟨some (44,true),.mov 46 (.t 5)⟩,
 ⟨some (44,true),.iad 47 1 (.t 45) (.t 46)⟩,
 ⟨some (44,true),.ld 48 1 false (.t 47)⟩,
 ⟨some (44,true),.mov 49 (.t 1)⟩,
 ⟨some (44,true),.call 50 H4 [((.t 48),false),((.t 49),false)]⟩,
 un (.pick 51 (.t 44) (.t 50) (.c (.bool false)))])
 (.drop [40,41,42,43,44,45,46,47,48,49,50] (.cond (.t 51) (.seq (.reg [un (.mov 52 (.t 0)),
 un (.asg 4 (.t 52))])
 (.drop [52] .ret))
 .skip)))
def Aoh:ACode:=
 (.seq (.reg [un (.asg 4 (.c (.nilsl 1)))])
 (.seq (.reg [un (.asg 5 (.c (.int .i64 0)))])
 (.seq (.block 0 (.loop Ww))
 (.drop [6,7,8,9,10,11,12,13,14,15,16,17,18,19,20,21,22,23,24,25,26,27,28,29,30,31,32,33,34,35,36,37,38,39] (.seq (.cut Aha)
 (.drop [40,41,42,43,44,45,46,47,48,49,50,51,52] (.seq (.dreg [(un (.bsl 53 1 []),[58]),
 (un (.mov 54 (.t 0)),[53,58]),
 (un (.mov 55 (.t 5)),[53,54,58]),
 (un (.slc 56 1 (.t 54) none (some (.t 55))),[53,58]),
 (un (.app 57 1 (.t 53) (.t 56)),[58]),
 (un (.mov 58 (.t 1)),[53,54,55,56,57,53]),
 (un (.bsl 59 1 [(.t 58)]),[53,54,55,56,57,53]),
 (un (.app 60 1 (.t 57) (.t 59)),[53,58]),
 (un (.mov 61 (.t 0)),[53,54,55,56,57,58,59,60,53,58,57]),
 (un (.mov 62 (.t 5)),[53,54,55,56,57,58,59,60,61,53,58,57]),
 (un (.slc 63 1 (.t 61) (some (.t 62)) none),[53,54,55,56,57,58,59,60,53,58,57])]
 [un (.app 64 1 (.t 60) (.t 63)),
 un (.asg 4 (.t 64))])
 (.drop [53,54,55,56,57,58,59,60,61,62,63,64] .ret))))))))
abbrev Ap3:List RS:=[.t 4]
theorem Aoa:Ay Tryz.prog Pg 65 Aoh Ap3=true:=by kernel_rfl
def Kc:ACode:=
 (.seq (.reg [un (.bin 32 .lss (.t 31) (.t 30))])
 (.seq (.cond (.t 32) .skip
 (.exit 6))
 (.seq (.block 7 (.seq (.reg [un (.mov 33 (.t 31)),
 un (.iad 34 1 (.t 29) (.t 31)),
 un (.ld 35 1 false (.t 34)),
 un (.asg 11 (.t 33)),
 un (.asg 12 (.t 35))])
 (.drop [33,34,35] (.seq (.dreg [(un (.mov 36 (.t 11)),[]),
 (un (.mov 37 (.t 9)),[36]),
 (un (.bin 38 .quo (.t 36) (.t 37)),[]),
 (un (.fadr 39 0 (.t 2)),[36,37,38]),
 (un (.ld 40 1 false (.t 39)),[36,37,38])]
 [un (.bin 41 .rem (.t 38) (.t 40)),
 un (.asg 13 (.t 41))])
 (.drop [36,37,38,39,40,41] (.seq (.dreg [(un (.mov 42 (.t 1)),[]),
 (un (.mov 43 (.t 12)),[42]),
 (un (.fadr 44 1 (.t 8)),[42,43]),
 (un (.ld 45 1 false (.t 44)),[42,43]),
 (un (.mov 46 (.t 11)),[42,43,44,45]),
 (un (.mov 47 (.t 1)),[42,43,44,45,46]),
 (un (.mov 48 (.t 13)),[42,43,44,45,46,47]),
 (un (.iad 49 1 (.t 47) (.t 48)),[42,43,44,45,46]),
 (un (.ld 50 1 false (.t 49)),[42,43,44,45,46]),
 (un (.mov 51 (.t 13)),[42,43,44,45,46,47,48,49,50]),
 (un (.bin 52 .sub (.t 50) (.t 51)),[42,43,44,45,46]),
 (un (.mov 53 (.t 9)),[42,43,44,45,46,47,48,49,50,51,52]),
 (un (.bin 54 .mul (.t 52) (.t 53)),[42,43,44,45,46]),
 (un (.bin 55 .add (.t 46) (.t 54)),[42,43,44,45]),
 (un (.iad 56 1 (.t 45) (.t 55)),[42,43]),
 (un (.ld 57 1 false (.t 56)),[42,43])]
 [un (.call 58 L4 [((.t 42),true),((.t 43),false),((.t 57),false)])])
 (.drop [42,43,44,45,46,47,48,49,50,51,52,53,54,55,56,57] (.cond (.t 58) (.reg [un (.asg 6 (.c (.bool true))),
 un (.asg 5 (.c (.bool true)))])
 .skip))))))))
 (.drop [33,34,35,11,12,36,37,38,39,40,41,13,42,43,44,45,46,47,48,49,50,51,52,53,54,55,56,57,58] (.reg [un (.bin 59 .add (.t 31) (.c (.int .i64 1))),
 un (.asg 31 (.t 59))])))))
def J7:ACode:=
 (.seq (.seq (.reg [un (.mov 22 (.t 10)),
 un (.fadr 23 0 (.t 8)),
 un (.ld 24 1 false (.t 23)),
 un (.bin 25 .lss (.t 22) (.t 24))])
 (.drop [22,23,24] (.cond (.t 25) .skip
 (.exit 4))))
 (.drop [22,23,24,25] (.seq (.block 5 (.seq (.seq (.reg [un (.fadr 28 1 (.t 8)),
 un (.ld 29 1 false (.t 28)),
 un (.len 30 (.t 29)),
 un (.mov 31 (.c (.int .i64 0)))])
 (.drop [28] (.block 6 (.loop Kc))))
 (.drop [28,29,30,31,32,33,34,35,11,12,36,37,38,39,40,41,13,42,43,44,45,46,47,48,49,50,51,52,53,54,55,56,57,58,59] (.reg [un (.mov 60 (.t 9)),
 un (.fadr 61 0 (.t 2)),
 un (.ld 62 1 false (.t 61)),
 un (.bin 63 .mul (.t 60) (.t 62)),
 un (.asg 9 (.t 63))]))))
 (.drop [28,29,30,31,32,33,34,35,11,12,36,37,38,39,40,41,13,42,43,44,45,46,47,48,49,50,51,52,53,54,55,56,57,58,59,60,61,62,63] (.reg [un (.mov 26 (.t 10)),
 un (.bin 27 .add (.t 26) (.c (.int .i64 1))),
 un (.asg 10 (.t 27))])))))
def Jv:ACode:=
 (.seq (.reg [un (.bin 19 .lss (.t 18) (.t 17))])
 (.seq (.cond (.t 19) .skip
 (.exit 2))
 (.seq (.block 3 (.seq (.reg [un (.iad 20 2 (.t 16) (.t 18)),
 un (.ld 21 2 true (.t 20)),
 un (.alc 8 (.agg [.int .i64 0,.nilsl 1])),
 un (.st 2 (.t 8) (.t 21))])
 (.drop [20,21] (.seq (.reg [un (.asg 9 (.c (.int .i64 1)))])
 (.seq (.reg [un (.asg 10 (.c (.int .i64 0)))])
 (.block 4 (.loop J7)))))))
 (.drop [20,21,8,9,10,22,23,24,25,28,29,30,31,32,33,34,35,11,12,36,37,38,39,40,41,13,42,43,44,45,46,47,48,49,50,51,52,53,54,55,56,57,58,59,60,61,62,63,26,27] (.reg [un (.bin 64 .add (.t 18) (.c (.int .i64 1))),
 un (.asg 18 (.t 64))])))))
def J0:ACode:=
 (.seq (.seq (.reg [un (.mov 14 (.t 6))])
 (.cond (.t 14) .skip
 (.exit 0)))
 (.drop [14] (.block 1 (.seq (.reg [un (.asg 6 (.c (.bool false)))])
 (.seq (.reg [un (.fadr 15 1 (.t 2)),
 un (.ld 16 1 false (.t 15)),
 un (.len 17 (.t 16)),
 un (.mov 18 (.c (.int .i64 0)))])
 (.drop [15] (.block 2 (.loop Jv))))))))
def W5:ACode:=
 (.seq (.reg [un (.box 2 (.t 0)),
 un (.asg 4 (.c (.bool false)))])
 (.seq (.reg [un (.asg 5 (.c (.bool false)))])
 (.seq (.seq (.reg [un (.asg 6 (.c (.bool true)))])
 (.block 0 (.loop J0)))
 (.drop [6,14,15,16,17,18,19,20,21,8,9,10,22,23,24,25,28,29,30,31,32,33,34,35,11,12,36,37,38,39,40,41,13,42,43,44,45,46,47,48,49,50,51,52,53,54,55,56,57,58,59,60,61,62,63,26,27,64] (.seq (.reg [un (.mov 65 (.t 5)),
 un (.asg 4 (.t 65))])
 (.drop [65] .ret))))))
abbrev Xa:List RS:=[.t 4]
theorem W7:Ay Tryz.prog H8 66 W5 Xa=true:=by kernel_rfl
def S5:ACode:=
 (.seq (.seq (.reg [un (.mov 30 (.t 10)),
 un (.mov 31 (.t 0)),
 un (.len 32 (.t 31)),
 un (.bin 33 .lss (.t 30) (.t 32))])
 (.drop [30,31,32] (.cond (.t 33) .skip
 (.exit 0))))
 (.drop [30,31,32,33] (.seq (.block 1 (.seq (.reg [un (.mov 36 (.t 0)),
 un (.mov 37 (.t 10)),
 un (.iad 38 1 (.t 36) (.t 37)),
 un (.ld 39 1 false (.t 38)),
 un (.mov 40 (.t 8)),
 un (.bin 41 .eql (.t 39) (.t 40))])
 (.drop [36,37,38,39,40] (.cond (.t 41) (.reg [un (.mov 42 (.t 9)),
 un (.mov 43 (.t 7)),
 un (.bsl 44 1 [(.t 43)]),
 un (.app 45 1 (.t 42) (.t 44)),
 un (.asg 9 (.t 45))])
 (.reg [un (.mov 46 (.t 9)),
 un (.mov 47 (.t 0)),
 un (.mov 48 (.t 10)),
 un (.iad 49 1 (.t 47) (.t 48)),
 un (.ld 50 1 false (.t 49)),
 un (.bsl 51 1 [(.t 50)]),
 un (.app 52 1 (.t 46) (.t 51)),
 un (.asg 9 (.t 52))])))))
 (.drop [36,37,38,39,40,41,42,43,44,45,46,47,48,49,50,51,52] (.reg [un (.mov 34 (.t 10)),
 un (.bin 35 .add (.t 34) (.c (.int .i64 1))),
 un (.asg 10 (.t 35))])))))
def Aie:ACode:=
 (.seq (.reg [un (.asg 6 (.c (.nilsl 1)))])
 (.seq (.dreg [(un (.mov 11 (.t 0)),[]),
 (un (.mov 12 (.t 1)),[11]),
 (un (.iad 13 1 (.t 11) (.t 12)),[]),
 (un (.ld 14 1 false (.t 13)),[]),
 (un (.mov 15 (.t 0)),[11,12,13,14]),
 (un (.mov 16 (.t 2)),[11,12,13,14,15]),
 (un (.iad 17 1 (.t 15) (.t 16)),[11,12,13,14]),
 (un (.ld 18 1 false (.t 17)),[11,12,13,14]),
 (un (.call 19 Q3 [((.t 14),false),((.t 18),false)]),[]),
 (un (.mov 20 (.t 0)),[11,12,13,14,15,16,17,18,19]),
 (un (.mov 21 (.t 1)),[11,12,13,14,15,16,17,18,19,20]),
 (un (.iad 22 1 (.t 20) (.t 21)),[11,12,13,14,15,16,17,18,19]),
 (un (.ld 23 1 false (.t 22)),[11,12,13,14,15,16,17,18,19]),
 (un (.mov 24 (.t 0)),[11,12,13,14,15,16,17,18,19,20,21,22,23]),
 (un (.mov 25 (.t 2)),[11,12,13,14,15,16,17,18,19,20,21,22,23,24]),
 (un (.iad 26 1 (.t 24) (.t 25)),[11,12,13,14,15,16,17,18,19,20,21,22,23]),
 (un (.ld 27 1 false (.t 26)),[11,12,13,14,15,16,17,18,19,20,21,22,23])]
 [un (.call 28 To [((.t 23),false),((.t 27),false)]),
 un (.asg 7 (.t 19)),
 un (.asg 8 (.t 28))])
 (.drop [11,12,13,14,15,16,17,18,19,20,21,22,23,24,25,26,27,28] (.seq (.reg [un (.bsl 29 1 []),
 un (.asg 9 (.t 29))])
 (.drop [29] (.seq (.seq (.reg [un (.asg 10 (.c (.int .i64 0)))])
 (.block 0 (.loop S5)))
 (.drop [10,30,31,32,33,36,37,38,39,40,41,42,43,44,45,46,47,48,49,50,51,52,34,35] (.seq (.reg [un (.mov 53 (.t 9)),
 un (.asg 6 (.t 53))])
 (.drop [53] .ret)))))))))
abbrev Ai8:List RS:=[.t 6]
theorem Akv:Ay Tryz.prog Is 54 Aie Ai8=true:=by kernel_rfl
def Akw:ACode:=
 (.seq (.reg [un (.asg 6 (.c (.bool false))),
 un (.asg 7 (.c (.bool false)))])
 (.seq (.seq (.reg [un (.mov 8 (.t 0)),
 un (.mov 9 (.t 1)),
 un (.mov 10 (.t 2)),
 un (.call 11 Iy [((.t 8),false),((.t 9),false),((.t 10),false)]),
 un (.un 12 .not (.t 11))])
 (.drop [8,9,10,11] (.cond (.t 12) (.seq (.reg [un (.asg 6 (.c (.bool false))),
 un (.asg 7 (.c (.bool false)))])
 .ret)
 .skip)))
 (.drop [8,9,10,11,12] (.seq (.reg [un (.mov 13 (.t 1)),
 un (.mov 14 (.t 2)),
 un (.call 15 Jh [((.t 13),false),((.t 14),false)]),
 un (.asg 6 (.t 15)),
 un (.asg 7 (.c (.bool true)))])
 (.drop [13,14,15] .ret)))))
abbrev Ai3:List RS:=[.t 6,.t 7]
theorem Ah8:Ay Tryz.prog Rh 16 Akw Ai3=true:=by kernel_rfl
def Qi:ACode:=
 (.seq (.seq (.reg [un (.mov 8 (.t 4)),
 un (.mov 9 (.t 0)),
 un (.len 10 (.t 9)),
 un (.bin 11 .lss (.t 8) (.t 10))])
 (.drop [8,9,10] (.cond (.t 11) .skip
 (.exit 0))))
 (.drop [8,9,10,11] (.seq (.block 1 (.reg [un (.mov 14 (.t 3)),
 un (.bsl 15 1 [(.c (.int .i64 (-1)))]),
 un (.app 16 1 (.t 14) (.t 15)),
 un (.asg 3 (.t 16))]))
 (.drop [14,15,16] (.reg [un (.mov 12 (.t 4)),
 un (.bin 13 .add (.t 12) (.c (.int .i64 1))),
 un (.asg 4 (.t 13))])))))
def Qf:ACode:=
 (.seq (.seq (.reg [un (.mov 19 (.t 6)),
 un (.mov 20 (.t 0)),
 un (.len 21 (.t 20)),
 un (.bin 22 .lss (.t 19) (.t 21))])
 (.drop [19,20,21] (.cond (.t 22) .skip
 (.exit 2))))
 (.drop [19,20,21,22] (.seq (.block 3 (.seq (.reg [un (.mov 25 (.t 0)),
 un (.mov 26 (.t 6)),
 un (.mov 27 (.t 0)),
 un (.len 28 (.t 27)),
 un (.mk 29 1 (.bool false) (.t 28)),
 un (.mov 30 (.t 3)),
 un (.call 31 Dp [((.t 25),false),((.t 26),false),((.t 29),true),((.t 30),true)])])
 (.drop [25,26,27,28,29,30] (.cond (.t 31) (.reg [un (.mov 32 (.t 5)),
 un (.bin 33 .sub (.t 32) (.c (.int .i64 1))),
 un (.asg 5 (.t 33))])
 .skip))))
 (.drop [25,26,27,28,29,30,31,32,33] (.reg [un (.mov 23 (.t 6)),
 un (.bin 24 .add (.t 23) (.c (.int .i64 1))),
 un (.asg 6 (.t 24))])))))
def Ag9:ACode:=
 (.seq (.reg [un (.asg 2 (.c (.int .i64 0)))])
 (.seq (.reg [un (.bsl 7 1 []),
 un (.asg 3 (.t 7))])
 (.drop [7] (.seq (.seq (.reg [un (.asg 4 (.c (.int .i64 0)))])
 (.block 0 (.loop Qi)))
 (.drop [4,8,9,10,11,14,15,16,12,13] (.seq (.reg [un (.mov 17 (.t 0)),
 un (.len 18 (.t 17)),
 un (.asg 5 (.t 18))])
 (.drop [17,18] (.seq (.seq (.reg [un (.asg 6 (.c (.int .i64 0)))])
 (.block 2 (.loop Qf)))
 (.drop [6,19,20,21,22,25,26,27,28,29,30,31,32,33,23,24] (.seq (.reg [un (.mov 34 (.t 5)),
 un (.asg 2 (.t 34))])
 (.drop [34] .ret)))))))))))
abbrev Agk:List RS:=[.t 2]
theorem Ahh:Ay Tryz.prog Ob 35 Ag9 Agk=true:=by kernel_rfl
def Aav:ACode:=
 (.seq (.reg [un (.asg 4 (.c (.int .i64 0)))])
 (.seq (.reg [un (.mov 5 (.t 1)),
 un (.mov 6 (.t 0)),
 un (.mov 7 (.t 1)),
 un (.len 8 (.t 7)),
 un (.call 9 B5 [((.t 6),true),((.t 8),false)]),
 un (.iad 10 1 (.t 5) (.t 9)),
 un (.ld 11 1 false (.t 10)),
 un (.asg 4 (.t 11))])
 (.drop [5,6,7,8,9,10,11] .ret)))
abbrev Aa9:List RS:=[.t 4]
theorem Aaw:Ay Tryz.prog B6 12 Aav Aa9=true:=by kernel_rfl
def Zh:ACode:=
 (.seq (.reg [un (.fadr 5 0 (.t 1)),
 un (.ld 6 1 false (.t 5)),
 un (.bin 7 .lss (.t 6) (.c (.int .i64 1))),
 un (.asg 8 (.t 7)),
 ⟨some (8,false),.fadr 9 0 (.t 1)⟩,
 ⟨some (8,false),.ld 10 1 false (.t 9)⟩,
 ⟨some (8,false),.bin 11 .gtr (.t 10) (.c (.int .i64 8))⟩,
 un (.pick 12 (.t 8) (.c (.bool true)) (.t 11)),
 un (.asg 13 (.t 12)),
 ⟨some (13,false),.fadr 14 1 (.t 1)⟩,
 ⟨some (13,false),.ld 15 1 false (.t 14)⟩,
 ⟨some (13,false),.len 16 (.t 15)⟩,
 ⟨some (13,false),.bin 17 .gtr (.t 16) (.c (.int .i64 4))⟩,
 un (.pick 18 (.t 13) (.c (.bool true)) (.t 17))])
 (.drop [5,6,7,8,9,10,11,12,13,14,15,16,17] (.cond (.t 18) (.seq (.reg [un (.asg 2 (.c (.bool false)))])
 .ret)
 .skip)))
def O9:ACode:=
 (.seq (.reg [un (.bin 23 .lss (.t 22) (.t 21))])
 (.seq (.cond (.t 23) .skip
 (.exit 0))
 (.seq (.block 1 (.seq (.reg [un (.iad 24 2 (.t 20) (.t 22)),
 un (.ld 25 2 true (.t 24)),
 un (.alc 4 (.agg [.int .i64 0,.nilsl 1])),
 un (.st 2 (.t 4) (.t 25))])
 (.drop [24,25] (.seq (.reg [un (.ld 26 2 true (.t 4)),
 un (.fadr 27 0 (.t 1)),
 un (.ld 28 1 false (.t 27)),
 un (.call 29 X1 [((.t 26),false),((.t 28),false)]),
 un (.un 30 .not (.t 29))])
 (.drop [26,27,28,29] (.cond (.t 30) (.seq (.reg [un (.asg 2 (.c (.bool false)))])
 .ret)
 .skip))))))
 (.drop [24,25,4,26,27,28,29,30] (.reg [un (.bin 31 .add (.t 22) (.c (.int .i64 1))),
 un (.asg 22 (.t 31))])))))
def Afp:ACode:=
 (.seq (.reg [un (.box 1 (.t 0)),
 un (.asg 2 (.c (.bool false)))])
 (.seq (.cut Zh)
 (.drop [5,6,7,8,9,10,11,12,13,14,15,16,17,18] (.seq (.seq (.reg [un (.fadr 19 1 (.t 1)),
 un (.ld 20 1 false (.t 19)),
 un (.len 21 (.t 20)),
 un (.mov 22 (.c (.int .i64 0)))])
 (.drop [19] (.block 0 (.loop O9))))
 (.drop [19,20,21,22,23,24,25,4,26,27,28,29,30,31] (.seq (.reg [un (.asg 2 (.c (.bool true)))])
 .ret))))))
abbrev Ae8:List RS:=[.t 2]
theorem Afq:Ay Tryz.prog M9 32 Afp Ae8=true:=by kernel_rfl
def Afb:ACode:=
 (.seq (.reg [un (.fadr 4 0 (.t 1)),
 un (.ld 5 1 false (.t 4)),
 un (.call 6 Oa [((.t 5),false),((.c (.int .i64 1)),false),((.c (.int .i64 8)),false)]),
 un (.un 7 .not (.t 6)),
 un (.asg 8 (.t 7)),
 ⟨some (8,false),.fadr 9 1 (.t 1)⟩,
 ⟨some (8,false),.ld 10 1 false (.t 9)⟩,
 ⟨some (8,false),.len 11 (.t 10)⟩,
 ⟨some (8,false),.bin 12 .gtr (.t 11) (.c (.int .i64 4))⟩,
 un (.pick 13 (.t 8) (.c (.bool true)) (.t 12))])
 (.drop [4,5,6,7,8,9,10,11,12] (.cond (.t 13) (.seq (.reg [un (.asg 2 (.c (.bool false)))])
 .ret)
 .skip)))
def Vc:ACode:=
 (.seq (.seq (.reg [un (.mov 14 (.t 3)),
 un (.fadr 15 1 (.t 1)),
 un (.ld 16 1 false (.t 15)),
 un (.len 17 (.t 16)),
 un (.bin 18 .lss (.t 14) (.t 17))])
 (.drop [14,15,16,17] (.cond (.t 18) .skip
 (.exit 0))))
 (.drop [14,15,16,17,18] (.seq (.block 1 (.seq (.dreg [(un (.fadr 21 0 (.t 1)),[]),
 (un (.ld 22 1 false (.t 21)),[]),
 (un (.fadr 23 1 (.t 1)),[21,22]),
 (un (.ld 24 1 false (.t 23)),[21,22]),
 (un (.mov 25 (.t 3)),[21,22,23,24]),
 (un (.iad 26 2 (.t 24) (.t 25)),[21,22]),
 (un (.ld 27 2 true (.t 26)),[21,22])]
 [un (.call 28 Xz [((.t 22),false),((.t 27),false)]),
 un (.un 29 .not (.t 28))])
 (.drop [21,22,23,24,25,26,27,28] (.cond (.t 29) (.seq (.reg [un (.asg 2 (.c (.bool false)))])
 .ret)
 .skip))))
 (.drop [21,22,23,24,25,26,27,28,29] (.reg [un (.mov 19 (.t 3)),
 un (.bin 20 .add (.t 19) (.c (.int .i64 1))),
 un (.asg 3 (.t 20))])))))
def Ak6:ACode:=
 (.seq (.reg [un (.box 1 (.t 0)),
 un (.asg 2 (.c (.bool false)))])
 (.seq (.cut Afb)
 (.drop [4,5,6,7,8,9,10,11,12,13] (.seq (.seq (.reg [un (.asg 3 (.c (.int .i64 0)))])
 (.block 0 (.loop Vc)))
 (.drop [3,14,15,16,17,18,21,22,23,24,25,26,27,28,29,19,20] (.seq (.reg [un (.asg 2 (.c (.bool true)))])
 .ret))))))
abbrev Ak3:List RS:=[.t 2]
theorem Ale:Ay Tryz.prog Ts 30 Ak6 Ak3=true:=by kernel_rfl
def Ad4:ACode:=
 (.seq (.reg [un (.asg 4 (.c (.bool false)))])
 (.seq (.reg [un (.mov 5 (.t 0)),
 un (.mov 6 (.t 1)),
 un (.call 7 B5 [((.t 5),true),((.t 6),false)]),
 un (.bin 8 .eql (.t 7) (.c (.int .i64 0))),
 un (.asg 4 (.t 8))])
 (.drop [5,6,7,8] .ret)))
abbrev Aes:List RS:=[.t 4]
theorem Ae2:Ay Tryz.prog M1 9 Ad4 Aes=true:=by kernel_rfl
def L0:ACode:=
 (.seq (.reg [un (.bin 14 .lss (.t 13) (.t 12))])
 (.seq (.cond (.t 14) .skip
 (.exit 0))
 (.seq (.block 1 (.seq (.reg [un (.iad 15 2 (.t 11) (.t 13)),
 un (.ld 16 2 true (.t 15)),
 un (.alc 7 (.agg [.int .i64 0,.int .i64 0])),
 un (.st 2 (.t 7) (.t 16))])
 (.drop [15,16] (.reg [un (.mov 17 (.t 5)),
 un (.aad 18 1 2 (.t 7) (.c (.int .i64 0))),
 un (.ld 19 1 false (.t 18)),
 un (.aad 20 1 2 (.t 7) (.c (.int .i64 1))),
 un (.ld 21 1 false (.t 20)),
 un (.call 22 L4 [((.t 17),true),((.t 19),false),((.t 21),false)])]))))
 (.drop [15,16,7,17,18,19,20,21,22] (.reg [un (.bin 23 .add (.t 13) (.c (.int .i64 1))),
 un (.asg 13 (.t 23))])))))
def Zr:ACode:=
 (.seq (.reg [un (.box 2 (.t 0)),
 un (.asg 4 (.c (.nilsl 1)))])
 (.seq (.reg [un (.fadr 8 0 (.t 2)),
 un (.ld 9 1 false (.t 8)),
 un (.call 10 Ik [((.t 9),false)]),
 un (.asg 5 (.t 10))])
 (.drop [8,9,10] (.seq (.seq (.reg [un (.mov 11 (.t 1)),
 un (.len 12 (.t 11)),
 un (.mov 13 (.c (.int .i64 0)))])
 (.block 0 (.loop L0)))
 (.drop [11,12,13,14,15,16,7,17,18,19,20,21,22,23] (.seq (.reg [un (.ld 24 2 true (.t 2)),
 un (.mov 25 (.t 5)),
 un (.call 26 H8 [((.t 24),false),((.t 25),true)])])
 (.drop [24,25,26] (.seq (.reg [un (.mov 27 (.t 5)),
 un (.asg 4 (.t 27))])
 (.drop [27] .ret)))))))))
abbrev Zq:List RS:=[.t 4]
theorem Zg:Ay Tryz.prog Jq 28 Zr Zq=true:=by kernel_rfl
def T7:ACode:=
 (.seq (.seq (.reg [un (.mov 9 (.t 6)),
 un (.mov 10 (.t 1)),
 un (.len 11 (.t 10)),
 un (.bin 12 .lss (.t 9) (.t 11))])
 (.drop [9,10,11] (.cond (.t 12) .skip
 (.exit 0))))
 (.drop [9,10,11,12] (.seq (.block 1 (.reg [un (.mov 15 (.t 5)),
 un (.mov 16 (.t 6)),
 un (.mov 17 (.t 1)),
 un (.mov 18 (.t 6)),
 un (.iad 19 1 (.t 17) (.t 18)),
 un (.ld 20 1 false (.t 19)),
 un (.call 21 Is [((.t 15),false),((.t 16),false),((.t 20),false)]),
 un (.asg 5 (.t 21))]))
 (.drop [15,16,17,18,19,20,21] (.reg [un (.mov 13 (.t 6)),
 un (.bin 14 .add (.t 13) (.c (.int .i64 1))),
 un (.asg 6 (.t 14))])))))
def Amd:ACode:=
 (.seq (.reg [un (.asg 4 (.c (.nilsl 1)))])
 (.seq (.reg [un (.mov 7 (.t 0)),
 un (.call 8 Lw [((.t 7),false)]),
 un (.asg 5 (.t 8))])
 (.drop [7,8] (.seq (.seq (.reg [un (.asg 6 (.c (.int .i64 0)))])
 (.block 0 (.loop T7)))
 (.drop [6,9,10,11,12,15,16,17,18,19,20,21,13,14] (.seq (.reg [un (.mov 22 (.t 5)),
 un (.asg 4 (.t 22))])
 (.drop [22] .ret)))))))
abbrev Ami:List RS:=[.t 4]
theorem Alc:Ay Tryz.prog Tl 23 Amd Ami=true:=by kernel_rfl
end Go.Proofs.YtjcekpmojnnmbaaGreat.Ax
