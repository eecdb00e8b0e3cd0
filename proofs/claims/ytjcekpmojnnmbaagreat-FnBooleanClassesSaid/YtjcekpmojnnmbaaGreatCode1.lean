/-
  The small code of the functions, written by program; that the program's code is this one, the kernel looks at.
-/
import Derived.Test.YtjcekpmojnnmbaaGreatAx3
import Derived.Test.YtjcekpmojnnmbaaGreatProg
import Derived.KernelRfl
import Derived.Test.YtjcekpmojnnmbaaGreatNum
namespace Go.Proofs.YtjcekpmojnnmbaaGreat.Ax
open Go
set_option maxRecDepth 100000
def Aqb:ACode:=
 (.seq (.reg [un (.asg 2 (.c (.bool false)))])
 (.seq (.reg [un (.mov 3 (.t 0)),
 un (.len 4 (.t 3)),
 un (.bin 5 .gtr (.t 4) (.c (.int .i64 65536))),
 un (.asg 2 (.t 5))])
 (.drop [3,4,5] .ret)))
abbrev Ary:List RS:=[.t 2]
theorem Aql:A4 Tryz.prog X1 6 Aqb Ary=true:=by kernel_rfl
def Ur:ACode:=
 (.seq (.seq (.reg [un (.mov 11 (.t 5)),
 un (.mov 12 (.t 0)),
 un (.len 13 (.t 12)),
 un (.bin 14 .lss (.t 11) (.t 13))])
 (.drop [11,12,13] (.cond (.t 14) .skip
 (.exit 0))))
 (.drop [11,12,13,14] (.seq (.block 1 (.seq (.dreg [(un (.mov 17 (.t 0)),[]),
 (un (.mov 18 (.t 5)),[17]),
 (un (.iad 19 1 (.t 17) (.t 18)),[]),
 (un (.ld 20 1 false (.t 19)),[]),
 (un (.mov 21 (.t 1)),[17,18,19,20]),
 (un (.mov 22 (.t 5)),[17,18,19,20,21]),
 (un (.iad 23 1 (.t 21) (.t 22)),[17,18,19,20]),
 (un (.ld 24 1 false (.t 23)),[17,18,19,20])]
 [un (.binb 25 .neq (.t 20) (.t 24))])
 (.drop [17,18,19,20,21,22,23,24] (.cond (.t 25) (.seq (.reg [un (.asg 4 (.c (.bool false)))])
 .ret)
 .skip))))
 (.drop [17,18,19,20,21,22,23,24,25] (.reg [un (.mov 15 (.t 5)),
 un (.bin 16 .add (.t 15) (.c (.int .i64 1))),
 un (.asg 5 (.t 16))])))))
def Aky:ACode:=
 (.seq (.reg [un (.asg 4 (.c (.bool false)))])
 (.seq (.seq (.reg [un (.mov 6 (.t 0)),
 un (.len 7 (.t 6)),
 un (.mov 8 (.t 1)),
 un (.len 9 (.t 8)),
 un (.bin 10 .neq (.t 7) (.t 9))])
 (.drop [6,7,8,9] (.cond (.t 10) (.seq (.reg [un (.asg 4 (.c (.bool false)))])
 .ret)
 .skip)))
 (.drop [6,7,8,9,10] (.seq (.seq (.reg [un (.asg 5 (.c (.int .i64 0)))])
 (.block 0 (.loop Ur)))
 (.drop [5,11,12,13,14,17,18,19,20,21,22,23,24,25,15,16] (.seq (.reg [un (.asg 4 (.c (.bool true)))])
 .ret))))))
abbrev Alq:List RS:=[.t 4]
theorem Al1:A4 Tryz.prog Np 26 Aky Alq=true:=by kernel_rfl
def Al6:ACode:=
 (.seq (.reg [un (.asg 2 (.c (.bool false)))])
 (.seq (.reg [un (.mov 3 (.t 0)),
 un (.bin 4 .geq (.t 3) (.c (.int .i64 1))),
 un (.asg 5 (.t 4)),
 ⟨some (5,true),.mov 6 (.t 0)⟩,
 ⟨some (5,true),.bin 7 .leq (.t 6) (.c (.int .i64 8))⟩,
 un (.pick 8 (.t 5) (.t 7) (.c (.bool false))),
 un (.asg 2 (.t 8))])
 (.drop [3,4,5,6,7,8] .ret)))
abbrev Amg:List RS:=[.t 2]
theorem Ak4:A4 Tryz.prog S0 9 Al6 Amg=true:=by kernel_rfl
def Yb:ACode:=
 (.seq (.dreg [(un (.mov 4 (.t 0)),[]),
 (un (.nck 5 (.t 4)),[]),
 (un (.fadr 6 1 (.t 5)),[]),
 (un (.ld 7 1 false (.t 6)),[]),
 (un (.mov 8 (.t 0)),[4,5,6,7]),
 (un (.nck 9 (.t 8)),[4,5,6,7]),
 (un (.fadr 10 0 (.t 9)),[4,5,6,7]),
 (un (.ld 11 1 false (.t 10)),[4,5,6,7]),
 (un (.len 12 (.t 11)),[4,5,6,7])]
 [un (.bin 13 .lss (.t 7) (.t 12))])
 (.drop [4,5,6,7,8,9,10,11,12] (.cond (.t 13) (.dreg [(un (.mov 14 (.t 0)),[]),
 (un (.nck 15 (.t 14)),[]),
 (un (.fadr 16 0 (.t 15)),[]),
 (un (.ld 17 1 false (.t 16)),[]),
 (un (.mov 18 (.t 0)),[14,15,16,17]),
 (un (.nck 19 (.t 18)),[14,15,16,17]),
 (un (.fadr 20 1 (.t 19)),[14,15,16,17]),
 (un (.ld 21 1 false (.t 20)),[14,15,16,17])]
 [un (.iad 22 1 (.t 17) (.t 21)),
 un (.ld 23 1 false (.t 22)),
 un (.cnv 24 .i64 (.t 23)),
 un (.asg 3 (.t 24))])
 .skip)))
def Ab0:ACode:=
 (.seq (.reg [un (.asg 2 (.c (.int .i64 0)))])
 (.seq (.reg [un (.asg 3 (.c (.int .i64 0)))])
 (.seq (.cut Yb)
 (.drop [4,5,6,7,8,9,10,11,12,13,14,15,16,17,18,19,20,21,22,23,24] (.seq (.reg [un (.mov 25 (.t 0)),
 un (.nck 26 (.t 25)),
 un (.fadr 27 1 (.t 26)),
 un (.ld 28 1 false (.t 27)),
 un (.bin 29 .add (.t 28) (.c (.int .i64 1))),
 un (.nck 30 (.t 25)),
 un (.fadr 31 1 (.t 30)),
 un (.st 1 (.t 31) (.t 29))])
 (.drop [25,26,27,28,29,30,31] (.seq (.reg [un (.mov 32 (.t 0)),
 un (.mov 33 (.t 0)),
 un (.nck 34 (.t 33)),
 un (.fadr 35 2 (.t 34)),
 un (.ld 36 1 false (.t 35)),
 un (.bin 37 .mul (.t 36) (.c (.int .u64 6364136223846793005))),
 un (.mov 38 (.t 3)),
 un (.cnv 39 .u64 (.t 38)),
 un (.bin 40 .add (.t 37) (.t 39)),
 un (.bin 41 .add (.t 40) (.c (.int .u64 550289))),
 un (.nck 42 (.t 32)),
 un (.fadr 43 2 (.t 42)),
 un (.st 1 (.t 43) (.t 41))])
 (.drop [32,33,34,35,36,37,38,39,40,41,42,43] (.seq (.seq (.dreg [(un (.mov 44 (.t 0)),[]),
 (un (.nck 45 (.t 44)),[]),
 (un (.fadr 46 1 (.t 45)),[]),
 (un (.ld 47 1 false (.t 46)),[]),
 (un (.mov 48 (.t 0)),[44,45,46,47]),
 (un (.nck 49 (.t 48)),[44,45,46,47]),
 (un (.fadr 50 0 (.t 49)),[44,45,46,47]),
 (un (.ld 51 1 false (.t 50)),[44,45,46,47]),
 (un (.len 52 (.t 51)),[44,45,46,47])]
 [un (.bin 53 .leq (.t 47) (.t 52))])
 (.drop [44,45,46,47,48,49,50,51,52] (.cond (.t 53) (.seq (.reg [un (.mov 54 (.t 3)),
 un (.asg 2 (.t 54))])
 (.drop [54] .ret))
 .skip)))
 (.drop [44,45,46,47,48,49,50,51,52,53,54] (.seq (.reg [un (.mov 55 (.t 0)),
 un (.nck 56 (.t 55)),
 un (.fadr 57 2 (.t 56)),
 un (.ld 58 1 false (.t 57)),
 un (.bin 59 .shr (.t 58) (.c (.int .u64 40))),
 un (.bin 60 .and (.t 59) (.c (.int .u64 255))),
 un (.cnv 61 .i64 (.t 60)),
 un (.asg 2 (.t 61))])
 (.drop [55,56,57,58,59,60,61] .ret))))))))))))
abbrev Acf:List RS:=[.t 2]
theorem Acm:A4 Tryz.prog Ij 62 Ab0 Acf=true:=by kernel_rfl
def Ld:ACode:=
 (.seq (.reg [un (.bin 12 .lss (.t 11) (.t 10))])
 (.seq (.cond (.t 12) .skip
 (.exit 0))
 (.seq (.block 1 (.seq (.reg [un (.mov 13 (.t 11)),
 un (.asg 6 (.t 13))])
 (.drop [13] (.reg [un (.mov 14 (.t 5)),
 un (.mov 15 (.t 6)),
 un (.mov 16 (.t 1)),
 un (.iad 17 1 (.t 14) (.t 15)),
 un (.st 1 (.t 17) (.t 16))]))))
 (.drop [13,6,14,15,16,17] (.reg [un (.bin 18 .add (.t 11) (.c (.int .i64 1))),
 un (.asg 11 (.t 18))])))))
def Xu:ACode:=
 (.seq (.reg [un (.asg 4 (.c (.nilsl 1)))])
 (.seq (.reg [un (.mov 7 (.t 0)),
 un (.mk 8 1 (.int .i64 0) (.t 7)),
 un (.asg 5 (.t 8))])
 (.drop [7,8] (.seq (.seq (.reg [un (.mov 9 (.t 5)),
 un (.len 10 (.t 9)),
 un (.mov 11 (.c (.int .i64 0)))])
 (.drop [9] (.block 0 (.loop Ld))))
 (.drop [9,10,11,12,13,6,14,15,16,17,18] (.seq (.reg [un (.mov 19 (.t 5)),
 un (.asg 4 (.t 19))])
 (.drop [19] .ret)))))))
abbrev Yk:List RS:=[.t 4]
theorem Xx:A4 Tryz.prog Iz 20 Xu Yk=true:=by kernel_rfl
def Aok:ACode:=
 (.seq (.reg [un (.asg 2 (.c (.nilsl 1)))])
 (.seq (.reg [un (.bsl 3 1 []),
 un (.mov 4 (.t 0)),
 un (.app 5 1 (.t 3) (.t 4)),
 un (.asg 2 (.t 5))])
 (.drop [3,4,5] .ret)))
abbrev Ao0:List RS:=[.t 2]
theorem Aox:A4 Tryz.prog Pk 6 Aok Ao0=true:=by kernel_rfl
def V5:ACode:=
 (.seq (.reg [un (.box 2 (.t 0)),
 un (.alc 4 (.agg [.int .i64 0,.int .i64 0,.nilsl 3])),
 un (.asg 5 (.c (.bool false)))])
 (.seq (.seq (.reg [un (.mov 6 (.t 1)),
 un (.len 7 (.t 6)),
 un (.bin 8 .gtr (.t 7) (.c (.int .i64 40)))])
 (.drop [6,7] (.cond (.t 8) (.seq (.reg [un (.bld 9 [.int .i64 0,.int .i64 0,.nilsl 3] []),
 un (.st 3 (.t 4) (.t 9)),
 un (.asg 5 (.c (.bool false)))])
 (.drop [9] .ret))
 .skip)))
 (.drop [6,7,8,9] (.seq (.reg [un (.fadr 10 0 (.t 2)),
 un (.ld 11 1 false (.t 10)),
 un (.fadr 12 1 (.t 2)),
 un (.ld 13 1 false (.t 12)),
 un (.mov 14 (.t 1)),
 un (.bld 15 [.int .i64 0,.int .i64 0,.nilsl 3] [(0,1,(.t 11)),(1,1,(.t 13)),(2,1,(.t 14))]),
 un (.st 3 (.t 4) (.t 15)),
 un (.asg 5 (.c (.bool true)))])
 (.drop [10,11,12,13,14,15] .ret)))))
abbrev Vo:List RS:=[.c 4 3 true,.t 5]
theorem Vh:A4 Tryz.prog Hk 16 V5 Vo=true:=by kernel_rfl
def Wo:ACode:=
 (.seq (.seq (.reg [un (.mov 6 (.t 1)),
 un (.bin 7 .gtr (.t 6) (.c (.int .i64 0)))])
 (.drop [6] (.cond (.t 7) .skip
 (.exit 0))))
 (.drop [6,7] (.seq (.block 1 (.reg [un (.mov 10 (.t 5)),
 un (.mov 11 (.t 0)),
 un (.bin 12 .mul (.t 10) (.t 11)),
 un (.asg 5 (.t 12))]))
 (.drop [10,11,12] (.reg [un (.mov 8 (.t 1)),
 un (.bin 9 .sub (.t 8) (.c (.int .i64 1))),
 un (.asg 1 (.t 9))])))))
def Ans:ACode:=
 (.seq (.reg [un (.asg 4 (.c (.int .i64 0)))])
 (.seq (.reg [un (.asg 5 (.c (.int .i64 1)))])
 (.seq (.block 0 (.loop Wo))
 (.drop [6,7,10,11,12,8,9] (.seq (.reg [un (.mov 13 (.t 5)),
 un (.asg 4 (.t 13))])
 (.drop [13] .ret))))))
abbrev Ani:List RS:=[.t 4]
theorem Aos:A4 Tryz.prog Me 14 Ans Ani=true:=by kernel_rfl
def Wn:ACode:=
 (.seq (.reg [un (.bin 13 .lss (.t 12) (.t 11))])
 (.seq (.cond (.t 13) .skip
 (.exit 0))
 (.seq (.block 1 (.seq (.reg [un (.iad 14 1 (.t 10) (.t 12)),
 un (.ld 15 1 false (.t 14)),
 un (.asg 5 (.t 15))])
 (.drop [14,15] (.reg [un (.mov 16 (.t 3)),
 un (.mov 17 (.t 5)),
 un (.bin 18 .shr (.t 17) (.c (.int .u64 8))),
 un (.cnv 19 .u8 (.t 18)),
 un (.mov 20 (.t 5)),
 un (.cnv 21 .u8 (.t 20)),
 un (.bsl 22 1 [(.t 19),(.t 21)]),
 un (.app 23 1 (.t 16) (.t 22)),
 un (.asg 3 (.t 23))]))))
 (.drop [14,15,5,16,17,18,19,20,21,22,23] (.reg [un (.bin 24 .add (.t 12) (.c (.int .i64 1))),
 un (.asg 12 (.t 24))])))))
def Aoy:ACode:=
 (.seq (.reg [⟨none,.asg 2 (.c (.str ⟨#[]⟩))⟩])
 (.seq (.reg [un (.mov 6 (.t 0)),
 un (.len 7 (.t 6)),
 un (.bin 8 .mul (.c (.int .i64 2)) (.t 7)),
 un (.mkc 9 1 (.int .u8 0) (.t 8)),
 un (.asg 3 (.t 9))])
 (.drop [6,7,8,9] (.seq (.seq (.reg [un (.mov 10 (.t 0)),
 un (.len 11 (.t 10)),
 un (.mov 12 (.c (.int .i64 0)))])
 (.block 0 (.loop Wn)))
 (.drop [10,11,12,13,14,15,5,16,17,18,19,20,21,22,23,24] (.seq (.reg [un (.mov 25 (.t 3)),
 un (.bstr 26 (.t 25)),
 un (.asg 2 (.t 26))])
 (.drop [25,26] .ret)))))))
abbrev Aou:List RS:=[.t 2]
theorem Aph:A4 Tryz.prog Pn 27 Aoy Aou=true:=by kernel_rfl
def Tt:ACode:=
 (.seq (.seq (.reg [un (.mov 11 (.t 5)),
 un (.mov 12 (.t 0)),
 un (.len 13 (.t 12)),
 un (.bin 14 .lss (.t 11) (.t 13))])
 (.drop [11,12,13] (.cond (.t 14) .skip
 (.exit 0))))
 (.drop [11,12,13,14] (.seq (.block 1 (.seq (.dreg [(un (.mov 17 (.t 0)),[]),
 (un (.mov 18 (.t 5)),[17]),
 (un (.iad 19 1 (.t 17) (.t 18)),[]),
 (un (.ld 20 1 false (.t 19)),[]),
 (un (.mov 21 (.t 1)),[17,18,19,20]),
 (un (.mov 22 (.t 5)),[17,18,19,20,21]),
 (un (.iad 23 1 (.t 21) (.t 22)),[17,18,19,20]),
 (un (.ld 24 1 false (.t 23)),[17,18,19,20])]
 [un (.bin 25 .neq (.t 20) (.t 24))])
 (.drop [17,18,19,20,21,22,23,24] (.cond (.t 25) (.seq (.reg [un (.asg 4 (.c (.bool false)))])
 .ret)
 .skip))))
 (.drop [17,18,19,20,21,22,23,24,25] (.reg [un (.mov 15 (.t 5)),
 un (.bin 16 .add (.t 15) (.c (.int .i64 1))),
 un (.asg 5 (.t 16))])))))
def Alp:ACode:=
 (.seq (.reg [un (.asg 4 (.c (.bool false)))])
 (.seq (.seq (.reg [un (.mov 6 (.t 0)),
 un (.len 7 (.t 6)),
 un (.mov 8 (.t 1)),
 un (.len 9 (.t 8)),
 un (.bin 10 .neq (.t 7) (.t 9))])
 (.drop [6,7,8,9] (.cond (.t 10) (.seq (.reg [un (.asg 4 (.c (.bool false)))])
 .ret)
 .skip)))
 (.drop [6,7,8,9,10] (.seq (.seq (.reg [un (.asg 5 (.c (.int .i64 0)))])
 (.block 0 (.loop Tt)))
 (.drop [5,11,12,13,14,17,18,19,20,21,22,23,24,25,15,16] (.seq (.reg [un (.asg 4 (.c (.bool true)))])
 .ret))))))
abbrev Al0:List RS:=[.t 4]
theorem Ame:A4 Tryz.prog S8 26 Alp Al0=true:=by kernel_rfl
def Mm:ACode:=
 (.seq (.seq (.reg [un (.mov 8 (.t 6)),
 un (.mov 9 (.t 0)),
 un (.bin 10 .lss (.t 8) (.t 9))])
 (.drop [8,9] (.cond (.t 10) .skip
 (.exit 0))))
 (.drop [8,9,10] (.seq (.block 1 (.reg [un (.mov 13 (.t 5)),
 un (.mov 14 (.t 1)),
 un (.bsl 15 1 [(.t 14)]),
 un (.app 16 1 (.t 13) (.t 15)),
 un (.asg 5 (.t 16))]))
 (.drop [13,14,15,16] (.reg [un (.mov 11 (.t 6)),
 un (.bin 12 .add (.t 11) (.c (.int .i64 1))),
 un (.asg 6 (.t 12))])))))
def Abp:ACode:=
 (.seq (.reg [un (.asg 4 (.c (.nilsl 1)))])
 (.seq (.reg [un (.bsl 7 1 []),
 un (.asg 5 (.t 7))])
 (.drop [7] (.seq (.seq (.reg [un (.asg 6 (.c (.int .i64 0)))])
 (.block 0 (.loop Mm)))
 (.drop [6,8,9,10,13,14,15,16,11,12] (.seq (.reg [un (.mov 17 (.t 5)),
 un (.asg 4 (.t 17))])
 (.drop [17] .ret)))))))
abbrev Abm:List RS:=[.t 4]
theorem Abb:A4 Tryz.prog Kz 18 Abp Abm=true:=by kernel_rfl
def Alt:ACode:=
 (.seq (.reg [un (.asg 0 (.c (.nilsl 2)))])
 (.seq (.reg [un (.bsl 1 1 [(.c (.int .i64 0)),(.c (.int .i64 0)),(.c (.int .i64 0)),(.c (.int .i64 1))]),
 un (.bld 2 [.int .i64 0,.nilsl 1] [(0,1,(.c (.int .i64 2))),(1,1,(.t 1))]),
 un (.bsl 3 1 [(.c (.int .i64 0)),(.c (.int .i64 1)),(.c (.int .i64 1)),(.c (.int .i64 1))]),
 un (.bld 4 [.int .i64 0,.nilsl 1] [(0,1,(.c (.int .i64 2))),(1,1,(.t 3))]),
 un (.bsl 5 1 [(.c (.int .i64 0)),(.c (.int .i64 1)),(.c (.int .i64 1)),(.c (.int .i64 0)),(.c (.int .i64 1)),(.c (.int .i64 0)),(.c (.int .i64 0)),(.c (.int .i64 1))]),
 un (.bld 6 [.int .i64 0,.nilsl 1] [(0,1,(.c (.int .i64 3))),(1,1,(.t 5))]),
 un (.bsl 7 1 [(.c (.int .i64 0)),(.c (.int .i64 0)),(.c (.int .i64 0)),(.c (.int .i64 1)),(.c (.int .i64 0)),(.c (.int .i64 1)),(.c (.int .i64 1)),(.c (.int .i64 1))]),
 un (.bld 8 [.int .i64 0,.nilsl 1] [(0,1,(.c (.int .i64 3))),(1,1,(.t 7))]),
 un (.bsl 9 2 [(.t 2),(.t 4),(.t 6),(.t 8)]),
 un (.asg 0 (.t 9))])
 (.drop [1,2,3,4,5,6,7,8,9] .ret)))
abbrev Alo:List RS:=[.t 0]
theorem Akw:A4 Tryz.prog Ni 10 Alt Alo=true:=by kernel_rfl
def W5:ACode:=
 (.seq (.reg [un (.asg 2 (.c (.bool false)))])
 (.seq (.reg [un (.mov 3 (.t 0)),
 un (.bin 4 .geq (.t 3) (.c (.int .i64 1))),
 un (.asg 5 (.t 4)),
 ⟨some (5,true),.mov 6 (.t 0)⟩,
 ⟨some (5,true),.bin 7 .leq (.t 6) (.c (.int .i64 4))⟩,
 un (.pick 8 (.t 5) (.t 7) (.c (.bool false))),
 un (.asg 2 (.t 8))])
 (.drop [3,4,5,6,7,8] .ret)))
abbrev W1:List RS:=[.t 2]
theorem Xh:A4 Tryz.prog H4 9 W5 W1=true:=by kernel_rfl
def Qu:ACode:=
 (.seq (.reg [un (.bin 15 .lss (.t 14) (.t 13))])
 (.seq (.cond (.t 15) .skip
 (.exit 0))
 (.seq (.block 1 (.seq (.reg [un (.mov 16 (.t 14)),
 un (.iad 17 1 (.t 12) (.t 14)),
 un (.ld 18 1 false (.t 17)),
 un (.asg 5 (.t 16)),
 un (.asg 6 (.t 18))])
 (.drop [16,17,18] (.seq (.reg [un (.mov 19 (.t 1)),
 un (.mov 20 (.t 5)),
 un (.iad 21 1 (.t 19) (.t 20)),
 un (.ld 22 1 false (.t 21)),
 un (.mov 23 (.t 6)),
 un (.bin 24 .neq (.t 22) (.t 23))])
 (.drop [19,20,21,22,23] (.cond (.t 24) (.seq (.reg [un (.asg 4 (.c (.bool false)))])
 .ret)
 .skip))))))
 (.drop [16,17,18,5,6,19,20,21,22,23,24] (.reg [un (.bin 25 .add (.t 14) (.c (.int .i64 1))),
 un (.asg 14 (.t 25))])))))
def Agz:ACode:=
 (.seq (.reg [un (.asg 4 (.c (.bool false)))])
 (.seq (.seq (.reg [un (.mov 7 (.t 0)),
 un (.len 8 (.t 7)),
 un (.mov 9 (.t 1)),
 un (.len 10 (.t 9)),
 un (.bin 11 .neq (.t 8) (.t 10))])
 (.drop [7,8,9,10] (.cond (.t 11) (.seq (.reg [un (.asg 4 (.c (.bool false)))])
 .ret)
 .skip)))
 (.drop [7,8,9,10,11] (.seq (.seq (.reg [un (.mov 12 (.t 0)),
 un (.len 13 (.t 12)),
 un (.mov 14 (.c (.int .i64 0)))])
 (.block 0 (.loop Qu)))
 (.drop [12,13,14,15,16,17,18,5,6,19,20,21,22,23,24,25] (.seq (.reg [un (.asg 4 (.c (.bool true)))])
 .ret))))))
abbrev Agn:List RS:=[.t 4]
theorem Agt:A4 Tryz.prog Kt 26 Agz Agn=true:=by kernel_rfl
def Sr:ACode:=
 (.seq (.seq (.reg [un (.mov 8 (.t 6)),
 un (.mov 9 (.t 0)),
 un (.mov 10 (.t 0)),
 un (.bin 11 .mul (.t 9) (.t 10)),
 un (.mov 12 (.t 0)),
 un (.bin 13 .mul (.t 11) (.t 12)),
 un (.bin 14 .lss (.t 8) (.t 13))])
 (.drop [8,9,10,11,12,13] (.cond (.t 14) .skip
 (.exit 0))))
 (.drop [8,9,10,11,12,13,14] (.seq (.block 1 (.dreg [(un (.fadr 17 1 (.t 5)),[33]),
 (un (.ld 18 1 false (.t 17)),[33]),
 (un (.mov 19 (.t 1)),[17,18]),
 (un (.mov 20 (.t 6)),[17,18,19]),
 (un (.mov 21 (.t 0)),[17,18,19,20]),
 (un (.bin 22 .quo (.t 20) (.t 21)),[17,18,19]),
 (un (.mov 23 (.t 0)),[17,18,19,20,21,22]),
 (un (.bin 24 .quo (.t 22) (.t 23)),[17,18,19]),
 (un (.mov 25 (.t 6)),[17,18,19,20,21,22,23,24]),
 (un (.mov 26 (.t 0)),[17,18,19,20,21,22,23,24,25]),
 (un (.bin 27 .quo (.t 25) (.t 26)),[17,18,19,20,21,22,23,24]),
 (un (.mov 28 (.t 0)),[17,18,19,20,21,22,23,24,25,26,27]),
 (un (.bin 29 .rem (.t 27) (.t 28)),[17,18,19,20,21,22,23,24]),
 (un (.mov 30 (.t 6)),[17,18,19,20,21,22,23,24,25,26,27,28,29]),
 (un (.mov 31 (.t 0)),[17,18,19,20,21,22,23,24,25,26,27,28,29,30]),
 (un (.bin 32 .rem (.t 30) (.t 31)),[17,18,19,20,21,22,23,24,25,26,27,28,29]),
 (un (.cally 33 (.t 19) [(.t 24),(.t 29),(.t 32)] []),[17,18]),
 (un (.bsl 34 1 [(.t 33)]),[17,18])]
 [un (.app 35 1 (.t 18) (.t 34)),
 un (.fadr 36 1 (.t 5)),
 un (.st 1 (.t 36) (.t 35))]))
 (.drop [17,18,19,20,21,22,23,24,25,26,27,28,29,30,31,32,33,34,35,36] (.reg [un (.mov 15 (.t 6)),
 un (.bin 16 .add (.t 15) (.c (.int .i64 1))),
 un (.asg 6 (.t 16))])))))
def Aiv:ACode:=
 (.seq (.reg [un (.alc 4 (.agg [.int .i64 0,.nilsl 1]))])
 (.seq (.reg [un (.bld 7 [.int .i64 0,.nilsl 1] [(0,1,(.c (.int .i64 3)))]),
 un (.alc 5 (.agg [.int .i64 0,.nilsl 1])),
 un (.st 2 (.t 5) (.t 7))])
 (.drop [7] (.seq (.seq (.reg [un (.asg 6 (.c (.int .i64 0)))])
 (.block 0 (.loop Sr)))
 (.drop [6,8,9,10,11,12,13,14,17,18,19,20,21,22,23,24,25,26,27,28,29,30,31,32,33,34,35,36,15,16] (.seq (.reg [un (.ld 37 2 true (.t 5)),
 un (.st 2 (.t 4) (.t 37))])
 (.drop [37] .ret)))))))
abbrev Ajf:List RS:=[.c 4 2 true]
theorem Aj0:A4 Tryz.prog Mf 38 Aiv Ajf=true:=by kernel_rfl
def Zf:ACode:=
 (.seq (.reg [un (.asg 6 (.c (.int .i64 0)))])
 (.seq (.reg [un (.mov 7 (.t 0)),
 un (.mov 8 (.t 1)),
 un (.bin 9 .xor (.t 7) (.t 8)),
 un (.mov 10 (.t 2)),
 un (.bin 11 .xor (.t 9) (.t 10)),
 un (.asg 6 (.t 11))])
 (.drop [7,8,9,10,11] .ret)))
abbrev Za:List RS:=[.t 6]
theorem Zi:A4 Tryz.prog Gx 12 Zf Za=true:=by kernel_rfl
def Zl:ACode:=
 (.seq (.reg [un (.asg 6 (.c (.int .i64 0)))])
 (.seq (.reg [un (.mov 7 (.t 0)),
 un (.mov 8 (.t 1)),
 un (.bin 9 .add (.t 7) (.t 8)),
 un (.mov 10 (.t 2)),
 un (.bin 11 .add (.t 9) (.t 10)),
 un (.bin 12 .quo (.t 11) (.c (.int .i64 2))),
 un (.asg 6 (.t 12))])
 (.drop [7,8,9,10,11,12] .ret)))
abbrev Zj:List RS:=[.t 6]
theorem Ze:A4 Tryz.prog Gt 13 Zl Zj=true:=by kernel_rfl
def Aqy:ACode:=
 (.seq (.reg [un (.asg 6 (.c (.bool false)))])
 (.seq (.reg [un (.mov 7 (.t 0)),
 un (.mov 8 (.t 1)),
 un (.bin 9 .geq (.t 7) (.t 8)),
 un (.asg 10 (.t 9)),
 ⟨some (10,true),.mov 11 (.t 0)⟩,
 ⟨some (10,true),.mov 12 (.t 2)⟩,
 ⟨some (10,true),.bin 13 .leq (.t 11) (.t 12)⟩,
 un (.pick 14 (.t 10) (.t 13) (.c (.bool false))),
 un (.asg 6 (.t 14))])
 (.drop [7,8,9,10,11,12,13,14] .ret)))
abbrev Ap2:List RS:=[.t 6]
theorem Aq5:A4 Tryz.prog Hd 15 Aqy Ap2=true:=by kernel_rfl
def Uy:ACode:=
 (.seq (.reg [un (.bin 10 .lss (.t 9) (.t 8))])
 (.seq (.cond (.t 10) .skip
 (.exit 0))
 (.seq (.block 1 (.seq (.reg [un (.iad 11 1 (.t 7) (.t 9)),
 un (.ld 12 1 false (.t 11)),
 un (.asg 6 (.t 12))])
 (.drop [11,12] (.seq (.reg [un (.mov 13 (.t 6)),
 un (.bin 14 .lss (.t 13) (.c (.int .i64 0))),
 un (.asg 15 (.t 14)),
 ⟨some (15,false),.mov 16 (.t 6)⟩,
 ⟨some (15,false),.mov 17 (.t 1)⟩,
 ⟨some (15,false),.bin 18 .geq (.t 16) (.t 17)⟩,
 un (.pick 19 (.t 15) (.c (.bool true)) (.t 18))])
 (.drop [13,14,15,16,17,18] (.cond (.t 19) (.seq (.reg [un (.asg 4 (.c (.bool false)))])
 .ret)
 .skip))))))
 (.drop [11,12,6,13,14,15,16,17,18,19] (.reg [un (.bin 20 .add (.t 9) (.c (.int .i64 1))),
 un (.asg 9 (.t 20))])))))
def Al7:ACode:=
 (.seq (.reg [un (.asg 4 (.c (.bool false)))])
 (.seq (.seq (.reg [un (.mov 7 (.t 0)),
 un (.len 8 (.t 7)),
 un (.mov 9 (.c (.int .i64 0)))])
 (.block 0 (.loop Uy)))
 (.drop [7,8,9,10,11,12,6,13,14,15,16,17,18,19,20] (.seq (.reg [un (.asg 4 (.c (.bool true)))])
 .ret))))
abbrev Akv:List RS:=[.t 4]
theorem Alx:A4 Tryz.prog J1 21 Al7 Akv=true:=by kernel_rfl
def Rk:ACode:=
 (.seq (.reg [un (.bin 14 .lss (.t 13) (.t 12))])
 (.seq (.cond (.t 14) .skip
 (.exit 0))
 (.seq (.block 1 (.seq (.reg [un (.mov 15 (.t 13)),
 un (.iad 16 1 (.t 11) (.t 13)),
 un (.ld 17 1 false (.t 16)),
 un (.asg 6 (.t 15)),
 un (.asg 7 (.t 17))])
 (.drop [15,16,17] (.reg [un (.mov 18 (.t 5)),
 un (.mov 19 (.t 6)),
 un (.mov 20 (.t 1)),
 un (.mov 21 (.t 7)),
 un (.iad 22 1 (.t 20) (.t 21)),
 un (.ld 23 1 false (.t 22)),
 un (.iad 24 1 (.t 18) (.t 19)),
 un (.st 1 (.t 24) (.t 23))]))))
 (.drop [15,16,17,6,7,18,19,20,21,22,23,24] (.reg [un (.bin 25 .add (.t 13) (.c (.int .i64 1))),
 un (.asg 13 (.t 25))])))))
def Ajs:ACode:=
 (.seq (.reg [un (.asg 4 (.c (.nilsl 1)))])
 (.seq (.reg [un (.mov 8 (.t 0)),
 un (.len 9 (.t 8)),
 un (.mk 10 1 (.int .i64 0) (.t 9)),
 un (.asg 5 (.t 10))])
 (.drop [8,9,10] (.seq (.seq (.reg [un (.mov 11 (.t 0)),
 un (.len 12 (.t 11)),
 un (.mov 13 (.c (.int .i64 0)))])
 (.block 0 (.loop Rk)))
 (.drop [11,12,13,14,15,16,17,6,7,18,19,20,21,22,23,24,25] (.seq (.reg [un (.mov 26 (.t 5)),
 un (.asg 4 (.t 26))])
 (.drop [26] .ret)))))))
abbrev Ajo:List RS:=[.t 4]
theorem Aim:A4 Tryz.prog Qp 27 Ajs Ajo=true:=by kernel_rfl
def V7:ACode:=
 (.seq (.seq (.reg [un (.mov 6 (.t 1)),
 un (.bin 7 .gtr (.t 6) (.c (.int .i64 0)))])
 (.drop [6] (.cond (.t 7) .skip
 (.exit 0))))
 (.drop [6,7] (.seq (.block 1 (.reg [un (.mov 10 (.t 5)),
 un (.mov 11 (.t 0)),
 un (.bin 12 .mul (.t 10) (.t 11)),
 un (.asg 5 (.t 12))]))
 (.drop [10,11,12] (.reg [un (.mov 8 (.t 1)),
 un (.bin 9 .sub (.t 8) (.c (.int .i64 1))),
 un (.asg 1 (.t 9))])))))
def Aoi:ACode:=
 (.seq (.reg [un (.asg 4 (.c (.int .i64 0)))])
 (.seq (.reg [un (.asg 5 (.c (.int .i64 1)))])
 (.seq (.block 0 (.loop V7))
 (.drop [6,7,10,11,12,8,9] (.seq (.reg [un (.mov 13 (.t 5)),
 un (.asg 4 (.t 13))])
 (.drop [13] .ret))))))
abbrev Anu:List RS:=[.t 4]
theorem Aoe:A4 Tryz.prog Pp 14 Aoi Anu=true:=by kernel_rfl
def Kd:ACode:=
 (.seq (.seq (.reg [un (.mov 14 (.t 5)),
 un (.mov 15 (.t 0)),
 un (.len 16 (.t 15)),
 un (.bin 17 .lss (.t 14) (.t 16))])
 (.drop [14,15,16] (.cond (.t 17) .skip
 (.exit 2))))
 (.drop [14,15,16,17] (.seq (.block 3 (.seq (.dreg [(un (.mov 20 (.t 0)),[]),
 (un (.mov 21 (.t 4)),[20]),
 (un (.iad 22 1 (.t 20) (.t 21)),[]),
 (un (.ld 23 1 false (.t 22)),[]),
 (un (.mov 24 (.t 0)),[20,21,22,23]),
 (un (.mov 25 (.t 5)),[20,21,22,23,24]),
 (un (.iad 26 1 (.t 24) (.t 25)),[20,21,22,23]),
 (un (.ld 27 1 false (.t 26)),[20,21,22,23])]
 [un (.bin 28 .eql (.t 23) (.t 27))])
 (.drop [20,21,22,23,24,25,26,27] (.cond (.t 28) (.reg [un (.fadr 29 1 (.t 3)),
 un (.ld 30 1 false (.t 29)),
 un (.mov 31 (.t 4)),
 un (.mov 32 (.t 5)),
 un (.bslr 33 1 [(.t 31),(.t 32)]),
 un (.bsl 34 1 [(.t 33)]),
 un (.app 35 1 (.t 30) (.t 34)),
 un (.fadr 36 1 (.t 3)),
 un (.st 1 (.t 36) (.t 35))])
 .skip))))
 (.drop [20,21,22,23,24,25,26,27,28,29,30,31,32,33,34,35,36] (.reg [un (.mov 18 (.t 5)),
 un (.bin 19 .add (.t 18) (.c (.int .i64 1))),
 un (.asg 5 (.t 19))])))))
def J0:ACode:=
 (.seq (.seq (.reg [un (.mov 8 (.t 4)),
 un (.mov 9 (.t 0)),
 un (.len 10 (.t 9)),
 un (.bin 11 .lss (.t 8) (.t 10))])
 (.drop [8,9,10] (.cond (.t 11) .skip
 (.exit 0))))
 (.drop [8,9,10,11] (.seq (.block 1 (.seq (.reg [un (.asg 5 (.c (.int .i64 0)))])
 (.block 2 (.loop Kd))))
 (.drop [5,14,15,16,17,20,21,22,23,24,25,26,27,28,29,30,31,32,33,34,35,36,18,19] (.reg [un (.mov 12 (.t 4)),
 un (.bin 13 .add (.t 12) (.c (.int .i64 1))),
 un (.asg 4 (.t 13))])))))
def Xd:ACode:=
 (.seq (.reg [un (.alc 2 (.agg [.int .i64 0,.nilsl 1]))])
 (.seq (.reg [un (.bsl 6 1 []),
 un (.bld 7 [.int .i64 0,.nilsl 1] [(0,1,(.c (.int .i64 2))),(1,1,(.t 6))]),
 un (.alc 3 (.agg [.int .i64 0,.nilsl 1])),
 un (.st 2 (.t 3) (.t 7))])
 (.drop [6,7] (.seq (.seq (.reg [un (.asg 4 (.c (.int .i64 0)))])
 (.block 0 (.loop J0)))
 (.drop [4,8,9,10,11,5,14,15,16,17,20,21,22,23,24,25,26,27,28,29,30,31,32,33,34,35,36,18,19,12,13] (.seq (.reg [un (.ld 37 2 true (.t 3)),
 un (.st 2 (.t 2) (.t 37))])
 (.drop [37] .ret)))))))
abbrev W4:List RS:=[.c 2 2 true]
theorem W8:A4 Tryz.prog Hz 38 Xd W4=true:=by kernel_rfl
def Ua:ACode:=
 (.seq (.seq (.reg [un (.mov 6 (.t 5)),
 un (.mov 7 (.t 0)),
 un (.len 8 (.t 7)),
 un (.bin 9 .lss (.t 6) (.t 8))])
 (.drop [6,7,8] (.cond (.t 9) .skip
 (.exit 0))))
 (.drop [6,7,8,9] (.seq (.block 1 (.seq (.dreg [(un (.mov 12 (.t 0)),[]),
 (un (.mov 13 (.t 5)),[12]),
 (un (.iad 14 1 (.t 12) (.t 13)),[]),
 (un (.ld 15 1 false (.t 14)),[]),
 (un (.mov 16 (.t 1)),[12,13,14,15]),
 (un (.mov 17 (.t 5)),[12,13,14,15,16]),
 (un (.iad 18 1 (.t 16) (.t 17)),[12,13,14,15]),
 (un (.ld 19 1 false (.t 18)),[12,13,14,15])]
 [un (.bin 20 .neq (.t 15) (.t 19))])
 (.drop [12,13,14,15,16,17,18,19] (.cond (.t 20) (.seq (.dreg [(un (.mov 21 (.t 0)),[]),
 (un (.mov 22 (.t 5)),[21]),
 (un (.iad 23 1 (.t 21) (.t 22)),[]),
 (un (.ld 24 1 false (.t 23)),[]),
 (un (.mov 25 (.t 1)),[21,22,23,24]),
 (un (.mov 26 (.t 5)),[21,22,23,24,25]),
 (un (.iad 27 1 (.t 25) (.t 26)),[21,22,23,24]),
 (un (.ld 28 1 false (.t 27)),[21,22,23,24])]
 [un (.bin 29 .lss (.t 24) (.t 28)),
 un (.asg 4 (.t 29))])
 (.drop [21,22,23,24,25,26,27,28,29] .ret))
 .skip))))
 (.drop [12,13,14,15,16,17,18,19,20,21,22,23,24,25,26,27,28,29] (.reg [un (.mov 10 (.t 5)),
 un (.bin 11 .add (.t 10) (.c (.int .i64 1))),
 un (.asg 5 (.t 11))])))))
def Alj:ACode:=
 (.seq (.reg [un (.asg 4 (.c (.bool false)))])
 (.seq (.seq (.reg [un (.asg 5 (.c (.int .i64 0)))])
 (.block 0 (.loop Ua)))
 (.drop [5,6,7,8,9,12,13,14,15,16,17,18,19,20,21,22,23,24,25,26,27,28,29,10,11] (.seq (.reg [un (.asg 4 (.c (.bool false)))])
 .ret))))
abbrev Ako:List RS:=[.t 4]
theorem Al9:A4 Tryz.prog Nh 30 Alj Ako=true:=by kernel_rfl
def T9:ACode:=
 (.seq (.seq (.reg [un (.mov 13 (.t 8)),
 un (.bin 14 .geq (.t 13) (.c (.int .i64 0)))])
 (.drop [13] (.cond (.t 14) .skip
 (.exit 0))))
 (.drop [13,14] (.seq (.block 1 (.seq (.reg [un (.mov 17 (.t 7)),
 un (.mov 18 (.t 8)),
 un (.mov 19 (.t 2)),
 un (.mov 20 (.t 0)),
 un (.bin 21 .rem (.t 19) (.t 20)),
 un (.iad 22 1 (.t 17) (.t 18)),
 un (.st 1 (.t 22) (.t 21))])
 (.drop [17,18,19,20,21,22] (.reg [un (.mov 23 (.t 2)),
 un (.mov 24 (.t 0)),
 un (.bin 25 .quo (.t 23) (.t 24)),
 un (.asg 2 (.t 25))]))))
 (.drop [17,18,19,20,21,22,23,24,25] (.reg [un (.mov 15 (.t 8)),
 un (.bin 16 .sub (.t 15) (.c (.int .i64 1))),
 un (.asg 8 (.t 16))])))))
def Ak5:ACode:=
 (.seq (.reg [un (.asg 6 (.c (.nilsl 1)))])
 (.seq (.reg [un (.mov 9 (.t 1)),
 un (.mk 10 1 (.int .i64 0) (.t 9)),
 un (.asg 7 (.t 10))])
 (.drop [9,10] (.seq (.seq (.reg [un (.mov 11 (.t 1)),
 un (.bin 12 .sub (.t 11) (.c (.int .i64 1))),
 un (.asg 8 (.t 12))])
 (.drop [11,12] (.block 0 (.loop T9))))
 (.drop [11,12,8,13,14,17,18,19,20,21,22,23,24,25,15,16] (.seq (.reg [un (.mov 26 (.t 7)),
 un (.asg 6 (.t 26))])
 (.drop [26] .ret)))))))
abbrev Akr:List RS:=[.t 6]
theorem Alw:A4 Tryz.prog Sw 27 Ak5 Akr=true:=by kernel_rfl
def Apg:ACode:=
 (.seq (.reg [un (.asg 2 (.c (.nilsl 1)))])
 (.seq (.reg [un (.bsl 3 1 []),
 un (.mov 4 (.t 0)),
 un (.app 5 1 (.t 3) (.t 4)),
 un (.asg 2 (.t 5))])
 (.drop [3,4,5] .ret)))
abbrev An7:List RS:=[.t 2]
theorem Anv:A4 Tryz.prog Po 6 Apg An7=true:=by kernel_rfl
def Rs:ACode:=
 (.seq (.seq (.reg [un (.mov 19 (.t 12)),
 un (.mov 20 (.t 2)),
 un (.len 21 (.t 20)),
 un (.bin 22 .lss (.t 19) (.t 21))])
 (.drop [19,20,21] (.cond (.t 22) .skip
 (.exit 2))))
 (.drop [19,20,21,22] (.seq (.block 3 (.dreg [(un (.mov 25 (.t 11)),[]),
 (un (.fadr 26 0 (.t 4)),[25]),
 (un (.ld 27 1 false (.t 26)),[25]),
 (un (.bin 28 .mul (.t 25) (.t 27)),[]),
 (un (.mov 29 (.t 2)),[25,26,27,28]),
 (un (.mov 30 (.t 12)),[25,26,27,28,29]),
 (un (.iad 31 1 (.t 29) (.t 30)),[25,26,27,28]),
 (un (.ld 32 1 false (.t 31)),[25,26,27,28]),
 (un (.mov 33 (.t 10)),[25,26,27,28,29,30,31,32]),
 (un (.iad 34 1 (.t 32) (.t 33)),[25,26,27,28]),
 (un (.ld 35 1 false (.t 34)),[25,26,27,28])]
 [un (.bin 36 .add (.t 28) (.t 35)),
 un (.asg 11 (.t 36))]))
 (.drop [25,26,27,28,29,30,31,32,33,34,35,36] (.reg [un (.mov 23 (.t 12)),
 un (.bin 24 .add (.t 23) (.c (.int .i64 1))),
 un (.asg 12 (.t 24))])))))
def So:ACode:=
 (.seq (.seq (.reg [un (.mov 14 (.t 10)),
 un (.mov 15 (.t 3)),
 un (.bin 16 .lss (.t 14) (.t 15))])
 (.drop [14,15] (.cond (.t 16) .skip
 (.exit 0))))
 (.drop [14,15,16] (.seq (.block 1 (.seq (.reg [un (.asg 11 (.c (.int .i64 0)))])
 (.seq (.seq (.reg [un (.asg 12 (.c (.int .i64 0)))])
 (.block 2 (.loop Rs)))
 (.drop [12,19,20,21,22,25,26,27,28,29,30,31,32,33,34,35,36,23,24] (.reg [un (.mov 37 (.t 9)),
 un (.fadr 38 1 (.t 4)),
 un (.ld 39 1 false (.t 38)),
 un (.mov 40 (.t 1)),
 un (.iad 41 2 (.t 39) (.t 40)),
 un (.fadr 42 1 (.t 41)),
 un (.ld 43 1 false (.t 42)),
 un (.mov 44 (.t 11)),
 un (.iad 45 1 (.t 43) (.t 44)),
 un (.ld 46 1 false (.t 45)),
 un (.bsl 47 1 [(.t 46)]),
 un (.app 48 1 (.t 37) (.t 47)),
 un (.asg 9 (.t 48))])))))
 (.drop [11,12,19,20,21,22,25,26,27,28,29,30,31,32,33,34,35,36,23,24,37,38,39,40,41,42,43,44,45,46,47,48] (.reg [un (.mov 17 (.t 10)),
 un (.bin 18 .add (.t 17) (.c (.int .i64 1))),
 un (.asg 10 (.t 18))])))))
def Ain:ACode:=
 (.seq (.reg [un (.box 4 (.t 0)),
 un (.asg 8 (.c (.nilsl 1)))])
 (.seq (.reg [un (.bsl 13 1 []),
 un (.asg 9 (.t 13))])
 (.drop [13] (.seq (.seq (.reg [un (.asg 10 (.c (.int .i64 0)))])
 (.block 0 (.loop So)))
 (.drop [10,14,15,16,11,12,19,20,21,22,25,26,27,28,29,30,31,32,33,34,35,36,23,24,37,38,39,40,41,42,43,44,45,46,47,48,17,18] (.seq (.reg [un (.mov 49 (.t 9)),
 un (.asg 8 (.t 49))])
 (.drop [49] .ret)))))))
abbrev Ajk:List RS:=[.t 8]
theorem Ake:A4 Tryz.prog I3 50 Ain Ajk=true:=by kernel_rfl
def Wc:ACode:=
 (.seq (.seq (.reg [un (.mov 6 (.t 5)),
 un (.mov 7 (.t 0)),
 un (.len 8 (.t 7)),
 un (.bin 9 .lss (.t 6) (.t 8))])
 (.drop [6,7,8] (.cond (.t 9) .skip
 (.exit 0))))
 (.drop [6,7,8,9] (.seq (.block 1 (.seq (.reg [un (.mov 12 (.t 0)),
 un (.mov 13 (.t 5)),
 un (.iad 14 1 (.t 12) (.t 13)),
 un (.ld 15 1 false (.t 14)),
 un (.mov 16 (.t 1)),
 un (.bin 17 .eql (.t 15) (.t 16))])
 (.drop [12,13,14,15,16] (.cond (.t 17) (.seq (.reg [un (.asg 4 (.c (.bool true)))])
 .ret)
 .skip))))
 (.drop [12,13,14,15,16,17] (.reg [un (.mov 10 (.t 5)),
 un (.bin 11 .add (.t 10) (.c (.int .i64 1))),
 un (.asg 5 (.t 11))])))))
def Ao9:ACode:=
 (.seq (.reg [un (.asg 4 (.c (.bool false)))])
 (.seq (.seq (.reg [un (.asg 5 (.c (.int .i64 0)))])
 (.block 0 (.loop Wc)))
 (.drop [5,6,7,8,9,12,13,14,15,16,17,10,11] (.seq (.reg [un (.asg 4 (.c (.bool false)))])
 .ret))))
abbrev Aoc:List RS:=[.t 4]
theorem Aod:A4 Tryz.prog Vb 18 Ao9 Aoc=true:=by kernel_rfl
def K1:ACode:=
 (.seq (.seq (.reg [un (.mov 8 (.t 6)),
 un (.mov 9 (.t 1)),
 un (.len 10 (.t 9)),
 un (.bin 11 .lss (.t 8) (.t 10))])
 (.drop [8,9,10] (.cond (.t 11) .skip
 (.exit 0))))
 (.drop [8,9,10,11] (.seq (.block 1 (.reg [un (.mov 14 (.t 5)),
 un (.mov 15 (.t 0)),
 un (.mov 16 (.t 1)),
 un (.mov 17 (.t 6)),
 un (.iad 18 1 (.t 16) (.t 17)),
 un (.ld 19 1 false (.t 18)),
 un (.iad 20 1 (.t 15) (.t 19)),
 un (.ld 21 1 false (.t 20)),
 un (.bsl 22 1 [(.t 21)]),
 un (.app 23 1 (.t 14) (.t 22)),
 un (.asg 5 (.t 23))]))
 (.drop [14,15,16,17,18,19,20,21,22,23] (.reg [un (.mov 12 (.t 6)),
 un (.bin 13 .add (.t 12) (.c (.int .i64 1))),
 un (.asg 6 (.t 13))])))))
def Wb:ACode:=
 (.seq (.reg [un (.asg 4 (.c (.nilsl 1)))])
 (.seq (.reg [un (.bsl 7 1 []),
 un (.asg 5 (.t 7))])
 (.drop [7] (.seq (.seq (.reg [un (.asg 6 (.c (.int .i64 0)))])
 (.block 0 (.loop K1)))
 (.drop [6,8,9,10,11,14,15,16,17,18,19,20,21,22,23,12,13] (.seq (.reg [un (.mov 24 (.t 5)),
 un (.asg 4 (.t 24))])
 (.drop [24] .ret)))))))
abbrev Wk:List RS:=[.t 4]
theorem We:A4 Tryz.prog Ho 25 Wb Wk=true:=by kernel_rfl
abbrev Ui:Nat:=Ho
abbrev Ae8:ACode:=Wb
abbrev Aem:List RS:=Wk
theorem Afk:A4 Tryz.prog Ui 25 Ae8 Aem=true:=We
def Vx:ACode:=
 (.seq (.reg [un (.mov 6 (.t 5)),
 un (.mov 7 (.t 0)),
 un (.len 8 (.t 7)),
 un (.bin 9 .lss (.t 6) (.t 8)),
 un (.asg 10 (.t 9)),
 ⟨some (10,true),.mov 11 (.t 5)⟩,
 ⟨some (10,true),.mov 12 (.t 1)⟩,
 ⟨some (10,true),.len 13 (.t 12)⟩,
 ⟨some (10,true),.bin 14 .lss (.t 11) (.t 13)⟩,
 un (.pick 15 (.t 10) (.t 14) (.c (.bool false)))])
 (.drop [6,7,8,9,10,11,12,13,14] (.cond (.t 15) .skip
 (.exit 0))))
def Mg:ACode:=
 (.seq (.cut Vx)
 (.drop [6,7,8,9,10,11,12,13,14,15] (.seq (.block 1 (.seq (.dreg [(un (.mov 18 (.t 0)),[]),
 (un (.mov 19 (.t 5)),[18]),
 (un (.iad 20 1 (.t 18) (.t 19)),[]),
 (un (.ld 21 1 false (.t 20)),[]),
 (un (.mov 22 (.t 1)),[18,19,20,21]),
 (un (.mov 23 (.t 5)),[18,19,20,21,22]),
 (un (.iad 24 1 (.t 22) (.t 23)),[18,19,20,21]),
 (un (.ld 25 1 false (.t 24)),[18,19,20,21])]
 [un (.bin 26 .neq (.t 21) (.t 25))])
 (.drop [18,19,20,21,22,23,24,25] (.cond (.t 26) (.seq (.seq (.dreg [(un (.mov 27 (.t 0)),[]),
 (un (.mov 28 (.t 5)),[27]),
 (un (.iad 29 1 (.t 27) (.t 28)),[]),
 (un (.ld 30 1 false (.t 29)),[]),
 (un (.mov 31 (.t 1)),[27,28,29,30]),
 (un (.mov 32 (.t 5)),[27,28,29,30,31]),
 (un (.iad 33 1 (.t 31) (.t 32)),[27,28,29,30]),
 (un (.ld 34 1 false (.t 33)),[27,28,29,30])]
 [un (.bin 35 .lss (.t 30) (.t 34))])
 (.drop [27,28,29,30,31,32,33,34] (.cond (.t 35) (.seq (.reg [un (.asg 4 (.c (.int .i64 (-1))))])
 .ret)
 .skip)))
 (.drop [27,28,29,30,31,32,33,34,35] (.seq (.reg [un (.asg 4 (.c (.int .i64 1)))])
 .ret)))
 .skip))))
 (.drop [18,19,20,21,22,23,24,25,26,27,28,29,30,31,32,33,34,35] (.reg [un (.mov 16 (.t 5)),
 un (.bin 17 .add (.t 16) (.c (.int .i64 1))),
 un (.asg 5 (.t 17))])))))
def Zc:ACode:=
 (.seq (.reg [un (.asg 4 (.c (.int .i64 0)))])
 (.seq (.seq (.reg [un (.asg 5 (.c (.int .i64 0)))])
 (.block 0 (.loop Mg)))
 (.drop [5,6,7,8,9,10,11,12,13,14,15,18,19,20,21,22,23,24,25,26,27,28,29,30,31,32,33,34,35,16,17] (.seq (.block 2 (.seq (.reg [un (.mov 37 (.t 0)),
 un (.len 38 (.t 37)),
 un (.mov 39 (.t 1)),
 un (.len 40 (.t 39)),
 un (.bin 41 .lss (.t 38) (.t 40)),
 un (.asg 36 (.t 41))])
 (.drop [37,38,39,40,41] (.cond (.t 36) (.seq (.reg [un (.asg 4 (.c (.int .i64 (-1))))])
 .ret)
 (.seq (.reg [un (.mov 43 (.t 0)),
 un (.len 44 (.t 43)),
 un (.mov 45 (.t 1)),
 un (.len 46 (.t 45)),
 un (.bin 47 .gtr (.t 44) (.t 46)),
 un (.asg 42 (.t 47))])
 (.drop [43,44,45,46,47] (.cond (.t 42) (.seq (.reg [un (.asg 4 (.c (.int .i64 1)))])
 .ret)
 .skip)))))))
 (.drop [37,38,39,40,41,36,43,44,45,46,47,42] (.seq (.reg [un (.asg 4 (.c (.int .i64 0)))])
 .ret))))))
abbrev Zt:List RS:=[.t 4]
theorem Zx:A4 Tryz.prog E5 48 Zc Zt=true:=by kernel_rfl
def Acp:ACode:=
 (.seq (.reg [un (.asg 6 (.c (.bool false)))])
 (.seq (.dreg [(un (.ld 7 1 false (.t 2)),[]),
 (un (.ld 8 1 false (.t 3)),[7]),
 (un (.mov 9 (.t 0)),[7,8]),
 (un (.iad 10 1 (.t 8) (.t 9)),[7]),
 (un (.ld 11 1 false (.t 10)),[7]),
 (un (.ld 12 1 false (.t 3)),[7,8,9,10,11]),
 (un (.mov 13 (.t 1)),[7,8,9,10,11,12]),
 (un (.iad 14 1 (.t 12) (.t 13)),[7,8,9,10,11]),
 (un (.ld 15 1 false (.t 14)),[7,8,9,10,11])]
 [un (.cally 16 (.t 7) [(.t 11),(.t 15)] []),
 un (.bin 17 .lss (.t 16) (.c (.int .i64 0))),
 un (.asg 6 (.t 17))])
 (.drop [7,8,9,10,11,12,13,14,15,16,17] .ret)))
abbrev Ad0:List RS:=[.t 6]
theorem Abw:A4 Tryz.prog Sk 18 Acp Ad0=true:=by kernel_rfl
def Amd:ACode:=
 (.seq (.reg [un (.asg 4 (.c (.int .i64 0)))])
 (.seq (.seq (.reg [un (.mov 5 (.t 0)),
 un (.mov 6 (.t 1)),
 un (.bin 7 .gtr (.t 5) (.t 6))])
 (.drop [5,6] (.cond (.t 7) (.seq (.reg [un (.mov 8 (.t 0)),
 un (.asg 4 (.t 8))])
 (.drop [8] .ret))
 .skip)))
 (.drop [5,6,7,8] (.seq (.reg [un (.mov 9 (.t 1)),
 un (.asg 4 (.t 9))])
 (.drop [9] .ret)))))
abbrev Amb:List RS:=[.t 4]
theorem Amh:A4 Tryz.prog Tm 10 Amd Amb=true:=by kernel_rfl
def Ab7:ACode:=
 (.seq (.reg [un (.asg 4 (.c (.int .i64 0)))])
 (.seq (.seq (.reg [un (.mov 6 (.t 1)),
 un (.bin 7 .leq (.t 6) (.c (.int .i64 1)))])
 (.drop [6] (.cond (.t 7) (.seq (.reg [un (.asg 4 (.c (.int .i64 0)))])
 .ret)
 .skip)))
 (.drop [6,7] (.seq (.reg [un (.mov 8 (.t 0)),
 un (.call 9 Ij [((.t 8),true)]),
 un (.asg 5 (.t 9))])
 (.drop [8,9] (.seq (.seq (.reg [un (.mov 10 (.t 1)),
 un (.bin 11 .gtr (.t 10) (.c (.int .i64 200)))])
 (.drop [10] (.cond (.t 11) (.reg [un (.mov 12 (.t 5)),
 un (.bin 13 .mul (.t 12) (.c (.int .i64 256))),
 un (.mov 14 (.t 0)),
 un (.call 15 Ij [((.t 14),true)]),
 un (.bin 16 .add (.t 13) (.t 15)),
 un (.asg 5 (.t 16))])
 .skip)))
 (.drop [10,11,12,13,14,15,16] (.seq (.reg [un (.mov 17 (.t 5)),
 un (.mov 18 (.t 1)),
 un (.bin 19 .rem (.t 17) (.t 18)),
 un (.asg 4 (.t 19))])
 (.drop [17,18,19] .ret)))))))))
abbrev Adq:List RS:=[.t 4]
theorem Acn:A4 Tryz.prog Ca 20 Ab7 Adq=true:=by kernel_rfl
def Up:ACode:=
 (.seq (.reg [un (.bin 11 .lss (.t 10) (.t 9))])
 (.seq (.cond (.t 11) .skip
 (.exit 0))
 (.seq (.block 1 (.seq (.reg [un (.iad 12 1 (.t 8) (.t 10)),
 un (.ld 13 1 false (.t 12)),
 un (.asg 6 (.t 13))])
 (.drop [12,13] (.seq (.reg [un (.mov 14 (.t 1)),
 un (.mov 15 (.t 6)),
 un (.call 16 Kt [((.t 14),false),((.t 15),false)])])
 (.drop [14,15] (.cond (.t 16) (.seq (.reg [un (.asg 4 (.c (.bool true)))])
 .ret)
 .skip))))))
 (.drop [12,13,6,14,15,16] (.reg [un (.bin 17 .add (.t 10) (.c (.int .i64 1))),
 un (.asg 10 (.t 17))])))))
def Akx:ACode:=
 (.seq (.reg [un (.box 2 (.t 0)),
 un (.asg 4 (.c (.bool false)))])
 (.seq (.seq (.reg [un (.fadr 7 1 (.t 2)),
 un (.ld 8 1 false (.t 7)),
 un (.len 9 (.t 8)),
 un (.mov 10 (.c (.int .i64 0)))])
 (.drop [7] (.block 0 (.loop Up))))
 (.drop [7,8,9,10,11,12,13,6,14,15,16,17] (.seq (.reg [un (.asg 4 (.c (.bool false)))])
 .ret))))
abbrev Ak3:List RS:=[.t 4]
theorem Alv:A4 Tryz.prog Ts 18 Akx Ak3=true:=by kernel_rfl
def Aby:ACode:=
 (.seq (.reg [un (.asg 0 (.c (.nilsl 2)))])
 (.seq (.reg [un (.call 3 Mf [((.c (.int .i64 2)),false),((.c (.clo Gx [])),false)]),
 un (.alc 1 (.agg [.int .i64 0,.nilsl 1])),
 un (.st 2 (.t 1) (.t 3))])
 (.drop [3] (.seq (.reg [un (.call 4 Mf [((.c (.int .i64 2)),false),((.c (.clo Gt [])),false)]),
 un (.alc 2 (.agg [.int .i64 0,.nilsl 1])),
 un (.st 2 (.t 2) (.t 4))])
 (.drop [4] (.seq (.reg [un (.bsl 5 1 [(.c (.int .i64 0)),(.c (.int .i64 0)),(.c (.int .i64 0)),(.c (.int .i64 1))]),
 un (.bld 6 [.int .i64 0,.nilsl 1] [(0,1,(.c (.int .i64 2))),(1,1,(.t 5))]),
 un (.bsl 7 1 [(.c (.int .i64 0)),(.c (.int .i64 1)),(.c (.int .i64 1)),(.c (.int .i64 1))]),
 un (.bld 8 [.int .i64 0,.nilsl 1] [(0,1,(.c (.int .i64 2))),(1,1,(.t 7))]),
 un (.ld 9 2 true (.t 1)),
 un (.ld 10 2 true (.t 2)),
 un (.bsl 11 2 [(.t 6),(.t 8),(.t 9),(.t 10)]),
 un (.asg 0 (.t 11))])
 (.drop [5,6,7,8,9,10,11] .ret)))))))
abbrev Adg:List RS:=[.t 0]
theorem Abt:A4 Tryz.prog Lq 12 Aby Adg=true:=by kernel_rfl
def Aru:ACode:=
 (.seq (.reg [un (.box 2 (.t 0)),
 un (.asg 4 (.c (.bool false)))])
 (.seq (.dreg [(un (.fadr 5 0 (.t 2)),[]),
 (un (.ld 6 1 false (.t 5)),[]),
 (un (.bin 7 .geq (.t 6) (.c (.int .i64 0))),[]),
 (un (.asg 8 (.t 7)),[]),
 (⟨some (8,true),.fadr 9 0 (.t 2)⟩,[7]),
 (⟨some (8,true),.ld 10 1 false (.t 9)⟩,[7]),
 (⟨some (8,true),.bin 11 .leq (.t 10) (.c (.int .i64 3))⟩,[7]),
 (un (.pick 12 (.t 8) (.t 11) (.c (.bool false))),[7]),
 (un (.asg 13 (.t 12)),[7]),
 (⟨some (13,true),.fadr 14 1 (.t 2)⟩,[7,12]),
 (⟨some (13,true),.ld 15 1 false (.t 14)⟩,[7,12]),
 (⟨some (13,true),.len 16 (.t 15)⟩,[7,12]),
 (⟨some (13,true),.mov 17 (.t 1)⟩,[14,15,16,7,12]),
 (⟨some (13,true),.fadr 18 0 (.t 2)⟩,[14,15,16,17,7,12]),
 (⟨some (13,true),.ld 19 1 false (.t 18)⟩,[14,15,16,17,7,12]),
 (⟨some (13,true),.call 20 Me [((.t 17),false),((.t 19),false)]⟩,[14,15,16,7,12]),
 (⟨some (13,true),.bin 21 .eql (.t 16) (.t 20)⟩,[7,12]),
 (un (.pick 22 (.t 13) (.t 21) (.c (.bool false))),[7,12]),
 (un (.asg 23 (.t 22)),[7,12]),
 (⟨some (23,true),.fadr 24 1 (.t 2)⟩,[7,12,22]),
 (⟨some (23,true),.ld 25 1 false (.t 24)⟩,[7,12,22]),
 (⟨some (23,true),.mov 26 (.t 1)⟩,[24,25,7,12,22])]
 [⟨some (23,true),.call 27 J1 [((.t 25),false),((.t 26),false)]⟩,
 un (.pick 28 (.t 23) (.t 27) (.c (.bool false))),
 un (.asg 4 (.t 28))])
 (.drop [5,6,7,8,9,10,11,12,13,14,15,16,17,18,19,20,21,22,23,24,25,26,27,28] .ret)))
abbrev Aqm:List RS:=[.t 4]
theorem Art:A4 Tryz.prog Sm 29 Aru Aqm=true:=by kernel_rfl
def P0:ACode:=
 (.seq (.reg [un (.bin 11 .lss (.t 10) (.t 9))])
 (.seq (.cond (.t 11) .skip
 (.exit 0))
 (.seq (.block 1 (.seq (.reg [un (.iad 12 1 (.t 8) (.t 10)),
 un (.ld 13 1 false (.t 12)),
 un (.asg 5 (.t 13))])
 (.drop [12,13] (.reg [un (.mov 14 (.t 3)),
 un (.mov 15 (.t 5)),
 un (.call 16 Pn [((.t 15),false)]),
 un (.mup (.t 14) (.t 16) (.c (.bool true)))]))))
 (.drop [12,13,5,14,15,16] (.reg [un (.bin 17 .add (.t 10) (.c (.int .i64 1))),
 un (.asg 10 (.t 17))])))))
def Ahb:ACode:=
 (.seq (.reg [un (.box 1 (.t 0)),
 un (.asg 2 (.c (.dead)))])
 (.seq (.reg [un (.mkm 6),
 un (.asg 3 (.t 6))])
 (.drop [6] (.seq (.seq (.reg [un (.fadr 7 1 (.t 1)),
 un (.ld 8 1 false (.t 7)),
 un (.len 9 (.t 8)),
 un (.mov 10 (.c (.int .i64 0)))])
 (.drop [7] (.block 0 (.loop P0))))
 (.drop [7,8,9,10,11,12,13,5,14,15,16,17] (.seq (.reg [un (.mov 18 (.t 3)),
 un (.asg 2 (.t 18))])
 (.drop [18] .ret)))))))
abbrev Ago:List RS:=[.t 2]
theorem Ahf:A4 Tryz.prog On 19 Ahb Ago=true:=by kernel_rfl
def R0:ACode:=
 (.seq (.seq (.reg [un (.mov 10 (.t 6)),
 un (.mov 11 (.t 0)),
 un (.mov 12 (.t 1)),
 un (.call 13 Pp [((.t 11),false),((.t 12),false)]),
 un (.bin 14 .lss (.t 10) (.t 13))])
 (.drop [10,11,12,13] (.cond (.t 14) .skip
 (.exit 0))))
 (.drop [10,11,12,13,14] (.seq (.block 1 (.dreg [(un (.fadr 17 1 (.t 5)),[22]),
 (un (.ld 18 1 false (.t 17)),[22]),
 (un (.mov 19 (.t 0)),[17,18]),
 (un (.mov 20 (.t 1)),[17,18,19]),
 (un (.mov 21 (.t 6)),[17,18,19,20]),
 (un (.call 22 Sw [((.t 19),false),((.t 20),false),((.t 21),false)]),[17,18]),
 (un (.bsl 23 1 [(.t 22)]),[17,18])]
 [un (.app 24 1 (.t 18) (.t 23)),
 un (.fadr 25 1 (.t 5)),
 un (.st 1 (.t 25) (.t 24))]))
 (.drop [17,18,19,20,21,22,23,24,25] (.reg [un (.mov 15 (.t 6)),
 un (.bin 16 .add (.t 15) (.c (.int .i64 1))),
 un (.asg 6 (.t 16))])))))
def Akd:ACode:=
 (.seq (.reg [un (.alc 4 (.agg [.int .i64 0,.nilsl 1]))])
 (.seq (.reg [un (.mov 7 (.t 1)),
 un (.bsl 8 1 []),
 un (.bld 9 [.int .i64 0,.nilsl 1] [(0,1,(.t 7)),(1,1,(.t 8))]),
 un (.alc 5 (.agg [.int .i64 0,.nilsl 1])),
 un (.st 2 (.t 5) (.t 9))])
 (.drop [7,8,9] (.seq (.seq (.reg [un (.asg 6 (.c (.int .i64 0)))])
 (.block 0 (.loop R0)))
 (.drop [6,10,11,12,13,14,17,18,19,20,21,22,23,24,25,15,16] (.seq (.reg [un (.ld 26 2 true (.t 5)),
 un (.st 2 (.t 4) (.t 26))])
 (.drop [26] .ret)))))))
abbrev Aki:List RS:=[.c 4 2 true]
theorem Aik:A4 Tryz.prog Lk 27 Akd Aki=true:=by kernel_rfl
def Xv:ACode:=
 (.seq (.reg [un (.fadr 7 0 (.t 3)),
 un (.ld 8 1 false (.t 7)),
 un (.bin 9 .lss (.t 8) (.c (.int .i64 1))),
 un (.asg 10 (.t 9)),
 ⟨some (10,false),.fadr 11 0 (.t 3)⟩,
 ⟨some (10,false),.ld 12 1 false (.t 11)⟩,
 ⟨some (10,false),.bin 13 .gtr (.t 12) (.c (.int .i64 3))⟩,
 un (.pick 14 (.t 10) (.c (.bool true)) (.t 13))])
 (.drop [7,8,9,10,11,12,13] (.cond (.t 14) (.seq (.reg [un (.asg 4 (.c (.bool false)))])
 .ret)
 .skip)))
def Oa:ACode:=
 (.seq (.reg [un (.bin 19 .lss (.t 18) (.t 17))])
 (.seq (.cond (.t 19) .skip
 (.exit 0))
 (.seq (.block 1 (.seq (.reg [un (.mov 20 (.t 18)),
 un (.iad 21 1 (.t 16) (.t 18)),
 un (.ld 22 1 false (.t 21)),
 un (.asg 5 (.t 20)),
 un (.asg 6 (.t 22))])
 (.drop [20,21,22] (.seq (.reg [un (.mov 23 (.t 6)),
 un (.len 24 (.t 23)),
 un (.fadr 25 0 (.t 3)),
 un (.ld 26 1 false (.t 25)),
 un (.bin 27 .neq (.t 24) (.t 26)),
 un (.asg 28 (.t 27)),
 ⟨some (28,false),.mov 29 (.t 6)⟩,
 ⟨some (28,false),.mov 30 (.t 0)⟩,
 ⟨some (28,false),.call 31 J1 [((.t 29),false),((.t 30),false)]⟩,
 ⟨some (28,false),.un 32 .not (.t 31)⟩,
 un (.pick 33 (.t 28) (.c (.bool true)) (.t 32)),
 un (.asg 34 (.t 33)),
 ⟨some (34,false),.mov 35 (.t 5)⟩,
 ⟨some (34,false),.bin 36 .gtr (.t 35) (.c (.int .i64 0))⟩,
 ⟨some (34,false),.asg 37 (.t 36)⟩,
 ⟨some (37,true),.fadr 38 1 (.t 3)⟩,
 ⟨some (37,true),.ld 39 1 false (.t 38)⟩,
 ⟨some (37,true),.mov 40 (.t 5)⟩,
 ⟨some (37,true),.bin 41 .sub (.t 40) (.c (.int .i64 1))⟩,
 ⟨some (37,true),.iad 42 1 (.t 39) (.t 41)⟩,
 ⟨some (37,true),.ld 43 1 false (.t 42)⟩,
 ⟨some (37,true),.mov 44 (.t 6)⟩,
 ⟨some (37,true),.call 45 E5 [((.t 43),false),((.t 44),false)]⟩,
 ⟨some (37,true),.bin 46 .geq (.t 45) (.c (.int .i64 0))⟩,
 ⟨some (34,false),.pick 47 (.t 37) (.t 46) (.c (.bool false))⟩,
 un (.pick 48 (.t 34) (.c (.bool true)) (.t 47))])
 (.drop [23,24,25,26,27,28,29,30,31,32,33,34,35,36,37,38,39,40,41,42,43,44,45,46,47] (.cond (.t 48) (.seq (.reg [un (.asg 4 (.c (.bool false)))])
 .ret)
 .skip))))))
 (.drop [20,21,22,5,6,23,24,25,26,27,28,29,30,31,32,33,34,35,36,37,38,39,40,41,42,43,44,45,46,47,48] (.reg [un (.bin 49 .add (.t 18) (.c (.int .i64 1))),
 un (.asg 18 (.t 49))])))))
def Ac1:ACode:=
 (.seq (.reg [un (.box 3 (.t 1)),
 un (.asg 4 (.c (.bool false)))])
 (.seq (.cut Xv)
 (.drop [7,8,9,10,11,12,13,14] (.seq (.seq (.reg [un (.fadr 15 1 (.t 3)),
 un (.ld 16 1 false (.t 15)),
 un (.len 17 (.t 16)),
 un (.mov 18 (.c (.int .i64 0)))])
 (.drop [15] (.block 0 (.loop Oa))))
 (.drop [15,16,17,18,19,20,21,22,5,6,23,24,25,26,27,28,29,30,31,32,33,34,35,36,37,38,39,40,41,42,43,44,45,46,47,48,49] (.seq (.reg [un (.asg 4 (.c (.bool true)))])
 .ret))))))
abbrev Adx:List RS:=[.t 4]
theorem Ady:A4 Tryz.prog Ie 50 Ac1 Adx=true:=by kernel_rfl
def Ak0:ACode:=
 (.seq (.reg [un (.asg 2 (.c (.bool false)))])
 (.seq (.reg [un (.mov 3 (.t 0)),
 un (.call 4 Hd [((.t 3),false),((.c (.int .i64 1)),false),((.c (.int .i64 8)),false)]),
 un (.asg 2 (.t 4))])
 (.drop [3,4] .ret)))
abbrev Ak6:List RS:=[.t 2]
theorem Amc:A4 Tryz.prog S7 5 Ak0 Ak6=true:=by kernel_rfl
def Uz:ACode:=
 (.seq (.seq (.reg [un (.mov 11 (.t 6)),
 un (.mov 12 (.t 7)),
 un (.bin 13 .lss (.t 11) (.t 12))])
 (.drop [11,12] (.cond (.t 13) .skip
 (.exit 0))))
 (.drop [11,12,13] (.block 1 (.seq (.reg [un (.mov 14 (.t 6)),
 un (.mov 15 (.t 7)),
 un (.bin 16 .add (.t 14) (.t 15)),
 un (.bin 17 .quo (.t 16) (.c (.int .i64 2))),
 un (.asg 8 (.t 17))])
 (.drop [14,15,16,17] (.seq (.reg [un (.mov 18 (.t 0)),
 un (.mov 19 (.t 8)),
 un (.iad 20 1 (.t 18) (.t 19)),
 un (.ld 21 1 false (.t 20)),
 un (.mov 22 (.t 1)),
 un (.call 23 Nh [((.t 21),false),((.t 22),false)])])
 (.drop [18,19,20,21,22] (.cond (.t 23) (.reg [un (.mov 24 (.t 8)),
 un (.bin 25 .add (.t 24) (.c (.int .i64 1))),
 un (.asg 6 (.t 25))])
 (.reg [un (.mov 26 (.t 8)),
 un (.asg 7 (.t 26))])))))))))
def Akt:ACode:=
 (.seq (.reg [un (.asg 4 (.c (.int .i64 0))),
 un (.asg 5 (.c (.bool false)))])
 (.seq (.reg [un (.mov 9 (.t 0)),
 un (.len 10 (.t 9)),
 un (.asg 6 (.c (.int .i64 0))),
 un (.asg 7 (.t 10))])
 (.drop [9,10] (.seq (.block 0 (.loop Uz))
 (.drop [11,12,13,14,15,16,17,8,18,19,20,21,22,23,24,25,26] (.seq (.reg [un (.mov 27 (.t 6)),
 un (.mov 28 (.t 6)),
 un (.mov 29 (.t 0)),
 un (.len 30 (.t 29)),
 un (.bin 31 .lss (.t 28) (.t 30)),
 un (.asg 32 (.t 31)),
 ⟨some (32,true),.mov 33 (.t 0)⟩,
 ⟨some (32,true),.mov 34 (.t 6)⟩,
 ⟨some (32,true),.iad 35 1 (.t 33) (.t 34)⟩,
 ⟨some (32,true),.ld 36 1 false (.t 35)⟩,
 ⟨some (32,true),.mov 37 (.t 1)⟩,
 ⟨some (32,true),.call 38 S8 [((.t 36),false),((.t 37),false)]⟩,
 un (.pick 39 (.t 32) (.t 38) (.c (.bool false))),
 un (.asg 4 (.t 27)),
 un (.asg 5 (.t 39))])
 (.drop [27,28,29,30,31,32,33,34,35,36,37,38,39] .ret)))))))
abbrev Ak2:List RS:=[.t 4,.t 5]
theorem Ali:A4 Tryz.prog Hu 40 Akt Ak2=true:=by kernel_rfl
def Uh:ACode:=
 (.seq (.seq (.reg [un (.mov 5 (.t 4)),
 un (.fadr 6 1 (.t 1)),
 un (.ld 7 1 false (.t 6)),
 un (.len 8 (.t 7)),
 un (.bin 9 .lss (.t 5) (.t 8))])
 (.drop [5,6,7,8] (.cond (.t 9) .skip
 (.exit 0))))
 (.drop [5,6,7,8,9] (.seq (.block 1 (.reg [un (.mov 12 (.t 3)),
 un (.fadr 13 1 (.t 1)),
 un (.ld 14 1 false (.t 13)),
 un (.mov 15 (.t 4)),
 un (.iad 16 2 (.t 14) (.t 15)),
 un (.fadr 17 0 (.t 16)),
 un (.ld 18 1 false (.t 17)),
 un (.call 19 Tm [((.t 12),false),((.t 18),false)]),
 un (.asg 3 (.t 19))]))
 (.drop [12,13,14,15,16,17,18,19] (.reg [un (.mov 10 (.t 4)),
 un (.bin 11 .add (.t 10) (.c (.int .i64 1))),
 un (.asg 4 (.t 11))])))))
def Ald:ACode:=
 (.seq (.reg [un (.box 1 (.t 0)),
 un (.asg 2 (.c (.int .i64 0)))])
 (.seq (.reg [un (.asg 3 (.c (.int .i64 0)))])
 (.seq (.seq (.reg [un (.asg 4 (.c (.int .i64 0)))])
 (.block 0 (.loop Uh)))
 (.drop [4,5,6,7,8,9,12,13,14,15,16,17,18,19,10,11] (.seq (.seq (.reg [un (.mov 20 (.t 3))])
 (.block 2 (.seq (.reg [un (.bin 22 .eql (.t 20) (.c (.int .i64 3))),
 un (.asg 21 (.t 22))])
 (.drop [22] (.cond (.t 21) (.seq (.reg [un (.asg 2 (.c (.int .i64 40)))])
 .ret)
 (.seq (.reg [un (.bin 24 .eql (.t 20) (.c (.int .i64 2))),
 un (.asg 23 (.t 24))])
 (.drop [24] (.cond (.t 23) (.seq (.reg [un (.asg 2 (.c (.int .i64 200)))])
 .ret)
 .skip))))))))
 (.drop [20,22,21,24,23] (.seq (.reg [un (.asg 2 (.c (.int .i64 300)))])
 .ret)))))))
abbrev Ak8:List RS:=[.t 2]
theorem Alf:A4 Tryz.prog S9 25 Ald Ak8=true:=by kernel_rfl
def U4:ACode:=
 (.seq (.seq (.reg [un (.mov 13 (.t 7)),
 un (.bin 14 .geq (.t 13) (.c (.int .i64 0)))])
 (.drop [13] (.cond (.t 14) .skip
 (.exit 0))))
 (.drop [13,14] (.seq (.block 1 (.seq (.seq (.reg [un (.mov 17 (.t 6)),
 un (.mov 18 (.t 7)),
 un (.iad 19 1 (.t 17) (.t 18)),
 un (.ld 20 1 false (.t 19)),
 un (.mov 21 (.t 1)),
 un (.bin 22 .sub (.t 21) (.c (.int .i64 1))),
 un (.bin 23 .lss (.t 20) (.t 22))])
 (.drop [17,18,19,20,21,22] (.cond (.t 23) (.seq (.reg [un (.mov 24 (.t 6)),
 un (.mov 25 (.t 7)),
 un (.mov 26 (.t 6)),
 un (.mov 27 (.t 7)),
 un (.iad 28 1 (.t 26) (.t 27)),
 un (.ld 29 1 false (.t 28)),
 un (.bin 30 .add (.t 29) (.c (.int .i64 1))),
 un (.iad 31 1 (.t 24) (.t 25)),
 un (.st 1 (.t 31) (.t 30))])
 (.drop [24,25,26,27,28,29,30,31] (.seq (.reg [un (.mov 32 (.t 6)),
 un (.asg 4 (.t 32)),
 un (.asg 5 (.c (.bool true)))])
 (.drop [32] .ret))))
 .skip)))
 (.drop [17,18,19,20,21,22,23,24,25,26,27,28,29,30,31,32] (.reg [un (.mov 33 (.t 6)),
 un (.mov 34 (.t 7)),
 un (.iad 35 1 (.t 33) (.t 34)),
 un (.st 1 (.t 35) (.c (.int .i64 0)))]))))
 (.drop [17,18,19,20,21,22,23,24,25,26,27,28,29,30,31,32,33,34,35] (.reg [un (.mov 15 (.t 7)),
 un (.bin 16 .sub (.t 15) (.c (.int .i64 1))),
 un (.asg 7 (.t 16))])))))
def Alh:ACode:=
 (.seq (.reg [un (.asg 4 (.c (.nilsl 1))),
 un (.asg 5 (.c (.bool false)))])
 (.seq (.reg [un (.mov 8 (.t 0)),
 un (.call 9 Po [((.t 8),false)]),
 un (.asg 6 (.t 9))])
 (.drop [8,9] (.seq (.seq (.reg [un (.mov 10 (.t 6)),
 un (.len 11 (.t 10)),
 un (.bin 12 .sub (.t 11) (.c (.int .i64 1))),
 un (.asg 7 (.t 12))])
 (.drop [10,11,12] (.block 0 (.loop U4))))
 (.drop [10,11,12,7,13,14,17,18,19,20,21,22,23,24,25,26,27,28,29,30,31,32,33,34,35,15,16] (.seq (.reg [un (.mov 36 (.t 6)),
 un (.asg 4 (.t 36)),
 un (.asg 5 (.c (.bool false)))])
 (.drop [36] .ret)))))))
abbrev Alr:List RS:=[.t 4,.t 5]
theorem Ala:A4 Tryz.prog Ng 37 Alh Alr=true:=by kernel_rfl
def Nt:ACode:=
 (.seq (.seq (.reg [un (.mov 6 (.t 5)),
 un (.mov 7 (.t 1)),
 un (.len 8 (.t 7)),
 un (.bin 9 .lss (.t 6) (.t 8))])
 (.drop [6,7,8] (.cond (.t 9) .skip
 (.exit 0))))
 (.drop [6,7,8,9] (.seq (.block 1 (.seq (.reg [un (.mov 12 (.t 1)),
 un (.mov 13 (.t 5)),
 un (.iad 14 1 (.t 12) (.t 13)),
 un (.ld 15 1 false (.t 14)),
 un (.mov 16 (.t 0)),
 un (.bin 17 .sub (.t 16) (.c (.int .i64 1))),
 un (.call 18 Hd [((.t 15),false),((.c (.int .i64 0)),false),((.t 17),false)]),
 un (.un 19 .not (.t 18))])
 (.drop [12,13,14,15,16,17,18] (.cond (.t 19) (.seq (.reg [un (.asg 4 (.c (.bool false)))])
 .ret)
 .skip))))
 (.drop [12,13,14,15,16,17,18,19] (.reg [un (.mov 10 (.t 5)),
 un (.bin 11 .add (.t 10) (.c (.int .i64 1))),
 un (.asg 5 (.t 11))])))))
def Ach:ACode:=
 (.seq (.reg [un (.asg 4 (.c (.bool false)))])
 (.seq (.seq (.reg [un (.asg 5 (.c (.int .i64 0)))])
 (.block 0 (.loop Nt)))
 (.drop [5,6,7,8,9,12,13,14,15,16,17,18,19,10,11] (.seq (.reg [un (.asg 4 (.c (.bool true)))])
 .ret))))
abbrev Ab5:List RS:=[.t 4]
theorem Acc:A4 Tryz.prog Id 20 Ach Ab5=true:=by kernel_rfl
def Pc:ACode:=
 (.seq (.reg [un (.bin 10 .lss (.t 9) (.t 8))])
 (.seq (.cond (.t 10) .skip
 (.exit 0))
 (.seq (.block 1 (.seq (.reg [un (.mov 11 (.t 9)),
 un (.iad 12 1 (.t 7) (.t 9)),
 un (.ld 13 1 false (.t 12)),
 un (.asg 4 (.t 11)),
 un (.asg 5 (.t 13))])
 (.drop [11,12,13] (.seq (.reg [un (.mov 14 (.t 4)),
 un (.bin 15 .eql (.t 14) (.c (.int .i64 0))),
 un (.asg 16 (.t 15)),
 ⟨some (16,false),.mov 17 (.t 0)⟩,
 ⟨some (16,false),.mov 18 (.t 4)⟩,
 ⟨some (16,false),.bin 19 .sub (.t 18) (.c (.int .i64 1))⟩,
 ⟨some (16,false),.iad 20 1 (.t 17) (.t 19)⟩,
 ⟨some (16,false),.ld 21 1 false (.t 20)⟩,
 ⟨some (16,false),.mov 22 (.t 5)⟩,
 ⟨some (16,false),.call 23 Kt [((.t 21),false),((.t 22),false)]⟩,
 ⟨some (16,false),.un 24 .not (.t 23)⟩,
 un (.pick 25 (.t 16) (.c (.bool true)) (.t 24))])
 (.drop [14,15,16,17,18,19,20,21,22,23,24] (.cond (.t 25) (.reg [un (.mov 26 (.t 3)),
 un (.mov 27 (.t 5)),
 un (.bsl 28 1 [(.t 27)]),
 un (.app 29 1 (.t 26) (.t 28)),
 un (.asg 3 (.t 29))])
 .skip))))))
 (.drop [11,12,13,4,5,14,15,16,17,18,19,20,21,22,23,24,25,26,27,28,29] (.reg [un (.bin 30 .add (.t 9) (.c (.int .i64 1))),
 un (.asg 9 (.t 30))])))))
def Ae3:ACode:=
 (.seq (.reg [un (.asg 2 (.c (.nilsl 1)))])
 (.seq (.reg [un (.bsl 6 1 []),
 un (.asg 3 (.t 6))])
 (.drop [6] (.seq (.seq (.reg [un (.mov 7 (.t 0)),
 un (.len 8 (.t 7)),
 un (.mov 9 (.c (.int .i64 0)))])
 (.block 0 (.loop Pc)))
 (.drop [7,8,9,10,11,12,13,4,5,14,15,16,17,18,19,20,21,22,23,24,25,26,27,28,29,30] (.seq (.reg [un (.mov 31 (.t 3)),
 un (.asg 2 (.t 31))])
 (.drop [31] .ret)))))))
abbrev Afn:List RS:=[.t 2]
theorem Aeg:A4 Tryz.prog Mz 32 Ae3 Afn=true:=by kernel_rfl
def Aeu:ACode:=
 (.seq (.reg [un (.box 5 (.t 1)),
 un (.asg 8 (.c (.nilsl 1)))])
 (.seq (.reg [un (.mov 9 (.t 0)),
 un (.ld 10 2 true (.t 5)),
 un (.bsl 11 2 [(.t 10)]),
 un (.bld 12 [.int .i64 0,.nilsl 2] [(0,1,(.t 9)),(1,1,(.t 11))]),
 un (.mov 13 (.t 2)),
 un (.mov 14 (.t 3)),
 un (.call 15 I3 [((.t 12),false),((.c (.int .i64 0)),false),((.t 13),false),((.t 14),false)]),
 un (.asg 8 (.t 15))])
 (.drop [9,10,11,12,13,14,15] .ret)))
abbrev Ae0:List RS:=[.t 8]
theorem Afo:A4 Tryz.prog My 16 Aeu Ae0=true:=by kernel_rfl
def Pb:ACode:=
 (.seq (.reg [un (.bin 10 .lss (.t 9) (.t 8))])
 (.seq (.cond (.t 10) .skip
 (.exit 0))
 (.seq (.block 1 (.seq (.reg [un (.iad 11 1 (.t 7) (.t 9)),
 un (.ld 12 1 false (.t 11)),
 un (.asg 5 (.t 12))])
 (.drop [11,12] (.reg [un (.mov 13 (.t 3)),
 un (.mov 14 (.t 5)),
 un (.call 15 Pk [((.t 14),false)]),
 un (.bsl 16 1 [(.t 15)]),
 un (.app 17 1 (.t 13) (.t 16)),
 un (.asg 3 (.t 17))]))))
 (.drop [11,12,5,13,14,15,16,17] (.reg [un (.bin 18 .add (.t 9) (.c (.int .i64 1))),
 un (.asg 9 (.t 18))])))))
def Aet:ACode:=
 (.seq (.reg [un (.asg 2 (.c (.nilsl 1)))])
 (.seq (.reg [un (.bsl 6 1 []),
 un (.asg 3 (.t 6))])
 (.drop [6] (.seq (.seq (.reg [un (.mov 7 (.t 0)),
 un (.len 8 (.t 7)),
 un (.mov 9 (.c (.int .i64 0)))])
 (.block 0 (.loop Pb)))
 (.drop [7,8,9,10,11,12,5,13,14,15,16,17,18] (.seq (.reg [un (.mov 19 (.t 3)),
 un (.asg 2 (.t 19))])
 (.drop [19] .ret)))))))
abbrev Ae9:List RS:=[.t 2]
theorem Afp:A4 Tryz.prog Mx 20 Aet Ae9=true:=by kernel_rfl
def N5:ACode:=
 (.seq (.seq (.reg [un (.mov 43 (.t 15)),
 un (.bin 44 .geq (.t 43) (.c (.int .i64 0)))])
 (.drop [43] (.cond (.t 44) .skip
 (.exit 2))))
 (.drop [43,44] (.seq (.block 3 (.seq (.reg [un (.mov 47 (.t 11)),
 un (.mov 48 (.t 15)),
 un (.mov 49 (.t 14)),
 un (.mov 50 (.t 10)),
 un (.bin 51 .rem (.t 49) (.t 50)),
 un (.iad 52 1 (.t 47) (.t 48)),
 un (.st 1 (.t 52) (.t 51))])
 (.drop [47,48,49,50,51,52] (.reg [un (.mov 53 (.t 14)),
 un (.mov 54 (.t 10)),
 un (.bin 55 .quo (.t 53) (.t 54)),
 un (.asg 14 (.t 55))]))))
 (.drop [47,48,49,50,51,52,53,54,55] (.reg [un (.mov 45 (.t 15)),
 un (.bin 46 .sub (.t 45) (.c (.int .i64 1))),
 un (.asg 15 (.t 46))])))))
def N8:ACode:=
 (.seq (.reg [un (.bin 64 .lss (.t 63) (.t 62))])
 (.seq (.cond (.t 64) .skip
 (.exit 6))
 (.seq (.block 7 (.seq (.reg [un (.iad 65 1 (.t 61) (.t 63)),
 un (.ld 66 1 false (.t 65)),
 un (.asg 19 (.t 66))])
 (.drop [65,66] (.reg [un (.mov 67 (.t 17)),
 un (.mov 68 (.t 0)),
 un (.bin 69 .mul (.t 67) (.t 68)),
 un (.fadr 70 1 (.t 5)),
 un (.ld 71 1 false (.t 70)),
 un (.mov 72 (.t 19)),
 un (.iad 73 1 (.t 71) (.t 72)),
 un (.ld 74 1 false (.t 73)),
 un (.mov 75 (.t 16)),
 un (.iad 76 1 (.t 74) (.t 75)),
 un (.ld 77 1 false (.t 76)),
 un (.bin 78 .add (.t 69) (.t 77)),
 un (.asg 17 (.t 78))]))))
 (.drop [65,66,19,67,68,69,70,71,72,73,74,75,76,77,78] (.reg [un (.bin 79 .add (.t 63) (.c (.int .i64 1))),
 un (.asg 63 (.t 79))])))))
def Nv:ACode:=
 (.seq (.reg [un (.bin 59 .lss (.t 58) (.t 57))])
 (.seq (.cond (.t 59) .skip
 (.exit 4))
 (.seq (.block 5 (.seq (.reg [un (.mov 60 (.t 58)),
 un (.asg 16 (.t 60))])
 (.drop [60] (.seq (.reg [un (.asg 17 (.c (.int .i64 0)))])
 (.seq (.seq (.reg [un (.mov 61 (.t 11)),
 un (.len 62 (.t 61)),
 un (.mov 63 (.c (.int .i64 0)))])
 (.block 6 (.loop N8)))
 (.drop [61,62,63,64,65,66,19,67,68,69,70,71,72,73,74,75,76,77,78,79] (.reg [un (.mov 80 (.t 12)),
 un (.mov 81 (.t 16)),
 un (.fadr 82 1 (.t 4)),
 un (.ld 83 1 false (.t 82)),
 un (.mov 84 (.t 17)),
 un (.iad 85 1 (.t 83) (.t 84)),
 un (.ld 86 1 false (.t 85)),
 un (.iad 87 1 (.t 80) (.t 81)),
 un (.st 1 (.t 87) (.t 86))])))))))
 (.drop [60,16,17,61,62,63,64,65,66,19,67,68,69,70,71,72,73,74,75,76,77,78,79,80,81,82,83,84,85,86,87] (.reg [un (.bin 88 .add (.t 58) (.c (.int .i64 1))),
 un (.asg 58 (.t 88))])))))
def Nz:ACode:=
 (.seq (.seq (.reg [un (.mov 31 (.t 13)),
 un (.mov 32 (.t 10)),
 un (.fadr 33 0 (.t 4)),
 un (.ld 34 1 false (.t 33)),
 un (.call 35 Me [((.t 32),false),((.t 34),false)]),
 un (.bin 36 .lss (.t 31) (.t 35))])
 (.drop [31,32,33,34,35] (.cond (.t 36) .skip
 (.exit 0))))
 (.drop [31,32,33,34,35,36] (.seq (.block 1 (.seq (.reg [un (.mov 39 (.t 13)),
 un (.asg 14 (.t 39))])
 (.drop [39] (.seq (.seq (.reg [un (.fadr 40 0 (.t 4)),
 un (.ld 41 1 false (.t 40)),
 un (.bin 42 .sub (.t 41) (.c (.int .i64 1))),
 un (.asg 15 (.t 42))])
 (.drop [40,41,42] (.block 2 (.loop N5))))
 (.drop [40,41,42,15,43,44,47,48,49,50,51,52,53,54,55,45,46] (.seq (.seq (.reg [un (.mov 56 (.t 12)),
 un (.len 57 (.t 56)),
 un (.mov 58 (.c (.int .i64 0)))])
 (.drop [56] (.block 4 (.loop Nv))))
 (.drop [56,57,58,59,60,16,17,61,62,63,64,65,66,19,67,68,69,70,71,72,73,74,75,76,77,78,79,80,81,82,83,84,85,86,87,88] (.seq (.reg [un (.mov 89 (.t 9)),
 un (.mov 90 (.t 12)),
 un (.call 91 Pn [((.t 90),false)]),
 un (.mlk 92 (.t 89) (.t 91) (.bool false) false),
 un (.un 93 .not (.t 92))])
 (.drop [89,90,91,92] (.cond (.t 93) (.seq (.reg [un (.mov 94 (.t 11)),
 un (.mov 95 (.t 12)),
 un (.asg 6 (.t 94)),
 un (.asg 7 (.t 95)),
 un (.asg 8 (.c (.bool true)))])
 (.drop [94,95] .ret))
 .skip))))))))))
 (.drop [39,14,40,41,42,15,43,44,47,48,49,50,51,52,53,54,55,45,46,56,57,58,59,60,16,17,61,62,63,64,65,66,19,67,68,69,70,71,72,73,74,75,76,77,78,79,80,81,82,83,84,85,86,87,88,89,90,91,92,93,94,95] (.reg [un (.mov 37 (.t 13)),
 un (.bin 38 .add (.t 37) (.c (.int .i64 1))),
 un (.asg 13 (.t 38))])))))
def Ab3:ACode:=
 (.seq (.reg [un (.box 4 (.t 1)),
 un (.box 5 (.t 2)),
 un (.asg 6 (.c (.nilsl 1))),
 un (.asg 7 (.c (.nilsl 1))),
 un (.asg 8 (.c (.bool false)))])
 (.seq (.reg [un (.ld 20 2 true (.t 5)),
 un (.call 21 On [((.t 20),false)]),
 un (.asg 9 (.t 21))])
 (.drop [20,21] (.seq (.reg [un (.fadr 22 1 (.t 5)),
 un (.ld 23 1 false (.t 22)),
 un (.len 24 (.t 23)),
 un (.asg 10 (.t 24))])
 (.drop [22,23,24] (.seq (.reg [un (.fadr 25 0 (.t 4)),
 un (.ld 26 1 false (.t 25)),
 un (.mk 27 1 (.int .i64 0) (.t 26)),
 un (.asg 11 (.t 27))])
 (.drop [25,26,27] (.seq (.reg [un (.fadr 28 0 (.t 5)),
 un (.ld 29 1 false (.t 28)),
 un (.mk 30 1 (.int .i64 0) (.t 29)),
 un (.asg 12 (.t 30))])
 (.drop [28,29,30] (.seq (.seq (.reg [un (.asg 13 (.c (.int .i64 0)))])
 (.block 0 (.loop Nz)))
 (.drop [13,31,32,33,34,35,36,39,14,40,41,42,15,43,44,47,48,49,50,51,52,53,54,55,45,46,56,57,58,59,60,16,17,61,62,63,64,65,66,19,67,68,69,70,71,72,73,74,75,76,77,78,79,80,81,82,83,84,85,86,87,88,89,90,91,92,93,94,95,37,38] (.seq (.reg [un (.asg 6 (.c (.nilsl 1))),
 un (.asg 7 (.c (.nilsl 1))),
 un (.asg 8 (.c (.bool false)))])
 .ret))))))))))))
abbrev Add:List RS:=[.t 6,.t 7,.t 8]
theorem Acd:A4 Tryz.prog Ih 96 Ab3 Add=true:=by kernel_rfl
def Aa9:ACode:=
 (.seq (.reg [un (.asg 4 (.c (.int .i64 0)))])
 (.seq (.reg [un (.mov 5 (.t 1)),
 un (.mov 6 (.t 0)),
 un (.mov 7 (.t 1)),
 un (.len 8 (.t 7)),
 un (.call 9 Ca [((.t 6),true),((.t 8),false)]),
 un (.iad 10 1 (.t 5) (.t 9)),
 un (.ld 11 1 false (.t 10)),
 un (.asg 4 (.t 11))])
 (.drop [5,6,7,8,9,10,11] .ret)))
abbrev Aaz:List RS:=[.t 4]
theorem Aa8:A4 Tryz.prog B7 12 Aa9 Aaz=true:=by kernel_rfl
def Aal:ACode:=
 (.seq (.reg [un (.box 3 (.t 1)),
 un (.asg 4 (.c (.bool false)))])
 (.seq (.reg [un (.mov 5 (.t 0)),
 un (.call 6 S0 [((.t 5),false)]),
 un (.asg 7 (.t 6)),
 ⟨some (7,true),.mov 8 (.t 0)⟩,
 ⟨some (7,true),.ld 9 2 true (.t 3)⟩,
 ⟨some (7,true),.call 10 Ie [((.t 8),false),((.t 9),false)]⟩,
 un (.pick 11 (.t 7) (.t 10) (.c (.bool false))),
 un (.asg 4 (.t 11))])
 (.drop [5,6,7,8,9,10,11] .ret)))
abbrev Abh:List RS:=[.t 4]
theorem Abi:A4 Tryz.prog K3 12 Aal Abh=true:=by kernel_rfl
def Anz:ACode:=
 (.seq (.reg [un (.asg 4 (.c (.nilsl 1)))])
 (.seq (.reg [un (.mov 8 (.t 0)),
 un (.mov 9 (.t 1)),
 un (.call 10 Hu [((.t 8),false),((.t 9),false)]),
 un (.asg 7 (.t 10)),
 un (.ext 11 (.t 7) 0),
 un (.ext 12 (.t 7) 1),
 un (.asg 5 (.t 11)),
 un (.asg 6 (.t 12))])
 (.drop [8,9,10,7,11,12] (.seq (.seq (.reg [un (.mov 13 (.t 6))])
 (.cond (.t 13) (.seq (.reg [un (.mov 14 (.t 0)),
 un (.asg 4 (.t 14))])
 (.drop [14] .ret))
 .skip))
 (.drop [13,14] (.seq (.frz [0] (.dreg [(un (.bsl 15 1 []),[20]),
 (un (.mov 16 (.t 0)),[15,20]),
 (un (.mov 17 (.t 5)),[15,16,20]),
 (un (.slc 18 1 (.t 16) none (some (.t 17))),[15,20]),
 (un (.app 19 1 (.t 15) (.t 18)),[20]),
 (un (.mov 20 (.t 1)),[15,16,17,18,19,15]),
 (un (.bsl 21 1 [(.t 20)]),[15,16,17,18,19,15]),
 (un (.app 22 1 (.t 19) (.t 21)),[15,20]),
 (un (.mov 23 (.t 0)),[15,16,17,18,19,20,21,22,15,20,19]),
 (un (.mov 24 (.t 5)),[15,16,17,18,19,20,21,22,23,15,20,19]),
 (un (.slc 25 1 (.t 23) (some (.t 24)) none),[15,16,17,18,19,20,21,22,15,20,19])]
 [un (.app 26 1 (.t 22) (.t 25)),
 un (.asg 4 (.t 26))]))
 (.drop [15,16,17,18,19,20,21,22,23,24,25,26] .ret)))))))
abbrev Anj:List RS:=[.t 4]
theorem Ao1:A4 Tryz.prog Jd 27 Anz Anj=true:=by kernel_rfl
def Zy:ACode:=
 (.seq (.reg [un (.box 5 (.t 2)),
 un (.asg 6 (.c (.bool false)))])
 (.seq (.reg [un (.mov 7 (.t 1)),
 un (.fadr 8 1 (.t 5)),
 un (.ld 9 2 true (.t 8)),
 un (.call 10 Ie [((.t 7),false),((.t 9),false)]),
 un (.asg 11 (.t 10)),
 ⟨some (11,true),.fadr 12 0 (.t 5)⟩,
 ⟨some (11,true),.ld 13 1 false (.t 12)⟩,
 ⟨some (11,true),.len 14 (.t 13)⟩,
 ⟨some (11,true),.fadr 15 1 (.t 5)⟩,
 ⟨some (11,true),.fadr 16 0 (.t 15)⟩,
 ⟨some (11,true),.ld 17 1 false (.t 16)⟩,
 ⟨some (11,true),.bin 18 .eql (.t 14) (.t 17)⟩,
 un (.pick 19 (.t 11) (.t 18) (.c (.bool false))),
 un (.asg 20 (.t 19)),
 ⟨some (20,true),.fadr 21 0 (.t 5)⟩,
 ⟨some (20,true),.ld 22 1 false (.t 21)⟩,
 ⟨some (20,true),.mov 23 (.t 0)⟩,
 ⟨some (20,true),.call 24 J1 [((.t 22),false),((.t 23),false)]⟩,
 un (.pick 25 (.t 20) (.t 24) (.c (.bool false))),
 un (.asg 6 (.t 25))])
 (.drop [7,8,9,10,11,12,13,14,15,16,17,18,19,20,21,22,23,24,25] .ret)))
abbrev Zg:List RS:=[.t 6]
theorem Zr:A4 Tryz.prog Jz 26 Zy Zg=true:=by kernel_rfl
def Al5:ACode:=
 (.seq (.reg [un (.box 2 (.t 0)),
 un (.asg 4 (.c (.bool false)))])
 (.seq (.seq (.reg [un (.mov 7 (.t 1)),
 un (.len 8 (.t 7)),
 un (.fadr 9 0 (.t 2)),
 un (.ld 10 1 false (.t 9)),
 un (.bin 11 .neq (.t 8) (.t 10))])
 (.drop [7,8,9,10] (.cond (.t 11) (.seq (.reg [un (.asg 4 (.c (.bool false)))])
 .ret)
 .skip)))
 (.drop [7,8,9,10,11] (.seq (.reg [un (.fadr 13 1 (.t 2)),
 un (.ld 14 1 false (.t 13)),
 un (.mov 15 (.t 1)),
 un (.call 16 Hu [((.t 14),false),((.t 15),false)]),
 un (.asg 12 (.t 16)),
 un (.ext 17 (.t 12) 0),
 un (.ext 18 (.t 12) 1),
 un (.asg 5 (.t 17)),
 un (.asg 6 (.t 18))])
 (.drop [13,14,15,16,12,17,18,5] (.seq (.reg [un (.mov 19 (.t 6)),
 un (.asg 4 (.t 19))])
 (.drop [19] .ret)))))))
abbrev Alb:List RS:=[.t 4]
theorem Aku:A4 Tryz.prog Nn 20 Al5 Alb=true:=by kernel_rfl
def Aft:ACode:=
 (.seq (.reg [un (.asg 4 (.c (.bool false)))])
 (.seq (.reg [un (.mov 5 (.t 0)),
 un (.mov 6 (.t 1)),
 un (.call 7 Ca [((.t 5),true),((.t 6),false)]),
 un (.bin 8 .eql (.t 7) (.c (.int .i64 0))),
 un (.asg 4 (.t 8))])
 (.drop [5,6,7,8] .ret)))
abbrev Aex:List RS:=[.t 4]
theorem Aed:A4 Tryz.prog Jh 9 Aft Aex=true:=by kernel_rfl
def Ia:ACode:=
 (.seq (.seq (.reg [un (.mov 9 (.t 6)),
 un (.mov 10 (.t 1)),
 un (.bin 11 .lss (.t 9) (.t 10))])
 (.drop [9,10] (.cond (.t 11) .skip
 (.exit 0))))
 (.drop [9,10,11] (.seq (.block 1 (.seq (.reg [un (.mov 14 (.t 0)),
 un (.mov 15 (.t 6)),
 un (.bin 16 .add (.t 15) (.c (.int .i64 1))),
 un (.call 17 Ca [((.t 14),true),((.t 16),false)]),
 un (.asg 7 (.t 17))])
 (.drop [14,15,16,17] (.seq (.seq (.reg [un (.mov 18 (.t 7)),
 un (.mov 19 (.t 6)),
 un (.bin 20 .lss (.t 18) (.t 19))])
 (.drop [18,19] (.cond (.t 20) (.reg [un (.mov 21 (.t 5)),
 un (.mov 22 (.t 7)),
 un (.iad 23 1 (.t 21) (.t 22)),
 un (.ld 24 1 false (.t 23)),
 un (.asg 7 (.t 24))])
 .skip)))
 (.drop [18,19,20,21,22,23,24] (.reg [un (.mov 25 (.t 5)),
 un (.mov 26 (.t 7)),
 un (.bsl 27 1 [(.t 26)]),
 un (.app 28 1 (.t 25) (.t 27)),
 un (.asg 5 (.t 28))]))))))
 (.drop [14,15,16,17,7,18,19,20,21,22,23,24,25,26,27,28] (.reg [un (.mov 12 (.t 6)),
 un (.bin 13 .add (.t 12) (.c (.int .i64 1))),
 un (.asg 6 (.t 13))])))))
def Sv:ACode:=
 (.seq (.reg [un (.asg 4 (.c (.nilsl 1)))])
 (.seq (.reg [un (.bsl 8 1 []),
 un (.asg 5 (.t 8))])
 (.drop [8] (.seq (.seq (.reg [un (.asg 6 (.c (.int .i64 0)))])
 (.block 0 (.loop Ia)))
 (.drop [6,9,10,11,14,15,16,17,7,18,19,20,21,22,23,24,25,26,27,28,12,13] (.seq (.reg [un (.mov 29 (.t 5)),
 un (.asg 4 (.t 29))])
 (.drop [29] .ret)))))))
abbrev Tp:List RS:=[.t 4]
theorem Tj:A4 Tryz.prog Gq 30 Sv Tp=true:=by kernel_rfl
def Aj2:ACode:=
 (.seq (.reg [un (.asg 6 (.c (.bool false)))])
 (.seq (.reg [un (.mov 7 (.t 2)),
 un (.len 8 (.t 7)),
 un (.mov 9 (.t 1)),
 un (.bin 10 .eql (.t 8) (.t 9)),
 un (.asg 11 (.t 10)),
 ⟨some (11,true),.mov 12 (.t 0)⟩,
 ⟨some (11,true),.mov 13 (.t 2)⟩,
 ⟨some (11,true),.call 14 Id [((.t 12),false),((.t 13),false)]⟩,
 un (.pick 15 (.t 11) (.t 14) (.c (.bool false))),
 un (.asg 6 (.t 15))])
 (.drop [7,8,9,10,11,12,13,14,15] .ret)))
abbrev Aj7:List RS:=[.t 6]
theorem Akm:A4 Tryz.prog P6 16 Aj2 Aj7=true:=by kernel_rfl
def Zu:ACode:=
 (.seq (.reg [un (.asg 2 (.c (.nilsl 1)))])
 (.seq (.reg [un (.mov 4 (.t 0)),
 un (.call 5 Mx [((.t 4),false)]),
 un (.asg 3 (.t 5))])
 (.drop [4,5] (.seq (.reg [un (.mov 6 (.t 3)),
 un (.call 7 Wr [((.t 6),true),((.c (.clo E5 [])),false)])])
 (.drop [6,7] (.seq (.reg [un (.mov 8 (.t 3)),
 un (.asg 2 (.t 8))])
 (.drop [8] .ret)))))))
abbrev Zm:List RS:=[.t 2]
theorem Zv:A4 Tryz.prog Jx 9 Zu Zm=true:=by kernel_rfl
def Ajh:ACode:=
 (.seq (.reg [un (.box 4 (.t 1)),
 un (.box 5 (.t 2)),
 un (.asg 6 (.c (.bool false)))])
 (.seq (.reg [un (.mov 7 (.t 0)),
 un (.ld 8 2 true (.t 5)),
 un (.call 9 K3 [((.t 7),false),((.t 8),false)]),
 un (.asg 10 (.t 9)),
 ⟨some (10,true),.ld 11 2 true (.t 4)⟩,
 ⟨some (10,true),.mov 12 (.t 0)⟩,
 ⟨some (10,true),.call 13 Sm [((.t 11),false),((.t 12),false)]⟩,
 un (.pick 14 (.t 10) (.t 13) (.c (.bool false))),
 un (.asg 15 (.t 14)),
 ⟨some (15,true),.fadr 16 1 (.t 5)⟩,
 ⟨some (15,true),.ld 17 1 false (.t 16)⟩,
 ⟨some (15,true),.len 18 (.t 17)⟩,
 ⟨some (15,true),.fadr 19 0 (.t 4)⟩,
 ⟨some (15,true),.ld 20 1 false (.t 19)⟩,
 ⟨some (15,true),.call 21 Me [((.t 18),false),((.t 20),false)]⟩,
 ⟨some (15,true),.bin 22 .leq (.t 21) (.c (.int .i64 70000))⟩,
 un (.pick 23 (.t 15) (.t 22) (.c (.bool false))),
 un (.asg 6 (.t 23))])
 (.drop [7,8,9,10,11,12,13,14,15,16,17,18,19,20,21,22,23] .ret)))
abbrev Ajw:List RS:=[.t 6]
theorem Aiy:A4 Tryz.prog Qn 24 Ajh Ajw=true:=by kernel_rfl
def Zs:ACode:=
 (.seq (.reg [un (.fadr 5 0 (.t 1)),
 un (.ld 6 1 false (.t 5)),
 un (.bin 7 .lss (.t 6) (.c (.int .i64 0))),
 un (.asg 8 (.t 7)),
 ⟨some (8,false),.fadr 9 0 (.t 1)⟩,
 ⟨some (8,false),.ld 10 1 false (.t 9)⟩,
 ⟨some (8,false),.bin 11 .gtr (.t 10) (.c (.int .i64 9))⟩,
 un (.pick 12 (.t 8) (.c (.bool true)) (.t 11)),
 un (.asg 13 (.t 12)),
 ⟨some (13,false),.fadr 14 1 (.t 1)⟩,
 ⟨some (13,false),.ld 15 1 false (.t 14)⟩,
 ⟨some (13,false),.call 16 H4 [((.t 15),false)]⟩,
 ⟨some (13,false),.un 17 .not (.t 16)⟩,
 un (.pick 18 (.t 13) (.c (.bool true)) (.t 17)),
 un (.asg 19 (.t 18)),
 ⟨some (19,false),.fadr 20 2 (.t 1)⟩,
 ⟨some (19,false),.ld 21 1 false (.t 20)⟩,
 ⟨some (19,false),.len 22 (.t 21)⟩,
 ⟨some (19,false),.bin 23 .gtr (.t 22) (.c (.int .i64 40))⟩,
 un (.pick 24 (.t 19) (.c (.bool true)) (.t 23))])
 (.drop [5,6,7,8,9,10,11,12,13,14,15,16,17,18,19,20,21,22,23] (.cond (.t 24) (.seq (.reg [un (.asg 2 (.c (.bool false)))])
 .ret)
 .skip)))
def O7:ACode:=
 (.seq (.reg [un (.bin 29 .lss (.t 28) (.t 27))])
 (.seq (.cond (.t 29) .skip
 (.exit 0))
 (.seq (.block 1 (.seq (.reg [un (.iad 30 3 (.t 26) (.t 28)),
 un (.ld 31 3 true (.t 30)),
 un (.alc 4 (.agg [.nilsl 1,.int .i64 0,.nilsl 1])),
 un (.st 3 (.t 4) (.t 31))])
 (.drop [30,31] (.seq (.reg [un (.fadr 32 0 (.t 1)),
 un (.ld 33 1 false (.t 32)),
 un (.fadr 34 1 (.t 1)),
 un (.ld 35 1 false (.t 34)),
 un (.ld 36 3 true (.t 4)),
 un (.call 37 Jz [((.t 33),false),((.t 35),false),((.t 36),false)]),
 un (.un 38 .not (.t 37))])
 (.drop [32,33,34,35,36,37] (.cond (.t 38) (.seq (.reg [un (.asg 2 (.c (.bool false)))])
 .ret)
 .skip))))))
 (.drop [30,31,4,32,33,34,35,36,37,38] (.reg [un (.bin 39 .add (.t 28) (.c (.int .i64 1))),
 un (.asg 28 (.t 39))])))))
def Aew:ACode:=
 (.seq (.reg [un (.box 1 (.t 0)),
 un (.asg 2 (.c (.bool false)))])
 (.seq (.cut Zs)
 (.drop [5,6,7,8,9,10,11,12,13,14,15,16,17,18,19,20,21,22,23,24] (.seq (.seq (.reg [un (.fadr 25 2 (.t 1)),
 un (.ld 26 1 false (.t 25)),
 un (.len 27 (.t 26)),
 un (.mov 28 (.c (.int .i64 0)))])
 (.drop [25] (.block 0 (.loop O7))))
 (.drop [25,26,27,28,29,30,31,4,32,33,34,35,36,37,38,39] (.seq (.reg [un (.asg 2 (.c (.bool true)))])
 .ret))))))
abbrev Ae5:List RS:=[.t 2]
theorem Afq:A4 Tryz.prog Jj 40 Aew Ae5=true:=by kernel_rfl
def Qy:ACode:=
 (.seq (.reg [un (.bin 15 .lss (.t 14) (.t 13))])
 (.seq (.cond (.t 15) .skip
 (.exit 0))
 (.seq (.block 1 (.seq (.reg [un (.iad 16 2 (.t 12) (.t 14)),
 un (.ld 17 2 true (.t 16)),
 un (.alc 8 (.agg [.int .i64 0,.nilsl 1])),
 un (.st 2 (.t 8) (.t 17))])
 (.drop [16,17] (.seq (.reg [un (.mov 19 (.t 0)),
 un (.ld 20 2 true (.t 5)),
 un (.ld 21 2 true (.t 8)),
 un (.call 22 Ih [((.t 19),false),((.t 20),false),((.t 21),false)]),
 un (.asg 18 (.t 22)),
 un (.ext 23 (.t 18) 0),
 un (.ext 24 (.t 18) 1),
 un (.ext 25 (.t 18) 2),
 un (.asg 9 (.t 23)),
 un (.asg 10 (.t 24)),
 un (.asg 11 (.t 25))])
 (.drop [19,20,21,22,18,23,24,25,9,10] (.seq (.reg [un (.mov 26 (.t 11))])
 (.cond (.t 26) (.seq (.reg [un (.asg 6 (.c (.bool false)))])
 .ret)
 .skip)))))))
 (.drop [16,17,8,19,20,21,22,18,23,24,25,9,10,11,26] (.reg [un (.bin 27 .add (.t 14) (.c (.int .i64 1))),
 un (.asg 14 (.t 27))])))))
def Agm:ACode:=
 (.seq (.reg [un (.box 5 (.t 2)),
 un (.asg 6 (.c (.bool false)))])
 (.seq (.seq (.reg [un (.mov 12 (.t 1)),
 un (.len 13 (.t 12)),
 un (.mov 14 (.c (.int .i64 0)))])
 (.block 0 (.loop Qy)))
 (.drop [12,13,14,15,16,17,8,19,20,21,22,18,23,24,25,9,10,11,26,27] (.seq (.reg [un (.asg 6 (.c (.bool true)))])
 .ret))))
abbrev Agi:List RS:=[.t 6]
theorem Ags:A4 Tryz.prog O3 28 Agm Agi=true:=by kernel_rfl
def Th:ACode:=
 (.seq (.reg [un (.mov 14 (.t 1)),
 un (.call 15 S7 [((.t 14),false)]),
 un (.un 16 .not (.t 15)),
 un (.asg 17 (.t 16)),
 ⟨some (17,false),.mov 18 (.t 2)⟩,
 ⟨some (17,false),.call 19 Hd [((.t 18),false),((.c (.int .i64 1)),false),((.c (.int .i64 3)),false)]⟩,
 ⟨some (17,false),.un 20 .not (.t 19)⟩,
 un (.pick 21 (.t 17) (.c (.bool true)) (.t 20))])
 (.drop [14,15,16,17,18,19,20] (.cond (.t 21) (.seq (.reg [un (.ld 22 2 true (.t 7)),
 un (.st 2 (.t 6) (.t 22))])
 (.drop [22] .ret))
 .skip)))
def Kc:ACode:=
 (.seq (.seq (.reg [un (.mov 31 (.t 10)),
 un (.mov 32 (.t 2)),
 un (.bin 33 .lss (.t 31) (.t 32))])
 (.drop [31,32] (.cond (.t 33) .skip
 (.exit 2))))
 (.drop [31,32,33] (.seq (.block 3 (.reg [un (.mov 36 (.t 9)),
 un (.mov 37 (.t 0)),
 un (.mov 38 (.t 1)),
 un (.call 39 Ca [((.t 37),true),((.t 38),false)]),
 un (.bsl 40 1 [(.t 39)]),
 un (.app 41 1 (.t 36) (.t 40)),
 un (.asg 9 (.t 41))]))
 (.drop [36,37,38,39,40,41] (.reg [un (.mov 34 (.t 10)),
 un (.bin 35 .add (.t 34) (.c (.int .i64 1))),
 un (.asg 10 (.t 35))])))))
def Ka:ACode:=
 (.seq (.seq (.reg [un (.mov 26 (.t 8)),
 un (.bin 27 .gtr (.t 26) (.c (.int .i64 0)))])
 (.drop [26] (.cond (.t 27) .skip
 (.exit 0))))
 (.drop [26,27] (.seq (.block 1 (.seq (.reg [un (.bsl 30 1 []),
 un (.asg 9 (.t 30))])
 (.drop [30] (.seq (.seq (.reg [un (.asg 10 (.c (.int .i64 0)))])
 (.block 2 (.loop Kc)))
 (.drop [10,31,32,33,36,37,38,39,40,41,34,35] (.frz [9] (.reg [un (.fadr 42 1 (.t 7)),
 un (.ld 43 1 false (.t 42)),
 un (.mov 44 (.t 9)),
 un (.call 45 Jd [((.t 43),true),((.t 44),false)]),
 un (.fadr 46 1 (.t 7)),
 un (.st 1 (.t 46) (.t 45))])))))))
 (.drop [30,9,10,31,32,33,36,37,38,39,40,41,34,35,42,43,44,45,46] (.reg [un (.mov 28 (.t 8)),
 un (.bin 29 .sub (.t 28) (.c (.int .i64 1))),
 un (.asg 8 (.t 29))])))))
def Ta:ACode:=
 (.seq (.reg [un (.mov 47 (.t 2)),
 un (.bin 48 .eql (.t 47) (.c (.int .i64 2))),
 un (.asg 49 (.t 48)),
 ⟨some (49,true),.mov 50 (.t 0)⟩,
 ⟨some (49,true),.call 51 Jh [((.t 50),true),((.c (.int .i64 3)),false)]⟩,
 un (.pick 52 (.t 49) (.t 51) (.c (.bool false)))])
 (.drop [47,48,49,50,51] (.cond (.t 52) (.reg [un (.mov 53 (.t 0)),
 un (.mov 54 (.t 1)),
 un (.call 55 Gq [((.t 53),true),((.t 54),false)]),
 un (.call 56 Hz [((.t 55),false)]),
 un (.st 2 (.t 7) (.t 56))])
 .skip)))
def S5:ACode:=
 (.seq (.reg [un (.mov 57 (.t 0)),
 un (.call 58 Jh [((.t 57),true),((.c (.int .i64 12)),false)])])
 (.drop [57] (.cond (.t 58) (.reg [un (.mov 59 (.t 1)),
 un (.mov 60 (.t 2)),
 un (.call 61 Lk [((.t 59),false),((.t 60),false)]),
 un (.st 2 (.t 7) (.t 61))])
 .skip)))
def Xi:ACode:=
 (.seq (.reg [un (.alc 6 (.agg [.int .i64 0,.nilsl 1]))])
 (.seq (.reg [un (.mov 11 (.t 2)),
 un (.bsl 12 1 []),
 un (.bld 13 [.int .i64 0,.nilsl 1] [(0,1,(.t 11)),(1,1,(.t 12))]),
 un (.alc 7 (.agg [.int .i64 0,.nilsl 1])),
 un (.st 2 (.t 7) (.t 13))])
 (.drop [11,12,13] (.seq (.cut Th)
 (.drop [14,15,16,17,18,19,20,21,22] (.seq (.seq (.reg [un (.mov 23 (.t 0)),
 un (.bsl 24 1 [(.c (.int .i64 0)),(.c (.int .i64 1)),(.c (.int .i64 2)),(.c (.int .i64 3)),(.c (.int .i64 4)),(.c (.int .i64 6)),(.c (.int .i64 9))]),
 un (.call 25 B7 [((.t 23),true),((.t 24),false)]),
 un (.asg 8 (.t 25))])
 (.drop [23,24,25] (.block 0 (.loop Ka))))
 (.drop [23,24,25,8,26,27,30,9,10,31,32,33,36,37,38,39,40,41,34,35,42,43,44,45,46,28,29] (.seq (.cut Ta)
 (.drop [47,48,49,50,51,52,53,54,55,56] (.seq (.cut S5)
 (.drop [57,58,59,60,61] (.seq (.seq (.reg [un (.mov 62 (.t 0)),
 un (.call 63 Ca [((.t 62),true),((.c (.int .i64 40)),false)])])
 (.drop [62] (.block 4 (.seq (.reg [un (.bin 65 .eql (.t 63) (.c (.int .i64 0))),
 un (.asg 64 (.t 65))])
 (.drop [65] (.cond (.t 64) (.reg [un (.mov 66 (.t 0)),
 un (.bsl 67 1 [(.c (.int .i64 0)),(.c (.int .i64 4)),(.c (.int .i64 (-1)))]),
 un (.call 68 B7 [((.t 66),true),((.t 67),false)]),
 un (.fadr 69 0 (.t 7)),
 un (.st 1 (.t 69) (.t 68))])
 (.seq (.reg [un (.bin 71 .eql (.t 63) (.c (.int .i64 1))),
 un (.asg 70 (.t 71))])
 (.drop [71] (.cond (.t 70) (.dreg [(un (.fadr 72 1 (.t 7)),[75]),
 (un (.ld 73 1 false (.t 72)),[75]),
 (un (.mov 74 (.t 2)),[72,73]),
 (un (.mkr 75 1 (.int .i64 0) (.t 74)),[72,73]),
 (un (.bsl 76 1 [(.t 75)]),[72,73])]
 [un (.app 77 1 (.t 73) (.t 76)),
 un (.fadr 78 1 (.t 7)),
 un (.st 1 (.t 78) (.t 77))])
 (.seq (.reg [un (.bin 80 .eql (.t 63) (.c (.int .i64 2))),
 un (.asg 79 (.t 80))])
 (.drop [80] (.cond (.t 79) (.seq (.reg [un (.fadr 81 1 (.t 7)),
 un (.ld 82 1 false (.t 81)),
 un (.len 83 (.t 82)),
 un (.bin 84 .gtr (.t 83) (.c (.int .i64 0)))])
 (.drop [81,82,83] (.cond (.t 84) (.dreg [(un (.fadr 85 1 (.t 7)),[94,88,90]),
 (un (.ld 86 1 false (.t 85)),[94,88,90]),
 (un (.mov 87 (.t 0)),[85,86,88]),
 (un (.mov 88 (.t 1)),[85,86,87]),
 (un (.bslr 89 1 [(.c (.int .i64 (-1))),(.t 88),(.c (.int .i64 0))]),[85,86,87]),
 (un (.call 90 B7 [((.t 87),true),((.t 89),false)]),[94,85,86,88]),
 (un (.bslr 91 1 [(.t 90)]),[85,86,88])]
 [un (.iad 92 1 (.t 86) (.c (.int .i64 0))),
 un (.st 1 (.t 92) (.t 91))])
 .skip)))
 .skip))))))))))))
 (.drop [62,63,65,64,66,67,68,69,71,70,72,73,74,75,76,77,78,80,79,81,82,83,84,85,86,87,88,89,90,91,92] (.seq (.reg [un (.ld 93 2 true (.t 7)),
 un (.st 2 (.t 6) (.t 93))])
 (.drop [93] .ret)))))))))))))))
abbrev W3:List RS:=[.c 6 2 true]
theorem Xj:A4 Tryz.prog H6 94 Xi W3=true:=by kernel_rfl
def Acw:ACode:=
 (.seq (.dreg [(un (.fadr 6 0 (.t 3)),[]),
 (un (.ld 7 1 false (.t 6)),[]),
 (un (.call 8 Hd [((.t 7),false),((.c (.int .i64 1)),false),((.c (.int .i64 3)),false)]),[]),
 (un (.un 9 .not (.t 8)),[]),
 (un (.asg 10 (.t 9)),[]),
 (⟨some (10,false),.fadr 11 1 (.t 3)⟩,[9]),
 (⟨some (10,false),.ld 12 1 false (.t 11)⟩,[9]),
 (⟨some (10,false),.len 13 (.t 12)⟩,[9]),
 (⟨some (10,false),.mov 14 (.t 0)⟩,[11,12,13,9]),
 (⟨some (10,false),.fadr 15 0 (.t 3)⟩,[11,12,13,14,9]),
 (⟨some (10,false),.ld 16 1 false (.t 15)⟩,[11,12,13,14,9]),
 (⟨some (10,false),.call 17 Pp [((.t 14),false),((.t 16),false)]⟩,[11,12,13,9])]
 [⟨some (10,false),.bin 18 .gtr (.t 13) (.t 17)⟩,
 un (.pick 19 (.t 10) (.c (.bool true)) (.t 18))])
 (.drop [6,7,8,9,10,11,12,13,14,15,16,17,18] (.cond (.t 19) (.seq (.reg [un (.asg 4 (.c (.bool false)))])
 .ret)
 .skip)))
def Rh:ACode:=
 (.seq (.seq (.reg [un (.mov 20 (.t 5)),
 un (.fadr 21 1 (.t 3)),
 un (.ld 22 1 false (.t 21)),
 un (.len 23 (.t 22)),
 un (.bin 24 .lss (.t 20) (.t 23))])
 (.drop [20,21,22,23] (.cond (.t 24) .skip
 (.exit 0))))
 (.drop [20,21,22,23,24] (.seq (.block 1 (.seq (.dreg [(un (.mov 27 (.t 0)),[]),
 (un (.fadr 28 0 (.t 3)),[27]),
 (un (.ld 29 1 false (.t 28)),[27]),
 (un (.fadr 30 1 (.t 3)),[27,28,29]),
 (un (.ld 31 1 false (.t 30)),[27,28,29]),
 (un (.mov 32 (.t 5)),[27,28,29,30,31]),
 (un (.iad 33 1 (.t 31) (.t 32)),[27,28,29]),
 (un (.ld 34 1 false (.t 33)),[27,28,29]),
 (un (.call 35 P6 [((.t 27),false),((.t 29),false),((.t 34),false)]),[]),
 (un (.un 36 .not (.t 35)),[]),
 (un (.asg 37 (.t 36)),[]),
 (⟨some (37,false),.mov 38 (.t 5)⟩,[36]),
 (⟨some (37,false),.bin 39 .gtr (.t 38) (.c (.int .i64 0))⟩,[36]),
 (⟨some (37,false),.asg 40 (.t 39)⟩,[36]),
 (⟨some (40,true),.fadr 41 1 (.t 3)⟩,[36,39]),
 (⟨some (40,true),.ld 42 1 false (.t 41)⟩,[36,39]),
 (⟨some (40,true),.mov 43 (.t 5)⟩,[41,42,36,39]),
 (⟨some (40,true),.bin 44 .sub (.t 43) (.c (.int .i64 1))⟩,[41,42,36,39]),
 (⟨some (40,true),.iad 45 1 (.t 42) (.t 44)⟩,[36,39]),
 (⟨some (40,true),.ld 46 1 false (.t 45)⟩,[36,39]),
 (⟨some (40,true),.fadr 47 1 (.t 3)⟩,[41,42,43,44,45,46,36,39]),
 (⟨some (40,true),.ld 48 1 false (.t 47)⟩,[41,42,43,44,45,46,36,39]),
 (⟨some (40,true),.mov 49 (.t 5)⟩,[41,42,43,44,45,46,47,48,36,39]),
 (⟨some (40,true),.iad 50 1 (.t 48) (.t 49)⟩,[41,42,43,44,45,46,36,39]),
 (⟨some (40,true),.ld 51 1 false (.t 50)⟩,[41,42,43,44,45,46,36,39])]
 [⟨some (40,true),.call 52 Nh [((.t 46),false),((.t 51),false)]⟩,
 ⟨some (40,true),.un 53 .not (.t 52)⟩,
 ⟨some (37,false),.pick 54 (.t 40) (.t 53) (.c (.bool false))⟩,
 un (.pick 55 (.t 37) (.c (.bool true)) (.t 54))])
 (.drop [27,28,29,30,31,32,33,34,35,36,37,38,39,40,41,42,43,44,45,46,47,48,49,50,51,52,53,54] (.cond (.t 55) (.seq (.reg [un (.asg 4 (.c (.bool false)))])
 .ret)
 .skip))))
 (.drop [27,28,29,30,31,32,33,34,35,36,37,38,39,40,41,42,43,44,45,46,47,48,49,50,51,52,53,54,55] (.reg [un (.mov 25 (.t 5)),
 un (.bin 26 .add (.t 25) (.c (.int .i64 1))),
 un (.asg 5 (.t 26))])))))
def Aio:ACode:=
 (.seq (.reg [un (.box 3 (.t 1)),
 un (.asg 4 (.c (.bool false)))])
 (.seq (.cut Acw)
 (.drop [6,7,8,9,10,11,12,13,14,15,16,17,18,19] (.seq (.seq (.reg [un (.asg 5 (.c (.int .i64 0)))])
 (.block 0 (.loop Rh)))
 (.drop [5,20,21,22,23,24,27,28,29,30,31,32,33,34,35,36,37,38,39,40,41,42,43,44,45,46,47,48,49,50,51,52,53,54,55,25,26] (.seq (.reg [un (.asg 4 (.c (.bool true)))])
 .ret))))))
abbrev Akk:List RS:=[.t 4]
theorem Ah7:A4 Tryz.prog L5 56 Aio Akk=true:=by kernel_rfl
def Sl:ACode:=
 (.seq (.seq (.reg [un (.mov 29 (.t 12)),
 un (.mov 30 (.t 2)),
 un (.len 31 (.t 30)),
 un (.bin 32 .lss (.t 29) (.t 31))])
 (.drop [29,30,31] (.cond (.t 32) .skip
 (.exit 0))))
 (.drop [29,30,31,32] (.seq (.block 1 (.reg [un (.mov 35 (.t 11)),
 un (.mov 36 (.t 2)),
 un (.mov 37 (.t 12)),
 un (.iad 38 1 (.t 36) (.t 37)),
 un (.ld 39 1 false (.t 38)),
 un (.call 40 Po [((.t 39),false)]),
 un (.bsl 41 1 [(.t 40)]),
 un (.app 42 1 (.t 35) (.t 41)),
 un (.asg 11 (.t 42))]))
 (.drop [35,36,37,38,39,40,41,42] (.reg [un (.mov 33 (.t 12)),
 un (.bin 34 .add (.t 33) (.c (.int .i64 1))),
 un (.asg 12 (.t 34))])))))
def Sg:ACode:=
 (.seq (.seq (.reg [un (.mov 43 (.t 13)),
 un (.fadr 44 1 (.t 3)),
 un (.ld 45 1 false (.t 44)),
 un (.len 46 (.t 45)),
 un (.bin 47 .lss (.t 43) (.t 46))])
 (.drop [43,44,45,46] (.cond (.t 47) .skip
 (.exit 2))))
 (.drop [43,44,45,46,47] (.seq (.block 3 (.seq (.reg [un (.fadr 50 1 (.t 3)),
 un (.ld 51 1 false (.t 50)),
 un (.mov 52 (.t 13)),
 un (.iad 53 2 (.t 51) (.t 52)),
 un (.fadr 54 0 (.t 53)),
 un (.ld 55 1 false (.t 54)),
 un (.bin 56 .eql (.t 55) (.c (.int .i64 0)))])
 (.drop [50,51,52,53,54,55] (.cond (.t 56) (.reg [un (.mov 57 (.t 11)),
 un (.ld 58 2 true (.t 3)),
 un (.mov 59 (.t 13)),
 un (.bsl 60 1 []),
 un (.mov 61 (.t 1)),
 un (.call 62 I3 [((.t 58),false),((.t 59),false),((.t 60),false),((.t 61),false)]),
 un (.bsl 63 1 [(.t 62)]),
 un (.app 64 1 (.t 57) (.t 63)),
 un (.asg 11 (.t 64))])
 .skip))))
 (.drop [50,51,52,53,54,55,56,57,58,59,60,61,62,63,64] (.reg [un (.mov 48 (.t 13)),
 un (.bin 49 .add (.t 48) (.c (.int .i64 1))),
 un (.asg 13 (.t 49))])))))
def Sp:ACode:=
 (.seq (.seq (.reg [un (.mov 65 (.t 14)),
 un (.mov 66 (.t 11)),
 un (.len 67 (.t 66)),
 un (.bin 68 .lss (.t 65) (.t 67))])
 (.drop [65,66,67] (.cond (.t 68) .skip
 (.exit 4))))
 (.drop [65,66,67,68] (.seq (.block 5 (.seq (.reg [un (.mov 72 (.t 8)),
 un (.mov 73 (.t 11)),
 un (.mov 74 (.t 14)),
 un (.iad 75 1 (.t 73) (.t 74)),
 un (.ld 76 1 false (.t 75)),
 un (.call 77 Hu [((.t 72),false),((.t 76),false)]),
 un (.asg 71 (.t 77)),
 un (.ext 78 (.t 71) 0),
 un (.ext 79 (.t 71) 1),
 un (.asg 15 (.t 78)),
 un (.asg 16 (.t 79))])
 (.drop [72,73,74,75,76,77,71,78,79,15] (.seq (.reg [un (.mov 80 (.t 16)),
 un (.un 81 .not (.t 80))])
 (.drop [80] (.cond (.t 81) (.seq (.reg [un (.mov 82 (.t 8)),
 un (.mov 83 (.t 11)),
 un (.mov 84 (.t 14)),
 un (.iad 85 1 (.t 83) (.t 84)),
 un (.ld 86 1 false (.t 85)),
 un (.call 87 Jd [((.t 82),true),((.t 86),false)]),
 un (.asg 8 (.t 87))])
 (.drop [82,83,84,85,86,87] (.reg [un (.mov 88 (.t 9)),
 un (.mov 89 (.t 11)),
 un (.mov 90 (.t 14)),
 un (.iad 91 1 (.t 89) (.t 90)),
 un (.ld 92 1 false (.t 91)),
 un (.bsl 93 1 [(.t 92)]),
 un (.app 94 1 (.t 88) (.t 93)),
 un (.asg 9 (.t 94))])))
 .skip))))))
 (.drop [72,73,74,75,76,77,71,78,79,15,16,80,81,82,83,84,85,86,87,88,89,90,91,92,93,94] (.reg [un (.mov 69 (.t 14)),
 un (.bin 70 .add (.t 69) (.c (.int .i64 1))),
 un (.asg 14 (.t 70))])))))
def Ad1:ACode:=
 (.seq (.reg [un (.mov 95 (.t 17)),
 un (.mov 96 (.t 9)),
 un (.len 97 (.t 96)),
 un (.bin 98 .lss (.t 95) (.t 97)),
 un (.asg 99 (.t 98)),
 ⟨some (99,true),.mov 100 (.t 9)⟩,
 ⟨some (99,true),.len 101 (.t 100)⟩,
 ⟨some (99,true),.mov 102 (.t 10)⟩,
 ⟨some (99,true),.bin 103 .leq (.t 101) (.t 102)⟩,
 un (.pick 104 (.t 99) (.t 103) (.c (.bool false)))])
 (.drop [95,96,97,98,99,100,101,102,103] (.cond (.t 104) .skip
 (.exit 6))))
def Ac2:ACode:=
 (.seq (.reg [un (.mov 128 (.t 20)),
 un (.asg 129 (.t 128)),
 ⟨some (129,true),.mov 130 (.t 9)⟩,
 ⟨some (129,true),.len 131 (.t 130)⟩,
 ⟨some (129,true),.mov 132 (.t 10)⟩,
 ⟨some (129,true),.bin 133 .leq (.t 131) (.t 132)⟩,
 un (.pick 134 (.t 129) (.t 133) (.c (.bool false)))])
 (.drop [128,129,130,131,132,133] (.cond (.t 134) .skip
 (.exit 10))))
def Ace:ACode:=
 (.seq (.reg [un (.mov 135 (.t 19)),
 un (.mov 136 (.t 17)),
 un (.call 137 Vb [((.t 135),false),((.t 136),false)])])
 (.drop [135,136] (.cond (.t 137) (.seq (.dreg [(un (.ld 138 2 true (.t 3)),[9]),
 (un (.mov 139 (.t 18)),[9,138]),
 (un (.mov 140 (.t 9)),[138,139]),
 (un (.mov 141 (.t 19)),[138,139,140]),
 (un (.call 142 Ho [((.t 140),true),((.t 141),false)]),[9,138,139]),
 (un (.mov 143 (.t 1)),[9,138,139,140,141,142])]
 [un (.call 144 I3 [((.t 138),false),((.t 139),false),((.t 142),false),((.t 143),false)]),
 un (.asgf 21 (.t 144))])
 (.drop [138,139,140,141,142,143,144] (.seq (.reg [un (.mov 146 (.t 8)),
 un (.mov 147 (.t 21)),
 un (.call 148 Hu [((.t 146),false),((.t 147),false)]),
 un (.asg 145 (.t 148)),
 un (.ext 149 (.t 145) 0),
 un (.ext 150 (.t 145) 1),
 un (.asg 22 (.t 149)),
 un (.asg 23 (.t 150))])
 (.drop [146,147,148,145,149,150,22] (.seq (.reg [un (.mov 151 (.t 23)),
 un (.un 152 .not (.t 151))])
 (.drop [151] (.cond (.t 152) (.seq (.reg [un (.mov 153 (.t 8)),
 un (.mov 154 (.t 21)),
 un (.call 155 Jd [((.t 153),true),((.t 154),false)]),
 un (.asg 8 (.t 155))])
 (.drop [153,154,155] (.reg [un (.mov 156 (.t 9)),
 un (.mov 157 (.t 21)),
 un (.bsl 158 1 [(.t 157)]),
 un (.app 159 1 (.t 156) (.t 158)),
 un (.asg 9 (.t 159))])))
 .skip)))))))
 .skip)))
def Rp:ACode:=
 (.seq (.cut Ac2)
 (.drop [128,129,130,131,132,133,134] (.frz [19] (.block 11 (.seq (.cut Ace)
 (.drop [135,136,137,138,139,140,141,142,143,144,21,146,147,148,145,149,150,22,23,151,152,153,154,155,156,157,158,159] (.reg [un (.mov 161 (.t 19)),
 un (.mov 162 (.t 17)),
 un (.bin 163 .add (.t 162) (.c (.int .i64 1))),
 un (.call 164 Ng [((.t 161),false),((.t 163),false)]),
 un (.asg 160 (.t 164)),
 un (.ext 165 (.t 160) 0),
 un (.ext 166 (.t 160) 1),
 un (.asg 19 (.t 165)),
 un (.asg 20 (.t 166))])))))))
def Rr:ACode:=
 (.seq (.seq (.reg [un (.mov 107 (.t 18)),
 un (.fadr 108 1 (.t 3)),
 un (.ld 109 1 false (.t 108)),
 un (.len 110 (.t 109)),
 un (.bin 111 .lss (.t 107) (.t 110))])
 (.drop [107,108,109,110] (.cond (.t 111) .skip
 (.exit 8))))
 (.drop [107,108,109,110,111] (.seq (.block 9 (.seq (.dregp 0 [19] [(un (.fadr 114 1 (.t 3)),[]),
 (un (.ld 115 1 false (.t 114)),[]),
 (un (.mov 116 (.t 18)),[114,115]),
 (un (.iad 117 2 (.t 115) (.t 116)),[]),
 (un (.fadr 118 0 (.t 117)),[]),
 (un (.ld 119 1 false (.t 118)),[]),
 (un (.mk 120 1 (.int .i64 0) (.t 119)),[]),
 (un (.fadr 121 1 (.t 3)),[114,115,116,117,118,119,120,120]),
 (un (.ld 122 1 false (.t 121)),[114,115,116,117,118,119,120,120]),
 (un (.mov 123 (.t 18)),[114,115,116,117,118,119,120,121,122,120]),
 (un (.iad 124 2 (.t 122) (.t 123)),[114,115,116,117,118,119,120,120]),
 (un (.fadr 125 0 (.t 124)),[114,115,116,117,118,119,120,120]),
 (un (.ld 126 1 false (.t 125)),[114,115,116,117,118,119,120,120]),
 (un (.bin 127 .gtr (.t 126) (.c (.int .i64 0))),[114,115,116,117,118,119,120,120]),
 (un (.asg 19 (.t 120)),[121,122,123,124,125,126,127])]
 [un (.asg 20 (.t 127))])
 (.drop [114,115,116,117,118,119,120,121,122,123,124,125,126,127] (.block 10 (.loop Rp)))))
 (.drop [114,115,116,117,118,119,120,121,122,123,124,125,126,127,19,20,128,129,130,131,132,133,134,135,136,137,138,139,140,141,142,143,144,21,146,147,148,145,149,150,22,23,151,152,153,154,155,156,157,158,159,161,162,163,164,160,165,166] (.reg [un (.mov 112 (.t 18)),
 un (.bin 113 .add (.t 112) (.c (.int .i64 1))),
 un (.asg 18 (.t 113))])))))
def Rq:ACode:=
 (.seq (.cut Ad1)
 (.drop [95,96,97,98,99,100,101,102,103,104] (.seq (.block 7 (.seq (.reg [un (.asg 18 (.c (.int .i64 0)))])
 (.block 8 (.loop Rr))))
 (.drop [18,107,108,109,110,111,114,115,116,117,118,119,120,121,122,123,124,125,126,127,19,20,128,129,130,131,132,133,134,135,136,137,138,139,140,141,142,143,144,21,146,147,148,145,149,150,22,23,151,152,153,154,155,156,157,158,159,161,162,163,164,160,165,166,112,113] (.reg [un (.mov 105 (.t 17)),
 un (.bin 106 .add (.t 105) (.c (.int .i64 1))),
 un (.asg 17 (.t 106))])))))
def Akf:ACode:=
 (.seq (.reg [un (.box 3 (.t 0)),
 un (.asg 6 (.c (.nilsl 1))),
 un (.asg 7 (.c (.bool false)))])
 (.seq (.reg [un (.bsl 24 1 []),
 un (.bsl 25 1 []),
 un (.ld 26 2 true (.t 3)),
 un (.call 27 S9 [((.t 26),false)]),
 un (.asg 8 (.t 24)),
 un (.asg 9 (.t 25)),
 un (.asg 10 (.t 27))])
 (.drop [24,25,26,27] (.seq (.reg [un (.bsl 28 1 []),
 un (.asg 11 (.t 28))])
 (.drop [28] (.seq (.seq (.reg [un (.asg 12 (.c (.int .i64 0)))])
 (.block 0 (.loop Sl)))
 (.drop [12,29,30,31,32,35,36,37,38,39,40,41,42,33,34] (.seq (.seq (.reg [un (.asg 13 (.c (.int .i64 0)))])
 (.block 2 (.loop Sg)))
 (.drop [13,43,44,45,46,47,50,51,52,53,54,55,56,57,58,59,60,61,62,63,64,48,49] (.seq (.seq (.reg [un (.asg 14 (.c (.int .i64 0)))])
 (.frz [100011] (.block 4 (.loop Sp))))
 (.drop [14,65,66,67,68,72,73,74,75,76,77,71,78,79,15,16,80,81,82,83,84,85,86,87,88,89,90,91,92,93,94,69,70] (.seq (.seq (.reg [un (.asg 17 (.c (.int .i64 0)))])
 (.block 6 (.loop Rq)))
 (.drop [17,95,96,97,98,99,100,101,102,103,104,18,107,108,109,110,111,114,115,116,117,118,119,120,121,122,123,124,125,126,127,19,20,128,129,130,131,132,133,134,135,136,137,138,139,140,141,142,143,144,21,146,147,148,145,149,150,22,23,151,152,153,154,155,156,157,158,159,161,162,163,164,160,165,166,112,113,105,106] (.seq (.reg [un (.mov 167 (.t 8)),
 un (.mov 168 (.t 8)),
 un (.len 169 (.t 168)),
 un (.mov 170 (.t 10)),
 un (.bin 171 .leq (.t 169) (.t 170)),
 un (.asg 6 (.t 167)),
 un (.asg 7 (.t 171))])
 (.drop [167,168,169,170,171] .ret)))))))))))))))
abbrev Ajr:List RS:=[.t 6,.t 7]
theorem Aj1:A4 Tryz.prog P2 172 Akf Ajr=true:=by kernel_rfl
def Zb:ACode:=
 (.seq (.reg [un (.alc 4 (.agg [.int .i64 0,.nilsl 1]))])
 (.seq (.reg [un (.mov 5 (.t 0)),
 un (.mov 6 (.t 1)),
 un (.call 7 Jx [((.t 6),false)]),
 un (.call 8 Mz [((.t 7),false)]),
 un (.bld 9 [.int .i64 0,.nilsl 1] [(0,1,(.t 5)),(1,1,(.t 8))]),
 un (.st 2 (.t 4) (.t 9))])
 (.drop [5,6,7,8,9] .ret)))
abbrev Zz:List RS:=[.c 4 2 true]
theorem Zk:A4 Tryz.prog Js 10 Zb Zz=true:=by kernel_rfl
def Aay:ACode:=
 (.dregp 0 [9] [(un (.fadr 12 0 (.t 4)),[17]),
 (un (.ld 13 1 false (.t 12)),[17]),
 (un (.mk 14 1 (.int .i64 0) (.t 13)),[17]),
 (un (.fadr 15 0 (.t 4)),[12,13,14]),
 (un (.ld 16 1 false (.t 15)),[12,13,14]),
 (un (.bin 17 .eql (.t 16) (.c (.int .i64 0))),[12,13,14]),
 (un (.asg 18 (.t 17)),[12,13,14]),
 (⟨some (18,false),.fadr 19 1 (.t 5)⟩,[12,13,14,17,14]),
 (⟨some (18,false),.ld 20 1 false (.t 19)⟩,[12,13,14,17,14]),
 (⟨some (18,false),.len 21 (.t 20)⟩,[12,13,14,17,14]),
 (⟨some (18,false),.bin 22 .gtr (.t 21) (.c (.int .i64 0))⟩,[12,13,14,17,14]),
 (un (.pick 23 (.t 18) (.c (.bool true)) (.t 22)),[12,13,14,17,14]),
 (un (.asg 9 (.t 14)),[19,20,21,22,23,17])]
 [un (.asg 10 (.t 23))])
def Qi:ACode:=
 (.seq (.seq (.reg [un (.mov 24 (.t 10))])
 (.cond (.t 24) .skip
 (.exit 0)))
 (.drop [24] (.block 1 (.seq (.frz [9] (.dreg [(un (.mov 25 (.t 0)),[]),
 (un (.ld 26 2 true (.t 4)),[25]),
 (un (.fadr 27 1 (.t 5)),[25,26]),
 (un (.ld 28 1 false (.t 27)),[25,26]),
 (un (.mov 29 (.t 9)),[25,26,27,28]),
 (un (.call 30 Ho [((.t 28),false),((.t 29),false)]),[25,26]),
 (un (.fadr 31 0 (.t 5)),[25,26,27,28,29,30]),
 (un (.ld 32 1 false (.t 31)),[25,26,27,28,29,30])]
 [un (.call 33 My [((.t 25),false),((.t 26),false),((.t 30),false),((.t 32),false)]),
 un (.asg 11 (.t 33))]))
 (.drop [25,26,27,28,29,30,31,32,33] (.seq (.seq (.reg [un (.ld 34 2 true (.t 5)),
 un (.mov 35 (.t 11)),
 un (.call 36 Nn [((.t 34),false),((.t 35),false)]),
 un (.un 37 .not (.t 36))])
 (.drop [34,35,36] (.cond (.t 37) (.seq (.reg [un (.mov 38 (.t 9)),
 un (.mov 39 (.t 11)),
 un (.asg 6 (.t 38)),
 un (.asg 7 (.t 39)),
 un (.asg 8 (.c (.bool true)))])
 (.drop [38,39] .ret))
 .skip)))
 (.drop [34,35,36,37,38,39] (.reg [un (.mov 41 (.t 9)),
 un (.fadr 42 1 (.t 5)),
 un (.ld 43 1 false (.t 42)),
 un (.len 44 (.t 43)),
 un (.call 45 Ng [((.t 41),false),((.t 44),false)]),
 un (.asg 40 (.t 45)),
 un (.ext 46 (.t 40) 0),
 un (.ext 47 (.t 40) 1),
 un (.asg 9 (.t 46)),
 un (.asg 10 (.t 47))]))))))))
def Agc:ACode:=
 (.seq (.reg [un (.box 4 (.t 1)),
 un (.box 5 (.t 2)),
 un (.asg 6 (.c (.nilsl 1))),
 un (.asg 7 (.c (.nilsl 1))),
 un (.asg 8 (.c (.bool false)))])
 (.seq (.cut Aay)
 (.drop [12,13,14,15,16,17,18,19,20,21,22,23] (.seq (.block 0 (.loop Qi))
 (.drop [24,25,26,27,28,29,30,31,32,33,11,34,35,36,37,38,39,41,42,43,44,45,40,46,47] (.seq (.reg [un (.bsl 48 1 []),
 un (.bsl 49 1 []),
 un (.asg 6 (.t 48)),
 un (.asg 7 (.t 49)),
 un (.asg 8 (.c (.bool false)))])
 (.drop [48,49] .ret)))))))
abbrev Agy:List RS:=[.t 6,.t 7,.t 8]
theorem Agw:A4 Tryz.prog Ol 50 Agc Agy=true:=by kernel_rfl
end Go.Proofs.YtjcekpmojnnmbaaGreat.Ax
