/-
  The small code of the functions, written by program; that the program's code is this one, the kernel looks at.
-/
import Derived.Test.YtpfikenknmlajaaAx3
import Derived.Test.YtpfikenknmlajaaProg
import Derived.KernelRfl
import Derived.Test.YtpfikenknmlajaaNum
namespace Go.Proofs.Ytpfikenknmlajaa.Ax
open Go
set_option maxRecDepth 100000
def Vu:ACode:=
 (.seq (.seq (.reg [un (.mov 17 (.t 6)),
 un (.fadr 18 0 (.t 1)),
 un (.ld 19 1 false (.t 18)),
 un (.len 20 (.t 19)),
 un (.bin 21 .lss (.t 17) (.t 20))])
 (.drop [17,18,19,20] (.cond (.t 21) .skip
 (.exit 2))))
 (.drop [17,18,19,20,21] (.seq (.block 3 (.seq (.reg [un (.ld 24 1 true (.t 1)),
 un (.mov 25 (.t 4)),
 un (.mov 26 (.t 6)),
 un (.call 27 J9 [((.t 24),false),((.t 25),false),((.t 26),false)])])
 (.drop [24,25,26] (.cond (.t 27) (.reg [un (.mov 28 (.t 5)),
 un (.mov 29 (.t 6)),
 un (.bsl 30 1 [(.t 29)]),
 un (.app 31 1 (.t 28) (.t 30)),
 un (.asg 5 (.t 31))])
 .skip))))
 (.drop [24,25,26,27,28,29,30,31] (.reg [un (.mov 22 (.t 6)),
 un (.bin 23 .add (.t 22) (.c (.int .i64 1))),
 un (.asg 6 (.t 23))])))))
def Wu:ACode:=
 (.seq (.seq (.reg [un (.mov 9 (.t 4)),
 un (.fadr 10 0 (.t 1)),
 un (.ld 11 1 false (.t 10)),
 un (.len 12 (.t 11)),
 un (.bin 13 .lss (.t 9) (.t 12))])
 (.drop [9,10,11,12] (.cond (.t 13) .skip
 (.exit 0))))
 (.drop [9,10,11,12,13] (.seq (.block 1 (.seq (.reg [un (.bsl 16 1 []),
 un (.asg 5 (.t 16))])
 (.drop [16] (.seq (.seq (.reg [un (.asg 6 (.c (.int .i64 0)))])
 (.block 2 (.loop Vu)))
 (.drop [6,17,18,19,20,21,24,25,26,27,28,29,30,31,22,23] (.reg [un (.fadr 32 0 (.t 3)),
 un (.ld 33 1 false (.t 32)),
 un (.mov 34 (.t 5)),
 un (.bsl 35 1 [(.t 34)]),
 un (.app 36 1 (.t 33) (.t 35)),
 un (.fadr 37 0 (.t 3)),
 un (.st 1 (.t 37) (.t 36))]))))))
 (.drop [16,5,6,17,18,19,20,21,24,25,26,27,28,29,30,31,22,23,32,33,34,35,36,37] (.reg [un (.mov 14 (.t 4)),
 un (.bin 15 .add (.t 14) (.c (.int .i64 1))),
 un (.asg 4 (.t 15))])))))
def Apc:ACode:=
 (.seq (.reg [un (.box 1 (.t 0)),
 un (.alc 2 (.agg [.nilsl 1]))])
 (.seq (.reg [un (.bsl 7 1 []),
 un (.bld 8 [.nilsl 1] [(0,1,(.t 7))]),
 un (.alc 3 (.agg [.nilsl 1])),
 un (.st 1 (.t 3) (.t 8))])
 (.drop [7,8] (.seq (.seq (.reg [un (.asg 4 (.c (.int .i64 0)))])
 (.block 0 (.loop Wu)))
 (.drop [4,9,10,11,12,13,16,5,6,17,18,19,20,21,24,25,26,27,28,29,30,31,22,23,32,33,34,35,36,37,14,15] (.seq (.reg [un (.ld 38 1 true (.t 3)),
 un (.st 1 (.t 2) (.t 38))])
 (.drop [38] .ret)))))))
abbrev Am5:List RS:=[.c 2 1 true]
theorem Aov:A7 Try.prog T4 39 Apc Am5=true:=by kernel_rfl
def K7:ACode:=
 (.seq (.reg [un (.bin 15 .lss (.t 14) (.t 13))])
 (.seq (.cond (.t 15) .skip
 (.exit 2))
 (.seq (.block 3 (.seq (.reg [un (.mov 16 (.t 14)),
 un (.asg 5 (.t 16))])
 (.drop [16] (.seq (.reg [un (.mov 17 (.t 0)),
 un (.mov 18 (.t 4)),
 un (.mov 19 (.t 5)),
 un (.call 20 Mk [((.t 17),false),((.t 18),false),((.t 19),false)])])
 (.drop [17,18,19] (.cond (.t 20) (.reg [un (.mov 21 (.t 3)),
 un (.mov 22 (.t 4)),
 un (.mov 23 (.t 5)),
 un (.bld 24 [.int .i64 0,.int .i64 0] [(0,1,(.t 22)),(1,1,(.t 23))]),
 un (.bsl 25 2 [(.t 24)]),
 un (.app 26 2 (.t 21) (.t 25)),
 un (.asg 3 (.t 26))])
 .skip))))))
 (.drop [16,5,17,18,19,20,21,22,23,24,25,26] (.reg [un (.bin 27 .add (.t 14) (.c (.int .i64 1))),
 un (.asg 14 (.t 27))])))))
def K9:ACode:=
 (.seq (.reg [un (.bin 10 .lss (.t 9) (.t 8))])
 (.seq (.cond (.t 10) .skip
 (.exit 0))
 (.seq (.block 1 (.seq (.reg [un (.mov 11 (.t 9)),
 un (.asg 4 (.t 11))])
 (.drop [11] (.seq (.reg [un (.mov 12 (.t 0)),
 un (.len 13 (.t 12)),
 un (.mov 14 (.c (.int .i64 0)))])
 (.drop [12] (.block 2 (.loop K7)))))))
 (.drop [11,4,12,13,14,15,16,5,17,18,19,20,21,22,23,24,25,26,27] (.reg [un (.bin 28 .add (.t 9) (.c (.int .i64 1))),
 un (.asg 9 (.t 28))])))))
def Y4:ACode:=
 (.seq (.reg [un (.asg 2 (.c (.nilsl 2)))])
 (.seq (.reg [un (.bsl 6 2 []),
 un (.asg 3 (.t 6))])
 (.drop [6] (.seq (.seq (.reg [un (.mov 7 (.t 0)),
 un (.len 8 (.t 7)),
 un (.mov 9 (.c (.int .i64 0)))])
 (.drop [7] (.block 0 (.loop K9))))
 (.drop [7,8,9,10,11,4,12,13,14,15,16,5,17,18,19,20,21,22,23,24,25,26,27,28] (.seq (.reg [un (.mov 29 (.t 3)),
 un (.asg 2 (.t 29))])
 (.drop [29] .ret)))))))
abbrev Yh:List RS:=[.t 2]
theorem Yi:A7 Try.prog I2 30 Y4 Yh=true:=by kernel_rfl
def Xt:ACode:=
 (.seq (.reg [un (.box 2 (.t 0)),
 un (.asg 3 (.c (.bool false)))])
 (.seq (.reg [un (.ld 4 1 false (.t 1)),
 un (.mkf 5 Ew [(.t 1),(.t 2)]),
 un (.call 6 Id [((.t 4),false),((.t 5),false)]),
 un (.asg 3 (.t 6))])
 (.drop [4,5,6] .ret)))
abbrev Xe:List RS:=[.t 3]
theorem Xb:A7 Try.prog Gb 7 Xt Xe=true:=by kernel_rfl
def Xs:ACode:=
 (.seq (.reg [un (.box 2 (.t 0)),
 un (.asg 3 (.c (.bool false)))])
 (.seq (.reg [un (.ld 4 1 false (.t 1)),
 un (.mkf 5 E1 [(.t 1),(.t 2)]),
 un (.call 6 Id [((.t 4),false),((.t 5),false)]),
 un (.asg 3 (.t 6))])
 (.drop [4,5,6] .ret)))
abbrev Xm:List RS:=[.t 3]
theorem Xg:A7 Try.prog F9 7 Xs Xm=true:=by kernel_rfl
def W1:ACode:=
 (.seq (.seq (.reg [un (.mov 13 (.t 6)),
 un (.mov 14 (.t 5)),
 un (.bin 15 .lss (.t 13) (.t 14))])
 (.drop [13,14] (.cond (.t 15) .skip
 (.exit 2))))
 (.drop [13,14,15] (.seq (.block 3 (.seq (.dreg [(un (.ld 18 1 true (.t 2)),[]),
 (un (.mov 19 (.t 1)),[18]),
 (un (.mov 20 (.t 6)),[18,19]),
 (un (.iad 21 1 (.t 19) (.t 20)),[18]),
 (un (.ld 22 1 false (.t 21)),[18]),
 (un (.mov 23 (.t 1)),[18,19,20,21,22]),
 (un (.mov 24 (.t 5)),[18,19,20,21,22,23]),
 (un (.iad 25 1 (.t 23) (.t 24)),[18,19,20,21,22]),
 (un (.ld 26 1 false (.t 25)),[18,19,20,21,22]),
 (un (.call 27 J9 [((.t 18),false),((.t 22),false),((.t 26),false)]),[]),
 (un (.asg 28 (.t 27)),[]),
 (⟨some (28,false),.ld 29 1 true (.t 2)⟩,[27]),
 (⟨some (28,false),.mov 30 (.t 1)⟩,[29,27]),
 (⟨some (28,false),.mov 31 (.t 5)⟩,[29,30,27]),
 (⟨some (28,false),.iad 32 1 (.t 30) (.t 31)⟩,[29,27]),
 (⟨some (28,false),.ld 33 1 false (.t 32)⟩,[29,27]),
 (⟨some (28,false),.mov 34 (.t 1)⟩,[29,30,31,32,33,27]),
 (⟨some (28,false),.mov 35 (.t 6)⟩,[29,30,31,32,33,34,27]),
 (⟨some (28,false),.iad 36 1 (.t 34) (.t 35)⟩,[29,30,31,32,33,27]),
 (⟨some (28,false),.ld 37 1 false (.t 36)⟩,[29,30,31,32,33,27])]
 [⟨some (28,false),.call 38 J9 [((.t 29),false),((.t 33),false),((.t 37),false)]⟩,
 un (.pick 39 (.t 28) (.c (.bool true)) (.t 38))])
 (.drop [18,19,20,21,22,23,24,25,26,27,28,29,30,31,32,33,34,35,36,37,38] (.cond (.t 39) (.seq (.reg [un (.asg 4 (.c (.bool false)))])
 .ret)
 .skip))))
 (.drop [18,19,20,21,22,23,24,25,26,27,28,29,30,31,32,33,34,35,36,37,38,39] (.reg [un (.mov 16 (.t 6)),
 un (.bin 17 .add (.t 16) (.c (.int .i64 1))),
 un (.asg 6 (.t 17))])))))
def Wx:ACode:=
 (.seq (.seq (.reg [un (.mov 7 (.t 5)),
 un (.mov 8 (.t 1)),
 un (.len 9 (.t 8)),
 un (.bin 10 .lss (.t 7) (.t 9))])
 (.drop [7,8,9] (.cond (.t 10) .skip
 (.exit 0))))
 (.drop [7,8,9,10] (.seq (.block 1 (.seq (.reg [un (.asg 6 (.c (.int .i64 0)))])
 (.block 2 (.loop W1))))
 (.drop [6,13,14,15,18,19,20,21,22,23,24,25,26,27,28,29,30,31,32,33,34,35,36,37,38,39,16,17] (.reg [un (.mov 11 (.t 5)),
 un (.bin 12 .add (.t 11) (.c (.int .i64 1))),
 un (.asg 5 (.t 12))])))))
def Ann:ACode:=
 (.seq (.reg [un (.box 2 (.t 0)),
 un (.asg 4 (.c (.bool false)))])
 (.seq (.seq (.reg [un (.asg 5 (.c (.int .i64 0)))])
 (.block 0 (.loop Wx)))
 (.drop [5,7,8,9,10,6,13,14,15,18,19,20,21,22,23,24,25,26,27,28,29,30,31,32,33,34,35,36,37,38,39,16,17,11,12] (.seq (.reg [un (.asg 4 (.c (.bool true)))])
 .ret))))
abbrev Ao2:List RS:=[.t 4]
theorem Ao4:A7 Try.prog Uf 40 Ann Ao2=true:=by kernel_rfl
def Afd:ACode:=
 (.seq (.reg [un (.asg 4 (.c (.int .i64 0)))])
 (.seq (.reg [un (.mov 5 (.t 1)),
 un (.mov 6 (.t 0)),
 un (.mov 7 (.t 1)),
 un (.len 8 (.t 7)),
 un (.call 9 Cf [((.t 6),true),((.t 8),false)]),
 un (.iad 10 1 (.t 5) (.t 9)),
 un (.ld 11 1 false (.t 10)),
 un (.asg 4 (.t 11))])
 (.drop [5,6,7,8,9,10,11] .ret)))
abbrev Ae8:List RS:=[.t 4]
theorem Afo:A7 Try.prog Je 12 Afd Ae8=true:=by kernel_rfl
def Akw:ACode:=
 (.seq (.reg [un (.asg 4 (.c (.bool false)))])
 (.seq (.reg [un (.mov 5 (.t 0)),
 un (.mov 6 (.t 1)),
 un (.call 7 Cf [((.t 5),true),((.t 6),false)]),
 un (.bin 8 .eql (.t 7) (.c (.int .i64 0))),
 un (.asg 4 (.t 8))])
 (.drop [5,6,7,8] .ret)))
abbrev Aka:List RS:=[.t 4]
theorem Ajy:A7 Try.prog Iu 9 Akw Aka=true:=by kernel_rfl
def Aks:ACode:=
 (.seq (.reg [un (.mov 7 (.t 0)),
 un (.len 8 (.t 7)),
 un (.mov 9 (.t 1)),
 un (.bin 10 .neq (.t 8) (.t 9)),
 un (.asg 11 (.t 10)),
 ⟨some (11,false),.mov 12 (.t 1)⟩,
 ⟨some (11,false),.mov 13 (.t 0)⟩,
 ⟨some (11,false),.call 14 O3 [((.t 12),false),((.t 13),false)]⟩,
 ⟨some (11,false),.un 15 .not (.t 14)⟩,
 un (.pick 16 (.t 11) (.c (.bool true)) (.t 15))])
 (.drop [7,8,9,10,11,12,13,14,15] (.cond (.t 16) (.seq (.reg [un (.asg 4 (.c (.bool false)))])
 .ret)
 .skip)))
def Yb:ACode:=
 (.seq (.seq (.reg [un (.mov 19 (.t 6)),
 un (.mov 20 (.t 1)),
 un (.bin 21 .lss (.t 19) (.t 20))])
 (.drop [19,20] (.cond (.t 21) .skip
 (.exit 0))))
 (.drop [19,20,21] (.seq (.block 1 (.seq (.seq (.reg [un (.mov 24 (.t 5)),
 un (.mov 25 (.t 0)),
 un (.mov 26 (.t 6)),
 un (.iad 27 1 (.t 25) (.t 26)),
 un (.ld 28 1 false (.t 27)),
 un (.iad 29 1 (.t 24) (.t 28)),
 un (.ld 30 1 false (.t 29))])
 (.drop [24,25,26,27,28,29] (.cond (.t 30) (.seq (.reg [un (.asg 4 (.c (.bool false)))])
 .ret)
 .skip)))
 (.drop [24,25,26,27,28,29,30] (.reg [un (.mov 31 (.t 5)),
 un (.mov 32 (.t 0)),
 un (.mov 33 (.t 6)),
 un (.iad 34 1 (.t 32) (.t 33)),
 un (.ld 35 1 false (.t 34)),
 un (.iad 36 1 (.t 31) (.t 35)),
 un (.st 1 (.t 36) (.c (.bool true)))]))))
 (.drop [24,25,26,27,28,29,30,31,32,33,34,35,36] (.reg [un (.mov 22 (.t 6)),
 un (.bin 23 .add (.t 22) (.c (.int .i64 1))),
 un (.asg 6 (.t 23))])))))
def Aqy:ACode:=
 (.seq (.reg [un (.asg 4 (.c (.bool false)))])
 (.seq (.cut Aks)
 (.drop [7,8,9,10,11,12,13,14,15,16] (.seq (.reg [un (.mov 17 (.t 1)),
 un (.mk 18 1 (.bool false) (.t 17)),
 un (.asg 5 (.t 18))])
 (.drop [17,18] (.seq (.seq (.reg [un (.asg 6 (.c (.int .i64 0)))])
 (.block 0 (.loop Yb)))
 (.drop [6,19,20,21,24,25,26,27,28,29,30,31,32,33,34,35,36,22,23] (.seq (.reg [un (.asg 4 (.c (.bool true)))])
 .ret))))))))
abbrev Aq1:List RS:=[.t 4]
theorem Aqm:A7 Try.prog Xi 37 Aqy Aq1=true:=by kernel_rfl
def N6:ACode:=
 (.seq (.reg [un (.bin 31 .lss (.t 30) (.t 29))])
 (.seq (.cond (.t 31) .skip
 (.exit 0))
 (.seq (.block 1 (.seq (.reg [un (.mov 32 (.t 30)),
 un (.asg 7 (.t 32))])
 (.drop [32] (.reg [un (.mov 33 (.t 6)),
 un (.mov 34 (.t 7)),
 un (.iad 35 1 (.t 33) (.t 34)),
 un (.st 1 (.t 35) (.c (.int .i64 (-2))))]))))
 (.drop [32,7,33,34,35] (.reg [un (.bin 36 .add (.t 30) (.c (.int .i64 1))),
 un (.asg 30 (.t 36))])))))
def Zr:ACode:=
 (.seq (.reg [un (.mov 48 (.t 12)),
 un (.mov 49 (.t 4)),
 un (.len 50 (.t 49)),
 un (.bin 51 .lss (.t 48) (.t 50)),
 un (.asg 52 (.t 51)),
 ⟨some (52,true),.mov 53 (.t 11)⟩,
 ⟨some (52,true),.bin 54 .lss (.t 53) (.c (.int .i64 0))⟩,
 un (.pick 55 (.t 52) (.t 54) (.c (.bool false)))])
 (.drop [48,49,50,51,52,53,54] (.cond (.t 55) .skip
 (.exit 4))))
def Z5:ACode:=
 (.seq (.reg [un (.mov 58 (.t 4)),
 un (.mov 59 (.t 10)),
 un (.mov 60 (.t 12)),
 un (.call 61 Bf [((.t 58),false),((.t 59),false),((.t 60),false)]),
 un (.un 62 .not (.t 61)),
 un (.asg 63 (.t 62)),
 ⟨some (63,false),.mov 64 (.t 9)⟩,
 ⟨some (63,false),.mov 65 (.t 12)⟩,
 ⟨some (63,false),.iad 66 1 (.t 64) (.t 65)⟩,
 ⟨some (63,false),.ld 67 1 false (.t 66)⟩,
 un (.pick 68 (.t 63) (.c (.bool true)) (.t 67))])
 (.drop [58,59,60,61,62,63,64,65,66,67] (.cond (.t 68) (.exit 5)
 .skip)))
def Pn:ACode:=
 (.seq (.cut Zr)
 (.drop [48,49,50,51,52,53,54,55] (.seq (.block 5 (.seq (.cut Z5)
 (.drop [58,59,60,61,62,63,64,65,66,67,68] (.seq (.reg [un (.mov 69 (.t 6)),
 un (.mov 70 (.t 10)),
 un (.mov 71 (.t 12)),
 un (.iad 72 1 (.t 69) (.t 70)),
 un (.st 1 (.t 72) (.t 71))])
 (.drop [69,70,71,72] (.seq (.reg [un (.mov 73 (.t 4)),
 un (.mov 74 (.t 6)),
 un (.call 75 In [((.t 73),false),((.t 74),false)]),
 un (.mov 76 (.t 8)),
 un (.bin 77 .eql (.t 75) (.t 76))])
 (.drop [73,74,75,76] (.cond (.t 77) (.seq (.reg [un (.mov 78 (.t 12)),
 un (.asg 11 (.t 78))])
 (.drop [78] (.reg [un (.mov 79 (.t 9)),
 un (.mov 80 (.t 12)),
 un (.iad 81 1 (.t 79) (.t 80)),
 un (.st 1 (.t 81) (.c (.bool true)))])))
 .skip))))))))
 (.drop [58,59,60,61,62,63,64,65,66,67,68,69,70,71,72,73,74,75,76,77,78,79,80,81] (.reg [un (.mov 56 (.t 12)),
 un (.bin 57 .add (.t 56) (.c (.int .i64 1))),
 un (.asg 12 (.t 57))])))))
def Oi:ACode:=
 (.seq (.reg [un (.bin 46 .lss (.t 45) (.t 44))])
 (.seq (.cond (.t 46) .skip
 (.exit 2))
 (.seq (.block 3 (.seq (.reg [un (.mov 47 (.t 45)),
 un (.asg 10 (.t 47))])
 (.drop [47] (.seq (.reg [un (.asg 11 (.c (.int .i64 (-1))))])
 (.seq (.seq (.reg [un (.asg 12 (.c (.int .i64 0)))])
 (.block 4 (.loop Pn)))
 (.drop [12,48,49,50,51,52,53,54,55,58,59,60,61,62,63,64,65,66,67,68,69,70,71,72,73,74,75,76,77,78,79,80,81,56,57] (.reg [un (.mov 82 (.t 6)),
 un (.mov 83 (.t 10)),
 un (.mov 84 (.t 11)),
 un (.iad 85 1 (.t 82) (.t 83)),
 un (.st 1 (.t 85) (.t 84))])))))))
 (.drop [47,10,11,12,48,49,50,51,52,53,54,55,58,59,60,61,62,63,64,65,66,67,68,69,70,71,72,73,74,75,76,77,78,79,80,81,56,57,82,83,84,85] (.reg [un (.bin 86 .add (.t 45) (.c (.int .i64 1))),
 un (.asg 45 (.t 86))])))))
def Po:ACode:=
 (.seq (.seq (.reg [un (.mov 99 (.t 16)),
 un (.bin 100 .geq (.t 99) (.c (.int .i64 0)))])
 (.drop [99] (.cond (.t 100) .skip
 (.exit 8))))
 (.drop [99,100] (.seq (.block 9 (.reg [un (.mov 105 (.t 15)),
 un (.mov 106 (.t 16)),
 un (.bsl 107 1 [(.t 106)]),
 un (.app 108 1 (.t 105) (.t 107)),
 un (.asg 15 (.t 108))]))
 (.drop [105,106,107,108] (.reg [un (.mov 101 (.t 6)),
 un (.mov 102 (.t 16)),
 un (.iad 103 1 (.t 101) (.t 102)),
 un (.ld 104 1 false (.t 103)),
 un (.asg 16 (.t 104))])))))
def Oq:ACode:=
 (.seq (.reg [un (.bin 91 .lss (.t 90) (.t 89))])
 (.seq (.cond (.t 91) .skip
 (.exit 6))
 (.seq (.block 7 (.seq (.reg [un (.mov 92 (.t 90)),
 un (.asg 14 (.t 92))])
 (.drop [92] (.seq (.seq (.reg [un (.mov 93 (.t 9)),
 un (.mov 94 (.t 14)),
 un (.iad 95 1 (.t 93) (.t 94)),
 un (.ld 96 1 false (.t 95))])
 (.drop [93,94,95] (.cond (.t 96) (.exit 7)
 .skip)))
 (.drop [93,94,95,96] (.seq (.reg [un (.bsl 97 1 []),
 un (.asg 15 (.t 97))])
 (.drop [97] (.seq (.seq (.reg [un (.mov 98 (.t 14)),
 un (.asg 16 (.t 98))])
 (.drop [98] (.block 8 (.loop Po))))
 (.drop [98,16,99,100,105,106,107,108,101,102,103,104] (.reg [un (.mov 109 (.t 13)),
 un (.mov 110 (.t 15)),
 un (.bsl 111 1 [(.t 110)]),
 un (.app 112 1 (.t 109) (.t 111)),
 un (.asg 13 (.t 112))]))))))))))
 (.drop [92,14,93,94,95,96,97,15,98,16,99,100,105,106,107,108,101,102,103,104,109,110,111,112] (.reg [un (.bin 113 .add (.t 90) (.c (.int .i64 1))),
 un (.asg 90 (.t 113))])))))
def Adz:ACode:=
 (.seq (.reg [un (.box 1 (.t 0)),
 un (.asg 2 (.c (.nilsl 1))),
 un (.asg 3 (.c (.bool false)))])
 (.seq (.reg [un (.ld 18 1 true (.t 1)),
 un (.call 19 Co [((.t 18),false)]),
 un (.asg 17 (.t 19)),
 un (.ext 20 (.t 17) 0),
 un (.ext 21 (.t 17) 1),
 un (.asg 4 (.t 20)),
 un (.asg 5 (.t 21))])
 (.drop [18,19,17,20,21] (.seq (.seq (.reg [un (.mov 22 (.t 5)),
 un (.un 23 .not (.t 22))])
 (.drop [22] (.cond (.t 23) (.seq (.reg [un (.bsl 24 1 []),
 un (.asg 2 (.t 24)),
 un (.asg 3 (.c (.bool false)))])
 (.drop [24] .ret))
 .skip)))
 (.drop [22,23,24] (.seq (.reg [un (.mov 25 (.t 4)),
 un (.len 26 (.t 25)),
 un (.mk 27 1 (.int .i64 0) (.t 26)),
 un (.asg 6 (.t 27))])
 (.drop [25,26,27] (.seq (.seq (.reg [un (.mov 28 (.t 6)),
 un (.len 29 (.t 28)),
 un (.mov 30 (.c (.int .i64 0)))])
 (.drop [28] (.block 0 (.loop N6))))
 (.drop [28,29,30,31,32,7,33,34,35,36] (.seq (.reg [un (.mov 37 (.t 4)),
 un (.mov 38 (.t 6)),
 un (.call 39 In [((.t 37),false),((.t 38),false)]),
 un (.asg 8 (.t 39))])
 (.drop [37,38,39] (.seq (.reg [un (.mov 40 (.t 4)),
 un (.len 41 (.t 40)),
 un (.mk 42 1 (.bool false) (.t 41)),
 un (.asg 9 (.t 42))])
 (.drop [40,41,42] (.seq (.seq (.reg [un (.mov 43 (.t 4)),
 un (.len 44 (.t 43)),
 un (.mov 45 (.c (.int .i64 0)))])
 (.drop [43] (.block 2 (.loop Oi))))
 (.drop [43,44,45,46,47,10,11,12,48,49,50,51,52,53,54,55,58,59,60,61,62,63,64,65,66,67,68,69,70,71,72,73,74,75,76,77,78,79,80,81,56,57,82,83,84,85,86] (.seq (.reg [un (.bsl 87 1 []),
 un (.asg 13 (.t 87))])
 (.drop [87] (.seq (.seq (.reg [un (.mov 88 (.t 4)),
 un (.len 89 (.t 88)),
 un (.mov 90 (.c (.int .i64 0)))])
 (.drop [88] (.block 6 (.loop Oq))))
 (.drop [88,89,90,91,92,14,93,94,95,96,97,15,98,16,99,100,105,106,107,108,101,102,103,104,109,110,111,112,113] (.seq (.reg [un (.mov 114 (.t 13)),
 un (.asg 2 (.t 114)),
 un (.asg 3 (.c (.bool true)))])
 (.drop [114] .ret)))))))))))))))))))))
abbrev Ad1:List RS:=[.t 2,.t 3]
theorem Ad3:A7 Try.prog Mn 115 Adz Ad1=true:=by kernel_rfl
def Pq:ACode:=
 (.seq (.seq (.reg [un (.mov 16 (.t 7)),
 un (.fadr 17 0 (.t 1)),
 un (.ld 18 1 false (.t 17)),
 un (.len 19 (.t 18)),
 un (.bin 20 .lss (.t 16) (.t 19))])
 (.drop [16,17,18,19] (.cond (.t 20) .skip
 (.exit 0))))
 (.drop [16,17,18,19,20] (.seq (.block 1 (.reg [un (.mov 23 (.t 6)),
 un (.ld 24 1 true (.t 5)),
 un (.mov 25 (.t 7)),
 un (.call 26 Dx [((.t 24),false),((.t 25),false)]),
 un (.bin 27 .add (.t 26) (.c (.int .i64 1))),
 un (.call 28 Rh [((.t 23),false),((.t 27),false)]),
 un (.asg 6 (.t 28))]))
 (.drop [23,24,25,26,27,28] (.reg [un (.mov 21 (.t 7)),
 un (.bin 22 .add (.t 21) (.c (.int .i64 1))),
 un (.asg 7 (.t 22))])))))
def P9:ACode:=
 (.seq (.seq (.dreg [(un (.ld 33 1 true (.t 5)),[]),
 (un (.mov 34 (.t 8)),[33]),
 (un (.call 35 Dx [((.t 33),false),((.t 34),false)]),[]),
 (un (.bin 36 .add (.t 35) (.c (.int .i64 1))),[]),
 (un (.mov 37 (.t 6)),[33,34,35,36]),
 (un (.bin 38 .lss (.t 36) (.t 37)),[]),
 (un (.asg 39 (.t 38)),[]),
 (⟨some (39,false),.mov 40 (.t 4)⟩,[38]),
 (⟨some (39,false),.len 41 (.t 40)⟩,[38]),
 (⟨some (39,false),.bin 42 .gtr (.t 41) (.c (.int .i64 0))⟩,[38]),
 (⟨some (39,false),.asg 43 (.t 42)⟩,[38]),
 (⟨some (43,true),.ld 44 1 true (.t 1)⟩,[38,42]),
 (⟨some (43,true),.mov 45 (.t 4)⟩,[44,38,42]),
 (⟨some (43,true),.mov 46 (.t 4)⟩,[44,45,38,42]),
 (⟨some (43,true),.len 47 (.t 46)⟩,[44,45,38,42]),
 (⟨some (43,true),.bin 48 .sub (.t 47) (.c (.int .i64 1))⟩,[44,45,38,42]),
 (⟨some (43,true),.iad 49 1 (.t 45) (.t 48)⟩,[44,38,42]),
 (⟨some (43,true),.ld 50 1 false (.t 49)⟩,[44,38,42]),
 (⟨some (43,true),.mov 51 (.t 8)⟩,[44,45,46,47,48,49,50,38,42])]
 [⟨some (43,true),.call 52 K0 [((.t 44),false),((.t 50),false),((.t 51),false)]⟩,
 ⟨some (43,true),.un 53 .not (.t 52)⟩,
 ⟨some (39,false),.pick 54 (.t 43) (.t 53) (.c (.bool false))⟩,
 un (.pick 55 (.t 39) (.c (.bool true)) (.t 54))])
 (.drop [33,34,35,36,37,38,39,40,41,42,43,44,45,46,47,48,49,50,51,52,53,54] (.cond (.t 55) .skip
 (.exit 4))))
 (.drop [33,34,35,36,37,38,39,40,41,42,43,44,45,46,47,48,49,50,51,52,53,54,55] (.block 5 (.reg [un (.mov 56 (.t 8)),
 un (.bin 57 .add (.t 56) (.c (.int .i64 1))),
 un (.asg 8 (.t 57))]))))
def P0:ACode:=
 (.seq (.seq (.reg [un (.mov 29 (.t 6)),
 un (.bin 30 .gtr (.t 29) (.c (.int .i64 0)))])
 (.drop [29] (.cond (.t 30) .skip
 (.exit 2))))
 (.drop [29,30] (.seq (.block 3 (.seq (.reg [un (.asg 8 (.c (.int .i64 0)))])
 (.seq (.block 4 (.loop P9))
 (.drop [33,34,35,36,37,38,39,40,41,42,43,44,45,46,47,48,49,50,51,52,53,54,55,56,57] (.reg [un (.mov 58 (.t 4)),
 un (.mov 59 (.t 8)),
 un (.bsl 60 1 [(.t 59)]),
 un (.app 61 1 (.t 58) (.t 60)),
 un (.asg 4 (.t 61))])))))
 (.drop [8,33,34,35,36,37,38,39,40,41,42,43,44,45,46,47,48,49,50,51,52,53,54,55,56,57,58,59,60,61] (.reg [un (.mov 31 (.t 6)),
 un (.bin 32 .sub (.t 31) (.c (.int .i64 1))),
 un (.asg 6 (.t 32))])))))
def Ad5:ACode:=
 (.seq (.reg [un (.box 1 (.t 0)),
 un (.asg 2 (.c (.nilsl 1))),
 un (.asg 3 (.c (.bool false)))])
 (.seq (.reg [un (.bsl 9 1 []),
 un (.asg 4 (.t 9))])
 (.drop [9] (.seq (.seq (.reg [un (.ld 10 1 true (.t 1)),
 un (.call 11 Iw [((.t 10),false)]),
 un (.un 12 .not (.t 11))])
 (.drop [10,11] (.cond (.t 12) (.seq (.reg [un (.mov 13 (.t 4)),
 un (.asg 2 (.t 13)),
 un (.asg 3 (.c (.bool false)))])
 (.drop [13] .ret))
 .skip)))
 (.drop [10,11,12,13] (.seq (.reg [un (.ld 14 1 true (.t 1)),
 un (.call 15 T4 [((.t 14),false)]),
 un (.alc 5 (.agg [.nilsl 1])),
 un (.st 1 (.t 5) (.t 15))])
 (.drop [14,15] (.seq (.reg [un (.asg 6 (.c (.int .i64 0)))])
 (.seq (.seq (.reg [un (.asg 7 (.c (.int .i64 0)))])
 (.block 0 (.loop Pq)))
 (.drop [7,16,17,18,19,20,23,24,25,26,27,28,21,22] (.seq (.block 2 (.loop P0))
 (.drop [29,30,8,33,34,35,36,37,38,39,40,41,42,43,44,45,46,47,48,49,50,51,52,53,54,55,56,57,58,59,60,61,31,32] (.seq (.reg [un (.mov 62 (.t 4)),
 un (.asg 2 (.t 62)),
 un (.asg 3 (.c (.bool true)))])
 (.drop [62] .ret))))))))))))))
abbrev Aee:List RS:=[.t 2,.t 3]
theorem Ad0:A7 Try.prog Mj 63 Ad5 Aee=true:=by kernel_rfl
def Agl:ACode:=
 (.seq (.reg [un (.box 1 (.t 0)),
 un (.asg 2 (.c (.nilsl 2))),
 un (.asg 3 (.c (.bool false)))])
 (.seq (.reg [un (.ld 7 1 true (.t 1)),
 un (.call 8 Co [((.t 7),false)]),
 un (.asg 6 (.t 8)),
 un (.ext 9 (.t 6) 0),
 un (.ext 10 (.t 6) 1),
 un (.asg 4 (.t 9)),
 un (.asg 5 (.t 10))])
 (.drop [7,8,6,9,10] (.seq (.seq (.reg [un (.mov 11 (.t 5)),
 un (.un 12 .not (.t 11))])
 (.drop [11] (.cond (.t 12) (.seq (.reg [un (.bsl 13 2 []),
 un (.asg 2 (.t 13)),
 un (.asg 3 (.c (.bool false)))])
 (.drop [13] .ret))
 .skip)))
 (.drop [11,12,13] (.seq (.reg [un (.mov 14 (.t 4)),
 un (.call 15 I2 [((.t 14),false)]),
 un (.asg 2 (.t 15)),
 un (.asg 3 (.c (.bool true)))])
 (.drop [14,15] .ret)))))))
abbrev Agw:List RS:=[.t 2,.t 3]
theorem Aih:A7 Try.prog Ou 16 Agl Agw=true:=by kernel_rfl
def Vb:ACode:=
 (.seq (.reg [un (.mov 27 (.t 7)),
 un (.mov 28 (.t 4)),
 un (.bin 29 .lss (.t 27) (.t 28)),
 un (.asg 30 (.t 29)),
 ⟨some (30,true),.mov 31 (.t 5)⟩,
 ⟨some (30,true),.mov 32 (.t 6)⟩,
 ⟨some (30,true),.iad 33 1 (.t 31) (.t 32)⟩,
 ⟨some (30,true),.ld 34 1 false (.t 33)⟩,
 ⟨some (30,true),.bin 35 .gtr (.t 34) (.c (.int .i64 0))⟩,
 un (.pick 36 (.t 30) (.t 35) (.c (.bool false)))])
 (.drop [27,28,29,30,31,32,33,34,35] (.cond (.t 36) .skip
 (.exit 2))))
def Vd:ACode:=
 (.seq (.reg [un (.mov 44 (.t 9)),
 un (.fadr 45 0 (.t 1)),
 un (.ld 46 1 false (.t 45)),
 un (.mov 47 (.t 7)),
 un (.iad 48 1 (.t 46) (.t 47)),
 un (.ld 49 1 false (.t 48)),
 un (.len 50 (.t 49)),
 un (.bin 51 .lss (.t 44) (.t 50)),
 un (.asg 52 (.t 51)),
 ⟨some (52,true),.mov 53 (.t 8)⟩,
 un (.pick 54 (.t 52) (.t 53) (.c (.bool false)))])
 (.drop [44,45,46,47,48,49,50,51,52,53] (.cond (.t 54) .skip
 (.exit 4))))
def Mb:ACode:=
 (.seq (.cut Vd)
 (.drop [44,45,46,47,48,49,50,51,52,53,54] (.seq (.block 5 (.reg [un (.fadr 57 0 (.t 1)),
 un (.ld 58 1 false (.t 57)),
 un (.mov 59 (.t 7)),
 un (.iad 60 1 (.t 58) (.t 59)),
 un (.ld 61 1 false (.t 60)),
 un (.mov 62 (.t 9)),
 un (.iad 63 1 (.t 61) (.t 62)),
 un (.ld 64 1 false (.t 63)),
 un (.mov 65 (.t 7)),
 un (.bin 66 .eql (.t 64) (.t 65)),
 un (.asg 67 (.t 66)),
 ⟨some (67,false),.mov 68 (.t 6)⟩,
 ⟨some (67,false),.fadr 69 0 (.t 1)⟩,
 ⟨some (67,false),.ld 70 1 false (.t 69)⟩,
 ⟨some (67,false),.mov 71 (.t 7)⟩,
 ⟨some (67,false),.iad 72 1 (.t 70) (.t 71)⟩,
 ⟨some (67,false),.ld 73 1 false (.t 72)⟩,
 ⟨some (67,false),.mov 74 (.t 9)⟩,
 ⟨some (67,false),.iad 75 1 (.t 73) (.t 74)⟩,
 ⟨some (67,false),.ld 76 1 false (.t 75)⟩,
 ⟨some (67,false),.bin 77 .shr (.t 68) (.t 76)⟩,
 ⟨some (67,false),.bin 78 .and (.t 77) (.c (.int .i64 1))⟩,
 ⟨some (67,false),.bin 79 .eql (.t 78) (.c (.int .i64 1))⟩,
 un (.pick 80 (.t 67) (.c (.bool true)) (.t 79)),
 un (.asg 8 (.t 80))]))
 (.drop [57,58,59,60,61,62,63,64,65,66,67,68,69,70,71,72,73,74,75,76,77,78,79,80] (.reg [un (.mov 55 (.t 9)),
 un (.bin 56 .add (.t 55) (.c (.int .i64 1))),
 un (.asg 9 (.t 56))])))))
def Me:ACode:=
 (.seq (.cut Vb)
 (.drop [27,28,29,30,31,32,33,34,35,36] (.seq (.block 3 (.seq (.reg [un (.mov 39 (.t 6)),
 un (.mov 40 (.t 7)),
 un (.bin 41 .shr (.t 39) (.t 40)),
 un (.bin 42 .and (.t 41) (.c (.int .i64 1))),
 un (.bin 43 .eql (.t 42) (.c (.int .i64 0))),
 un (.asg 8 (.t 43))])
 (.drop [39,40,41,42,43] (.seq (.seq (.reg [un (.asg 9 (.c (.int .i64 0)))])
 (.block 4 (.loop Mb)))
 (.drop [9,44,45,46,47,48,49,50,51,52,53,54,57,58,59,60,61,62,63,64,65,66,67,68,69,70,71,72,73,74,75,76,77,78,79,80,55,56] (.seq (.reg [un (.mov 81 (.t 8))])
 (.cond (.t 81) (.dreg [(un (.mov 82 (.t 5)),[]),
 (un (.mov 83 (.t 6)),[82]),
 (un (.mov 84 (.t 7)),[82,83]),
 (un (.bin 85 .shl (.c (.int .i64 1)) (.t 84)),[82,83]),
 (un (.bin 86 .or (.t 83) (.t 85)),[82]),
 (un (.mov 87 (.t 5)),[82,83,84,85,86]),
 (un (.mov 88 (.t 6)),[82,83,84,85,86,87]),
 (un (.mov 89 (.t 7)),[82,83,84,85,86,87,88]),
 (un (.bin 90 .shl (.c (.int .i64 1)) (.t 89)),[82,83,84,85,86,87,88]),
 (un (.bin 91 .or (.t 88) (.t 90)),[82,83,84,85,86,87]),
 (un (.iad 92 1 (.t 87) (.t 91)),[82,83,84,85,86]),
 (un (.ld 93 1 false (.t 92)),[82,83,84,85,86]),
 (un (.mov 94 (.t 5)),[82,83,84,85,86,87,88,89,90,91,92,93]),
 (un (.mov 95 (.t 6)),[82,83,84,85,86,87,88,89,90,91,92,93,94]),
 (un (.iad 96 1 (.t 94) (.t 95)),[82,83,84,85,86,87,88,89,90,91,92,93]),
 (un (.ld 97 1 false (.t 96)),[82,83,84,85,86,87,88,89,90,91,92,93]),
 (un (.bin 98 .add (.t 93) (.t 97)),[82,83,84,85,86])]
 [un (.iad 99 1 (.t 82) (.t 86)),
 un (.st 1 (.t 99) (.t 98))])
 .skip)))))))
 (.drop [39,40,41,42,43,8,9,44,45,46,47,48,49,50,51,52,53,54,57,58,59,60,61,62,63,64,65,66,67,68,69,70,71,72,73,74,75,76,77,78,79,80,55,56,81,82,83,84,85,86,87,88,89,90,91,92,93,94,95,96,97,98,99] (.reg [un (.mov 37 (.t 7)),
 un (.bin 38 .add (.t 37) (.c (.int .i64 1))),
 un (.asg 7 (.t 38))])))))
def L8:ACode:=
 (.seq (.seq (.reg [un (.mov 21 (.t 6)),
 un (.mov 22 (.t 4)),
 un (.bin 23 .shl (.c (.int .i64 1)) (.t 22)),
 un (.bin 24 .lss (.t 21) (.t 23))])
 (.drop [21,22,23] (.cond (.t 24) .skip
 (.exit 0))))
 (.drop [21,22,23,24] (.seq (.block 1 (.seq (.reg [un (.asg 7 (.c (.int .i64 0)))])
 (.block 2 (.loop Me))))
 (.drop [7,27,28,29,30,31,32,33,34,35,36,39,40,41,42,43,8,9,44,45,46,47,48,49,50,51,52,53,54,57,58,59,60,61,62,63,64,65,66,67,68,69,70,71,72,73,74,75,76,77,78,79,80,55,56,81,82,83,84,85,86,87,88,89,90,91,92,93,94,95,96,97,98,99,37,38] (.reg [un (.mov 25 (.t 6)),
 un (.bin 26 .add (.t 25) (.c (.int .i64 1))),
 un (.asg 6 (.t 26))])))))
def Zo:ACode:=
 (.seq (.reg [un (.box 1 (.t 0)),
 un (.asg 2 (.c (.int .i64 0))),
 un (.asg 3 (.c (.bool false)))])
 (.seq (.seq (.reg [un (.ld 10 1 true (.t 1)),
 un (.call 11 Iw [((.t 10),false)]),
 un (.un 12 .not (.t 11))])
 (.drop [10,11] (.cond (.t 12) (.seq (.reg [un (.asg 2 (.c (.int .i64 0))),
 un (.asg 3 (.c (.bool false)))])
 .ret)
 .skip)))
 (.drop [10,11,12] (.seq (.reg [un (.fadr 13 0 (.t 1)),
 un (.ld 14 1 false (.t 13)),
 un (.len 15 (.t 14)),
 un (.asg 4 (.t 15))])
 (.drop [13,14,15] (.seq (.reg [un (.mov 16 (.t 4)),
 un (.bin 17 .shl (.c (.int .i64 1)) (.t 16)),
 un (.mk 18 1 (.int .i64 0) (.t 17)),
 un (.asg 5 (.t 18))])
 (.drop [16,17,18] (.seq (.reg [un (.mov 19 (.t 5)),
 un (.iad 20 1 (.t 19) (.c (.int .i64 0))),
 un (.st 1 (.t 20) (.c (.int .i64 1)))])
 (.drop [19,20] (.seq (.seq (.reg [un (.asg 6 (.c (.int .i64 0)))])
 (.block 0 (.loop L8)))
 (.drop [6,21,22,23,24,7,27,28,29,30,31,32,33,34,35,36,39,40,41,42,43,8,9,44,45,46,47,48,49,50,51,52,53,54,57,58,59,60,61,62,63,64,65,66,67,68,69,70,71,72,73,74,75,76,77,78,79,80,55,56,81,82,83,84,85,86,87,88,89,90,91,92,93,94,95,96,97,98,99,37,38,25,26] (.seq (.reg [un (.mov 100 (.t 5)),
 un (.mov 101 (.t 4)),
 un (.bin 102 .shl (.c (.int .i64 1)) (.t 101)),
 un (.bin 103 .sub (.t 102) (.c (.int .i64 1))),
 un (.iad 104 1 (.t 100) (.t 103)),
 un (.ld 105 1 false (.t 104)),
 un (.asg 2 (.t 105)),
 un (.asg 3 (.c (.bool true)))])
 (.drop [100,101,102,103,104,105] .ret)))))))))))))
abbrev Zs:List RS:=[.t 2,.t 3]
theorem Aah:A7 Try.prog Jv 106 Zo Zs=true:=by kernel_rfl
def Aad:ACode:=
 (.seq (.reg [un (.box 1 (.t 0)),
 un (.asg 2 (.c (.nilsl 1))),
 un (.asg 3 (.c (.bool false)))])
 (.seq (.reg [un (.ld 7 1 true (.t 1)),
 un (.call 8 Co [((.t 7),false)]),
 un (.asg 6 (.t 8)),
 un (.ext 9 (.t 6) 0),
 un (.ext 10 (.t 6) 1),
 un (.alc 4 (.nilsl 1)),
 un (.st 1 (.t 4) (.t 9)),
 un (.asg 5 (.t 10))])
 (.drop [7,8,6,9,10] (.seq (.seq (.reg [un (.mov 11 (.t 5)),
 un (.un 12 .not (.t 11))])
 (.drop [11] (.cond (.t 12) (.seq (.reg [un (.bsl 13 1 []),
 un (.asg 2 (.t 13)),
 un (.asg 3 (.c (.bool false)))])
 (.drop [13] .ret))
 .skip)))
 (.drop [11,12,13] (.seq (.reg [un (.ld 14 1 false (.t 4)),
 un (.mkf 15 Gb [(.t 4)]),
 un (.call 16 Hr [((.t 14),false),((.t 15),false)]),
 un (.asg 2 (.t 16)),
 un (.asg 3 (.c (.bool true)))])
 (.drop [14,15,16] .ret)))))))
abbrev Aae:List RS:=[.t 2,.t 3]
theorem Zv:A7 Try.prog Jr 17 Aad Aae=true:=by kernel_rfl
def Zn:ACode:=
 (.seq (.reg [un (.box 1 (.t 0)),
 un (.asg 2 (.c (.nilsl 1))),
 un (.asg 3 (.c (.bool false)))])
 (.seq (.reg [un (.ld 7 1 true (.t 1)),
 un (.call 8 Co [((.t 7),false)]),
 un (.asg 6 (.t 8)),
 un (.ext 9 (.t 6) 0),
 un (.ext 10 (.t 6) 1),
 un (.alc 4 (.nilsl 1)),
 un (.st 1 (.t 4) (.t 9)),
 un (.asg 5 (.t 10))])
 (.drop [7,8,6,9,10] (.seq (.seq (.reg [un (.mov 11 (.t 5)),
 un (.un 12 .not (.t 11))])
 (.drop [11] (.cond (.t 12) (.seq (.reg [un (.bsl 13 1 []),
 un (.asg 2 (.t 13)),
 un (.asg 3 (.c (.bool false)))])
 (.drop [13] .ret))
 .skip)))
 (.drop [11,12,13] (.seq (.reg [un (.ld 14 1 false (.t 4)),
 un (.mkf 15 F9 [(.t 4)]),
 un (.call 16 Hr [((.t 14),false),((.t 15),false)]),
 un (.asg 2 (.t 16)),
 un (.asg 3 (.c (.bool true)))])
 (.drop [14,15,16] .ret)))))))
abbrev Zh:List RS:=[.t 2,.t 3]
theorem Aac:A7 Try.prog Jk 17 Zn Zh=true:=by kernel_rfl
def Sd:ACode:=
 (.seq (.seq (.reg [un (.mov 7 (.t 4)),
 un (.fadr 8 0 (.t 1)),
 un (.ld 9 1 false (.t 8)),
 un (.len 10 (.t 9)),
 un (.bin 11 .shl (.c (.int .i64 1)) (.t 10)),
 un (.bin 12 .lss (.t 7) (.t 11))])
 (.drop [7,8,9,10,11] (.cond (.t 12) .skip
 (.exit 0))))
 (.drop [7,8,9,10,11,12] (.seq (.block 1 (.seq (.reg [un (.mov 15 (.t 4)),
 un (.call 16 Xh [((.t 15),false)]),
 un (.asg 5 (.t 16))])
 (.drop [15,16] (.seq (.reg [un (.mov 17 (.t 5)),
 un (.len 18 (.t 17)),
 un (.mov 19 (.t 3)),
 un (.len 20 (.t 19)),
 un (.bin 21 .gtr (.t 18) (.t 20)),
 un (.asg 22 (.t 21)),
 ⟨some (22,false),.mov 23 (.t 5)⟩,
 ⟨some (22,false),.len 24 (.t 23)⟩,
 ⟨some (22,false),.mov 25 (.t 3)⟩,
 ⟨some (22,false),.len 26 (.t 25)⟩,
 ⟨some (22,false),.bin 27 .eql (.t 24) (.t 26)⟩,
 ⟨some (22,false),.asg 28 (.t 27)⟩,
 ⟨some (28,true),.mov 29 (.t 5)⟩,
 ⟨some (28,true),.mov 30 (.t 3)⟩,
 ⟨some (28,true),.call 31 Xa [((.t 29),false),((.t 30),false)]⟩,
 ⟨some (22,false),.pick 32 (.t 28) (.t 31) (.c (.bool false))⟩,
 un (.pick 33 (.t 22) (.c (.bool true)) (.t 32)),
 un (.asg 34 (.t 33)),
 ⟨some (34,true),.ld 35 1 true (.t 1)⟩,
 ⟨some (34,true),.mov 36 (.t 5)⟩,
 ⟨some (34,true),.call 37 Uf [((.t 35),false),((.t 36),false)]⟩,
 un (.pick 38 (.t 34) (.t 37) (.c (.bool false)))])
 (.drop [17,18,19,20,21,22,23,24,25,26,27,28,29,30,31,32,33,34,35,36,37] (.cond (.t 38) (.reg [un (.mov 39 (.t 5)),
 un (.asg 3 (.t 39))])
 .skip))))))
 (.drop [15,16,5,17,18,19,20,21,22,23,24,25,26,27,28,29,30,31,32,33,34,35,36,37,38,39] (.reg [un (.mov 13 (.t 4)),
 un (.bin 14 .add (.t 13) (.c (.int .i64 1))),
 un (.asg 4 (.t 14))])))))
def Ail:ACode:=
 (.seq (.reg [un (.box 1 (.t 0)),
 un (.asg 2 (.c (.nilsl 1)))])
 (.seq (.reg [un (.bsl 6 1 []),
 un (.asg 3 (.t 6))])
 (.drop [6] (.seq (.seq (.reg [un (.asg 4 (.c (.int .i64 0)))])
 (.block 0 (.loop Sd)))
 (.drop [4,7,8,9,10,11,12,15,16,5,17,18,19,20,21,22,23,24,25,26,27,28,29,30,31,32,33,34,35,36,37,38,39,13,14] (.seq (.reg [un (.mov 40 (.t 3)),
 un (.asg 2 (.t 40))])
 (.drop [40] .ret)))))))
abbrev Aim:List RS:=[.t 2]
theorem Ahf:A7 Try.prog Pl 41 Ail Aim=true:=by kernel_rfl
def Aft:ACode:=
 (.seq (.reg [un (.ld 19 1 true (.t 5)),
 un (.mov 20 (.t 1)),
 un (.mov 21 (.t 11)),
 un (.call 22 K0 [((.t 19),false),((.t 20),false),((.t 21),false)]),
 un (.un 23 .not (.t 22)),
 un (.asg 24 (.t 23)),
 ⟨some (24,false),.mov 25 (.t 2)⟩,
 ⟨some (24,false),.mov 26 (.t 11)⟩,
 ⟨some (24,false),.iad 27 1 (.t 25) (.t 26)⟩,
 ⟨some (24,false),.ld 28 1 false (.t 27)⟩,
 un (.pick 29 (.t 24) (.c (.bool true)) (.t 28)),
 un (.asg 30 (.t 29)),
 ⟨some (30,false),.mov 31 (.t 3)⟩,
 ⟨some (30,false),.mov 32 (.t 11)⟩,
 ⟨some (30,false),.iad 33 1 (.t 31) (.t 32)⟩,
 ⟨some (30,false),.ld 34 1 false (.t 33)⟩,
 un (.pick 35 (.t 30) (.c (.bool true)) (.t 34))])
 (.drop [19,20,21,22,23,24,25,26,27,28,29,30,31,32,33,34] (.cond (.t 35) (.exit 1)
 .skip)))
def Ua:ACode:=
 (.seq (.seq (.reg [un (.mov 12 (.t 11)),
 un (.fadr 13 0 (.t 5)),
 un (.ld 14 1 false (.t 13)),
 un (.len 15 (.t 14)),
 un (.bin 16 .lss (.t 12) (.t 15))])
 (.drop [12,13,14,15] (.cond (.t 16) .skip
 (.exit 0))))
 (.drop [12,13,14,15,16] (.seq (.block 1 (.seq (.cut Aft)
 (.drop [19,20,21,22,23,24,25,26,27,28,29,30,31,32,33,34,35] (.seq (.reg [un (.mov 36 (.t 3)),
 un (.mov 37 (.t 11)),
 un (.iad 38 1 (.t 36) (.t 37)),
 un (.st 1 (.t 38) (.c (.bool true)))])
 (.drop [36,37,38] (.seq (.dreg [(un (.mov 39 (.t 4)),[]),
 (un (.mov 40 (.t 11)),[39]),
 (un (.iad 41 1 (.t 39) (.t 40)),[]),
 (un (.ld 42 1 false (.t 41)),[]),
 (un (.bin 43 .lss (.t 42) (.c (.int .i64 0))),[]),
 (un (.asg 44 (.t 43)),[]),
 (⟨some (44,false),.ld 45 1 true (.t 5)⟩,[43]),
 (⟨some (44,false),.mov 46 (.t 4)⟩,[45,43]),
 (⟨some (44,false),.mov 47 (.t 11)⟩,[45,46,43]),
 (⟨some (44,false),.iad 48 1 (.t 46) (.t 47)⟩,[45,43]),
 (⟨some (44,false),.ld 49 1 false (.t 48)⟩,[45,43]),
 (⟨some (44,false),.mov 50 (.t 2)⟩,[45,46,47,48,49,43]),
 (⟨some (44,false),.mov 51 (.t 3)⟩,[45,46,47,48,49,50,43]),
 (⟨some (44,false),.mov 52 (.t 4)⟩,[45,46,47,48,49,50,51,43])]
 [⟨some (44,false),.call 53 Fl [((.t 45),false),((.t 49),false),((.t 50),false),((.t 51),true),((.t 52),true)]⟩,
 un (.pick 54 (.t 44) (.c (.bool true)) (.t 53))])
 (.drop [39,40,41,42,43,44,45,46,47,48,49,50,51,52,53] (.cond (.t 54) (.seq (.reg [un (.mov 55 (.t 4)),
 un (.mov 56 (.t 11)),
 un (.mov 57 (.t 1)),
 un (.iad 58 1 (.t 55) (.t 56)),
 un (.st 1 (.t 58) (.t 57))])
 (.drop [55,56,57,58] (.seq (.reg [un (.asg 10 (.c (.bool true)))])
 .ret)))
 .skip))))))))
 (.drop [19,20,21,22,23,24,25,26,27,28,29,30,31,32,33,34,35,36,37,38,39,40,41,42,43,44,45,46,47,48,49,50,51,52,53,54,55,56,57,58] (.reg [un (.mov 17 (.t 11)),
 un (.bin 18 .add (.t 17) (.c (.int .i64 1))),
 un (.asg 11 (.t 18))])))))
def Amd:ACode:=
 (.seq (.reg [un (.box 5 (.t 0)),
 un (.asg 10 (.c (.bool false)))])
 (.seq (.seq (.reg [un (.asg 11 (.c (.int .i64 0)))])
 (.block 0 (.loop Ua)))
 (.drop [11,12,13,14,15,16,19,20,21,22,23,24,25,26,27,28,29,30,31,32,33,34,35,36,37,38,39,40,41,42,43,44,45,46,47,48,49,50,51,52,53,54,55,56,57,58,17,18] (.seq (.reg [un (.asg 10 (.c (.bool false)))])
 .ret))))
abbrev Al8:List RS:=[.t 10]
theorem Ame:A7 Try.prog Fl 59 Amd Al8=true:=by kernel_rfl
def N2:ACode:=
 (.seq (.seq (.reg [un (.mov 9 (.t 6)),
 un (.mov 10 (.t 1)),
 un (.bin 11 .lss (.t 9) (.t 10))])
 (.drop [9,10] (.cond (.t 11) .skip
 (.exit 0))))
 (.drop [9,10,11] (.seq (.block 1 (.seq (.reg [un (.mov 14 (.t 0)),
 un (.mov 15 (.t 5)),
 un (.len 16 (.t 15)),
 un (.bin 17 .add (.t 16) (.c (.int .i64 1))),
 un (.call 18 Cf [((.t 14),true),((.t 17),false)]),
 un (.asg 7 (.t 18))])
 (.drop [14,15,16,17,18] (.frz [5] (.dreg [(un (.bsl 19 1 []),[24]),
 (un (.mov 20 (.t 5)),[19,24]),
 (un (.mov 21 (.t 7)),[19,20,24]),
 (un (.slc 22 1 (.t 20) none (some (.t 21))),[19,24]),
 (un (.app 23 1 (.t 19) (.t 22)),[24]),
 (un (.mov 24 (.t 6)),[19,20,21,22,23,19]),
 (un (.bsl 25 1 [(.t 24)]),[19,20,21,22,23,19]),
 (un (.app 26 1 (.t 23) (.t 25)),[19,24]),
 (un (.mov 27 (.t 5)),[19,20,21,22,23,24,25,26,19,24,23]),
 (un (.mov 28 (.t 7)),[19,20,21,22,23,24,25,26,27,19,24,23]),
 (un (.slc 29 1 (.t 27) (some (.t 28)) none),[19,20,21,22,23,24,25,26,19,24,23])]
 [un (.app 30 1 (.t 26) (.t 29)),
 un (.asg 5 (.t 30))])))))
 (.drop [14,15,16,17,18,7,19,20,21,22,23,24,25,26,27,28,29,30] (.reg [un (.mov 12 (.t 6)),
 un (.bin 13 .add (.t 12) (.c (.int .i64 1))),
 un (.asg 6 (.t 13))])))))
def Adj:ACode:=
 (.seq (.reg [un (.asg 4 (.c (.nilsl 1)))])
 (.seq (.reg [un (.bsl 8 1 []),
 un (.asg 5 (.t 8))])
 (.drop [8] (.seq (.seq (.reg [un (.asg 6 (.c (.int .i64 0)))])
 (.block 0 (.loop N2)))
 (.drop [6,9,10,11,14,15,16,17,18,7,19,20,21,22,23,24,25,26,27,28,29,30,12,13] (.seq (.seq (.reg [un (.mov 31 (.t 0)),
 un (.call 32 Cf [((.t 31),true),((.c (.int .i64 24)),false)])])
 (.drop [31] (.block 2 (.seq (.reg [un (.bin 34 .eql (.t 32) (.c (.int .i64 0))),
 un (.asg 33 (.t 34))])
 (.drop [34] (.cond (.t 33) (.reg [un (.mov 35 (.t 5)),
 un (.mov 36 (.t 1)),
 un (.bsl 37 1 [(.t 36)]),
 un (.app 38 1 (.t 35) (.t 37)),
 un (.asg 5 (.t 38))])
 (.seq (.reg [un (.bin 40 .eql (.t 32) (.c (.int .i64 1))),
 un (.asg 39 (.t 40))])
 (.drop [40] (.cond (.t 39) (.seq (.reg [un (.mov 41 (.t 1)),
 un (.bin 42 .gtr (.t 41) (.c (.int .i64 0)))])
 (.drop [41] (.cond (.t 42) (.reg [un (.mov 43 (.t 5)),
 un (.mov 44 (.t 0)),
 un (.mov 45 (.t 1)),
 un (.call 46 Cf [((.t 44),true),((.t 45),false)]),
 un (.mov 47 (.t 0)),
 un (.mov 48 (.t 1)),
 un (.bsl 49 1 [(.c (.int .i64 0)),(.c (.int .i64 (-1))),(.t 48)]),
 un (.call 50 Je [((.t 47),true),((.t 49),false)]),
 un (.iad 51 1 (.t 43) (.t 46)),
 un (.st 1 (.t 51) (.t 50))])
 .skip)))
 .skip)))))))))
 (.drop [31,32,34,33,35,36,37,38,40,39,41,42,43,44,45,46,47,48,49,50,51] (.seq (.reg [un (.mov 52 (.t 5)),
 un (.asg 4 (.t 52))])
 (.drop [52] .ret)))))))))
abbrev Adu:List RS:=[.t 4]
theorem Ado:A7 Try.prog Mh 53 Adj Adu=true:=by kernel_rfl
def Zf:ACode:=
 (.seq (.reg [un (.box 1 (.t 0)),
 un (.asg 2 (.c (.nilsl 1))),
 un (.asg 3 (.c (.bool false)))])
 (.seq (.seq (.reg [un (.ld 4 1 true (.t 1)),
 un (.call 5 Iw [((.t 4),false)]),
 un (.un 6 .not (.t 5))])
 (.drop [4,5] (.cond (.t 6) (.seq (.reg [un (.bsl 7 1 []),
 un (.asg 2 (.t 7)),
 un (.asg 3 (.c (.bool false)))])
 (.drop [7] .ret))
 .skip)))
 (.drop [4,5,6,7] (.seq (.reg [un (.ld 8 1 true (.t 1)),
 un (.call 9 Pl [((.t 8),false)]),
 un (.asg 2 (.t 9)),
 un (.asg 3 (.c (.bool true)))])
 (.drop [8,9] .ret)))))
abbrev Y1:List RS:=[.t 2,.t 3]
theorem Yg:A7 Try.prog I6 10 Zf Y1=true:=by kernel_rfl
def N5:ACode:=
 (.seq (.seq (.reg [un (.mov 12 (.t 8)),
 un (.fadr 13 0 (.t 3)),
 un (.ld 14 1 false (.t 13)),
 un (.len 15 (.t 14)),
 un (.bin 16 .lss (.t 12) (.t 15))])
 (.drop [12,13,14,15] (.cond (.t 16) .skip
 (.exit 0))))
 (.drop [12,13,14,15,16] (.seq (.block 1 (.reg [un (.mov 19 (.t 7)),
 un (.bsl 20 1 [(.c (.int .i64 (-1)))]),
 un (.app 21 1 (.t 19) (.t 20)),
 un (.asg 7 (.t 21))]))
 (.drop [19,20,21] (.reg [un (.mov 17 (.t 8)),
 un (.bin 18 .add (.t 17) (.c (.int .i64 1))),
 un (.asg 8 (.t 18))])))))
def Oy:ACode:=
 (.seq (.seq (.reg [un (.mov 23 (.t 10)),
 un (.fadr 24 0 (.t 3)),
 un (.ld 25 1 false (.t 24)),
 un (.len 26 (.t 25)),
 un (.bin 27 .lss (.t 23) (.t 26))])
 (.drop [23,24,25,26] (.cond (.t 27) .skip
 (.exit 2))))
 (.drop [23,24,25,26,27] (.seq (.block 3 (.seq (.dreg [(un (.ld 30 1 true (.t 3)),[]),
 (un (.mov 31 (.t 10)),[30]),
 (un (.mov 32 (.t 2)),[30,31]),
 (un (.fadr 33 0 (.t 3)),[30,31,32]),
 (un (.ld 34 1 false (.t 33)),[30,31,32]),
 (un (.len 35 (.t 34)),[30,31,32]),
 (un (.mk 36 1 (.bool false) (.t 35)),[30,31,32]),
 (un (.mov 37 (.t 7)),[30,31,32,33,34,35,36])]
 [un (.call 38 Fl [((.t 30),false),((.t 31),false),((.t 32),false),((.t 36),true),((.t 37),true)])])
 (.drop [30,31,32,33,34,35,36,37] (.cond (.t 38) (.reg [un (.mov 39 (.t 9)),
 un (.bin 40 .add (.t 39) (.c (.int .i64 1))),
 un (.asg 9 (.t 40))])
 .skip))))
 (.drop [30,31,32,33,34,35,36,37,38,39,40] (.reg [un (.mov 28 (.t 10)),
 un (.bin 29 .add (.t 28) (.c (.int .i64 1))),
 un (.asg 10 (.t 29))])))))
def Ad2:ACode:=
 (.seq (.reg [un (.box 3 (.t 0)),
 un (.asg 6 (.c (.int .i64 0)))])
 (.seq (.reg [un (.bsl 11 1 []),
 un (.asg 7 (.t 11))])
 (.drop [11] (.seq (.seq (.reg [un (.asg 8 (.c (.int .i64 0)))])
 (.block 0 (.loop N5)))
 (.drop [8,12,13,14,15,16,19,20,21,17,18] (.seq (.reg [un (.asg 9 (.c (.int .i64 0)))])
 (.seq (.seq (.reg [un (.mov 22 (.t 1)),
 un (.asg 10 (.t 22))])
 (.drop [22] (.block 2 (.loop Oy))))
 (.drop [22,10,23,24,25,26,27,30,31,32,33,34,35,36,37,38,39,40,28,29] (.seq (.reg [un (.mov 41 (.t 9)),
 un (.asg 6 (.t 41))])
 (.drop [41] .ret))))))))))
abbrev Adw:List RS:=[.t 6]
theorem Aeg:A7 Try.prog Ip 42 Ad2 Adw=true:=by kernel_rfl
def Ql:ACode:=
 (.seq (.seq (.reg [un (.mov 22 (.t 6)),
 un (.mov 23 (.t 3)),
 un (.bin 24 .lss (.t 22) (.t 23))])
 (.drop [22,23] (.cond (.t 24) .skip
 (.exit 2))))
 (.drop [22,23,24] (.seq (.block 3 (.seq (.reg [un (.mov 27 (.t 0)),
 un (.call 28 Iu [((.t 27),true),((.c (.int .i64 3)),false)])])
 (.drop [27] (.cond (.t 28) (.reg [un (.mov 29 (.t 4)),
 un (.mov 30 (.t 5)),
 un (.mov 31 (.t 6)),
 un (.bld 32 [.int .i64 0,.int .i64 0] [(0,1,(.t 30)),(1,1,(.t 31))]),
 un (.bsl 33 2 [(.t 32)]),
 un (.app 34 2 (.t 29) (.t 33)),
 un (.asg 4 (.t 34))])
 .skip))))
 (.drop [27,28,29,30,31,32,33,34] (.reg [un (.mov 25 (.t 6)),
 un (.bin 26 .add (.t 25) (.c (.int .i64 1))),
 un (.asg 6 (.t 26))])))))
def Qn:ACode:=
 (.seq (.seq (.reg [un (.mov 15 (.t 5)),
 un (.mov 16 (.t 3)),
 un (.bin 17 .lss (.t 15) (.t 16))])
 (.drop [15,16] (.cond (.t 17) .skip
 (.exit 0))))
 (.drop [15,16,17] (.seq (.block 1 (.seq (.reg [un (.mov 20 (.t 5)),
 un (.bin 21 .add (.t 20) (.c (.int .i64 1))),
 un (.asg 6 (.t 21))])
 (.drop [20,21] (.block 2 (.loop Ql)))))
 (.drop [20,21,6,22,23,24,27,28,29,30,31,32,33,34,25,26] (.reg [un (.mov 18 (.t 5)),
 un (.bin 19 .add (.t 18) (.c (.int .i64 1))),
 un (.asg 5 (.t 19))])))))
def Abp:ACode:=
 (.reg [un (.mov 38 (.t 7)),
 un (.mov 39 (.t 3)),
 un (.call 40 Xi [((.t 38),false),((.t 39),false)]),
 un (.asg 41 (.t 40)),
 ⟨some (41,true),.mov 42 (.t 0)⟩,
 ⟨some (41,true),.call 43 Iu [((.t 42),true),((.c (.int .i64 2)),false)]⟩,
 un (.pick 44 (.t 41) (.t 43) (.c (.bool false)))])
def Qg:ACode:=
 (.seq (.seq (.reg [un (.mov 45 (.t 8)),
 un (.mov 46 (.t 4)),
 un (.len 47 (.t 46)),
 un (.bin 48 .lss (.t 45) (.t 47))])
 (.drop [45,46,47] (.cond (.t 48) .skip
 (.exit 4))))
 (.drop [45,46,47,48] (.seq (.block 5 (.dreg [(un (.mov 51 (.t 4)),[]),
 (un (.mov 52 (.t 8)),[51]),
 (un (.mov 53 (.t 7)),[51,52]),
 (un (.mov 54 (.t 4)),[51,52,53]),
 (un (.mov 55 (.t 8)),[51,52,53,54]),
 (un (.iad 56 2 (.t 54) (.t 55)),[51,52,53]),
 (un (.aad 57 1 2 (.t 56) (.c (.int .i64 0))),[51,52,53]),
 (un (.ld 58 1 false (.t 57)),[51,52,53]),
 (un (.iad 59 1 (.t 53) (.t 58)),[51,52]),
 (un (.ld 60 1 false (.t 59)),[51,52]),
 (un (.mov 61 (.t 7)),[51,52,53,54,55,56,57,58,59,60]),
 (un (.mov 62 (.t 4)),[51,52,53,54,55,56,57,58,59,60,61]),
 (un (.mov 63 (.t 8)),[51,52,53,54,55,56,57,58,59,60,61,62]),
 (un (.iad 64 2 (.t 62) (.t 63)),[51,52,53,54,55,56,57,58,59,60,61]),
 (un (.aad 65 1 2 (.t 64) (.c (.int .i64 1))),[51,52,53,54,55,56,57,58,59,60,61]),
 (un (.ld 66 1 false (.t 65)),[51,52,53,54,55,56,57,58,59,60,61]),
 (un (.iad 67 1 (.t 61) (.t 66)),[51,52,53,54,55,56,57,58,59,60]),
 (un (.ld 68 1 false (.t 67)),[51,52,53,54,55,56,57,58,59,60]),
 (un (.bld 69 [.int .i64 0,.int .i64 0] [(0,1,(.t 60)),(1,1,(.t 68))]),[51,52])]
 [un (.iad 70 2 (.t 51) (.t 52)),
 un (.st 2 (.t 70) (.t 69))]))
 (.drop [51,52,53,54,55,56,57,58,59,60,61,62,63,64,65,66,67,68,69,70] (.reg [un (.mov 49 (.t 8)),
 un (.bin 50 .add (.t 49) (.c (.int .i64 1))),
 un (.asg 8 (.t 50))])))))
def Abf:ACode:=
 (.seq (.reg [un (.mov 35 (.t 0)),
 un (.mov 36 (.t 3)),
 un (.call 37 Mh [((.t 35),true),((.t 36),false)]),
 un (.asg 7 (.t 37))])
 (.drop [35,36,37] (.seq (.cut Abp)
 (.drop [38,39,40,41,42,43] (.cond (.t 44) (.seq (.reg [un (.asg 8 (.c (.int .i64 0)))])
 (.block 4 (.loop Qg)))
 .skip)))))
def Abh:ACode:=
 (.seq (.reg [un (.mov 74 (.t 3)),
 un (.bin 75 .eql (.t 74) (.c (.int .i64 0))),
 un (.asg 76 (.t 75)),
 ⟨some (76,false),.mov 77 (.t 0)⟩,
 ⟨some (76,false),.call 78 Iu [((.t 77),true),((.c (.int .i64 16)),false)]⟩,
 ⟨some (76,false),.un 79 .not (.t 78)⟩,
 un (.pick 80 (.t 76) (.c (.bool true)) (.t 79))])
 (.drop [74,75,76,77,78,79] (.cond (.t 80) (.seq (.reg [un (.ld 81 1 true (.t 9)),
 un (.st 1 (.t 2) (.t 81))])
 (.drop [81] .ret))
 .skip)))
def Qi:ACode:=
 (.seq (.seq (.dreg [(un (.fadr 130 0 (.t 9)),[147]),
 (un (.ld 131 1 false (.t 130)),[147]),
 (un (.len 132 (.t 131)),[147]),
 (un (.mov 133 (.t 0)),[130,131,132]),
 (un (.call 134 Cf [((.t 133),true),((.c (.int .i64 2)),false)]),[147,130,131,132]),
 (un (.bin 135 .add (.c (.int .i64 10)) (.t 134)),[130,131,132])]
 [un (.bin 136 .lss (.t 132) (.t 135))])
 (.drop [130,131,132,133,134,135] (.cond (.t 136) .skip
 (.exit 7))))
 (.drop [130,131,132,133,134,135,136] (.block 8 (.reg [un (.fadr 137 0 (.t 9)),
 un (.ld 138 1 false (.t 137)),
 un (.fadr 139 0 (.t 9)),
 un (.ld 140 1 false (.t 139)),
 un (.len 141 (.t 140)),
 un (.bsl 142 1 [(.t 141)]),
 un (.bsl 143 1 [(.t 142)]),
 un (.app 144 1 (.t 138) (.t 143)),
 un (.fadr 145 0 (.t 9)),
 un (.st 1 (.t 145) (.t 144))]))))
def Afz:ACode:=
 (.seq (.reg [un (.alc 2 (.agg [.nilsl 1]))])
 (.seq (.reg [un (.mov 11 (.t 0)),
 un (.bsl 12 1 [(.c (.int .i64 0)),(.c (.int .i64 1)),(.c (.int .i64 2)),(.c (.int .i64 3)),(.c (.int .i64 4)),(.c (.int .i64 4)),(.c (.int .i64 5)),(.c (.int .i64 5)),(.c (.int .i64 6)),(.c (.int .i64 7))]),
 un (.call 13 Je [((.t 11),true),((.t 12),false)]),
 un (.asg 3 (.t 13))])
 (.drop [11,12,13] (.seq (.reg [un (.bsl 14 2 []),
 un (.asg 4 (.t 14))])
 (.drop [14] (.seq (.seq (.reg [un (.asg 5 (.c (.int .i64 0)))])
 (.block 0 (.loop Qn)))
 (.drop [5,15,16,17,20,21,6,22,23,24,27,28,29,30,31,32,33,34,25,26,18,19] (.seq (.cut Abf)
 (.drop [35,36,37,7,38,39,40,41,42,43,44,8,45,46,47,48,51,52,53,54,55,56,57,58,59,60,61,62,63,64,65,66,67,68,69,70,49,50] (.seq (.reg [un (.mov 71 (.t 3)),
 un (.mov 72 (.t 4)),
 un (.call 73 Ut [((.t 71),false),((.t 72),false)]),
 un (.alc 9 (.agg [.nilsl 1])),
 un (.st 1 (.t 9) (.t 73))])
 (.drop [71,72,73] (.seq (.cut Abh)
 (.drop [74,75,76,77,78,79,80,81] (.seq (.reg [un (.mov 82 (.t 0)),
 un (.mov 83 (.t 3)),
 un (.call 84 Cf [((.t 82),true),((.t 83),false)]),
 un (.asg 10 (.t 84))])
 (.drop [82,83,84] (.seq (.seq (.reg [un (.mov 85 (.t 0)),
 un (.call 86 Cf [((.t 85),true),((.c (.int .i64 4)),false)])])
 (.drop [85] (.block 6 (.seq (.reg [un (.bin 88 .eql (.t 86) (.c (.int .i64 0))),
 un (.asg 87 (.t 88))])
 (.drop [88] (.cond (.t 87) (.frz [200009] (.dreg [(un (.fadr 89 0 (.t 9)),[]),
 (un (.ld 90 1 false (.t 89)),[]),
 (un (.mov 91 (.t 10)),[89,90]),
 (un (.fadr 92 0 (.t 9)),[89,90,91]),
 (un (.ld 93 1 false (.t 92)),[89,90,91]),
 (un (.mov 94 (.t 10)),[89,90,91,92,93]),
 (un (.iad 95 1 (.t 93) (.t 94)),[89,90,91]),
 (un (.ld 96 1 false (.t 95)),[89,90,91]),
 (un (.slc 97 1 (.t 96) (some (.c (.int .i64 1))) none),[89,90,91])]
 [un (.iad 98 1 (.t 90) (.t 91)),
 un (.st 1 (.t 98) (.t 97))]))
 (.seq (.reg [un (.bin 100 .eql (.t 86) (.c (.int .i64 1))),
 un (.asg 99 (.t 100))])
 (.drop [100] (.cond (.t 99) (.dregl [(0,.fadr 101 0 (.t 9)),
 (1,.ld 102 1 false (.t 101)),
 (2,.mov 103 (.t 10)),
 (3,.fadr 104 0 (.t 9)),
 (4,.ld 105 1 false (.t 104)),
 (5,.mov 106 (.t 10)),
 (6,.iad 107 1 (.t 105) (.t 106)),
 (7,.ld 108 1 false (.t 107)),
 (8,.mov 109 (.t 3))]
 (.alt 9 (.bsl 110 1 [(.t 109)]) [0,1,2,3,4,5,6,7,8] [] (.alt 10 (.app 111 1 (.t 108) (.t 110)) [0,1,2,3,4,5,6,7] [108] (.alt 11 (.iad 112 1 (.t 102) (.t 103)) [0,1,2] [] (.alt 12 (.st 1 (.t 112) (.t 111)) [] [] .nil .nil) .nil) .nil) .nil))
 (.seq (.reg [un (.bin 114 .eql (.t 86) (.c (.int .i64 2))),
 un (.asg 113 (.t 114))])
 (.drop [114] (.cond (.t 113) (.frz [200009] (.dreg [(un (.fadr 115 0 (.t 9)),[147]),
 (un (.ld 116 1 false (.t 115)),[147]),
 (un (.mov 117 (.t 10)),[147,115,116]),
 (un (.fadr 118 0 (.t 9)),[147,115,116,117]),
 (un (.ld 119 1 false (.t 118)),[147,115,116,117]),
 (un (.mov 120 (.t 10)),[147,115,116,117,118,119]),
 (un (.iad 121 1 (.t 119) (.t 120)),[147,115,116,117]),
 (un (.ld 122 1 false (.t 121)),[147,115,116,117]),
 (un (.mov 123 (.t 0)),[115,116,117,118,119,120,121,122]),
 (un (.mov 124 (.t 3)),[115,116,117,118,119,120,121,122,123]),
 (un (.call 125 Cf [((.t 123),true),((.t 124),false)]),[147,115,116,117,118,119,120,121,122]),
 (un (.call 126 Aai [((.t 122),false),((.t 125),false)]),[115,116,117])]
 [un (.iad 127 1 (.t 116) (.t 117)),
 un (.st 1 (.t 127) (.t 126))]))
 (.seq (.reg [un (.bin 129 .eql (.t 86) (.c (.int .i64 3))),
 un (.asg 128 (.t 129))])
 (.drop [129] (.cond (.t 128) (.block 7 (.loop Qi))
 .skip)))))))))))))))
 (.drop [85,86,88,87,89,90,91,92,93,94,95,96,97,98,100,99,101,102,103,104,105,106,107,108,109,110,111,112,114,113,115,116,117,118,119,120,121,122,123,124,125,126,127,129,128,130,131,132,133,134,135,136,137,138,139,140,141,142,143,144,145] (.seq (.reg [un (.ld 146 1 true (.t 9)),
 un (.st 1 (.t 2) (.t 146))])
 (.drop [146] .ret)))))))))))))))))))
abbrev Agb:List RS:=[.c 2 1 true]
theorem Afr:A7 Try.prog Nd 147 Afz Agb=true:=by kernel_rfl
def Aa0:ACode:=
 (.seq (.reg [un (.mov 38 (.t 10)),
 un (.mov 39 (.t 5)),
 un (.bin 40 .lss (.t 38) (.t 39)),
 un (.asg 41 (.t 40)),
 ⟨some (41,true),.mov 42 (.t 7)⟩,
 ⟨some (41,true),.mov 43 (.t 8)⟩,
 ⟨some (41,true),.iad 44 1 (.t 42) (.t 43)⟩,
 ⟨some (41,true),.ld 45 1 false (.t 44)⟩,
 ⟨some (41,true),.bin 46 .lss (.t 45) (.c (.int .i64 0))⟩,
 un (.pick 47 (.t 41) (.t 46) (.c (.bool false)))])
 (.drop [38,39,40,41,42,43,44,45,46] (.cond (.t 47) .skip
 (.exit 2))))
def Zp:ACode:=
 (.seq (.reg [un (.ld 50 1 true (.t 1)),
 un (.mov 51 (.t 8)),
 un (.mov 52 (.t 10)),
 un (.call 53 K0 [((.t 50),false),((.t 51),false),((.t 52),false)]),
 un (.un 54 .not (.t 53)),
 un (.asg 55 (.t 54)),
 ⟨some (55,false),.mov 56 (.t 6)⟩,
 ⟨some (55,false),.mov 57 (.t 10)⟩,
 ⟨some (55,false),.iad 58 1 (.t 56) (.t 57)⟩,
 ⟨some (55,false),.ld 59 1 false (.t 58)⟩,
 un (.pick 60 (.t 55) (.c (.bool true)) (.t 59))])
 (.drop [50,51,52,53,54,55,56,57,58,59] (.cond (.t 60) (.exit 3)
 .skip)))
def N9:ACode:=
 (.seq (.cut Aa0)
 (.drop [38,39,40,41,42,43,44,45,46,47] (.seq (.block 3 (.seq (.cut Zp)
 (.drop [50,51,52,53,54,55,56,57,58,59,60] (.seq (.reg [un (.mov 61 (.t 6)),
 un (.mov 62 (.t 10)),
 un (.iad 63 1 (.t 61) (.t 62)),
 un (.st 1 (.t 63) (.c (.bool true)))])
 (.drop [61,62,63] (.seq (.reg [un (.ld 64 1 true (.t 1)),
 un (.mov 65 (.t 8)),
 un (.bin 66 .add (.t 65) (.c (.int .i64 1))),
 un (.mov 67 (.t 6)),
 un (.call 68 Ip [((.t 64),false),((.t 66),false),((.t 67),false)]),
 un (.bin 69 .add (.t 68) (.c (.int .i64 1))),
 un (.mov 70 (.t 9)),
 un (.bin 71 .eql (.t 69) (.t 70))])
 (.drop [64,65,66,67,68,69,70] (.cond (.t 71) (.reg [un (.mov 72 (.t 7)),
 un (.mov 73 (.t 8)),
 un (.mov 74 (.t 10)),
 un (.iad 75 1 (.t 72) (.t 73)),
 un (.st 1 (.t 75) (.t 74))])
 (.reg [un (.mov 76 (.t 6)),
 un (.mov 77 (.t 10)),
 un (.iad 78 1 (.t 76) (.t 77)),
 un (.st 1 (.t 78) (.c (.bool false)))])))))))))
 (.drop [50,51,52,53,54,55,56,57,58,59,60,61,62,63,64,65,66,67,68,69,70,71,72,73,74,75,76,77,78] (.reg [un (.mov 48 (.t 10)),
 un (.bin 49 .add (.t 48) (.c (.int .i64 1))),
 un (.asg 10 (.t 49))])))))
def Ow:ACode:=
 (.seq (.seq (.reg [un (.mov 26 (.t 8)),
 un (.mov 27 (.t 5)),
 un (.bin 28 .lss (.t 26) (.t 27))])
 (.drop [26,27] (.cond (.t 28) .skip
 (.exit 0))))
 (.drop [26,27,28] (.seq (.block 1 (.seq (.reg [un (.mov 31 (.t 7)),
 un (.mov 32 (.t 8)),
 un (.iad 33 1 (.t 31) (.t 32)),
 un (.st 1 (.t 33) (.c (.int .i64 (-1))))])
 (.drop [31,32,33] (.seq (.reg [un (.ld 34 1 true (.t 1)),
 un (.mov 35 (.t 8)),
 un (.mov 36 (.t 6)),
 un (.call 37 Ip [((.t 34),false),((.t 35),false),((.t 36),false)]),
 un (.asg 9 (.t 37))])
 (.drop [34,35,36,37] (.seq (.reg [un (.asg 10 (.c (.int .i64 0)))])
 (.block 2 (.loop N9))))))))
 (.drop [31,32,33,34,35,36,37,9,10,38,39,40,41,42,43,44,45,46,47,50,51,52,53,54,55,56,57,58,59,60,61,62,63,64,65,66,67,68,69,70,71,72,73,74,75,76,77,78,48,49] (.reg [un (.mov 29 (.t 8)),
 un (.bin 30 .add (.t 29) (.c (.int .i64 1))),
 un (.asg 8 (.t 30))])))))
def Ps:ACode:=
 (.seq (.seq (.reg [un (.mov 90 (.t 13)),
 un (.bin 91 .geq (.t 90) (.c (.int .i64 0)))])
 (.drop [90] (.cond (.t 91) .skip
 (.exit 6))))
 (.drop [90,91] (.seq (.block 7 (.reg [un (.mov 96 (.t 12)),
 un (.mov 97 (.t 13)),
 un (.bsl 98 1 [(.t 97)]),
 un (.app 99 1 (.t 96) (.t 98)),
 un (.asg 12 (.t 99))]))
 (.drop [96,97,98,99] (.reg [un (.mov 92 (.t 7)),
 un (.mov 93 (.t 13)),
 un (.iad 94 1 (.t 92) (.t 93)),
 un (.ld 95 1 false (.t 94)),
 un (.asg 13 (.t 95))])))))
def Pf:ACode:=
 (.seq (.seq (.reg [un (.mov 79 (.t 11)),
 un (.mov 80 (.t 5)),
 un (.bin 81 .lss (.t 79) (.t 80))])
 (.drop [79,80] (.cond (.t 81) .skip
 (.exit 4))))
 (.drop [79,80,81] (.seq (.block 5 (.seq (.seq (.reg [un (.mov 84 (.t 6)),
 un (.mov 85 (.t 11)),
 un (.iad 86 1 (.t 84) (.t 85)),
 un (.ld 87 1 false (.t 86))])
 (.drop [84,85,86] (.cond (.t 87) (.exit 5)
 .skip)))
 (.drop [84,85,86,87] (.seq (.reg [un (.bsl 88 1 []),
 un (.asg 12 (.t 88))])
 (.drop [88] (.seq (.seq (.reg [un (.mov 89 (.t 11)),
 un (.asg 13 (.t 89))])
 (.drop [89] (.block 6 (.loop Ps))))
 (.drop [89,13,90,91,96,97,98,99,92,93,94,95] (.reg [un (.mov 100 (.t 4)),
 un (.mov 101 (.t 12)),
 un (.bsl 102 1 [(.t 101)]),
 un (.app 103 1 (.t 100) (.t 102)),
 un (.asg 4 (.t 103))]))))))))
 (.drop [84,85,86,87,88,12,89,13,90,91,96,97,98,99,92,93,94,95,100,101,102,103] (.reg [un (.mov 82 (.t 11)),
 un (.bin 83 .add (.t 82) (.c (.int .i64 1))),
 un (.asg 11 (.t 83))])))))
def Adp:ACode:=
 (.seq (.reg [un (.box 1 (.t 0)),
 un (.asg 2 (.c (.nilsl 1))),
 un (.asg 3 (.c (.bool false)))])
 (.seq (.reg [un (.bsl 14 1 []),
 un (.asg 4 (.t 14))])
 (.drop [14] (.seq (.seq (.reg [un (.ld 15 1 true (.t 1)),
 un (.call 16 Iw [((.t 15),false)]),
 un (.un 17 .not (.t 16))])
 (.drop [15,16] (.cond (.t 17) (.seq (.reg [un (.mov 18 (.t 4)),
 un (.asg 2 (.t 18)),
 un (.asg 3 (.c (.bool false)))])
 (.drop [18] .ret))
 .skip)))
 (.drop [15,16,17,18] (.seq (.reg [un (.fadr 19 0 (.t 1)),
 un (.ld 20 1 false (.t 19)),
 un (.len 21 (.t 20)),
 un (.asg 5 (.t 21))])
 (.drop [19,20,21] (.seq (.dregp 0 [6] [(un (.mov 22 (.t 5)),[]),
 (un (.mk 23 1 (.bool false) (.t 22)),[]),
 (un (.mov 24 (.t 5)),[22,23,23]),
 (un (.mk 25 1 (.int .i64 0) (.t 24)),[22,23,23]),
 (un (.asg 6 (.t 23)),[24,25])]
 [un (.asg 7 (.t 25))])
 (.drop [22,23,24,25] (.seq (.seq (.reg [un (.asg 8 (.c (.int .i64 0)))])
 (.block 0 (.loop Ow)))
 (.drop [8,26,27,28,31,32,33,34,35,36,37,9,10,38,39,40,41,42,43,44,45,46,47,50,51,52,53,54,55,56,57,58,59,60,61,62,63,64,65,66,67,68,69,70,71,72,73,74,75,76,77,78,48,49,29,30] (.seq (.seq (.reg [un (.asg 11 (.c (.int .i64 0)))])
 (.block 4 (.loop Pf)))
 (.drop [11,79,80,81,84,85,86,87,88,12,89,13,90,91,96,97,98,99,92,93,94,95,100,101,102,103,82,83] (.seq (.reg [un (.mov 104 (.t 4)),
 un (.asg 2 (.t 104)),
 un (.asg 3 (.c (.bool true)))])
 (.drop [104] .ret)))))))))))))))
abbrev Ads:List RS:=[.t 2,.t 3]
theorem Adl:A7 Try.prog Mi 105 Adp Ads=true:=by kernel_rfl
def Afa:ACode:=
 (.seq (.reg [un (.alc 2 (.agg [.nilsl 1]))])
 (.seq (.reg [un (.mov 4 (.t 0)),
 un (.bld 5 [.nilsl 1,.int .i64 0,.int .u64 0] [(0,1,(.t 4))]),
 un (.box 6 (.t 5)),
 un (.asg 3 (.t 6))])
 (.drop [4,5,6] (.seq (.reg [un (.mov 7 (.t 3)),
 un (.call 8 Nd [((.t 7),true)]),
 un (.st 1 (.t 2) (.t 8))])
 (.drop [7,8] .ret)))))
abbrev Af7:List RS:=[.c 2 1 true]
theorem Af2:A7 Try.prog Nb 9 Afa Af7=true:=by kernel_rfl
def Ze:ACode:=
 (.seq (.reg [un (.alc 2 (.agg [.nilsl 1]))])
 (.seq (.reg [un (.mov 3 (.t 0)),
 un (.call 4 Nb [((.t 3),false)]),
 un (.st 1 (.t 2) (.t 4))])
 (.drop [3,4] .ret)))
abbrev Y5:List RS:=[.c 2 1 true]
theorem Yc:A7 Try.prog Iz 5 Ze Y5=true:=by kernel_rfl
def Af4:ACode:=
 (.seq (.reg [un (.ld 55 1 true (.t 3)),
 un (.call 56 Mi [((.t 55),false)]),
 un (.asg 54 (.t 56)),
 un (.ext 57 (.t 54) 0),
 un (.ext 58 (.t 54) 1),
 un (.asg 6 (.t 57)),
 un (.asg 7 (.t 58))])
 (.drop [55,56,54,57,58] (.seq (.reg [un (.mov 59 (.t 5)),
 un (.mov 60 (.t 7)),
 un (.binb 61 .neq (.t 59) (.t 60)),
 un (.asg 62 (.t 61)),
 ⟨some (62,false),.mov 63 (.t 4)⟩,
 ⟨some (62,false),.mov 64 (.t 6)⟩,
 ⟨some (62,false),.call 65 Mr [((.t 63),false),((.t 64),false)]⟩,
 ⟨some (62,false),.un 66 .not (.t 65)⟩,
 un (.pick 67 (.t 62) (.c (.bool true)) (.t 66))])
 (.drop [59,60,61,62,63,64,65,66] (.cond (.t 67) (.seq (.reg [un (.asg 2 (.c (.bool false)))])
 .ret)
 .skip)))))
def Aex:ACode:=
 (.seq (.reg [un (.ld 74 1 true (.t 3)),
 un (.call 75 I6 [((.t 74),false)]),
 un (.asg 73 (.t 75)),
 un (.ext 76 (.t 73) 0),
 un (.ext 77 (.t 73) 1),
 un (.asg 10 (.t 76)),
 un (.asg 11 (.t 77))])
 (.drop [74,75,73,76,77] (.seq (.reg [un (.mov 78 (.t 9)),
 un (.mov 79 (.t 11)),
 un (.binb 80 .neq (.t 78) (.t 79)),
 un (.asg 81 (.t 80)),
 ⟨some (81,false),.mov 82 (.t 9)⟩,
 ⟨some (81,false),.mov 83 (.t 5)⟩,
 ⟨some (81,false),.binb 84 .neq (.t 82) (.t 83)⟩,
 un (.pick 85 (.t 81) (.c (.bool true)) (.t 84)),
 un (.asg 86 (.t 85)),
 ⟨some (86,false),.mov 87 (.t 8)⟩,
 ⟨some (86,false),.mov 88 (.t 10)⟩,
 ⟨some (86,false),.call 89 L3 [((.t 87),false),((.t 88),false)]⟩,
 ⟨some (86,false),.un 90 .not (.t 89)⟩,
 un (.pick 91 (.t 86) (.c (.bool true)) (.t 90))])
 (.drop [78,79,80,81,82,83,84,85,86,87,88,89,90] (.cond (.t 91) (.seq (.reg [un (.asg 2 (.c (.bool false)))])
 .ret)
 .skip)))))
def Uc:ACode:=
 (.seq (.seq (.reg [un (.mov 108 (.t 15)),
 un (.mov 109 (.t 4)),
 un (.mov 110 (.t 14)),
 un (.iad 111 1 (.t 109) (.t 110)),
 un (.ld 112 1 false (.t 111)),
 un (.len 113 (.t 112)),
 un (.bin 114 .lss (.t 108) (.t 113))])
 (.drop [108,109,110,111,112,113] (.cond (.t 114) .skip
 (.exit 2))))
 (.drop [108,109,110,111,112,113,114] (.seq (.block 3 (.seq (.dreg [(un (.mov 117 (.t 13)),[]),
 (un (.mov 118 (.t 4)),[117]),
 (un (.mov 119 (.t 14)),[117,118]),
 (un (.iad 120 1 (.t 118) (.t 119)),[117]),
 (un (.ld 121 1 false (.t 120)),[117]),
 (un (.mov 122 (.t 15)),[117,118,119,120,121]),
 (un (.iad 123 1 (.t 121) (.t 122)),[117]),
 (un (.ld 124 1 false (.t 123)),[117]),
 (un (.mov 125 (.t 13)),[117,118,119,120,121,122,123,124]),
 (un (.mov 126 (.t 4)),[117,118,119,120,121,122,123,124,125]),
 (un (.mov 127 (.t 14)),[117,118,119,120,121,122,123,124,125,126]),
 (un (.iad 128 1 (.t 126) (.t 127)),[117,118,119,120,121,122,123,124,125]),
 (un (.ld 129 1 false (.t 128)),[117,118,119,120,121,122,123,124,125]),
 (un (.mov 130 (.t 15)),[117,118,119,120,121,122,123,124,125,126,127,128,129]),
 (un (.iad 131 1 (.t 129) (.t 130)),[117,118,119,120,121,122,123,124,125]),
 (un (.ld 132 1 false (.t 131)),[117,118,119,120,121,122,123,124,125]),
 (un (.iad 133 1 (.t 125) (.t 132)),[117,118,119,120,121,122,123,124]),
 (un (.ld 134 1 false (.t 133)),[117,118,119,120,121,122,123,124]),
 (un (.bin 135 .add (.t 134) (.c (.int .i64 1))),[117,118,119,120,121,122,123,124])]
 [un (.iad 136 1 (.t 117) (.t 124)),
 un (.st 1 (.t 136) (.t 135))])
 (.drop [117,118,119,120,121,122,123,124,125,126,127,128,129,130,131,132,133,134,135,136] (.seq (.reg [un (.mov 137 (.t 15)),
 un (.bin 138 .gtr (.t 137) (.c (.int .i64 0)))])
 (.drop [137] (.cond (.t 138) (.seq (.dreg [(un (.ld 140 1 true (.t 3)),[]),
 (un (.mov 141 (.t 4)),[140]),
 (un (.mov 142 (.t 14)),[140,141]),
 (un (.iad 143 1 (.t 141) (.t 142)),[140]),
 (un (.ld 144 1 false (.t 143)),[140]),
 (un (.mov 145 (.t 15)),[140,141,142,143,144]),
 (un (.bin 146 .sub (.t 145) (.c (.int .i64 1))),[140,141,142,143,144]),
 (un (.iad 147 1 (.t 144) (.t 146)),[140]),
 (un (.ld 148 1 false (.t 147)),[140]),
 (un (.mov 149 (.t 4)),[140,141,142,143,144,145,146,147,148]),
 (un (.mov 150 (.t 14)),[140,141,142,143,144,145,146,147,148,149]),
 (un (.iad 151 1 (.t 149) (.t 150)),[140,141,142,143,144,145,146,147,148]),
 (un (.ld 152 1 false (.t 151)),[140,141,142,143,144,145,146,147,148]),
 (un (.mov 153 (.t 15)),[140,141,142,143,144,145,146,147,148,149,150,151,152]),
 (un (.iad 154 1 (.t 152) (.t 153)),[140,141,142,143,144,145,146,147,148]),
 (un (.ld 155 1 false (.t 154)),[140,141,142,143,144,145,146,147,148]),
 (un (.call 156 Sw [((.t 140),false),((.t 148),false),((.t 155),false)]),[]),
 (un (.asg 139 (.t 156)),[]),
 (un (.ext 157 (.t 139) 0),[156]),
 (un (.ext 158 (.t 139) 1),[157,156,157])]
 [un (.asg 16 (.t 157)),
 un (.asg 17 (.t 158))])
 (.drop [140,141,142,143,144,145,146,147,148,149,150,151,152,153,154,155,156,139,157,158] (.seq (.reg [un (.mov 159 (.t 17)),
 un (.un 160 .not (.t 159)),
 un (.asg 161 (.t 160)),
 ⟨some (161,false),.mov 162 (.t 16)⟩,
 ⟨some (161,false),.un 163 .not (.t 162)⟩,
 un (.pick 164 (.t 161) (.c (.bool true)) (.t 163))])
 (.drop [159,160,161,162,163] (.cond (.t 164) (.seq (.reg [un (.asg 2 (.c (.bool false)))])
 .ret)
 .skip)))))
 .skip))))))
 (.drop [117,118,119,120,121,122,123,124,125,126,127,128,129,130,131,132,133,134,135,136,137,138,140,141,142,143,144,145,146,147,148,149,150,151,152,153,154,155,156,139,157,158,16,17,159,160,161,162,163,164] (.reg [un (.mov 115 (.t 15)),
 un (.bin 116 .add (.t 115) (.c (.int .i64 1))),
 un (.asg 15 (.t 116))])))))
def Ub:ACode:=
 (.seq (.seq (.reg [un (.mov 102 (.t 14)),
 un (.mov 103 (.t 4)),
 un (.len 104 (.t 103)),
 un (.bin 105 .lss (.t 102) (.t 104))])
 (.drop [102,103,104] (.cond (.t 105) .skip
 (.exit 0))))
 (.drop [102,103,104,105] (.seq (.block 1 (.seq (.reg [un (.asg 15 (.c (.int .i64 0)))])
 (.block 2 (.loop Uc))))
 (.drop [15,108,109,110,111,112,113,114,117,118,119,120,121,122,123,124,125,126,127,128,129,130,131,132,133,134,135,136,137,138,140,141,142,143,144,145,146,147,148,149,150,151,152,153,154,155,156,139,157,158,16,17,159,160,161,162,163,164,115,116] (.reg [un (.mov 106 (.t 14)),
 un (.bin 107 .add (.t 106) (.c (.int .i64 1))),
 un (.asg 14 (.t 107))])))))
def Uw:ACode:=
 (.seq (.seq (.reg [un (.mov 165 (.t 18)),
 un (.mov 166 (.t 12)),
 un (.bin 167 .lss (.t 165) (.t 166))])
 (.drop [165,166] (.cond (.t 167) .skip
 (.exit 4))))
 (.drop [165,166,167] (.seq (.block 5 (.seq (.reg [un (.mov 170 (.t 13)),
 un (.mov 171 (.t 18)),
 un (.iad 172 1 (.t 170) (.t 171)),
 un (.ld 173 1 false (.t 172)),
 un (.bin 174 .neq (.t 173) (.c (.int .i64 1)))])
 (.drop [170,171,172,173] (.cond (.t 174) (.seq (.reg [un (.asg 2 (.c (.bool false)))])
 .ret)
 .skip))))
 (.drop [170,171,172,173,174] (.reg [un (.mov 168 (.t 18)),
 un (.bin 169 .add (.t 168) (.c (.int .i64 1))),
 un (.asg 18 (.t 169))])))))
def Afe:ACode:=
 (.seq (.reg [un (.ld 191 1 true (.t 3)),
 un (.call 192 Mj [((.t 191),false)]),
 un (.asg 190 (.t 192)),
 un (.ext 193 (.t 190) 0),
 un (.ext 194 (.t 190) 1),
 un (.asg 23 (.t 193)),
 un (.asg 24 (.t 194))])
 (.drop [191,192,190,193,194] (.seq (.reg [un (.mov 195 (.t 22)),
 un (.mov 196 (.t 24)),
 un (.binb 197 .neq (.t 195) (.t 196)),
 un (.asg 198 (.t 197)),
 ⟨some (198,false),.mov 199 (.t 20)⟩,
 ⟨some (198,false),.un 200 .not (.t 199)⟩,
 un (.pick 201 (.t 198) (.c (.bool true)) (.t 200)),
 un (.asg 202 (.t 201)),
 ⟨some (202,false),.mov 203 (.t 22)⟩,
 ⟨some (202,false),.un 204 .not (.t 203)⟩,
 un (.pick 205 (.t 202) (.c (.bool true)) (.t 204)),
 un (.asg 206 (.t 205)),
 ⟨some (206,false),.mov 207 (.t 21)⟩,
 ⟨some (206,false),.mov 208 (.t 23)⟩,
 ⟨some (206,false),.call 209 L3 [((.t 207),false),((.t 208),false)]⟩,
 ⟨some (206,false),.un 210 .not (.t 209)⟩,
 un (.pick 211 (.t 206) (.c (.bool true)) (.t 210)),
 un (.asg 212 (.t 211)),
 ⟨some (212,false),.mov 213 (.t 19)⟩,
 ⟨some (212,false),.len 214 (.t 213)⟩,
 ⟨some (212,false),.mov 215 (.t 12)⟩,
 ⟨some (212,false),.bin 216 .neq (.t 214) (.t 215)⟩,
 un (.pick 217 (.t 212) (.c (.bool true)) (.t 216))])
 (.drop [195,196,197,198,199,200,201,202,203,204,205,206,207,208,209,210,211,212,213,214,215,216] (.cond (.t 217) (.seq (.reg [un (.asg 2 (.c (.bool false)))])
 .ret)
 .skip)))))
def Uk:ACode:=
 (.seq (.seq (.reg [un (.mov 218 (.t 26)),
 un (.mov 219 (.t 12)),
 un (.bin 220 .lss (.t 218) (.t 219))])
 (.drop [218,219] (.cond (.t 220) .skip
 (.exit 6))))
 (.drop [218,219,220] (.seq (.block 7 (.seq (.reg [un (.mov 223 (.t 19)),
 un (.mov 224 (.t 26)),
 un (.iad 225 1 (.t 223) (.t 224)),
 un (.ld 226 1 false (.t 225)),
 un (.bin 227 .add (.t 226) (.c (.int .i64 1))),
 un (.mov 228 (.t 25)),
 un (.bin 229 .gtr (.t 227) (.t 228))])
 (.drop [223,224,225,226,227,228] (.cond (.t 229) (.reg [un (.mov 230 (.t 19)),
 un (.mov 231 (.t 26)),
 un (.iad 232 1 (.t 230) (.t 231)),
 un (.ld 233 1 false (.t 232)),
 un (.bin 234 .add (.t 233) (.c (.int .i64 1))),
 un (.asg 25 (.t 234))])
 .skip))))
 (.drop [223,224,225,226,227,228,229,230,231,232,233,234] (.reg [un (.mov 221 (.t 26)),
 un (.bin 222 .add (.t 221) (.c (.int .i64 1))),
 un (.asg 26 (.t 222))])))))
def Af5:ACode:=
 (.seq (.reg [un (.mov 250 (.t 28)),
 un (.un 251 .not (.t 250)),
 un (.asg 252 (.t 251)),
 ⟨some (252,false),.mov 253 (.t 30)⟩,
 ⟨some (252,false),.un 254 .not (.t 253)⟩,
 un (.pick 255 (.t 252) (.c (.bool true)) (.t 254)),
 un (.asg 256 (.t 255)),
 ⟨some (256,false),.fadr 257 0 (.t 29)⟩,
 ⟨some (256,false),.ld 258 1 false (.t 257)⟩,
 ⟨some (256,false),.fadr 259 0 (.t 3)⟩,
 ⟨some (256,false),.ld 260 1 false (.t 259)⟩,
 ⟨some (256,false),.call 261 Mr [((.t 258),false),((.t 260),false)]⟩,
 ⟨some (256,false),.un 262 .not (.t 261)⟩,
 un (.pick 263 (.t 256) (.c (.bool true)) (.t 262))])
 (.drop [250,251,252,253,254,255,256,257,258,259,260,261,262] (.cond (.t 263) (.seq (.reg [un (.asg 2 (.c (.bool false)))])
 .ret)
 .skip)))
def Agf:ACode:=
 (.seq (.reg [un (.mov 274 (.t 32)),
 un (.un 275 .not (.t 274)),
 un (.asg 276 (.t 275)),
 ⟨some (276,false),.mov 277 (.t 34)⟩,
 ⟨some (276,false),.un 278 .not (.t 277)⟩,
 un (.pick 279 (.t 276) (.c (.bool true)) (.t 278)),
 un (.asg 280 (.t 279)),
 ⟨some (280,false),.fadr 281 0 (.t 33)⟩,
 ⟨some (280,false),.ld 282 1 false (.t 281)⟩,
 ⟨some (280,false),.fadr 283 0 (.t 3)⟩,
 ⟨some (280,false),.ld 284 1 false (.t 283)⟩,
 ⟨some (280,false),.call 285 Mr [((.t 282),false),((.t 284),false)]⟩,
 ⟨some (280,false),.un 286 .not (.t 285)⟩,
 un (.pick 287 (.t 280) (.c (.bool true)) (.t 286))])
 (.drop [274,275,276,277,278,279,280,281,282,283,284,285,286] (.cond (.t 287) (.seq (.reg [un (.asg 2 (.c (.bool false)))])
 .ret)
 .skip)))
def Af1:ACode:=
 (.seq (.reg [un (.ld 299 1 true (.t 3)),
 un (.call 300 Jv [((.t 299),false)]),
 un (.asg 298 (.t 300)),
 un (.ext 301 (.t 298) 0),
 un (.ext 302 (.t 298) 1),
 un (.asg 39 (.t 301)),
 un (.asg 40 (.t 302))])
 (.drop [299,300,298,301,302] (.seq (.reg [un (.mov 303 (.t 35)),
 un (.mov 304 (.t 39)),
 un (.bin 305 .neq (.t 303) (.t 304)),
 un (.asg 306 (.t 305)),
 ⟨some (306,false),.mov 307 (.t 36)⟩,
 ⟨some (306,false),.mov 308 (.t 40)⟩,
 ⟨some (306,false),.binb 309 .neq (.t 307) (.t 308)⟩,
 un (.pick 310 (.t 306) (.c (.bool true)) (.t 309)),
 un (.asg 311 (.t 310)),
 ⟨some (311,false),.mov 312 (.t 36)⟩,
 ⟨some (311,false),.un 313 .not (.t 312)⟩,
 un (.pick 314 (.t 311) (.c (.bool true)) (.t 313)),
 un (.asg 315 (.t 314)),
 ⟨some (315,false),.mov 316 (.t 38)⟩,
 ⟨some (315,false),.un 317 .not (.t 316)⟩,
 un (.pick 318 (.t 315) (.c (.bool true)) (.t 317)),
 un (.asg 319 (.t 318)),
 ⟨some (319,false),.mov 320 (.t 35)⟩,
 ⟨some (319,false),.mov 321 (.t 37)⟩,
 ⟨some (319,false),.bin 322 .neq (.t 320) (.t 321)⟩,
 un (.pick 323 (.t 319) (.c (.bool true)) (.t 322)),
 un (.asg 324 (.t 323)),
 ⟨some (324,false),.mov 325 (.t 35)⟩,
 ⟨some (324,false),.bin 326 .lss (.t 325) (.c (.int .i64 1))⟩,
 un (.pick 327 (.t 324) (.c (.bool true)) (.t 326))])
 (.drop [303,304,305,306,307,308,309,310,311,312,313,314,315,316,317,318,319,320,321,322,323,324,325,326] (.cond (.t 327) (.seq (.reg [un (.asg 2 (.c (.bool false)))])
 .ret)
 .skip)))))
def Alp:ACode:=
 (.seq (.reg [un (.asg 2 (.c (.bool false)))])
 (.seq (.seq (.reg [un (.mov 45 (.t 0)),
 un (.call 46 Acv [((.t 45),false)])])
 (.drop [45] (.cond (.t 46) (.seq (.reg [un (.asg 2 (.c (.bool true)))])
 .ret)
 .skip)))
 (.drop [45,46] (.seq (.reg [un (.mov 47 (.t 0)),
 un (.call 48 Iz [((.t 47),false)]),
 un (.alc 3 (.agg [.nilsl 1])),
 un (.st 1 (.t 3) (.t 48))])
 (.drop [47,48] (.seq (.reg [un (.ld 50 1 true (.t 3)),
 un (.call 51 Mn [((.t 50),false)]),
 un (.asg 49 (.t 51)),
 un (.ext 52 (.t 49) 0),
 un (.ext 53 (.t 49) 1),
 un (.asg 4 (.t 52)),
 un (.asg 5 (.t 53))])
 (.drop [50,51,49,52,53] (.seq (.cut Af4)
 (.drop [55,56,54,57,58,6,7,59,60,61,62,63,64,65,66,67] (.seq (.reg [un (.ld 69 1 true (.t 3)),
 un (.call 70 Ix [((.t 69),false)]),
 un (.asg 68 (.t 70)),
 un (.ext 71 (.t 68) 0),
 un (.ext 72 (.t 68) 1),
 un (.asg 8 (.t 71)),
 un (.asg 9 (.t 72))])
 (.drop [69,70,68,71,72] (.seq (.cut Aex)
 (.drop [74,75,73,76,77,10,11,78,79,80,81,82,83,84,85,86,87,88,89,90,91] (.seq (.seq (.reg [un (.mov 92 (.t 5)),
 un (.un 93 .not (.t 92))])
 (.drop [92] (.cond (.t 93) (.seq (.reg [un (.ld 94 1 true (.t 3)),
 un (.call 95 Um [((.t 94),false)]),
 un (.un 96 .not (.t 95)),
 un (.asg 2 (.t 96))])
 (.drop [94,95,96] .ret))
 .skip)))
 (.drop [92,93,94,95,96] (.seq (.reg [un (.fadr 97 0 (.t 3)),
 un (.ld 98 1 false (.t 97)),
 un (.len 99 (.t 98)),
 un (.asg 12 (.t 99))])
 (.drop [97,98,99] (.seq (.reg [un (.mov 100 (.t 12)),
 un (.mk 101 1 (.int .i64 0) (.t 100)),
 un (.asg 13 (.t 101))])
 (.drop [100,101] (.seq (.seq (.reg [un (.asg 14 (.c (.int .i64 0)))])
 (.block 0 (.loop Ub)))
 (.drop [14,102,103,104,105,15,108,109,110,111,112,113,114,117,118,119,120,121,122,123,124,125,126,127,128,129,130,131,132,133,134,135,136,137,138,140,141,142,143,144,145,146,147,148,149,150,151,152,153,154,155,156,139,157,158,16,17,159,160,161,162,163,164,115,116,106,107] (.seq (.seq (.reg [un (.asg 18 (.c (.int .i64 0)))])
 (.block 4 (.loop Uw)))
 (.drop [18,165,166,167,170,171,172,173,174,168,169] (.seq (.seq (.reg [un (.mov 175 (.t 8)),
 un (.len 176 (.t 175)),
 un (.mov 177 (.t 4)),
 un (.len 178 (.t 177)),
 un (.bin 179 .neq (.t 176) (.t 178))])
 (.drop [175,176,177,178] (.cond (.t 179) (.seq (.reg [un (.asg 2 (.c (.bool false)))])
 .ret)
 .skip)))
 (.drop [175,176,177,178,179] (.seq (.reg [un (.ld 181 1 true (.t 3)),
 un (.call 182 Q2 [((.t 181),false)]),
 un (.asg 180 (.t 182)),
 un (.ext 183 (.t 180) 0),
 un (.ext 184 (.t 180) 1),
 un (.asg 19 (.t 183)),
 un (.asg 20 (.t 184))])
 (.drop [181,182,180,183,184] (.seq (.reg [un (.ld 186 1 true (.t 3)),
 un (.call 187 Mm [((.t 186),false)]),
 un (.asg 185 (.t 187)),
 un (.ext 188 (.t 185) 0),
 un (.ext 189 (.t 185) 1),
 un (.asg 21 (.t 188)),
 un (.asg 22 (.t 189))])
 (.drop [186,187,185,188,189] (.seq (.cut Afe)
 (.drop [191,192,190,193,194,23,24,195,196,197,198,199,200,201,202,203,204,205,206,207,208,209,210,211,212,213,214,215,216,217] (.seq (.reg [un (.asg 25 (.c (.int .i64 0)))])
 (.seq (.seq (.reg [un (.asg 26 (.c (.int .i64 0)))])
 (.block 6 (.loop Uk)))
 (.drop [26,218,219,220,223,224,225,226,227,228,229,230,231,232,233,234,221,222] (.seq (.seq (.reg [un (.mov 235 (.t 21)),
 un (.len 236 (.t 235)),
 un (.mov 237 (.t 25)),
 un (.bin 238 .neq (.t 236) (.t 237))])
 (.drop [235,236,237] (.cond (.t 238) (.seq (.reg [un (.asg 2 (.c (.bool false)))])
 .ret)
 .skip)))
 (.drop [235,236,237,238] (.seq (.reg [un (.ld 240 1 true (.t 3)),
 un (.call 241 Ou [((.t 240),false)]),
 un (.asg 239 (.t 241)),
 un (.ext 242 (.t 239) 0),
 un (.ext 243 (.t 239) 1),
 un (.asg 27 (.t 242)),
 un (.asg 28 (.t 243))])
 (.drop [240,241,239,242,243] (.seq (.reg [un (.mov 245 (.t 12)),
 un (.mov 246 (.t 27)),
 un (.call 247 Pz [((.t 245),false),((.t 246),false)]),
 un (.asg 244 (.t 247)),
 un (.ext 248 (.t 244) 0),
 un (.ext 249 (.t 244) 1),
 un (.alc 29 (.agg [.nilsl 1])),
 un (.st 1 (.t 29) (.t 248)),
 un (.asg 30 (.t 249))])
 (.drop [245,246,247,244,248,249] (.seq (.cut Af5)
 (.drop [250,251,252,253,254,255,256,257,258,259,260,261,262,263] (.seq (.reg [un (.ld 265 1 true (.t 3)),
 un (.call 266 L1 [((.t 265),false)]),
 un (.asg 264 (.t 266)),
 un (.ext 267 (.t 264) 0),
 un (.ext 268 (.t 264) 1),
 un (.alc 31 (.agg [.nilsl 1])),
 un (.st 1 (.t 31) (.t 267)),
 un (.asg 32 (.t 268))])
 (.drop [265,266,264,267,268] (.seq (.reg [un (.ld 270 1 true (.t 31)),
 un (.call 271 L1 [((.t 270),false)]),
 un (.asg 269 (.t 271)),
 un (.ext 272 (.t 269) 0),
 un (.ext 273 (.t 269) 1),
 un (.alc 33 (.agg [.nilsl 1])),
 un (.st 1 (.t 33) (.t 272)),
 un (.asg 34 (.t 273))])
 (.drop [270,271,269,272,273] (.seq (.cut Agf)
 (.drop [274,275,276,277,278,279,280,281,282,283,284,285,286,287] (.seq (.reg [un (.ld 289 1 true (.t 3)),
 un (.call 290 G5 [((.t 289),false)]),
 un (.asg 288 (.t 290)),
 un (.ext 291 (.t 288) 0),
 un (.ext 292 (.t 288) 1),
 un (.asg 35 (.t 291)),
 un (.asg 36 (.t 292))])
 (.drop [289,290,288,291,292] (.seq (.reg [un (.ld 294 1 true (.t 31)),
 un (.call 295 G5 [((.t 294),false)]),
 un (.asg 293 (.t 295)),
 un (.ext 296 (.t 293) 0),
 un (.ext 297 (.t 293) 1),
 un (.asg 37 (.t 296)),
 un (.asg 38 (.t 297))])
 (.drop [294,295,293,296,297] (.seq (.cut Af1)
 (.drop [299,300,298,301,302,39,40,303,304,305,306,307,308,309,310,311,312,313,314,315,316,317,318,319,320,321,322,323,324,325,326,327] (.seq (.reg [un (.ld 329 1 true (.t 3)),
 un (.call 330 Jr [((.t 329),false)]),
 un (.asg 328 (.t 330)),
 un (.ext 331 (.t 328) 0),
 un (.ext 332 (.t 328) 1),
 un (.asg 41 (.t 331)),
 un (.asg 42 (.t 332))])
 (.drop [329,330,328,331,332] (.seq (.reg [un (.ld 334 1 true (.t 31)),
 un (.call 335 Jk [((.t 334),false)]),
 un (.asg 333 (.t 335)),
 un (.ext 336 (.t 333) 0),
 un (.ext 337 (.t 333) 1),
 un (.asg 43 (.t 336)),
 un (.asg 44 (.t 337))])
 (.drop [334,335,333,336,337] (.seq (.reg [un (.mov 338 (.t 42)),
 un (.asg 339 (.t 338)),
 ⟨some (339,true),.mov 340 (.t 44)⟩,
 un (.pick 341 (.t 339) (.t 340) (.c (.bool false))),
 un (.asg 342 (.t 341)),
 ⟨some (342,true),.mov 343 (.t 41)⟩,
 ⟨some (342,true),.mov 344 (.t 43)⟩,
 ⟨some (342,true),.call 345 L3 [((.t 343),false),((.t 344),false)]⟩,
 un (.pick 346 (.t 342) (.t 345) (.c (.bool false))),
 un (.asg 2 (.t 346))])
 (.drop [338,339,340,341,342,343,344,345,346] .ret))))))))))))))))))))))))))))))))))))))))))))))))))))))))))))
abbrev Alw:List RS:=[.t 2]
theorem Aln:A7 Try.prog Abe 347 Alp Alw=true:=by kernel_rfl
end Go.Proofs.Ytpfikenknmlajaa.Ax
