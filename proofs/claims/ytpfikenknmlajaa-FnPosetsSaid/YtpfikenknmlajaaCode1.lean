/-
  The small code of the functions, written by program; that the program's code is this one, the kernel looks at.
-/
import Derived.Test.YtpfikenknmlajaaAx3
import Derived.Test.YtpfikenknmlajaaProg
import Derived.KernelRfl
import Derived.Test.YtpfikenknmlajaaNum
namespace Go.Proofs.Ytpfikenknmlajaa.Ax
open Go
set_option maxRecDepth 100000
def Avu:ACode:=
 (.seq (.reg [un (.asg 2 (.c (.bool false)))])
 (.seq (.reg [un (.mov 3 (.t 0)),
 un (.len 4 (.t 3)),
 un (.bin 5 .gtr (.t 4) (.c (.int .i64 65536))),
 un (.asg 2 (.t 5))])
 (.drop [3,4,5] .ret)))
abbrev Auv:List RS:=[.t 2]
theorem Au8:A7 Try.prog Acv 6 Avu Auv=true:=by kernel_rfl
def Aba:ACode:=
 (.seq (.seq (.reg [un (.mov 11 (.t 5)),
 un (.mov 12 (.t 0)),
 un (.len 13 (.t 12)),
 un (.bin 14 .lss (.t 11) (.t 13))])
 (.drop [11,12,13] (.cond (.t 14) .skip
 (.exit 0))))
 (.drop [11,12,13,14] (.seq (.block 1 (.seq (.dreg [(un (.mov 17 (.t 0)),[]),
 (un (.mov 18 (.t 5)),[17]),
 (un (.iad 19 1 (.t 17) (.t 18)),[]),
 (un (.ld 20 1 false (.t 19)),[]),
 (un (.mov 21 (.t 1)),[17,18,19,20]),
 (un (.mov 22 (.t 5)),[17,18,19,20,21]),
 (un (.iad 23 1 (.t 21) (.t 22)),[17,18,19,20]),
 (un (.ld 24 1 false (.t 23)),[17,18,19,20])]
 [un (.bin 25 .neq (.t 20) (.t 24))])
 (.drop [17,18,19,20,21,22,23,24] (.cond (.t 25) (.seq (.reg [un (.asg 4 (.c (.bool false)))])
 .ret)
 .skip))))
 (.drop [17,18,19,20,21,22,23,24,25] (.reg [un (.mov 15 (.t 5)),
 un (.bin 16 .add (.t 15) (.c (.int .i64 1))),
 un (.asg 5 (.t 16))])))))
def Atj:ACode:=
 (.seq (.reg [un (.asg 4 (.c (.bool false)))])
 (.seq (.seq (.reg [un (.mov 6 (.t 0)),
 un (.len 7 (.t 6)),
 un (.mov 8 (.t 1)),
 un (.len 9 (.t 8)),
 un (.bin 10 .neq (.t 7) (.t 9))])
 (.drop [6,7,8,9] (.cond (.t 10) (.seq (.reg [un (.asg 4 (.c (.bool false)))])
 .ret)
 .skip)))
 (.drop [6,7,8,9,10] (.seq (.seq (.reg [un (.asg 5 (.c (.int .i64 0)))])
 (.block 0 (.loop Aba)))
 (.drop [5,11,12,13,14,17,18,19,20,21,22,23,24,25,15,16] (.seq (.reg [un (.asg 4 (.c (.bool true)))])
 .ret))))))
abbrev Asb:List RS:=[.t 4]
theorem Atn:A7 Try.prog L3 26 Atj Asb=true:=by kernel_rfl
def Agt:ACode:=
 (.seq (.reg [un (.asg 6 (.c (.bool false)))])
 (.seq (.reg [un (.mov 7 (.t 1)),
 un (.mov 8 (.t 2)),
 un (.bin 9 .neq (.t 7) (.t 8)),
 un (.asg 10 (.t 9)),
 ⟨some (10,true),.mov 11 (.t 0)⟩,
 ⟨some (10,true),.mov 12 (.t 1)⟩,
 ⟨some (10,true),.iad 13 1 (.t 11) (.t 12)⟩,
 ⟨some (10,true),.ld 14 1 false (.t 13)⟩,
 ⟨some (10,true),.mov 15 (.t 2)⟩,
 ⟨some (10,true),.iad 16 1 (.t 14) (.t 15)⟩,
 ⟨some (10,true),.ld 17 1 false (.t 16)⟩,
 un (.pick 18 (.t 10) (.t 17) (.c (.bool false))),
 un (.asg 6 (.t 18))])
 (.drop [7,8,9,10,11,12,13,14,15,16,17,18] .ret)))
abbrev Aib:List RS:=[.t 6]
theorem Ai0:A7 Try.prog Bf 19 Agt Aib=true:=by kernel_rfl
def Yd:ACode:=
 (.seq (.seq (.reg [un (.mov 6 (.t 0)),
 un (.mov 7 (.t 4)),
 un (.bin 8 .shr (.t 6) (.t 7)),
 un (.bin 9 .gtr (.t 8) (.c (.int .i64 0)))])
 (.drop [6,7,8] (.cond (.t 9) .skip
 (.exit 0))))
 (.drop [6,7,8,9] (.seq (.block 1 (.seq (.reg [un (.mov 12 (.t 0)),
 un (.mov 13 (.t 4)),
 un (.bin 14 .shr (.t 12) (.t 13)),
 un (.bin 15 .and (.t 14) (.c (.int .i64 1))),
 un (.bin 16 .eql (.t 15) (.c (.int .i64 1)))])
 (.drop [12,13,14,15] (.cond (.t 16) (.reg [un (.mov 17 (.t 3)),
 un (.mov 18 (.t 4)),
 un (.bsl 19 1 [(.t 18)]),
 un (.app 20 1 (.t 17) (.t 19)),
 un (.asg 3 (.t 20))])
 .skip))))
 (.drop [12,13,14,15,16,17,18,19,20] (.reg [un (.mov 10 (.t 4)),
 un (.bin 11 .add (.t 10) (.c (.int .i64 1))),
 un (.asg 4 (.t 11))])))))
def Apw:ACode:=
 (.seq (.reg [un (.asg 2 (.c (.nilsl 1)))])
 (.seq (.reg [un (.bsl 5 1 []),
 un (.asg 3 (.t 5))])
 (.drop [5] (.seq (.seq (.reg [un (.asg 4 (.c (.int .i64 0)))])
 (.block 0 (.loop Yd)))
 (.drop [4,6,7,8,9,12,13,14,15,16,17,18,19,20,10,11] (.seq (.reg [un (.mov 21 (.t 3)),
 un (.asg 2 (.t 21))])
 (.drop [21] .ret)))))))
abbrev Apy:List RS:=[.t 2]
theorem Aqb:A7 Try.prog Xv 22 Apw Apy=true:=by kernel_rfl
def Aay:ACode:=
 (.seq (.reg [un (.mov 6 (.t 5)),
 un (.mov 7 (.t 0)),
 un (.len 8 (.t 7)),
 un (.bin 9 .lss (.t 6) (.t 8)),
 un (.asg 10 (.t 9)),
 ⟨some (10,true),.mov 11 (.t 5)⟩,
 ⟨some (10,true),.mov 12 (.t 1)⟩,
 ⟨some (10,true),.len 13 (.t 12)⟩,
 ⟨some (10,true),.bin 14 .lss (.t 11) (.t 13)⟩,
 un (.pick 15 (.t 10) (.t 14) (.c (.bool false)))])
 (.drop [6,7,8,9,10,11,12,13,14] (.cond (.t 15) .skip
 (.exit 0))))
def P8:ACode:=
 (.seq (.cut Aay)
 (.drop [6,7,8,9,10,11,12,13,14,15] (.seq (.block 1 (.seq (.dreg [(un (.mov 18 (.t 0)),[]),
 (un (.mov 19 (.t 5)),[18]),
 (un (.iad 20 1 (.t 18) (.t 19)),[]),
 (un (.ld 21 1 false (.t 20)),[]),
 (un (.mov 22 (.t 1)),[18,19,20,21]),
 (un (.mov 23 (.t 5)),[18,19,20,21,22]),
 (un (.iad 24 1 (.t 22) (.t 23)),[18,19,20,21]),
 (un (.ld 25 1 false (.t 24)),[18,19,20,21])]
 [un (.bin 26 .neq (.t 21) (.t 25))])
 (.drop [18,19,20,21,22,23,24,25] (.cond (.t 26) (.seq (.seq (.dreg [(un (.mov 27 (.t 0)),[]),
 (un (.mov 28 (.t 5)),[27]),
 (un (.iad 29 1 (.t 27) (.t 28)),[]),
 (un (.ld 30 1 false (.t 29)),[]),
 (un (.mov 31 (.t 1)),[27,28,29,30]),
 (un (.mov 32 (.t 5)),[27,28,29,30,31]),
 (un (.iad 33 1 (.t 31) (.t 32)),[27,28,29,30]),
 (un (.ld 34 1 false (.t 33)),[27,28,29,30])]
 [un (.bin 35 .lss (.t 30) (.t 34))])
 (.drop [27,28,29,30,31,32,33,34] (.cond (.t 35) (.seq (.reg [un (.asg 4 (.c (.int .i64 (-1))))])
 .ret)
 .skip)))
 (.drop [27,28,29,30,31,32,33,34,35] (.seq (.reg [un (.asg 4 (.c (.int .i64 1)))])
 .ret)))
 .skip))))
 (.drop [18,19,20,21,22,23,24,25,26,27,28,29,30,31,32,33,34,35] (.reg [un (.mov 16 (.t 5)),
 un (.bin 17 .add (.t 16) (.c (.int .i64 1))),
 un (.asg 5 (.t 17))])))))
def Adt:ACode:=
 (.seq (.reg [un (.asg 4 (.c (.int .i64 0)))])
 (.seq (.seq (.reg [un (.asg 5 (.c (.int .i64 0)))])
 (.block 0 (.loop P8)))
 (.drop [5,6,7,8,9,10,11,12,13,14,15,18,19,20,21,22,23,24,25,26,27,28,29,30,31,32,33,34,35,16,17] (.seq (.block 2 (.seq (.reg [un (.mov 37 (.t 0)),
 un (.len 38 (.t 37)),
 un (.mov 39 (.t 1)),
 un (.len 40 (.t 39)),
 un (.bin 41 .lss (.t 38) (.t 40)),
 un (.asg 36 (.t 41))])
 (.drop [37,38,39,40,41] (.cond (.t 36) (.seq (.reg [un (.asg 4 (.c (.int .i64 (-1))))])
 .ret)
 (.seq (.reg [un (.mov 43 (.t 0)),
 un (.len 44 (.t 43)),
 un (.mov 45 (.t 1)),
 un (.len 46 (.t 45)),
 un (.bin 47 .gtr (.t 44) (.t 46)),
 un (.asg 42 (.t 47))])
 (.drop [43,44,45,46,47] (.cond (.t 42) (.seq (.reg [un (.asg 4 (.c (.int .i64 1)))])
 .ret)
 .skip)))))))
 (.drop [37,38,39,40,41,36,43,44,45,46,47,42] (.seq (.reg [un (.asg 4 (.c (.int .i64 0)))])
 .ret))))))
abbrev Ad7:List RS:=[.t 4]
theorem Aeh:A7 Try.prog Ml 48 Adt Ad7=true:=by kernel_rfl
def Apx:ACode:=
 (.seq (.reg [un (.asg 4 (.c (.int .i64 0)))])
 (.seq (.seq (.reg [un (.mov 5 (.t 0)),
 un (.mov 6 (.t 1)),
 un (.bin 7 .gtr (.t 5) (.t 6))])
 (.drop [5,6] (.cond (.t 7) (.seq (.reg [un (.mov 8 (.t 0)),
 un (.asg 4 (.t 8))])
 (.drop [8] .ret))
 .skip)))
 (.drop [5,6,7,8] (.seq (.reg [un (.mov 9 (.t 1)),
 un (.asg 4 (.t 9))])
 (.drop [9] .ret)))))
abbrev Ap8:List RS:=[.t 4]
theorem Ap1:A7 Try.prog Rh 10 Apx Ap8=true:=by kernel_rfl
def Tp:ACode:=
 (.seq (.reg [un (.bin 10 .lss (.t 9) (.t 8))])
 (.seq (.cond (.t 10) .skip
 (.exit 0))
 (.seq (.block 1 (.seq (.reg [un (.mov 11 (.t 9)),
 un (.asg 4 (.t 11))])
 (.drop [11] (.reg [un (.mov 12 (.t 3)),
 un (.mov 13 (.t 4)),
 un (.mov 14 (.t 0)),
 un (.mk 15 1 (.bool false) (.t 14)),
 un (.iad 16 1 (.t 12) (.t 13)),
 un (.st 1 (.t 16) (.t 15))]))))
 (.drop [11,4,12,13,14,15,16] (.reg [un (.bin 17 .add (.t 9) (.c (.int .i64 1))),
 un (.asg 9 (.t 17))])))))
def Al2:ACode:=
 (.seq (.reg [un (.asg 2 (.c (.nilsl 1)))])
 (.seq (.reg [un (.mov 5 (.t 0)),
 un (.mk 6 1 (.nilsl 1) (.t 5)),
 un (.asg 3 (.t 6))])
 (.drop [5,6] (.seq (.seq (.reg [un (.mov 7 (.t 3)),
 un (.len 8 (.t 7)),
 un (.mov 9 (.c (.int .i64 0)))])
 (.drop [7] (.block 0 (.loop Tp))))
 (.drop [7,8,9,10,11,4,12,13,14,15,16,17] (.seq (.reg [un (.mov 18 (.t 3)),
 un (.asg 2 (.t 18))])
 (.drop [18] .ret)))))))
abbrev Alx:List RS:=[.t 2]
theorem Aly:A7 Try.prog J2 19 Al2 Alx=true:=by kernel_rfl
def X3:ACode:=
 (.seq (.reg [un (.mov 24 (.t 3)),
 un (.mov 25 (.t 4)),
 un (.bin 26 .neq (.t 24) (.t 25)),
 un (.asg 27 (.t 26)),
 ⟨some (27,true),.mov 28 (.t 0)⟩,
 ⟨some (27,true),.mov 29 (.t 3)⟩,
 ⟨some (27,true),.iad 30 1 (.t 28) (.t 29)⟩,
 ⟨some (27,true),.ld 31 1 false (.t 30)⟩,
 ⟨some (27,true),.mov 32 (.t 4)⟩,
 ⟨some (27,true),.iad 33 1 (.t 31) (.t 32)⟩,
 ⟨some (27,true),.ld 34 1 false (.t 33)⟩,
 un (.pick 35 (.t 27) (.t 34) (.c (.bool false))),
 un (.asg 36 (.t 35)),
 ⟨some (36,true),.mov 37 (.t 0)⟩,
 ⟨some (36,true),.mov 38 (.t 4)⟩,
 ⟨some (36,true),.iad 39 1 (.t 37) (.t 38)⟩,
 ⟨some (36,true),.ld 40 1 false (.t 39)⟩,
 ⟨some (36,true),.mov 41 (.t 3)⟩,
 ⟨some (36,true),.iad 42 1 (.t 40) (.t 41)⟩,
 ⟨some (36,true),.ld 43 1 false (.t 42)⟩,
 un (.pick 44 (.t 36) (.t 43) (.c (.bool false)))])
 (.drop [24,25,26,27,28,29,30,31,32,33,34,35,36,37,38,39,40,41,42,43] (.cond (.t 44) (.seq (.reg [un (.asg 2 (.c (.bool false)))])
 .ret)
 .skip)))
def Nu:ACode:=
 (.seq (.reg [un (.bin 48 .lss (.t 47) (.t 46))])
 (.seq (.cond (.t 48) .skip
 (.exit 4))
 (.seq (.block 5 (.seq (.reg [un (.mov 49 (.t 47)),
 un (.asg 5 (.t 49))])
 (.drop [49] (.seq (.reg [un (.mov 50 (.t 0)),
 un (.mov 51 (.t 3)),
 un (.iad 52 1 (.t 50) (.t 51)),
 un (.ld 53 1 false (.t 52)),
 un (.mov 54 (.t 4)),
 un (.iad 55 1 (.t 53) (.t 54)),
 un (.ld 56 1 false (.t 55)),
 un (.asg 57 (.t 56)),
 ⟨some (57,true),.mov 58 (.t 0)⟩,
 ⟨some (57,true),.mov 59 (.t 4)⟩,
 ⟨some (57,true),.iad 60 1 (.t 58) (.t 59)⟩,
 ⟨some (57,true),.ld 61 1 false (.t 60)⟩,
 ⟨some (57,true),.mov 62 (.t 5)⟩,
 ⟨some (57,true),.iad 63 1 (.t 61) (.t 62)⟩,
 ⟨some (57,true),.ld 64 1 false (.t 63)⟩,
 un (.pick 65 (.t 57) (.t 64) (.c (.bool false))),
 un (.asg 66 (.t 65)),
 ⟨some (66,true),.mov 67 (.t 0)⟩,
 ⟨some (66,true),.mov 68 (.t 3)⟩,
 ⟨some (66,true),.iad 69 1 (.t 67) (.t 68)⟩,
 ⟨some (66,true),.ld 70 1 false (.t 69)⟩,
 ⟨some (66,true),.mov 71 (.t 5)⟩,
 ⟨some (66,true),.iad 72 1 (.t 70) (.t 71)⟩,
 ⟨some (66,true),.ld 73 1 false (.t 72)⟩,
 ⟨some (66,true),.un 74 .not (.t 73)⟩,
 un (.pick 75 (.t 66) (.t 74) (.c (.bool false)))])
 (.drop [50,51,52,53,54,55,56,57,58,59,60,61,62,63,64,65,66,67,68,69,70,71,72,73,74] (.cond (.t 75) (.seq (.reg [un (.asg 2 (.c (.bool false)))])
 .ret)
 .skip))))))
 (.drop [49,5,50,51,52,53,54,55,56,57,58,59,60,61,62,63,64,65,66,67,68,69,70,71,72,73,74,75] (.reg [un (.bin 76 .add (.t 47) (.c (.int .i64 1))),
 un (.asg 47 (.t 76))])))))
def Ni:ACode:=
 (.seq (.reg [un (.bin 22 .lss (.t 21) (.t 20))])
 (.seq (.cond (.t 22) .skip
 (.exit 2))
 (.seq (.block 3 (.seq (.reg [un (.mov 23 (.t 21)),
 un (.asg 4 (.t 23))])
 (.drop [23] (.seq (.cut X3)
 (.drop [24,25,26,27,28,29,30,31,32,33,34,35,36,37,38,39,40,41,42,43,44] (.seq (.reg [un (.mov 45 (.t 0)),
 un (.len 46 (.t 45)),
 un (.mov 47 (.c (.int .i64 0)))])
 (.drop [45] (.block 4 (.loop Nu)))))))))
 (.drop [23,4,24,25,26,27,28,29,30,31,32,33,34,35,36,37,38,39,40,41,42,43,44,45,46,47,48,49,5,50,51,52,53,54,55,56,57,58,59,60,61,62,63,64,65,66,67,68,69,70,71,72,73,74,75,76] (.reg [un (.bin 77 .add (.t 21) (.c (.int .i64 1))),
 un (.asg 21 (.t 77))])))))
def Nk:ACode:=
 (.seq (.reg [un (.bin 9 .lss (.t 8) (.t 7))])
 (.seq (.cond (.t 9) .skip
 (.exit 0))
 (.seq (.block 1 (.seq (.reg [un (.mov 10 (.t 8)),
 un (.asg 3 (.t 10))])
 (.drop [10] (.seq (.seq (.reg [un (.mov 11 (.t 0)),
 un (.mov 12 (.t 3)),
 un (.iad 13 1 (.t 11) (.t 12)),
 un (.ld 14 1 false (.t 13)),
 un (.mov 15 (.t 3)),
 un (.iad 16 1 (.t 14) (.t 15)),
 un (.ld 17 1 false (.t 16)),
 un (.un 18 .not (.t 17))])
 (.drop [11,12,13,14,15,16,17] (.cond (.t 18) (.seq (.reg [un (.asg 2 (.c (.bool false)))])
 .ret)
 .skip)))
 (.drop [11,12,13,14,15,16,17,18] (.seq (.reg [un (.mov 19 (.t 0)),
 un (.len 20 (.t 19)),
 un (.mov 21 (.c (.int .i64 0)))])
 (.drop [19] (.block 2 (.loop Ni)))))))))
 (.drop [10,3,11,12,13,14,15,16,17,18,19,20,21,22,23,4,24,25,26,27,28,29,30,31,32,33,34,35,36,37,38,39,40,41,42,43,44,45,46,47,48,49,5,50,51,52,53,54,55,56,57,58,59,60,61,62,63,64,65,66,67,68,69,70,71,72,73,74,75,76,77] (.reg [un (.bin 78 .add (.t 8) (.c (.int .i64 1))),
 un (.asg 8 (.t 78))])))))
def Abw:ACode:=
 (.seq (.reg [un (.asg 2 (.c (.bool false)))])
 (.seq (.seq (.reg [un (.mov 6 (.t 0)),
 un (.len 7 (.t 6)),
 un (.mov 8 (.c (.int .i64 0)))])
 (.drop [6] (.block 0 (.loop Nk))))
 (.drop [6,7,8,9,10,3,11,12,13,14,15,16,17,18,19,20,21,22,23,4,24,25,26,27,28,29,30,31,32,33,34,35,36,37,38,39,40,41,42,43,44,45,46,47,48,49,5,50,51,52,53,54,55,56,57,58,59,60,61,62,63,64,65,66,67,68,69,70,71,72,73,74,75,76,77,78] (.seq (.reg [un (.asg 2 (.c (.bool true)))])
 .ret))))
abbrev Ab0:List RS:=[.t 2]
theorem Abu:A7 Try.prog Ia 79 Abw Ab0=true:=by kernel_rfl
def Qf:ACode:=
 (.seq (.reg [un (.bin 18 .lss (.t 17) (.t 16))])
 (.seq (.cond (.t 18) .skip
 (.exit 2))
 (.seq (.block 3 (.seq (.reg [un (.mov 19 (.t 17)),
 un (.asg 6 (.t 19))])
 (.drop [19] (.seq (.reg [un (.mov 20 (.t 0)),
 un (.mov 21 (.t 6)),
 un (.iad 22 1 (.t 20) (.t 21)),
 un (.ld 23 1 false (.t 22)),
 un (.mov 24 (.t 4)),
 un (.iad 25 1 (.t 23) (.t 24)),
 un (.ld 26 1 false (.t 25))])
 (.drop [20,21,22,23,24,25] (.cond (.t 26) (.reg [un (.mov 27 (.t 5)),
 un (.mov 28 (.t 6)),
 un (.bsl 29 1 [(.t 28)]),
 un (.app 30 1 (.t 27) (.t 29)),
 un (.asg 5 (.t 30))])
 .skip))))))
 (.drop [19,6,20,21,22,23,24,25,26,27,28,29,30] (.reg [un (.bin 31 .add (.t 17) (.c (.int .i64 1))),
 un (.asg 17 (.t 31))])))))
def Qj:ACode:=
 (.seq (.reg [un (.bin 12 .lss (.t 11) (.t 10))])
 (.seq (.cond (.t 12) .skip
 (.exit 0))
 (.seq (.block 1 (.seq (.reg [un (.mov 13 (.t 11)),
 un (.asg 4 (.t 13))])
 (.drop [13] (.seq (.reg [un (.bsl 14 1 []),
 un (.asg 5 (.t 14))])
 (.drop [14] (.seq (.seq (.reg [un (.mov 15 (.t 0)),
 un (.len 16 (.t 15)),
 un (.mov 17 (.c (.int .i64 0)))])
 (.drop [15] (.block 2 (.loop Qf))))
 (.drop [15,16,17,18,19,6,20,21,22,23,24,25,26,27,28,29,30,31] (.reg [un (.fadr 32 0 (.t 3)),
 un (.ld 33 1 false (.t 32)),
 un (.mov 34 (.t 5)),
 un (.bsl 35 1 [(.t 34)]),
 un (.app 36 1 (.t 33) (.t 35)),
 un (.fadr 37 0 (.t 3)),
 un (.st 1 (.t 37) (.t 36))]))))))))
 (.drop [13,4,14,5,15,16,17,18,19,6,20,21,22,23,24,25,26,27,28,29,30,31,32,33,34,35,36,37] (.reg [un (.bin 38 .add (.t 11) (.c (.int .i64 1))),
 un (.asg 11 (.t 38))])))))
def Afw:ACode:=
 (.seq (.reg [un (.alc 2 (.agg [.nilsl 1]))])
 (.seq (.reg [un (.bsl 7 1 []),
 un (.bld 8 [.nilsl 1] [(0,1,(.t 7))]),
 un (.alc 3 (.agg [.nilsl 1])),
 un (.st 1 (.t 3) (.t 8))])
 (.drop [7,8] (.seq (.seq (.reg [un (.mov 9 (.t 0)),
 un (.len 10 (.t 9)),
 un (.mov 11 (.c (.int .i64 0)))])
 (.drop [9] (.block 0 (.loop Qj))))
 (.drop [9,10,11,12,13,4,14,5,15,16,17,18,19,6,20,21,22,23,24,25,26,27,28,29,30,31,32,33,34,35,36,37,38] (.seq (.reg [un (.ld 39 1 true (.t 3)),
 un (.st 1 (.t 2) (.t 39))])
 (.drop [39] .ret)))))))
abbrev Af0:List RS:=[.c 2 1 true]
theorem Ae6:A7 Try.prog Jq 40 Afw Af0=true:=by kernel_rfl
def Qm:ACode:=
 (.seq (.reg [un (.bin 11 .lss (.t 10) (.t 9))])
 (.seq (.cond (.t 11) .skip
 (.exit 0))
 (.seq (.block 1 (.seq (.reg [un (.mov 12 (.t 10)),
 un (.asg 6 (.t 12))])
 (.drop [12] (.seq (.reg [un (.mov 13 (.t 1)),
 un (.mov 14 (.t 6)),
 un (.cally 15 (.t 13) [(.t 14)] [])])
 (.drop [13,14] (.cond (.t 15) (.reg [un (.mov 16 (.t 5)),
 un (.mov 17 (.t 6)),
 un (.bsl 18 1 [(.t 17)]),
 un (.app 19 1 (.t 16) (.t 18)),
 un (.asg 5 (.t 19))])
 .skip))))))
 (.drop [12,6,13,14,15,16,17,18,19] (.reg [un (.bin 20 .add (.t 10) (.c (.int .i64 1))),
 un (.asg 10 (.t 20))])))))
def Ae4:ACode:=
 (.seq (.reg [un (.asg 4 (.c (.nilsl 1)))])
 (.seq (.reg [un (.bsl 7 1 []),
 un (.asg 5 (.t 7))])
 (.drop [7] (.seq (.seq (.reg [un (.mov 8 (.t 0)),
 un (.len 9 (.t 8)),
 un (.mov 10 (.c (.int .i64 0)))])
 (.drop [8] (.block 0 (.loop Qm))))
 (.drop [8,9,10,11,12,6,13,14,15,16,17,18,19,20] (.seq (.reg [un (.mov 21 (.t 5)),
 un (.asg 4 (.t 21))])
 (.drop [21] .ret)))))))
abbrev Aez:List RS:=[.t 4]
theorem Ae1:A7 Try.prog Hr 22 Ae4 Aez=true:=by kernel_rfl
def Abb:ACode:=
 (.seq (.seq (.reg [un (.mov 6 (.t 5)),
 un (.mov 7 (.t 0)),
 un (.len 8 (.t 7)),
 un (.bin 9 .lss (.t 6) (.t 8))])
 (.drop [6,7,8] (.cond (.t 9) .skip
 (.exit 0))))
 (.drop [6,7,8,9] (.seq (.block 1 (.seq (.reg [un (.mov 12 (.t 0)),
 un (.mov 13 (.t 5)),
 un (.iad 14 1 (.t 12) (.t 13)),
 un (.ld 15 1 false (.t 14)),
 un (.mov 16 (.t 1)),
 un (.bin 17 .eql (.t 15) (.t 16))])
 (.drop [12,13,14,15,16] (.cond (.t 17) (.seq (.reg [un (.asg 4 (.c (.bool true)))])
 .ret)
 .skip))))
 (.drop [12,13,14,15,16,17] (.reg [un (.mov 10 (.t 5)),
 un (.bin 11 .add (.t 10) (.c (.int .i64 1))),
 un (.asg 5 (.t 11))])))))
def As2:ACode:=
 (.seq (.reg [un (.asg 4 (.c (.bool false)))])
 (.seq (.seq (.reg [un (.asg 5 (.c (.int .i64 0)))])
 (.block 0 (.loop Abb)))
 (.drop [5,6,7,8,9,12,13,14,15,16,17,10,11] (.seq (.reg [un (.asg 4 (.c (.bool false)))])
 .ret))))
abbrev Atq:List RS:=[.t 4]
theorem Asc:A7 Try.prog L4 18 As2 Atq=true:=by kernel_rfl
def Aa5:ACode:=
 (.seq (.seq (.reg [un (.mov 4 (.t 3)),
 un (.mov 5 (.t 0)),
 un (.len 6 (.t 5)),
 un (.bin 7 .lss (.t 4) (.t 6))])
 (.drop [4,5,6] (.cond (.t 7) .skip
 (.exit 0))))
 (.drop [4,5,6,7] (.seq (.block 1 (.seq (.dreg [(un (.mov 10 (.t 0)),[]),
 (un (.mov 11 (.t 3)),[10]),
 (un (.bin 12 .sub (.t 11) (.c (.int .i64 1))),[10]),
 (un (.iad 13 1 (.t 10) (.t 12)),[]),
 (un (.ld 14 1 false (.t 13)),[]),
 (un (.mov 15 (.t 0)),[10,11,12,13,14]),
 (un (.mov 16 (.t 3)),[10,11,12,13,14,15]),
 (un (.iad 17 1 (.t 15) (.t 16)),[10,11,12,13,14]),
 (un (.ld 18 1 false (.t 17)),[10,11,12,13,14])]
 [un (.bin 19 .geq (.t 14) (.t 18))])
 (.drop [10,11,12,13,14,15,16,17,18] (.cond (.t 19) (.seq (.reg [un (.asg 2 (.c (.bool false)))])
 .ret)
 .skip))))
 (.drop [10,11,12,13,14,15,16,17,18,19] (.reg [un (.mov 8 (.t 3)),
 un (.bin 9 .add (.t 8) (.c (.int .i64 1))),
 un (.asg 3 (.t 9))])))))
def Asu:ACode:=
 (.seq (.reg [un (.asg 2 (.c (.bool false)))])
 (.seq (.seq (.reg [un (.asg 3 (.c (.int .i64 1)))])
 (.block 0 (.loop Aa5)))
 (.drop [3,4,5,6,7,10,11,12,13,14,15,16,17,18,19,8,9] (.seq (.reg [un (.asg 2 (.c (.bool true)))])
 .ret))))
abbrev Asz:List RS:=[.t 2]
theorem Atl:A7 Try.prog Aaq 20 Asu Asz=true:=by kernel_rfl
def Yy:ACode:=
 (.seq (.reg [un (.bin 10 .lss (.t 9) (.t 8))])
 (.seq (.cond (.t 10) .skip
 (.exit 0))
 (.seq (.block 1 (.seq (.reg [un (.iad 11 1 (.t 7) (.t 9)),
 un (.ld 12 1 false (.t 11)),
 un (.asg 6 (.t 12))])
 (.drop [11,12] (.seq (.reg [un (.mov 13 (.t 6)),
 un (.bin 14 .lss (.t 13) (.c (.int .i64 0))),
 un (.asg 15 (.t 14)),
 ⟨some (15,false),.mov 16 (.t 6)⟩,
 ⟨some (15,false),.mov 17 (.t 1)⟩,
 ⟨some (15,false),.bin 18 .geq (.t 16) (.t 17)⟩,
 un (.pick 19 (.t 15) (.c (.bool true)) (.t 18))])
 (.drop [13,14,15,16,17,18] (.cond (.t 19) (.seq (.reg [un (.asg 4 (.c (.bool false)))])
 .ret)
 .skip))))))
 (.drop [11,12,6,13,14,15,16,17,18,19] (.reg [un (.bin 20 .add (.t 9) (.c (.int .i64 1))),
 un (.asg 9 (.t 20))])))))
def Aqo:ACode:=
 (.seq (.reg [un (.asg 4 (.c (.bool false)))])
 (.seq (.seq (.reg [un (.mov 7 (.t 0)),
 un (.len 8 (.t 7)),
 un (.mov 9 (.c (.int .i64 0)))])
 (.block 0 (.loop Yy)))
 (.drop [7,8,9,10,11,12,6,13,14,15,16,17,18,19,20] (.seq (.reg [un (.asg 4 (.c (.bool true)))])
 .ret))))
abbrev Ap0:List RS:=[.t 4]
theorem Apz:A7 Try.prog Rk 21 Aqo Ap0=true:=by kernel_rfl
def Zc:ACode:=
 (.seq (.seq (.reg [un (.mov 6 (.t 0)),
 un (.mov 7 (.t 4)),
 un (.bin 8 .shr (.t 6) (.t 7)),
 un (.bin 9 .gtr (.t 8) (.c (.int .i64 0)))])
 (.drop [6,7,8] (.cond (.t 9) .skip
 (.exit 0))))
 (.drop [6,7,8,9] (.seq (.block 1 (.seq (.reg [un (.mov 12 (.t 0)),
 un (.mov 13 (.t 4)),
 un (.bin 14 .shr (.t 12) (.t 13)),
 un (.bin 15 .and (.t 14) (.c (.int .i64 1))),
 un (.bin 16 .eql (.t 15) (.c (.int .i64 1)))])
 (.drop [12,13,14,15] (.cond (.t 16) (.reg [un (.mov 17 (.t 3)),
 un (.mov 18 (.t 4)),
 un (.bsl 19 1 [(.t 18)]),
 un (.app 20 1 (.t 17) (.t 19)),
 un (.asg 3 (.t 20))])
 .skip))))
 (.drop [12,13,14,15,16,17,18,19,20] (.reg [un (.mov 10 (.t 4)),
 un (.bin 11 .add (.t 10) (.c (.int .i64 1))),
 un (.asg 4 (.t 11))])))))
def Aqf:ACode:=
 (.seq (.reg [un (.asg 2 (.c (.nilsl 1)))])
 (.seq (.reg [un (.bsl 5 1 []),
 un (.asg 3 (.t 5))])
 (.drop [5] (.seq (.seq (.reg [un (.asg 4 (.c (.int .i64 0)))])
 (.block 0 (.loop Zc)))
 (.drop [4,6,7,8,9,12,13,14,15,16,17,18,19,20,10,11] (.seq (.reg [un (.mov 21 (.t 3)),
 un (.asg 2 (.t 21))])
 (.drop [21] .ret)))))))
abbrev Aqh:List RS:=[.t 2]
theorem Aqn:A7 Try.prog Xh 22 Aqf Aqh=true:=by kernel_rfl
def X6:ACode:=
 (.seq (.seq (.reg [un (.mov 6 (.t 5)),
 un (.mov 7 (.t 0)),
 un (.len 8 (.t 7)),
 un (.bin 9 .lss (.t 6) (.t 8))])
 (.drop [6,7,8] (.cond (.t 9) .skip
 (.exit 0))))
 (.drop [6,7,8,9] (.seq (.block 1 (.seq (.dreg [(un (.mov 12 (.t 0)),[]),
 (un (.mov 13 (.t 5)),[12]),
 (un (.iad 14 1 (.t 12) (.t 13)),[]),
 (un (.ld 15 1 false (.t 14)),[]),
 (un (.mov 16 (.t 1)),[12,13,14,15]),
 (un (.mov 17 (.t 5)),[12,13,14,15,16]),
 (un (.iad 18 1 (.t 16) (.t 17)),[12,13,14,15]),
 (un (.ld 19 1 false (.t 18)),[12,13,14,15])]
 [un (.bin 20 .neq (.t 15) (.t 19))])
 (.drop [12,13,14,15,16,17,18,19] (.cond (.t 20) (.seq (.dreg [(un (.mov 21 (.t 0)),[]),
 (un (.mov 22 (.t 5)),[21]),
 (un (.iad 23 1 (.t 21) (.t 22)),[]),
 (un (.ld 24 1 false (.t 23)),[]),
 (un (.mov 25 (.t 1)),[21,22,23,24]),
 (un (.mov 26 (.t 5)),[21,22,23,24,25]),
 (un (.iad 27 1 (.t 25) (.t 26)),[21,22,23,24]),
 (un (.ld 28 1 false (.t 27)),[21,22,23,24])]
 [un (.bin 29 .lss (.t 24) (.t 28)),
 un (.asg 4 (.t 29))])
 (.drop [21,22,23,24,25,26,27,28,29] .ret))
 .skip))))
 (.drop [12,13,14,15,16,17,18,19,20,21,22,23,24,25,26,27,28,29] (.reg [un (.mov 10 (.t 5)),
 un (.bin 11 .add (.t 10) (.c (.int .i64 1))),
 un (.asg 5 (.t 11))])))))
def Aqp:ACode:=
 (.seq (.reg [un (.asg 4 (.c (.bool false)))])
 (.seq (.seq (.reg [un (.asg 5 (.c (.int .i64 0)))])
 (.block 0 (.loop X6)))
 (.drop [5,6,7,8,9,12,13,14,15,16,17,18,19,20,21,22,23,24,25,26,27,28,29,10,11] (.seq (.reg [un (.asg 4 (.c (.bool false)))])
 .ret))))
abbrev Ap6:List RS:=[.t 4]
theorem Ap2:A7 Try.prog Xa 30 Aqp Ap6=true:=by kernel_rfl
def Au7:ACode:=
 (.seq (.reg [un (.asg 6 (.c (.bool false)))])
 (.seq (.reg [un (.mov 7 (.t 0)),
 un (.mov 8 (.t 1)),
 un (.bin 9 .geq (.t 7) (.t 8)),
 un (.asg 10 (.t 9)),
 ⟨some (10,true),.mov 11 (.t 0)⟩,
 ⟨some (10,true),.mov 12 (.t 2)⟩,
 ⟨some (10,true),.bin 13 .leq (.t 11) (.t 12)⟩,
 un (.pick 14 (.t 10) (.t 13) (.c (.bool false))),
 un (.asg 6 (.t 14))])
 (.drop [7,8,9,10,11,12,13,14] .ret)))
abbrev Aub:List RS:=[.t 6]
theorem Aui:A7 Try.prog Vm 15 Au7 Aub=true:=by kernel_rfl
def Adv:ACode:=
 (.seq (.reg [un (.ld 14 1 false (.t 2)),
 un (.mov 15 (.t 8)),
 un (.iad 16 1 (.t 14) (.t 15)),
 un (.ld 17 1 false (.t 16)),
 un (.asg 18 (.t 17)),
 ⟨some (18,false),.ld 19 1 false (.t 3)⟩,
 ⟨some (18,false),.mov 20 (.t 0)⟩,
 ⟨some (18,false),.mov 21 (.t 8)⟩,
 ⟨some (18,false),.cally 22 (.t 19) [(.t 20),(.t 21)] [true,false,true,false,false]⟩,
 ⟨some (18,false),.un 23 .not (.t 22)⟩,
 un (.pick 24 (.t 18) (.c (.bool true)) (.t 23))])
 (.drop [14,15,16,17,18,19,20,21,22,23] (.cond (.t 24) (.exit 1)
 .skip)))
def Sz:ACode:=
 (.seq (.seq (.reg [un (.mov 9 (.t 8)),
 un (.ld 10 1 false (.t 1)),
 un (.bin 11 .lss (.t 9) (.t 10))])
 (.drop [9,10] (.cond (.t 11) .skip
 (.exit 0))))
 (.drop [9,10,11] (.seq (.block 1 (.seq (.cut Adv)
 (.drop [14,15,16,17,18,19,20,21,22,23,24] (.seq (.reg [un (.ld 25 1 false (.t 2)),
 un (.mov 26 (.t 8)),
 un (.iad 27 1 (.t 25) (.t 26)),
 un (.st 1 (.t 27) (.c (.bool true)))])
 (.drop [25,26,27] (.seq (.dreg [(un (.ld 28 1 false (.t 4)),[]),
 (un (.mov 29 (.t 8)),[28]),
 (un (.iad 30 1 (.t 28) (.t 29)),[]),
 (un (.ld 31 1 false (.t 30)),[]),
 (un (.bin 32 .lss (.t 31) (.c (.int .i64 0))),[]),
 (un (.asg 33 (.t 32)),[]),
 (⟨some (33,false),.ld 34 1 false (.t 5)⟩,[32]),
 (⟨some (33,false),.ld 35 1 false (.t 4)⟩,[34,32]),
 (⟨some (33,false),.mov 36 (.t 8)⟩,[34,35,32]),
 (⟨some (33,false),.iad 37 1 (.t 35) (.t 36)⟩,[34,32]),
 (⟨some (33,false),.ld 38 1 false (.t 37)⟩,[34,32])]
 [⟨some (33,false),.cally 39 (.t 34) [(.t 38)] [false,true,false,true,false]⟩,
 un (.pick 40 (.t 33) (.c (.bool true)) (.t 39))])
 (.drop [28,29,30,31,32,33,34,35,36,37,38,39] (.cond (.t 40) (.seq (.reg [un (.ld 41 1 false (.t 4)),
 un (.mov 42 (.t 8)),
 un (.mov 43 (.t 0)),
 un (.iad 44 1 (.t 41) (.t 42)),
 un (.st 1 (.t 44) (.t 43))])
 (.drop [41,42,43,44] (.seq (.reg [un (.asg 7 (.c (.bool true)))])
 .ret)))
 .skip))))))))
 (.drop [14,15,16,17,18,19,20,21,22,23,24,25,26,27,28,29,30,31,32,33,34,35,36,37,38,39,40,41,42,43,44] (.reg [un (.mov 12 (.t 8)),
 un (.bin 13 .add (.t 12) (.c (.int .i64 1))),
 un (.asg 8 (.t 13))])))))
def Aj7:ACode:=
 (.seq (.reg [un (.asg 7 (.c (.bool false)))])
 (.seq (.seq (.reg [un (.asg 8 (.c (.int .i64 0)))])
 (.block 0 (.loop Sz)))
 (.drop [8,9,10,11,14,15,16,17,18,19,20,21,22,23,24,25,26,27,28,29,30,31,32,33,34,35,36,37,38,39,40,41,42,43,44,12,13] (.seq (.reg [un (.asg 7 (.c (.bool false)))])
 .ret))))
abbrev Ajs:List RS:=[.t 7]
theorem Ajl:A7 Try.prog Cq 45 Aj7 Ajs=true:=by kernel_rfl
def V1:ACode:=
 (.seq (.seq (.reg [un (.mov 17 (.t 6)),
 un (.mov 18 (.t 0)),
 un (.bin 19 .lss (.t 17) (.t 18))])
 (.drop [17,18] (.cond (.t 19) .skip
 (.exit 0))))
 (.drop [17,18,19] (.seq (.block 1 (.seq (.reg [un (.mov 22 (.t 0)),
 un (.mk 23 1 (.bool false) (.t 22)),
 un (.asg 7 (.t 23))])
 (.drop [22,23] (.seq (.reg [un (.mov 24 (.t 7)),
 un (.mov 25 (.t 6)),
 un (.iad 26 1 (.t 24) (.t 25)),
 un (.st 1 (.t 26) (.c (.bool true)))])
 (.drop [24,25,26] (.reg [un (.mov 27 (.t 5)),
 un (.mov 28 (.t 7)),
 un (.bsl 29 1 [(.t 28)]),
 un (.app 30 1 (.t 27) (.t 29)),
 un (.asg 5 (.t 30))]))))))
 (.drop [22,23,7,24,25,26,27,28,29,30] (.reg [un (.mov 20 (.t 6)),
 un (.bin 21 .add (.t 20) (.c (.int .i64 1))),
 un (.asg 6 (.t 21))])))))
def Wv:ACode:=
 (.seq (.seq (.reg [un (.mov 31 (.t 8)),
 un (.mov 32 (.t 1)),
 un (.len 33 (.t 32)),
 un (.bin 34 .lss (.t 31) (.t 33))])
 (.drop [31,32,33] (.cond (.t 34) .skip
 (.exit 2))))
 (.drop [31,32,33,34] (.seq (.block 3 (.dreg [(un (.mov 37 (.t 5)),[]),
 (un (.mov 38 (.t 1)),[37]),
 (un (.mov 39 (.t 8)),[37,38]),
 (un (.iad 40 2 (.t 38) (.t 39)),[37]),
 (un (.aad 41 1 2 (.t 40) (.c (.int .i64 0))),[37]),
 (un (.ld 42 1 false (.t 41)),[37]),
 (un (.iad 43 1 (.t 37) (.t 42)),[]),
 (un (.ld 44 1 false (.t 43)),[]),
 (un (.mov 45 (.t 1)),[37,38,39,40,41,42,43,44]),
 (un (.mov 46 (.t 8)),[37,38,39,40,41,42,43,44,45]),
 (un (.iad 47 2 (.t 45) (.t 46)),[37,38,39,40,41,42,43,44]),
 (un (.aad 48 1 2 (.t 47) (.c (.int .i64 1))),[37,38,39,40,41,42,43,44]),
 (un (.ld 49 1 false (.t 48)),[37,38,39,40,41,42,43,44])]
 [un (.iad 50 1 (.t 44) (.t 49)),
 un (.st 1 (.t 50) (.c (.bool true)))]))
 (.drop [37,38,39,40,41,42,43,44,45,46,47,48,49,50] (.reg [un (.mov 35 (.t 8)),
 un (.bin 36 .add (.t 35) (.c (.int .i64 1))),
 un (.asg 8 (.t 36))])))))
def Wm:ACode:=
 (.seq (.seq (.reg [un (.mov 61 (.t 11)),
 un (.mov 62 (.t 0)),
 un (.bin 63 .lss (.t 61) (.t 62))])
 (.drop [61,62] (.cond (.t 63) .skip
 (.exit 8))))
 (.drop [61,62,63] (.seq (.block 9 (.dreg [(un (.mov 66 (.t 5)),[77,85]),
 (un (.mov 67 (.t 10)),[66,77,85]),
 (un (.iad 68 1 (.t 66) (.t 67)),[77,85]),
 (un (.ld 69 1 false (.t 68)),[77,85]),
 (un (.mov 70 (.t 11)),[66,67,68,69,77,85]),
 (un (.mov 71 (.t 5)),[66,67,68,69,70]),
 (un (.mov 72 (.t 10)),[66,67,68,69,70,71]),
 (un (.iad 73 1 (.t 71) (.t 72)),[66,67,68,69,70]),
 (un (.ld 74 1 false (.t 73)),[66,67,68,69,70]),
 (un (.mov 75 (.t 11)),[66,67,68,69,70,71,72,73,74]),
 (un (.iad 76 1 (.t 74) (.t 75)),[66,67,68,69,70]),
 (un (.ld 77 1 false (.t 76)),[66,67,68,69,70]),
 (un (.asg 78 (.t 77)),[66,67,68,69,70]),
 (⟨some (78,false),.mov 79 (.t 5)⟩,[66,67,68,69,70,77]),
 (⟨some (78,false),.mov 80 (.t 10)⟩,[66,67,68,69,70,79,77]),
 (⟨some (78,false),.iad 81 1 (.t 79) (.t 80)⟩,[66,67,68,69,70,77]),
 (⟨some (78,false),.ld 82 1 false (.t 81)⟩,[66,67,68,69,70,77]),
 (⟨some (78,false),.mov 83 (.t 9)⟩,[66,67,68,69,70,79,80,81,82,77]),
 (⟨some (78,false),.iad 84 1 (.t 82) (.t 83)⟩,[66,67,68,69,70,77]),
 (⟨some (78,false),.ld 85 1 false (.t 84)⟩,[66,67,68,69,70,77]),
 (⟨some (78,false),.asg 86 (.t 85)⟩,[66,67,68,69,70,77]),
 (⟨some (86,true),.mov 87 (.t 5)⟩,[66,67,68,69,70,77,85]),
 (⟨some (86,true),.mov 88 (.t 9)⟩,[66,67,68,69,70,87,77,85]),
 (⟨some (86,true),.iad 89 1 (.t 87) (.t 88)⟩,[66,67,68,69,70,77,85]),
 (⟨some (86,true),.ld 90 1 false (.t 89)⟩,[66,67,68,69,70,77,85]),
 (⟨some (86,true),.mov 91 (.t 11)⟩,[66,67,68,69,70,87,88,89,90,77,85]),
 (⟨some (86,true),.iad 92 1 (.t 90) (.t 91)⟩,[66,67,68,69,70,77,85]),
 (⟨some (86,true),.ld 93 1 false (.t 92)⟩,[66,67,68,69,70,77,85]),
 (⟨some (78,false),.pick 94 (.t 86) (.t 93) (.c (.bool false))⟩,[66,67,68,69,70,77,85]),
 (un (.pick 95 (.t 78) (.c (.bool true)) (.t 94)),[66,67,68,69,70,77,85])]
 [un (.iad 96 1 (.t 69) (.t 70)),
 un (.st 1 (.t 96) (.t 95))]))
 (.drop [66,67,68,69,70,71,72,73,74,75,76,77,78,79,80,81,82,83,84,85,86,87,88,89,90,91,92,93,94,95,96] (.reg [un (.mov 64 (.t 11)),
 un (.bin 65 .add (.t 64) (.c (.int .i64 1))),
 un (.asg 11 (.t 65))])))))
def Wf:ACode:=
 (.seq (.seq (.reg [un (.mov 56 (.t 10)),
 un (.mov 57 (.t 0)),
 un (.bin 58 .lss (.t 56) (.t 57))])
 (.drop [56,57] (.cond (.t 58) .skip
 (.exit 6))))
 (.drop [56,57,58] (.seq (.block 7 (.seq (.reg [un (.asg 11 (.c (.int .i64 0)))])
 (.block 8 (.loop Wm))))
 (.drop [11,61,62,63,66,67,68,69,70,71,72,73,74,75,76,77,78,79,80,81,82,83,84,85,86,87,88,89,90,91,92,93,94,95,96,64,65] (.reg [un (.mov 59 (.t 10)),
 un (.bin 60 .add (.t 59) (.c (.int .i64 1))),
 un (.asg 10 (.t 60))])))))
def Vj:ACode:=
 (.seq (.seq (.reg [un (.mov 51 (.t 9)),
 un (.mov 52 (.t 0)),
 un (.bin 53 .lss (.t 51) (.t 52))])
 (.drop [51,52] (.cond (.t 53) .skip
 (.exit 4))))
 (.drop [51,52,53] (.seq (.block 5 (.seq (.reg [un (.asg 10 (.c (.int .i64 0)))])
 (.block 6 (.loop Wf))))
 (.drop [10,56,57,58,11,61,62,63,66,67,68,69,70,71,72,73,74,75,76,77,78,79,80,81,82,83,84,85,86,87,88,89,90,91,92,93,94,95,96,64,65,59,60] (.reg [un (.mov 54 (.t 9)),
 un (.bin 55 .add (.t 54) (.c (.int .i64 1))),
 un (.asg 9 (.t 55))])))))
def V9:ACode:=
 (.seq (.seq (.reg [un (.mov 105 (.t 15)),
 un (.mov 106 (.t 0)),
 un (.bin 107 .lss (.t 105) (.t 106))])
 (.drop [105,106] (.cond (.t 107) .skip
 (.exit 12))))
 (.drop [105,106,107] (.seq (.block 13 (.seq (.reg [un (.mov 110 (.t 5)),
 un (.mov 111 (.t 15)),
 un (.iad 112 1 (.t 110) (.t 111)),
 un (.ld 113 1 false (.t 112)),
 un (.mov 114 (.t 13)),
 un (.iad 115 1 (.t 113) (.t 114)),
 un (.ld 116 1 false (.t 115))])
 (.drop [110,111,112,113,114,115] (.cond (.t 116) (.reg [un (.mov 117 (.t 14)),
 un (.mov 118 (.t 15)),
 un (.bsl 119 1 [(.t 118)]),
 un (.app 120 1 (.t 117) (.t 119)),
 un (.asg 14 (.t 120))])
 .skip))))
 (.drop [110,111,112,113,114,115,116,117,118,119,120] (.reg [un (.mov 108 (.t 15)),
 un (.bin 109 .add (.t 108) (.c (.int .i64 1))),
 un (.asg 15 (.t 109))])))))
def V8:ACode:=
 (.seq (.seq (.reg [un (.mov 99 (.t 13)),
 un (.mov 100 (.t 0)),
 un (.bin 101 .lss (.t 99) (.t 100))])
 (.drop [99,100] (.cond (.t 101) .skip
 (.exit 10))))
 (.drop [99,100,101] (.seq (.block 11 (.seq (.reg [un (.bsl 104 1 []),
 un (.asg 14 (.t 104))])
 (.drop [104] (.seq (.seq (.reg [un (.asg 15 (.c (.int .i64 0)))])
 (.block 12 (.loop V9)))
 (.drop [15,105,106,107,110,111,112,113,114,115,116,117,118,119,120,108,109] (.reg [un (.fadr 121 0 (.t 12)),
 un (.ld 122 1 false (.t 121)),
 un (.mov 123 (.t 14)),
 un (.bsl 124 1 [(.t 123)]),
 un (.app 125 1 (.t 122) (.t 124)),
 un (.fadr 126 0 (.t 12)),
 un (.st 1 (.t 126) (.t 125))]))))))
 (.drop [104,14,15,105,106,107,110,111,112,113,114,115,116,117,118,119,120,108,109,121,122,123,124,125,126] (.reg [un (.mov 102 (.t 13)),
 un (.bin 103 .add (.t 102) (.c (.int .i64 1))),
 un (.asg 13 (.t 103))])))))
def Aon:ACode:=
 (.seq (.reg [un (.alc 4 (.agg [.nilsl 1]))])
 (.seq (.reg [un (.bsl 16 1 []),
 un (.asg 5 (.t 16))])
 (.drop [16] (.seq (.seq (.reg [un (.asg 6 (.c (.int .i64 0)))])
 (.block 0 (.loop V1)))
 (.drop [6,17,18,19,22,23,7,24,25,26,27,28,29,30,20,21] (.seq (.seq (.reg [un (.asg 8 (.c (.int .i64 0)))])
 (.block 2 (.loop Wv)))
 (.drop [8,31,32,33,34,37,38,39,40,41,42,43,44,45,46,47,48,49,50,35,36] (.seq (.seq (.reg [un (.asg 9 (.c (.int .i64 0)))])
 (.block 4 (.loop Vj)))
 (.drop [9,51,52,53,10,56,57,58,11,61,62,63,66,67,68,69,70,71,72,73,74,75,76,77,78,79,80,81,82,83,84,85,86,87,88,89,90,91,92,93,94,95,96,64,65,59,60,54,55] (.seq (.reg [un (.bsl 97 1 []),
 un (.bld 98 [.nilsl 1] [(0,1,(.t 97))]),
 un (.alc 12 (.agg [.nilsl 1])),
 un (.st 1 (.t 12) (.t 98))])
 (.drop [97,98] (.seq (.seq (.reg [un (.asg 13 (.c (.int .i64 0)))])
 (.block 10 (.loop V8)))
 (.drop [13,99,100,101,104,14,15,105,106,107,110,111,112,113,114,115,116,117,118,119,120,108,109,121,122,123,124,125,126,102,103] (.seq (.reg [un (.ld 127 1 true (.t 12)),
 un (.st 1 (.t 4) (.t 127))])
 (.drop [127] .ret)))))))))))))))
abbrev An1:List RS:=[.c 4 1 true]
theorem Ao9:A7 Try.prog Ut 128 Aon An1=true:=by kernel_rfl
def Abc:ACode:=
 (.seq (.seq (.reg [un (.mov 6 (.t 5)),
 un (.mov 7 (.t 0)),
 un (.len 8 (.t 7)),
 un (.bin 9 .lss (.t 6) (.t 8)),
 un (.asg 10 (.t 9)),
 ⟨some (10,true),.mov 11 (.t 0)⟩,
 ⟨some (10,true),.mov 12 (.t 5)⟩,
 ⟨some (10,true),.iad 13 1 (.t 11) (.t 12)⟩,
 ⟨some (10,true),.ld 14 1 false (.t 13)⟩,
 ⟨some (10,true),.mov 15 (.t 1)⟩,
 ⟨some (10,true),.bin 16 .lss (.t 14) (.t 15)⟩,
 un (.pick 17 (.t 10) (.t 16) (.c (.bool false)))])
 (.drop [6,7,8,9,10,11,12,13,14,15,16] (.cond (.t 17) .skip
 (.exit 0))))
 (.drop [6,7,8,9,10,11,12,13,14,15,16,17] (.block 1 (.reg [un (.mov 18 (.t 5)),
 un (.bin 19 .add (.t 18) (.c (.int .i64 1))),
 un (.asg 5 (.t 19))]))))
def Al7:ACode:=
 (.seq (.reg [un (.mov 20 (.t 5)),
 un (.mov 21 (.t 0)),
 un (.len 22 (.t 21)),
 un (.bin 23 .lss (.t 20) (.t 22)),
 un (.asg 24 (.t 23)),
 ⟨some (24,true),.mov 25 (.t 0)⟩,
 ⟨some (24,true),.mov 26 (.t 5)⟩,
 ⟨some (24,true),.iad 27 1 (.t 25) (.t 26)⟩,
 ⟨some (24,true),.ld 28 1 false (.t 27)⟩,
 ⟨some (24,true),.mov 29 (.t 1)⟩,
 ⟨some (24,true),.bin 30 .eql (.t 28) (.t 29)⟩,
 un (.pick 31 (.t 24) (.t 30) (.c (.bool false)))])
 (.drop [20,21,22,23,24,25,26,27,28,29,30] (.cond (.t 31) (.seq (.reg [un (.mov 32 (.t 0)),
 un (.asg 4 (.t 32))])
 (.drop [32] .ret))
 .skip)))
def Ata:ACode:=
 (.seq (.reg [un (.asg 4 (.c (.nilsl 1)))])
 (.seq (.reg [un (.asg 5 (.c (.int .i64 0)))])
 (.seq (.block 0 (.loop Abc))
 (.drop [6,7,8,9,10,11,12,13,14,15,16,17,18,19] (.seq (.cut Al7)
 (.drop [20,21,22,23,24,25,26,27,28,29,30,31,32] (.seq (.dreg [(un (.bsl 33 1 []),[38]),
 (un (.mov 34 (.t 0)),[33,38]),
 (un (.mov 35 (.t 5)),[33,34,38]),
 (un (.slc 36 1 (.t 34) none (some (.t 35))),[33,38]),
 (un (.app 37 1 (.t 33) (.t 36)),[38]),
 (un (.mov 38 (.t 1)),[33,34,35,36,37,33]),
 (un (.bsl 39 1 [(.t 38)]),[33,34,35,36,37,33]),
 (un (.app 40 1 (.t 37) (.t 39)),[33,38]),
 (un (.mov 41 (.t 0)),[33,34,35,36,37,38,39,40,33,38,37]),
 (un (.mov 42 (.t 5)),[33,34,35,36,37,38,39,40,41,33,38,37]),
 (un (.slc 43 1 (.t 41) (some (.t 42)) none),[33,34,35,36,37,38,39,40,33,38,37])]
 [un (.app 44 1 (.t 40) (.t 43)),
 un (.asg 4 (.t 44))])
 (.drop [33,34,35,36,37,38,39,40,41,42,43,44] .ret))))))))
abbrev At7:List RS:=[.t 4]
theorem Aso:A7 Try.prog Aai 45 Ata At7=true:=by kernel_rfl
def Acs:ACode:=
 (.seq (.dreg [(un (.mov 4 (.t 0)),[]),
 (un (.nck 5 (.t 4)),[]),
 (un (.fadr 6 1 (.t 5)),[]),
 (un (.ld 7 1 false (.t 6)),[]),
 (un (.mov 8 (.t 0)),[4,5,6,7]),
 (un (.nck 9 (.t 8)),[4,5,6,7]),
 (un (.fadr 10 0 (.t 9)),[4,5,6,7]),
 (un (.ld 11 1 false (.t 10)),[4,5,6,7]),
 (un (.len 12 (.t 11)),[4,5,6,7])]
 [un (.bin 13 .lss (.t 7) (.t 12))])
 (.drop [4,5,6,7,8,9,10,11,12] (.cond (.t 13) (.dreg [(un (.mov 14 (.t 0)),[]),
 (un (.nck 15 (.t 14)),[]),
 (un (.fadr 16 0 (.t 15)),[]),
 (un (.ld 17 1 false (.t 16)),[]),
 (un (.mov 18 (.t 0)),[14,15,16,17]),
 (un (.nck 19 (.t 18)),[14,15,16,17]),
 (un (.fadr 20 1 (.t 19)),[14,15,16,17]),
 (un (.ld 21 1 false (.t 20)),[14,15,16,17])]
 [un (.iad 22 1 (.t 17) (.t 21)),
 un (.ld 23 1 false (.t 22)),
 un (.cnv 24 .i64 (.t 23)),
 un (.asg 3 (.t 24))])
 .skip)))
def Ahw:ACode:=
 (.seq (.reg [un (.asg 2 (.c (.int .i64 0)))])
 (.seq (.reg [un (.asg 3 (.c (.int .i64 0)))])
 (.seq (.cut Acs)
 (.drop [4,5,6,7,8,9,10,11,12,13,14,15,16,17,18,19,20,21,22,23,24] (.seq (.reg [un (.mov 25 (.t 0)),
 un (.nck 26 (.t 25)),
 un (.fadr 27 1 (.t 26)),
 un (.ld 28 1 false (.t 27)),
 un (.bin 29 .add (.t 28) (.c (.int .i64 1))),
 un (.nck 30 (.t 25)),
 un (.fadr 31 1 (.t 30)),
 un (.st 1 (.t 31) (.t 29))])
 (.drop [25,26,27,28,29,30,31] (.seq (.reg [un (.mov 32 (.t 0)),
 un (.mov 33 (.t 0)),
 un (.nck 34 (.t 33)),
 un (.fadr 35 2 (.t 34)),
 un (.ld 36 1 false (.t 35)),
 un (.bin 37 .mul (.t 36) (.c (.int .u64 6364136223846793005))),
 un (.mov 38 (.t 3)),
 un (.cnv 39 .u64 (.t 38)),
 un (.bin 40 .add (.t 37) (.t 39)),
 un (.bin 41 .add (.t 40) (.c (.int .u64 550289))),
 un (.nck 42 (.t 32)),
 un (.fadr 43 2 (.t 42)),
 un (.st 1 (.t 43) (.t 41))])
 (.drop [32,33,34,35,36,37,38,39,40,41,42,43] (.seq (.seq (.dreg [(un (.mov 44 (.t 0)),[]),
 (un (.nck 45 (.t 44)),[]),
 (un (.fadr 46 1 (.t 45)),[]),
 (un (.ld 47 1 false (.t 46)),[]),
 (un (.mov 48 (.t 0)),[44,45,46,47]),
 (un (.nck 49 (.t 48)),[44,45,46,47]),
 (un (.fadr 50 0 (.t 49)),[44,45,46,47]),
 (un (.ld 51 1 false (.t 50)),[44,45,46,47]),
 (un (.len 52 (.t 51)),[44,45,46,47])]
 [un (.bin 53 .leq (.t 47) (.t 52))])
 (.drop [44,45,46,47,48,49,50,51,52] (.cond (.t 53) (.seq (.reg [un (.mov 54 (.t 3)),
 un (.asg 2 (.t 54))])
 (.drop [54] .ret))
 .skip)))
 (.drop [44,45,46,47,48,49,50,51,52,53,54] (.seq (.reg [un (.mov 55 (.t 0)),
 un (.nck 56 (.t 55)),
 un (.fadr 57 2 (.t 56)),
 un (.ld 58 1 false (.t 57)),
 un (.bin 59 .shr (.t 58) (.c (.int .u64 40))),
 un (.bin 60 .and (.t 59) (.c (.int .u64 255))),
 un (.cnv 61 .i64 (.t 60)),
 un (.asg 2 (.t 61))])
 (.drop [55,56,57,58,59,60,61] .ret))))))))))))
abbrev Ag4:List RS:=[.t 2]
theorem Agq:A7 Try.prog Km 62 Ahw Ag4=true:=by kernel_rfl
def Yz:ACode:=
 (.seq (.seq (.reg [un (.mov 11 (.t 5)),
 un (.mov 12 (.t 0)),
 un (.len 13 (.t 12)),
 un (.bin 14 .lss (.t 11) (.t 13))])
 (.drop [11,12,13] (.cond (.t 14) .skip
 (.exit 0))))
 (.drop [11,12,13,14] (.seq (.block 1 (.seq (.dreg [(un (.mov 17 (.t 0)),[]),
 (un (.mov 18 (.t 5)),[17]),
 (un (.iad 19 1 (.t 17) (.t 18)),[]),
 (un (.ld 20 1 false (.t 19)),[]),
 (un (.mov 21 (.t 1)),[17,18,19,20]),
 (un (.mov 22 (.t 5)),[17,18,19,20,21]),
 (un (.iad 23 1 (.t 21) (.t 22)),[17,18,19,20]),
 (un (.ld 24 1 false (.t 23)),[17,18,19,20])]
 [un (.call 25 L3 [((.t 20),false),((.t 24),false)]),
 un (.un 26 .not (.t 25))])
 (.drop [17,18,19,20,21,22,23,24,25] (.cond (.t 26) (.seq (.reg [un (.asg 4 (.c (.bool false)))])
 .ret)
 .skip))))
 (.drop [17,18,19,20,21,22,23,24,25,26] (.reg [un (.mov 15 (.t 5)),
 un (.bin 16 .add (.t 15) (.c (.int .i64 1))),
 un (.asg 5 (.t 16))])))))
def Aqa:ACode:=
 (.seq (.reg [un (.asg 4 (.c (.bool false)))])
 (.seq (.seq (.reg [un (.mov 6 (.t 0)),
 un (.len 7 (.t 6)),
 un (.mov 8 (.t 1)),
 un (.len 9 (.t 8)),
 un (.bin 10 .neq (.t 7) (.t 9))])
 (.drop [6,7,8,9] (.cond (.t 10) (.seq (.reg [un (.asg 4 (.c (.bool false)))])
 .ret)
 .skip)))
 (.drop [6,7,8,9,10] (.seq (.seq (.reg [un (.asg 5 (.c (.int .i64 0)))])
 (.block 0 (.loop Yz)))
 (.drop [5,11,12,13,14,17,18,19,20,21,22,23,24,25,26,15,16] (.seq (.reg [un (.asg 4 (.c (.bool true)))])
 .ret))))))
abbrev Aqj:List RS:=[.t 4]
theorem Ap7:A7 Try.prog Mr 27 Aqa Aqj=true:=by kernel_rfl
def Aiz:ACode:=
 (.seq (.reg [un (.mov 25 (.t 7)),
 un (.call 26 Aaq [((.t 25),false)]),
 un (.un 27 .not (.t 26)),
 un (.asg 28 (.t 27)),
 ⟨some (28,false),.mov 29 (.t 7)⟩,
 ⟨some (28,false),.mov 30 (.t 4)⟩,
 ⟨some (28,false),.call 31 Rk [((.t 29),false),((.t 30),false)]⟩,
 ⟨some (28,false),.un 32 .not (.t 31)⟩,
 un (.pick 33 (.t 28) (.c (.bool true)) (.t 32))])
 (.drop [25,26,27,28,29,30,31,32] (.cond (.t 33) (.seq (.reg [un (.asg 2 (.c (.nilsl 1))),
 un (.asg 3 (.c (.bool false)))])
 .ret)
 .skip)))
def V6:ACode:=
 (.seq (.reg [un (.bin 37 .lss (.t 36) (.t 35))])
 (.seq (.cond (.t 37) .skip
 (.exit 2))
 (.seq (.block 3 (.seq (.reg [un (.iad 38 1 (.t 34) (.t 36)),
 un (.ld 39 1 false (.t 38)),
 un (.asg 9 (.t 39))])
 (.drop [38,39] (.reg [un (.mov 40 (.t 5)),
 un (.mov 41 (.t 9)),
 un (.iad 42 1 (.t 40) (.t 41)),
 un (.ld 43 1 false (.t 42)),
 un (.mov 44 (.t 6)),
 un (.iad 45 1 (.t 43) (.t 44)),
 un (.st 1 (.t 45) (.c (.bool true)))]))))
 (.drop [38,39,9,40,41,42,43,44,45] (.reg [un (.bin 46 .add (.t 36) (.c (.int .i64 1))),
 un (.asg 36 (.t 46))])))))
def Wn:ACode:=
 (.seq (.reg [un (.bin 21 .lss (.t 20) (.t 19))])
 (.seq (.cond (.t 21) .skip
 (.exit 0))
 (.seq (.block 1 (.seq (.reg [un (.mov 22 (.t 20)),
 un (.iad 23 1 (.t 18) (.t 20)),
 un (.ld 24 1 false (.t 23)),
 un (.asg 6 (.t 22)),
 un (.asg 7 (.t 24))])
 (.drop [22,23,24] (.seq (.cut Aiz)
 (.drop [25,26,27,28,29,30,31,32,33] (.seq (.reg [un (.mov 34 (.t 7)),
 un (.len 35 (.t 34)),
 un (.mov 36 (.c (.int .i64 0)))])
 (.block 2 (.loop V6))))))))
 (.drop [22,23,24,6,7,25,26,27,28,29,30,31,32,33,34,35,36,37,38,39,9,40,41,42,43,44,45,46] (.reg [un (.bin 47 .add (.t 20) (.c (.int .i64 1))),
 un (.asg 20 (.t 47))])))))
def Aor:ACode:=
 (.seq (.reg [un (.box 1 (.t 0)),
 un (.asg 2 (.c (.nilsl 1))),
 un (.asg 3 (.c (.bool false)))])
 (.seq (.reg [un (.fadr 10 0 (.t 1)),
 un (.ld 11 1 false (.t 10)),
 un (.len 12 (.t 11)),
 un (.asg 4 (.t 12))])
 (.drop [10,11,12] (.seq (.seq (.reg [un (.mov 13 (.t 4)),
 un (.bin 14 .gtr (.t 13) (.c (.int .i64 10)))])
 (.drop [13] (.cond (.t 14) (.seq (.reg [un (.asg 2 (.c (.nilsl 1))),
 un (.asg 3 (.c (.bool false)))])
 .ret)
 .skip)))
 (.drop [13,14] (.seq (.reg [un (.mov 15 (.t 4)),
 un (.call 16 J2 [((.t 15),false)]),
 un (.asg 5 (.t 16))])
 (.drop [15,16] (.seq (.seq (.reg [un (.fadr 17 0 (.t 1)),
 un (.ld 18 1 false (.t 17)),
 un (.len 19 (.t 18)),
 un (.mov 20 (.c (.int .i64 0)))])
 (.drop [17] (.block 0 (.loop Wn))))
 (.drop [17,18,19,20,21,22,23,24,6,7,25,26,27,28,29,30,31,32,33,34,35,36,37,38,39,9,40,41,42,43,44,45,46,47] (.seq (.reg [un (.mov 48 (.t 5)),
 un (.mov 49 (.t 5)),
 un (.call 50 Ia [((.t 49),false)]),
 un (.asg 2 (.t 48)),
 un (.asg 3 (.t 50))])
 (.drop [48,49,50] .ret)))))))))))
abbrev Aoc:List RS:=[.t 2,.t 3]
theorem Aoe:A7 Try.prog Co 51 Aor Aoc=true:=by kernel_rfl
def Aji:ACode:=
 (.seq (.reg [un (.asg 4 (.c (.bool false)))])
 (.seq (.reg [un (.mov 5 (.t 1)),
 un (.mov 6 (.t 0)),
 un (.len 7 (.t 6)),
 un (.call 8 Rk [((.t 5),false),((.t 7),false)]),
 un (.asg 4 (.t 8))])
 (.drop [5,6,7,8] .ret)))
abbrev Akj:List RS:=[.t 4]
theorem Ajj:A7 Try.prog Lv 9 Aji Akj=true:=by kernel_rfl
def Xy:ACode:=
 (.dreg [(un (.mov 23 (.t 1)),[]),
 (un (.un 24 .not (.t 23)),[]),
 (un (.asg 25 (.t 24)),[]),
 (⟨some (25,true),.mov 26 (.t 0)⟩,[24]),
 (⟨some (25,true),.mov 27 (.t 7)⟩,[26,24]),
 (⟨some (25,true),.mov 28 (.t 8)⟩,[26,27,24]),
 (⟨some (25,true),.call 29 Bf [((.t 26),false),((.t 27),false),((.t 28),false)]⟩,[24]),
 (un (.pick 30 (.t 25) (.t 29) (.c (.bool false))),[24]),
 (un (.asg 31 (.t 30)),[24]),
 (⟨some (31,false),.mov 32 (.t 1)⟩,[24,30]),
 (⟨some (31,false),.asg 33 (.t 32)⟩,[24,30]),
 (⟨some (33,true),.mov 34 (.t 0)⟩,[24,30,32]),
 (⟨some (33,true),.mov 35 (.t 8)⟩,[34,24,30,32]),
 (⟨some (33,true),.mov 36 (.t 7)⟩,[34,35,24,30,32]),
 (⟨some (33,true),.call 37 Bf [((.t 34),false),((.t 35),false),((.t 36),false)]⟩,[24,30,32]),
 (⟨some (31,false),.pick 38 (.t 33) (.t 37) (.c (.bool false))⟩,[24,30,32]),
 (un (.pick 39 (.t 31) (.c (.bool true)) (.t 38)),[24,30,32]),
 (un (.asg 40 (.t 39)),[24,30,32]),
 (⟨some (40,true),.mov 41 (.t 5)⟩,[24,30,32,39]),
 (⟨some (40,true),.mov 42 (.t 7)⟩,[41,24,30,32,39]),
 (⟨some (40,true),.iad 43 1 (.t 41) (.t 42)⟩,[24,30,32,39]),
 (⟨some (40,true),.ld 44 1 false (.t 43)⟩,[24,30,32,39]),
 (⟨some (40,true),.mov 45 (.t 5)⟩,[41,42,43,44,24,30,32,39]),
 (⟨some (40,true),.mov 46 (.t 8)⟩,[41,42,43,44,45,24,30,32,39]),
 (⟨some (40,true),.iad 47 1 (.t 45) (.t 46)⟩,[41,42,43,44,24,30,32,39]),
 (⟨some (40,true),.ld 48 1 false (.t 47)⟩,[41,42,43,44,24,30,32,39])]
 [⟨some (40,true),.bin 49 .leq (.t 44) (.t 48)⟩,
 un (.pick 50 (.t 40) (.t 49) (.c (.bool false)))])
def Nv:ACode:=
 (.seq (.reg [un (.bin 21 .lss (.t 20) (.t 19))])
 (.seq (.cond (.t 21) .skip
 (.exit 4))
 (.seq (.block 5 (.seq (.reg [un (.mov 22 (.t 20)),
 un (.asg 8 (.t 22))])
 (.drop [22] (.seq (.cut Xy)
 (.drop [23,24,25,26,27,28,29,30,31,32,33,34,35,36,37,38,39,40,41,42,43,44,45,46,47,48,49] (.cond (.t 50) (.seq (.reg [un (.mov 51 (.t 5)),
 un (.mov 52 (.t 7)),
 un (.mov 53 (.t 5)),
 un (.mov 54 (.t 8)),
 un (.iad 55 1 (.t 53) (.t 54)),
 un (.ld 56 1 false (.t 55)),
 un (.bin 57 .add (.t 56) (.c (.int .i64 1))),
 un (.iad 58 1 (.t 51) (.t 52)),
 un (.st 1 (.t 58) (.t 57))])
 (.drop [51,52,53,54,55,56,57,58] (.reg [un (.asg 6 (.c (.bool true)))])))
 .skip))))))
 (.drop [22,8,23,24,25,26,27,28,29,30,31,32,33,34,35,36,37,38,39,40,41,42,43,44,45,46,47,48,49,50,51,52,53,54,55,56,57,58] (.reg [un (.bin 59 .add (.t 20) (.c (.int .i64 1))),
 un (.asg 20 (.t 59))])))))
def Nr:ACode:=
 (.seq (.reg [un (.bin 16 .lss (.t 15) (.t 14))])
 (.seq (.cond (.t 16) .skip
 (.exit 2))
 (.seq (.block 3 (.seq (.reg [un (.mov 17 (.t 15)),
 un (.asg 7 (.t 17))])
 (.drop [17] (.seq (.reg [un (.mov 18 (.t 0)),
 un (.len 19 (.t 18)),
 un (.mov 20 (.c (.int .i64 0)))])
 (.drop [18] (.block 4 (.loop Nv)))))))
 (.drop [17,7,18,19,20,21,22,8,23,24,25,26,27,28,29,30,31,32,33,34,35,36,37,38,39,40,41,42,43,44,45,46,47,48,49,50,51,52,53,54,55,56,57,58,59] (.reg [un (.bin 60 .add (.t 15) (.c (.int .i64 1))),
 un (.asg 15 (.t 60))])))))
def Nt:ACode:=
 (.seq (.seq (.reg [un (.mov 12 (.t 6))])
 (.cond (.t 12) .skip
 (.exit 0)))
 (.drop [12] (.block 1 (.seq (.reg [un (.asg 6 (.c (.bool false)))])
 (.seq (.reg [un (.mov 13 (.t 0)),
 un (.len 14 (.t 13)),
 un (.mov 15 (.c (.int .i64 0)))])
 (.drop [13] (.block 2 (.loop Nr))))))))
def Aco:ACode:=
 (.seq (.reg [un (.asg 4 (.c (.nilsl 1)))])
 (.seq (.reg [un (.mov 9 (.t 0)),
 un (.len 10 (.t 9)),
 un (.mk 11 1 (.int .i64 0) (.t 10)),
 un (.asg 5 (.t 11))])
 (.drop [9,10,11] (.seq (.seq (.reg [un (.asg 6 (.c (.bool true)))])
 (.block 0 (.loop Nt)))
 (.drop [6,12,13,14,15,16,17,7,18,19,20,21,22,8,23,24,25,26,27,28,29,30,31,32,33,34,35,36,37,38,39,40,41,42,43,44,45,46,47,48,49,50,51,52,53,54,55,56,57,58,59,60] (.seq (.reg [un (.mov 61 (.t 5)),
 un (.asg 4 (.t 61))])
 (.drop [61] .ret)))))))
abbrev Acn:List RS:=[.t 4]
theorem Ab3:A7 Try.prog Ib 62 Aco Acn=true:=by kernel_rfl
def S0:ACode:=
 (.seq (.seq (.reg [un (.mov 8 (.t 6)),
 un (.fadr 9 0 (.t 2)),
 un (.ld 10 1 false (.t 9)),
 un (.mov 11 (.t 1)),
 un (.iad 12 1 (.t 10) (.t 11)),
 un (.ld 13 1 false (.t 12)),
 un (.len 14 (.t 13)),
 un (.bin 15 .lss (.t 8) (.t 14))])
 (.drop [8,9,10,11,12,13,14] (.cond (.t 15) .skip
 (.exit 0))))
 (.drop [8,9,10,11,12,13,14,15] (.seq (.block 1 (.seq (.reg [un (.fadr 18 0 (.t 2)),
 un (.ld 19 1 false (.t 18)),
 un (.mov 20 (.t 1)),
 un (.iad 21 1 (.t 19) (.t 20)),
 un (.ld 22 1 false (.t 21)),
 un (.mov 23 (.t 6)),
 un (.iad 24 1 (.t 22) (.t 23)),
 un (.ld 25 1 false (.t 24)),
 un (.asg 7 (.t 25))])
 (.drop [18,19,20,21,22,23,24,25] (.seq (.reg [un (.mov 26 (.t 7)),
 un (.mov 27 (.t 1)),
 un (.bin 28 .neq (.t 26) (.t 27))])
 (.drop [26,27] (.cond (.t 28) (.reg [un (.mov 29 (.t 5)),
 un (.ld 30 1 true (.t 2)),
 un (.mov 31 (.t 7)),
 un (.call 32 Dx [((.t 30),false),((.t 31),false)]),
 un (.bin 33 .add (.t 32) (.c (.int .i64 1))),
 un (.call 34 Rh [((.t 29),false),((.t 33),false)]),
 un (.asg 5 (.t 34))])
 .skip))))))
 (.drop [18,19,20,21,22,23,24,25,7,26,27,28,29,30,31,32,33,34] (.reg [un (.mov 16 (.t 6)),
 un (.bin 17 .add (.t 16) (.c (.int .i64 1))),
 un (.asg 6 (.t 17))])))))
def Aj6:ACode:=
 (.seq (.reg [un (.box 2 (.t 0)),
 un (.asg 4 (.c (.int .i64 0)))])
 (.seq (.reg [un (.asg 5 (.c (.int .i64 0)))])
 (.seq (.seq (.reg [un (.asg 6 (.c (.int .i64 0)))])
 (.block 0 (.loop S0)))
 (.drop [6,8,9,10,11,12,13,14,15,18,19,20,21,22,23,24,25,7,26,27,28,29,30,31,32,33,34,16,17] (.seq (.reg [un (.mov 35 (.t 5)),
 un (.asg 4 (.t 35))])
 (.drop [35] .ret))))))
abbrev Aj9:List RS:=[.t 4]
theorem Ajn:A7 Try.prog Dx 36 Aj6 Aj9=true:=by kernel_rfl
def Rr:ACode:=
 (.seq (.reg [un (.bin 17 .lss (.t 16) (.t 15))])
 (.seq (.cond (.t 17) .skip
 (.exit 2))
 (.seq (.block 3 (.seq (.reg [un (.mov 18 (.t 16)),
 un (.asg 5 (.t 18))])
 (.drop [18] (.dreg [(un (.mov 19 (.t 3)),[]),
 (un (.mov 20 (.t 4)),[19]),
 (un (.iad 21 1 (.t 19) (.t 20)),[]),
 (un (.ld 22 1 false (.t 21)),[]),
 (un (.mov 23 (.t 5)),[19,20,21,22]),
 (un (.mov 24 (.t 0)),[19,20,21,22,23]),
 (un (.mov 25 (.t 5)),[19,20,21,22,23,24]),
 (un (.iad 26 1 (.t 24) (.t 25)),[19,20,21,22,23]),
 (un (.ld 27 1 false (.t 26)),[19,20,21,22,23]),
 (un (.mov 28 (.t 4)),[19,20,21,22,23,24,25,26,27]),
 (un (.iad 29 1 (.t 27) (.t 28)),[19,20,21,22,23]),
 (un (.ld 30 1 false (.t 29)),[19,20,21,22,23])]
 [un (.iad 31 1 (.t 22) (.t 23)),
 un (.st 1 (.t 31) (.t 30))]))))
 (.drop [18,5,19,20,21,22,23,24,25,26,27,28,29,30,31] (.reg [un (.bin 32 .add (.t 16) (.c (.int .i64 1))),
 un (.asg 16 (.t 32))])))))
def Rv:ACode:=
 (.seq (.reg [un (.bin 12 .lss (.t 11) (.t 10))])
 (.seq (.cond (.t 12) .skip
 (.exit 0))
 (.seq (.block 1 (.seq (.reg [un (.mov 13 (.t 11)),
 un (.asg 4 (.t 13))])
 (.drop [13] (.seq (.reg [un (.mov 14 (.t 0)),
 un (.len 15 (.t 14)),
 un (.mov 16 (.c (.int .i64 0)))])
 (.drop [14] (.block 2 (.loop Rr)))))))
 (.drop [13,4,14,15,16,17,18,5,19,20,21,22,23,24,25,26,27,28,29,30,31,32] (.reg [un (.bin 33 .add (.t 11) (.c (.int .i64 1))),
 un (.asg 11 (.t 33))])))))
def Aja:ACode:=
 (.seq (.reg [un (.asg 2 (.c (.nilsl 1)))])
 (.seq (.reg [un (.mov 6 (.t 0)),
 un (.len 7 (.t 6)),
 un (.call 8 J2 [((.t 7),false)]),
 un (.asg 3 (.t 8))])
 (.drop [6,7,8] (.seq (.seq (.reg [un (.mov 9 (.t 0)),
 un (.len 10 (.t 9)),
 un (.mov 11 (.c (.int .i64 0)))])
 (.drop [9] (.block 0 (.loop Rv))))
 (.drop [9,10,11,12,13,4,14,15,16,17,18,5,19,20,21,22,23,24,25,26,27,28,29,30,31,32,33] (.seq (.reg [un (.mov 34 (.t 3)),
 un (.asg 2 (.t 34))])
 (.drop [34] .ret)))))))
abbrev Ahy:List RS:=[.t 2]
theorem Ag1:A7 Try.prog Oo 35 Aja Ahy=true:=by kernel_rfl
def Ahp:ACode:=
 (.seq (.reg [un (.asg 4 (.c (.bool false)))])
 (.seq (.reg [un (.mov 5 (.t 0)),
 un (.mov 6 (.t 1)),
 un (.call 7 Hr [((.t 5),false),((.t 6),false)]),
 un (.len 8 (.t 7)),
 un (.bin 9 .eql (.t 8) (.c (.int .i64 0))),
 un (.asg 4 (.t 9))])
 (.drop [5,6,7,8,9] .ret)))
abbrev Ah3:List RS:=[.t 4]
theorem Ahe:A7 Try.prog Id 10 Ahp Ah3=true:=by kernel_rfl
def Xr:ACode:=
 (.seq (.reg [un (.asg 5 (.c (.bool false)))])
 (.seq (.reg [un (.ld 6 1 false (.t 1)),
 un (.mov 7 (.t 0)),
 un (.ld 8 1 false (.t 2)),
 un (.call 9 Bf [((.t 6),false),((.t 7),false),((.t 8),false)]),
 un (.asg 10 (.t 9)),
 ⟨some (10,true),.ld 11 1 false (.t 3)⟩,
 ⟨some (10,true),.mov 12 (.t 0)⟩,
 ⟨some (10,true),.bin 13 .shr (.t 11) (.t 12)⟩,
 ⟨some (10,true),.bin 14 .and (.t 13) (.c (.int .i64 1))⟩,
 ⟨some (10,true),.bin 15 .eql (.t 14) (.c (.int .i64 0))⟩,
 un (.pick 16 (.t 10) (.t 15) (.c (.bool false))),
 un (.asg 5 (.t 16))])
 (.drop [6,7,8,9,10,11,12,13,14,15,16] .ret)))
abbrev Xq:List RS:=[.t 5]
theorem Xk:A7 Try.prog Ga 17 Xr Xq=true:=by kernel_rfl
def U0:ACode:=
 (.seq (.reg [un (.asg 4 (.c (.bool false)))])
 (.seq (.reg [un (.ld 5 1 false (.t 1)),
 un (.mov 6 (.t 0)),
 un (.ld 7 1 false (.t 2)),
 un (.call 8 Bf [((.t 5),false),((.t 6),false),((.t 7),false)]),
 un (.asg 4 (.t 8))])
 (.drop [5,6,7,8] .ret)))
abbrev Tu:List RS:=[.t 4]
theorem T7:A7 Try.prog Ew 9 U0 Tu=true:=by kernel_rfl
def T6:ACode:=
 (.seq (.reg [un (.asg 4 (.c (.bool false)))])
 (.seq (.reg [un (.ld 5 1 false (.t 1)),
 un (.ld 6 1 false (.t 2)),
 un (.mov 7 (.t 0)),
 un (.call 8 Bf [((.t 5),false),((.t 6),false),((.t 7),false)]),
 un (.asg 4 (.t 8))])
 (.drop [5,6,7,8] .ret)))
abbrev Uj:List RS:=[.t 4]
theorem T0:A7 Try.prog E1 9 T6 Uj=true:=by kernel_rfl
def Up:ACode:=
 (.seq (.seq (.reg [un (.mov 8 (.t 7)),
 un (.mov 9 (.t 0)),
 un (.len 10 (.t 9)),
 un (.bin 11 .lss (.t 8) (.t 10))])
 (.drop [8,9,10] (.cond (.t 11) .skip
 (.exit 0))))
 (.drop [8,9,10,11] (.seq (.block 1 (.seq (.dreg [(un (.mov 14 (.t 0)),[]),
 (un (.mov 15 (.t 7)),[14]),
 (un (.iad 16 1 (.t 14) (.t 15)),[]),
 (un (.ld 17 1 false (.t 16)),[]),
 (un (.mov 18 (.t 1)),[14,15,16,17]),
 (un (.mov 19 (.t 2)),[14,15,16,17,18]),
 (un (.call 20 Vm [((.t 17),false),((.t 18),false),((.t 19),false)]),[]),
 (un (.un 21 .not (.t 20)),[]),
 (un (.asg 22 (.t 21)),[]),
 (⟨some (22,false),.mov 23 (.t 7)⟩,[21]),
 (⟨some (22,false),.bin 24 .gtr (.t 23) (.c (.int .i64 0))⟩,[21]),
 (⟨some (22,false),.asg 25 (.t 24)⟩,[21]),
 (⟨some (25,true),.mov 26 (.t 0)⟩,[21,24]),
 (⟨some (25,true),.mov 27 (.t 7)⟩,[26,21,24]),
 (⟨some (25,true),.bin 28 .sub (.t 27) (.c (.int .i64 1))⟩,[26,21,24]),
 (⟨some (25,true),.iad 29 1 (.t 26) (.t 28)⟩,[21,24]),
 (⟨some (25,true),.ld 30 1 false (.t 29)⟩,[21,24]),
 (⟨some (25,true),.mov 31 (.t 0)⟩,[26,27,28,29,30,21,24]),
 (⟨some (25,true),.mov 32 (.t 7)⟩,[26,27,28,29,30,31,21,24]),
 (⟨some (25,true),.iad 33 1 (.t 31) (.t 32)⟩,[26,27,28,29,30,21,24]),
 (⟨some (25,true),.ld 34 1 false (.t 33)⟩,[26,27,28,29,30,21,24])]
 [⟨some (25,true),.bin 35 .geq (.t 30) (.t 34)⟩,
 ⟨some (22,false),.pick 36 (.t 25) (.t 35) (.c (.bool false))⟩,
 un (.pick 37 (.t 22) (.c (.bool true)) (.t 36))])
 (.drop [14,15,16,17,18,19,20,21,22,23,24,25,26,27,28,29,30,31,32,33,34,35,36] (.cond (.t 37) (.seq (.reg [un (.asg 6 (.c (.bool false)))])
 .ret)
 .skip))))
 (.drop [14,15,16,17,18,19,20,21,22,23,24,25,26,27,28,29,30,31,32,33,34,35,36,37] (.reg [un (.mov 12 (.t 7)),
 un (.bin 13 .add (.t 12) (.c (.int .i64 1))),
 un (.asg 7 (.t 13))])))))
def Amf:ACode:=
 (.seq (.reg [un (.asg 6 (.c (.bool false)))])
 (.seq (.seq (.reg [un (.asg 7 (.c (.int .i64 0)))])
 (.block 0 (.loop Up)))
 (.drop [7,8,9,10,11,14,15,16,17,18,19,20,21,22,23,24,25,26,27,28,29,30,31,32,33,34,35,36,37,12,13] (.seq (.reg [un (.asg 6 (.c (.bool true)))])
 .ret))))
abbrev Alr:List RS:=[.t 6]
theorem Al3:A7 Try.prog Sl 38 Amf Alr=true:=by kernel_rfl
def Uu:ACode:=
 (.seq (.seq (.reg [un (.mov 6 (.t 5)),
 un (.mov 7 (.t 0)),
 un (.len 8 (.t 7)),
 un (.bin 9 .lss (.t 6) (.t 8))])
 (.drop [6,7,8] (.cond (.t 9) .skip
 (.exit 0))))
 (.drop [6,7,8,9] (.seq (.block 1 (.seq (.reg [un (.mov 12 (.t 1)),
 un (.mov 13 (.t 0)),
 un (.mov 14 (.t 5)),
 un (.iad 15 1 (.t 13) (.t 14)),
 un (.ld 16 1 false (.t 15)),
 un (.call 17 L4 [((.t 12),false),((.t 16),false)]),
 un (.un 18 .not (.t 17))])
 (.drop [12,13,14,15,16,17] (.cond (.t 18) (.seq (.reg [un (.asg 4 (.c (.bool false)))])
 .ret)
 .skip))))
 (.drop [12,13,14,15,16,17,18] (.reg [un (.mov 10 (.t 5)),
 un (.bin 11 .add (.t 10) (.c (.int .i64 1))),
 un (.asg 5 (.t 11))])))))
def Al5:ACode:=
 (.seq (.reg [un (.asg 4 (.c (.bool false)))])
 (.seq (.seq (.reg [un (.asg 5 (.c (.int .i64 0)))])
 (.block 0 (.loop Uu)))
 (.drop [5,6,7,8,9,12,13,14,15,16,17,18,10,11] (.seq (.reg [un (.asg 4 (.c (.bool true)))])
 .ret))))
abbrev Alt:List RS:=[.t 4]
theorem Alm:A7 Try.prog Sq 19 Al5 Alt=true:=by kernel_rfl
def Ap3:ACode:=
 (.seq (.reg [un (.box 3 (.t 0)),
 un (.asg 6 (.c (.bool false)))])
 (.seq (.reg [un (.fadr 7 0 (.t 3)),
 un (.ld 8 1 false (.t 7)),
 un (.mov 9 (.t 2)),
 un (.iad 10 1 (.t 8) (.t 9)),
 un (.ld 11 1 false (.t 10)),
 un (.mov 12 (.t 1)),
 un (.call 13 L4 [((.t 11),false),((.t 12),false)]),
 un (.asg 6 (.t 13))])
 (.drop [7,8,9,10,11,12,13] .ret)))
abbrev Aqc:List RS:=[.t 6]
theorem Aqr:A7 Try.prog J9 14 Ap3 Aqc=true:=by kernel_rfl
def V4:ACode:=
 (.seq (.reg [un (.bin 16 .lss (.t 15) (.t 14))])
 (.seq (.cond (.t 16) .skip
 (.exit 0))
 (.seq (.block 1 (.seq (.reg [un (.mov 17 (.t 15)),
 un (.asg 6 (.t 17))])
 (.drop [17] (.reg [un (.ld 18 1 false (.t 5)),
 un (.mov 19 (.t 6)),
 un (.iad 20 1 (.t 18) (.t 19)),
 un (.st 1 (.t 20) (.c (.int .i64 (-1))))]))))
 (.drop [17,6,18,19,20] (.reg [un (.bin 21 .add (.t 15) (.c (.int .i64 1))),
 un (.asg 15 (.t 21))])))))
def Vw:ACode:=
 (.seq (.seq (.reg [un (.mov 24 (.t 10)),
 un (.ld 25 1 false (.t 2)),
 un (.bin 26 .lss (.t 24) (.t 25))])
 (.drop [24,25] (.cond (.t 26) .skip
 (.exit 2))))
 (.drop [24,25,26] (.seq (.block 3 (.seq (.reg [un (.ld 29 1 false (.t 2)),
 un (.mk 30 1 (.bool false) (.t 29)),
 un (.st 1 (.t 7) (.t 30))])
 (.drop [29,30] (.seq (.reg [un (.ld 31 1 false (.t 8)),
 un (.mov 32 (.t 10)),
 un (.cally 33 (.t 31) [(.t 32)] [false,true,false,true,false])])
 (.drop [31,32] (.cond (.t 33) (.reg [un (.mov 34 (.t 9)),
 un (.bin 35 .sub (.t 34) (.c (.int .i64 1))),
 un (.asg 9 (.t 35))])
 .skip))))))
 (.drop [29,30,31,32,33,34,35] (.reg [un (.mov 27 (.t 10)),
 un (.bin 28 .add (.t 27) (.c (.int .i64 1))),
 un (.asg 10 (.t 28))])))))
def Apf:ACode:=
 (.seq (.reg [un (.box 2 (.t 0)),
 un (.box 3 (.t 1)),
 un (.asg 4 (.c (.int .i64 0)))])
 (.seq (.reg [un (.ld 11 1 false (.t 2)),
 un (.mk 12 1 (.int .i64 0) (.t 11)),
 un (.alc 5 (.nilsl 1)),
 un (.st 1 (.t 5) (.t 12))])
 (.drop [11,12] (.seq (.seq (.reg [un (.ld 13 1 false (.t 5)),
 un (.len 14 (.t 13)),
 un (.mov 15 (.c (.int .i64 0)))])
 (.drop [13] (.block 0 (.loop V4))))
 (.drop [13,14,15,16,17,6,18,19,20,21] (.seq (.reg [un (.alc 7 (.nilsl 1))])
 (.seq (.reg [un (.alf 8)])
 (.seq (.reg [un (.mkf 22 Cq [(.t 2),(.t 7),(.t 3),(.t 5),(.t 8)]),
 un (.tie (.t 8) (.t 22))])
 (.drop [22] (.seq (.reg [un (.ld 23 1 false (.t 2)),
 un (.asg 9 (.t 23))])
 (.drop [23] (.seq (.seq (.reg [un (.asg 10 (.c (.int .i64 0)))])
 (.block 2 (.loop Vw)))
 (.drop [10,24,25,26,29,30,31,32,33,34,35,27,28] (.seq (.reg [un (.mov 36 (.t 9)),
 un (.asg 4 (.t 36))])
 (.drop [36] .ret)))))))))))))))
abbrev Anj:List RS:=[.t 4]
theorem Ao7:A7 Try.prog Uq 37 Apf Anj=true:=by kernel_rfl
def Abi:ACode:=
 (.seq (.reg [un (.asg 6 (.c (.bool false)))])
 (.seq (.seq (.reg [un (.ld 7 1 false (.t 2)),
 un (.mov 8 (.t 0)),
 un (.iad 9 1 (.t 7) (.t 8)),
 un (.ld 10 1 false (.t 9)),
 un (.bin 11 .neq (.t 10) (.c (.int .i64 (-2))))])
 (.drop [7,8,9,10] (.cond (.t 11) (.seq (.reg [un (.ld 12 1 false (.t 2)),
 un (.mov 13 (.t 0)),
 un (.iad 14 1 (.t 12) (.t 13)),
 un (.ld 15 1 false (.t 14)),
 un (.mov 16 (.t 1)),
 un (.bin 17 .eql (.t 15) (.t 16)),
 un (.asg 6 (.t 17))])
 (.drop [12,13,14,15,16,17] .ret))
 .skip)))
 (.drop [7,8,9,10,11,12,13,14,15,16,17] (.seq (.reg [un (.ld 18 1 false (.t 3)),
 un (.mov 19 (.t 0)),
 un (.mov 20 (.t 1)),
 un (.call 21 Bf [((.t 18),false),((.t 19),false),((.t 20),false)]),
 un (.asg 6 (.t 21))])
 (.drop [18,19,20,21] .ret)))))
abbrev Abj:List RS:=[.t 6]
theorem Abg:A7 Try.prog Hw 22 Abi Abj=true:=by kernel_rfl
def Od:ACode:=
 (.seq (.reg [un (.bin 16 .lss (.t 15) (.t 14))])
 (.seq (.cond (.t 16) .skip
 (.exit 0))
 (.seq (.block 1 (.seq (.reg [un (.mov 17 (.t 15)),
 un (.asg 7 (.t 17))])
 (.drop [17] (.seq (.reg [un (.mov 18 (.t 0)),
 un (.mov 19 (.t 1)),
 un (.mov 20 (.t 7)),
 un (.call 21 Bf [((.t 18),false),((.t 19),false),((.t 20),false)]),
 un (.asg 22 (.t 21)),
 ⟨some (22,true),.mov 23 (.t 0)⟩,
 ⟨some (22,true),.mov 24 (.t 7)⟩,
 ⟨some (22,true),.mov 25 (.t 2)⟩,
 ⟨some (22,true),.call 26 Bf [((.t 23),false),((.t 24),false),((.t 25),false)]⟩,
 un (.pick 27 (.t 22) (.t 26) (.c (.bool false)))])
 (.drop [18,19,20,21,22,23,24,25,26] (.cond (.t 27) (.seq (.reg [un (.asg 6 (.c (.bool false)))])
 .ret)
 .skip))))))
 (.drop [17,7,18,19,20,21,22,23,24,25,26,27] (.reg [un (.bin 28 .add (.t 15) (.c (.int .i64 1))),
 un (.asg 15 (.t 28))])))))
def Ad9:ACode:=
 (.seq (.reg [un (.asg 6 (.c (.bool false)))])
 (.seq (.seq (.reg [un (.mov 8 (.t 0)),
 un (.mov 9 (.t 1)),
 un (.mov 10 (.t 2)),
 un (.call 11 Bf [((.t 8),false),((.t 9),false),((.t 10),false)]),
 un (.un 12 .not (.t 11))])
 (.drop [8,9,10,11] (.cond (.t 12) (.seq (.reg [un (.asg 6 (.c (.bool false)))])
 .ret)
 .skip)))
 (.drop [8,9,10,11,12] (.seq (.seq (.reg [un (.mov 13 (.t 0)),
 un (.len 14 (.t 13)),
 un (.mov 15 (.c (.int .i64 0)))])
 (.drop [13] (.block 0 (.loop Od))))
 (.drop [13,14,15,16,17,7,18,19,20,21,22,23,24,25,26,27,28] (.seq (.reg [un (.asg 6 (.c (.bool true)))])
 .ret))))))
abbrev Adr:List RS:=[.t 6]
theorem Adm:A7 Try.prog Mk 29 Ad9 Adr=true:=by kernel_rfl
def Ain:ACode:=
 (.seq (.reg [un (.asg 4 (.c (.int .i64 0)))])
 (.seq (.seq (.reg [un (.mov 6 (.t 1)),
 un (.bin 7 .leq (.t 6) (.c (.int .i64 1)))])
 (.drop [6] (.cond (.t 7) (.seq (.reg [un (.asg 4 (.c (.int .i64 0)))])
 .ret)
 .skip)))
 (.drop [6,7] (.seq (.reg [un (.mov 8 (.t 0)),
 un (.call 9 Km [((.t 8),true)]),
 un (.asg 5 (.t 9))])
 (.drop [8,9] (.seq (.seq (.reg [un (.mov 10 (.t 1)),
 un (.bin 11 .gtr (.t 10) (.c (.int .i64 200)))])
 (.drop [10] (.cond (.t 11) (.reg [un (.mov 12 (.t 5)),
 un (.bin 13 .mul (.t 12) (.c (.int .i64 256))),
 un (.mov 14 (.t 0)),
 un (.call 15 Km [((.t 14),true)]),
 un (.bin 16 .add (.t 13) (.t 15)),
 un (.asg 5 (.t 16))])
 .skip)))
 (.drop [10,11,12,13,14,15,16] (.seq (.reg [un (.mov 17 (.t 5)),
 un (.mov 18 (.t 1)),
 un (.bin 19 .rem (.t 17) (.t 18)),
 un (.asg 4 (.t 19))])
 (.drop [17,18,19] .ret)))))))))
abbrev Ahm:List RS:=[.t 4]
theorem Agx:A7 Try.prog Cf 20 Ain Ahm=true:=by kernel_rfl
def Ru:ACode:=
 (.seq (.seq (.reg [un (.mov 6 (.t 5)),
 un (.mov 7 (.t 1)),
 un (.len 8 (.t 7)),
 un (.bin 9 .lss (.t 6) (.t 8))])
 (.drop [6,7,8] (.cond (.t 9) .skip
 (.exit 0))))
 (.drop [6,7,8,9] (.seq (.block 1 (.seq (.reg [un (.mov 12 (.t 1)),
 un (.mov 13 (.t 5)),
 un (.iad 14 1 (.t 12) (.t 13)),
 un (.ld 15 1 false (.t 14)),
 un (.mov 16 (.t 0)),
 un (.bin 17 .sub (.t 16) (.c (.int .i64 1))),
 un (.call 18 Vm [((.t 15),false),((.c (.int .i64 0)),false),((.t 17),false)]),
 un (.un 19 .not (.t 18))])
 (.drop [12,13,14,15,16,17,18] (.cond (.t 19) (.seq (.reg [un (.asg 4 (.c (.bool false)))])
 .ret)
 .skip))))
 (.drop [12,13,14,15,16,17,18,19] (.reg [un (.mov 10 (.t 5)),
 un (.bin 11 .add (.t 10) (.c (.int .i64 1))),
 un (.asg 5 (.t 11))])))))
def Ai5:ACode:=
 (.seq (.reg [un (.asg 4 (.c (.bool false)))])
 (.seq (.seq (.reg [un (.asg 5 (.c (.int .i64 0)))])
 (.block 0 (.loop Ru)))
 (.drop [5,6,7,8,9,12,13,14,15,16,17,18,19,10,11] (.seq (.reg [un (.asg 4 (.c (.bool true)))])
 .ret))))
abbrev Ahl:List RS:=[.t 4]
theorem Ahu:A7 Try.prog O3 20 Ai5 Ahl=true:=by kernel_rfl
def Ts:ACode:=
 (.seq (.reg [un (.mov 32 (.t 8)),
 un (.len 33 (.t 32)),
 un (.mov 34 (.t 6)),
 un (.len 35 (.t 34)),
 un (.bin 36 .lss (.t 33) (.t 35)),
 un (.asg 37 (.t 36)),
 ⟨some (37,false),.mov 38 (.t 8)⟩,
 ⟨some (37,false),.len 39 (.t 38)⟩,
 ⟨some (37,false),.mov 40 (.t 6)⟩,
 ⟨some (37,false),.len 41 (.t 40)⟩,
 ⟨some (37,false),.bin 42 .eql (.t 39) (.t 41)⟩,
 ⟨some (37,false),.asg 43 (.t 42)⟩,
 ⟨some (43,true),.mov 44 (.t 8)⟩,
 ⟨some (43,true),.mov 45 (.t 6)⟩,
 ⟨some (43,true),.call 46 Ml [((.t 44),false),((.t 45),false)]⟩,
 ⟨some (43,true),.bin 47 .geq (.t 46) (.c (.int .i64 0))⟩,
 ⟨some (37,false),.pick 48 (.t 43) (.t 47) (.c (.bool false))⟩,
 un (.pick 49 (.t 37) (.c (.bool true)) (.t 48))])
 (.drop [32,33,34,35,36,37,38,39,40,41,42,43,44,45,46,47,48] (.cond (.t 49) (.exit 1)
 .skip)))
def Lj:ACode:=
 (.seq (.reg [un (.bin 59 .lss (.t 58) (.t 57))])
 (.seq (.cond (.t 59) .skip
 (.exit 4))
 (.seq (.block 5 (.seq (.reg [un (.iad 60 1 (.t 56) (.t 58)),
 un (.ld 61 1 false (.t 60)),
 un (.asg 13 (.t 61))])
 (.drop [60,61] (.reg [un (.mov 62 (.t 9)),
 un (.asg 63 (.t 62)),
 ⟨some (63,true),.mov 64 (.t 4)⟩,
 ⟨some (63,true),.mov 65 (.t 11)⟩,
 ⟨some (63,true),.mov 66 (.t 13)⟩,
 ⟨some (63,true),.call 67 Bf [((.t 64),false),((.t 65),false),((.t 66),false)]⟩,
 ⟨some (63,true),.un 68 .not (.t 67)⟩,
 un (.pick 69 (.t 63) (.t 68) (.c (.bool false))),
 un (.asg 9 (.t 69))]))))
 (.drop [60,61,13,62,63,64,65,66,67,68,69] (.reg [un (.bin 70 .add (.t 58) (.c (.int .i64 1))),
 un (.asg 58 (.t 70))])))))
def Ld:ACode:=
 (.seq (.reg [un (.bin 53 .lss (.t 52) (.t 51))])
 (.seq (.cond (.t 53) .skip
 (.exit 2))
 (.seq (.block 3 (.seq (.reg [un (.iad 54 1 (.t 50) (.t 52)),
 un (.ld 55 1 false (.t 54)),
 un (.asg 11 (.t 55))])
 (.drop [54,55] (.seq (.reg [un (.mov 56 (.t 8)),
 un (.len 57 (.t 56)),
 un (.mov 58 (.c (.int .i64 0)))])
 (.block 4 (.loop Lj))))))
 (.drop [54,55,11,56,57,58,59,60,61,13,62,63,64,65,66,67,68,69,70] (.reg [un (.bin 71 .add (.t 52) (.c (.int .i64 1))),
 un (.asg 52 (.t 71))])))))
def Ko:ACode:=
 (.seq (.seq (.reg [un (.mov 23 (.t 7)),
 un (.mov 24 (.t 4)),
 un (.len 25 (.t 24)),
 un (.bin 26 .shl (.c (.int .i64 1)) (.t 25)),
 un (.bin 27 .lss (.t 23) (.t 26))])
 (.drop [23,24,25,26] (.cond (.t 27) .skip
 (.exit 0))))
 (.drop [23,24,25,26,27] (.seq (.block 1 (.seq (.reg [un (.mov 30 (.t 7)),
 un (.call 31 Xv [((.t 30),false)]),
 un (.asg 8 (.t 31))])
 (.drop [30,31] (.seq (.cut Ts)
 (.drop [32,33,34,35,36,37,38,39,40,41,42,43,44,45,46,47,48,49] (.seq (.reg [un (.asg 9 (.c (.bool true)))])
 (.seq (.seq (.reg [un (.mov 50 (.t 8)),
 un (.len 51 (.t 50)),
 un (.mov 52 (.c (.int .i64 0)))])
 (.block 2 (.loop Ld)))
 (.drop [50,51,52,53,54,55,11,56,57,58,59,60,61,13,62,63,64,65,66,67,68,69,70,71] (.seq (.reg [un (.mov 72 (.t 9))])
 (.cond (.t 72) (.reg [un (.mov 73 (.t 8)),
 un (.asg 6 (.t 73))])
 .skip))))))))))
 (.drop [30,31,8,32,33,34,35,36,37,38,39,40,41,42,43,44,45,46,47,48,49,9,50,51,52,53,54,55,11,56,57,58,59,60,61,13,62,63,64,65,66,67,68,69,70,71,72,73] (.reg [un (.mov 28 (.t 7)),
 un (.bin 29 .add (.t 28) (.c (.int .i64 1))),
 un (.asg 7 (.t 29))])))))
def Xx:ACode:=
 (.seq (.reg [un (.box 1 (.t 0)),
 un (.asg 2 (.c (.nilsl 1))),
 un (.asg 3 (.c (.bool false)))])
 (.seq (.reg [un (.ld 15 1 true (.t 1)),
 un (.call 16 Co [((.t 15),false)]),
 un (.asg 14 (.t 16)),
 un (.ext 17 (.t 14) 0),
 un (.ext 18 (.t 14) 1),
 un (.asg 4 (.t 17)),
 un (.asg 5 (.t 18))])
 (.drop [15,16,14,17,18] (.seq (.seq (.reg [un (.mov 19 (.t 5)),
 un (.un 20 .not (.t 19))])
 (.drop [19] (.cond (.t 20) (.seq (.reg [un (.bsl 21 1 []),
 un (.asg 2 (.t 21)),
 un (.asg 3 (.c (.bool false)))])
 (.drop [21] .ret))
 .skip)))
 (.drop [19,20,21] (.seq (.reg [un (.bsl 22 1 []),
 un (.asg 6 (.t 22))])
 (.drop [22] (.seq (.seq (.reg [un (.asg 7 (.c (.int .i64 0)))])
 (.block 0 (.loop Ko)))
 (.drop [7,23,24,25,26,27,30,31,8,32,33,34,35,36,37,38,39,40,41,42,43,44,45,46,47,48,49,9,50,51,52,53,54,55,11,56,57,58,59,60,61,13,62,63,64,65,66,67,68,69,70,71,72,73,28,29] (.seq (.reg [un (.mov 74 (.t 6)),
 un (.asg 2 (.t 74)),
 un (.asg 3 (.c (.bool true)))])
 (.drop [74] .ret)))))))))))
abbrev Ys:List RS:=[.t 2,.t 3]
theorem Yr:A7 Try.prog Ix 75 Xx Ys=true:=by kernel_rfl
def Anp:ACode:=
 (.seq (.reg [un (.box 1 (.t 0)),
 un (.asg 2 (.c (.bool false)))])
 (.seq (.reg [un (.ld 6 1 true (.t 1)),
 un (.call 7 Co [((.t 6),false)]),
 un (.asg 5 (.t 7)),
 un (.ext 8 (.t 5) 0),
 un (.ext 9 (.t 5) 1),
 un (.asg 3 (.t 8)),
 un (.asg 4 (.t 9))])
 (.drop [6,7,5,8,9,3] (.seq (.reg [un (.mov 10 (.t 4)),
 un (.asg 2 (.t 10))])
 (.drop [10] .ret)))))
abbrev Ani:List RS:=[.t 2]
theorem Anx:A7 Try.prog Um 11 Anp Ani=true:=by kernel_rfl
def Agd:ACode:=
 (.seq (.reg [un (.mov 15 (.t 9)),
 un (.un 16 .not (.t 15)),
 un (.asg 17 (.t 16)),
 ⟨some (17,false),.mov 18 (.t 8)⟩,
 ⟨some (17,false),.mov 19 (.t 1)⟩,
 ⟨some (17,false),.mov 20 (.t 2)⟩,
 ⟨some (17,false),.bsl 21 1 [(.t 19),(.t 20)]⟩,
 ⟨some (17,false),.call 22 Lv [((.t 18),false),((.t 21),false)]⟩,
 ⟨some (17,false),.un 23 .not (.t 22)⟩,
 un (.pick 24 (.t 17) (.c (.bool true)) (.t 23))])
 (.drop [15,16,17,18,19,20,21,22,23] (.cond (.t 24) (.seq (.reg [un (.asg 6 (.c (.bool false))),
 un (.asg 7 (.c (.bool false)))])
 .ret)
 .skip)))
def Al0:ACode:=
 (.seq (.reg [un (.box 3 (.t 0)),
 un (.asg 6 (.c (.bool false))),
 un (.asg 7 (.c (.bool false)))])
 (.seq (.reg [un (.ld 11 1 true (.t 3)),
 un (.call 12 Co [((.t 11),false)]),
 un (.asg 10 (.t 12)),
 un (.ext 13 (.t 10) 0),
 un (.ext 14 (.t 10) 1),
 un (.asg 8 (.t 13)),
 un (.asg 9 (.t 14))])
 (.drop [11,12,10,13,14] (.seq (.cut Agd)
 (.drop [15,16,17,18,19,20,21,22,23,24] (.seq (.reg [un (.mov 25 (.t 8)),
 un (.mov 26 (.t 1)),
 un (.iad 27 1 (.t 25) (.t 26)),
 un (.ld 28 1 false (.t 27)),
 un (.mov 29 (.t 2)),
 un (.iad 30 1 (.t 28) (.t 29)),
 un (.ld 31 1 false (.t 30)),
 un (.asg 6 (.t 31)),
 un (.asg 7 (.c (.bool true)))])
 (.drop [25,26,27,28,29,30,31] .ret)))))))
abbrev Alu:List RS:=[.t 6,.t 7]
theorem Al4:A7 Try.prog Sw 32 Al0 Alu=true:=by kernel_rfl
def Ajr:ACode:=
 (.seq (.reg [un (.box 1 (.t 0)),
 un (.asg 2 (.c (.nilsl 1))),
 un (.asg 3 (.c (.bool false)))])
 (.seq (.reg [un (.ld 7 1 true (.t 1)),
 un (.call 8 Co [((.t 7),false)]),
 un (.asg 6 (.t 8)),
 un (.ext 9 (.t 6) 0),
 un (.ext 10 (.t 6) 1),
 un (.asg 4 (.t 9)),
 un (.asg 5 (.t 10))])
 (.drop [7,8,6,9,10] (.seq (.seq (.reg [un (.mov 11 (.t 5)),
 un (.un 12 .not (.t 11))])
 (.drop [11] (.cond (.t 12) (.seq (.reg [un (.bsl 13 1 []),
 un (.asg 2 (.t 13)),
 un (.asg 3 (.c (.bool false)))])
 (.drop [13] .ret))
 .skip)))
 (.drop [11,12,13] (.seq (.reg [un (.mov 14 (.t 4)),
 un (.call 15 Ib [((.t 14),false),((.c (.bool true)),false)]),
 un (.asg 2 (.t 15)),
 un (.asg 3 (.c (.bool true)))])
 (.drop [14,15] .ret)))))))
abbrev Aj0:List RS:=[.t 2,.t 3]
theorem Aki:A7 Try.prog Q2 16 Ajr Aj0=true:=by kernel_rfl
def N0:ACode:=
 (.seq (.reg [un (.bin 25 .lss (.t 24) (.t 23))])
 (.seq (.cond (.t 25) .skip
 (.exit 0))
 (.seq (.block 1 (.seq (.reg [un (.iad 26 1 (.t 22) (.t 24)),
 un (.ld 27 1 false (.t 26)),
 un (.asg 9 (.t 27))])
 (.drop [26,27] (.reg [un (.mov 28 (.t 7)),
 un (.mov 29 (.t 9)),
 un (.max 30 (.t 28) (.t 29)),
 un (.asg 7 (.t 30))]))))
 (.drop [26,27,9,28,29,30] (.reg [un (.bin 31 .add (.t 24) (.c (.int .i64 1))),
 un (.asg 24 (.t 31))])))))
def O4:ACode:=
 (.seq (.reg [un (.bin 40 .lss (.t 39) (.t 38))])
 (.seq (.cond (.t 40) .skip
 (.exit 4))
 (.seq (.block 5 (.seq (.reg [un (.mov 41 (.t 39)),
 un (.asg 11 (.t 41))])
 (.drop [41] (.seq (.reg [un (.mov 42 (.t 6)),
 un (.mov 43 (.t 11)),
 un (.iad 44 1 (.t 42) (.t 43)),
 un (.ld 45 1 false (.t 44)),
 un (.mov 46 (.t 7)),
 un (.bin 47 .eql (.t 45) (.t 46)),
 un (.asg 48 (.t 47)),
 ⟨some (48,true),.mov 49 (.t 10)⟩,
 ⟨some (48,true),.len 50 (.t 49)⟩,
 ⟨some (48,true),.bin 51 .eql (.t 50) (.c (.int .i64 0))⟩,
 ⟨some (48,true),.asg 52 (.t 51)⟩,
 ⟨some (52,false),.mov 53 (.t 4)⟩,
 ⟨some (52,false),.mov 54 (.t 10)⟩,
 ⟨some (52,false),.mov 55 (.t 10)⟩,
 ⟨some (52,false),.len 56 (.t 55)⟩,
 ⟨some (52,false),.bin 57 .sub (.t 56) (.c (.int .i64 1))⟩,
 ⟨some (52,false),.iad 58 1 (.t 54) (.t 57)⟩,
 ⟨some (52,false),.ld 59 1 false (.t 58)⟩,
 ⟨some (52,false),.mov 60 (.t 11)⟩,
 ⟨some (52,false),.call 61 Bf [((.t 53),false),((.t 59),false),((.t 60),false)]⟩,
 ⟨some (48,true),.pick 62 (.t 52) (.c (.bool true)) (.t 61)⟩,
 un (.pick 63 (.t 48) (.t 62) (.c (.bool false)))])
 (.drop [42,43,44,45,46,47,48,49,50,51,52,53,54,55,56,57,58,59,60,61,62] (.cond (.t 63) (.seq (.reg [un (.mov 64 (.t 10)),
 un (.mov 65 (.t 11)),
 un (.bsl 66 1 [(.t 65)]),
 un (.app 67 1 (.t 64) (.t 66)),
 un (.asg 10 (.t 67))])
 (.drop [64,65,66,67] (.exit 4)))
 .skip))))))
 (.drop [41,11,42,43,44,45,46,47,48,49,50,51,52,53,54,55,56,57,58,59,60,61,62,63,64,65,66,67] (.reg [un (.bin 68 .add (.t 39) (.c (.int .i64 1))),
 un (.asg 39 (.t 68))])))))
def Ov:ACode:=
 (.seq (.seq (.reg [un (.mov 33 (.t 7)),
 un (.bin 34 .geq (.t 33) (.c (.int .i64 0)))])
 (.drop [33] (.cond (.t 34) .skip
 (.exit 2))))
 (.drop [33,34] (.seq (.block 3 (.seq (.reg [un (.mov 37 (.t 4)),
 un (.len 38 (.t 37)),
 un (.mov 39 (.c (.int .i64 0)))])
 (.drop [37] (.block 4 (.loop O4)))))
 (.drop [37,38,39,40,41,11,42,43,44,45,46,47,48,49,50,51,52,53,54,55,56,57,58,59,60,61,62,63,64,65,66,67,68] (.reg [un (.mov 35 (.t 7)),
 un (.bin 36 .sub (.t 35) (.c (.int .i64 1))),
 un (.asg 7 (.t 36))])))))
def Aea:ACode:=
 (.seq (.reg [un (.box 1 (.t 0)),
 un (.asg 2 (.c (.nilsl 1))),
 un (.asg 3 (.c (.bool false)))])
 (.seq (.reg [un (.ld 13 1 true (.t 1)),
 un (.call 14 Co [((.t 13),false)]),
 un (.asg 12 (.t 14)),
 un (.ext 15 (.t 12) 0),
 un (.ext 16 (.t 12) 1),
 un (.asg 4 (.t 15)),
 un (.asg 5 (.t 16))])
 (.drop [13,14,12,15,16] (.seq (.seq (.reg [un (.mov 17 (.t 5)),
 un (.un 18 .not (.t 17))])
 (.drop [17] (.cond (.t 18) (.seq (.reg [un (.bsl 19 1 []),
 un (.asg 2 (.t 19)),
 un (.asg 3 (.c (.bool false)))])
 (.drop [19] .ret))
 .skip)))
 (.drop [17,18,19] (.seq (.reg [un (.mov 20 (.t 4)),
 un (.call 21 Ib [((.t 20),false),((.c (.bool false)),false)]),
 un (.asg 6 (.t 21))])
 (.drop [20,21] (.seq (.reg [un (.asg 7 (.c (.int .i64 (-1))))])
 (.seq (.seq (.reg [un (.mov 22 (.t 6)),
 un (.len 23 (.t 22)),
 un (.mov 24 (.c (.int .i64 0)))])
 (.block 0 (.loop N0)))
 (.drop [22,23,24,25,26,27,9,28,29,30,31] (.seq (.reg [un (.bsl 32 1 []),
 un (.asg 10 (.t 32))])
 (.drop [32] (.seq (.block 2 (.loop Ov))
 (.drop [33,34,37,38,39,40,41,11,42,43,44,45,46,47,48,49,50,51,52,53,54,55,56,57,58,59,60,61,62,63,64,65,66,67,68,35,36] (.seq (.reg [un (.mov 69 (.t 10)),
 un (.asg 2 (.t 69)),
 un (.asg 3 (.c (.bool true)))])
 (.drop [69] .ret))))))))))))))))
abbrev Aej:List RS:=[.t 2,.t 3]
theorem Ady:A7 Try.prog Mm 70 Aea Aej=true:=by kernel_rfl
def Ab2:ACode:=
 (.seq (.reg [un (.mov 13 (.t 0)),
 un (.bin 14 .lss (.t 13) (.c (.int .i64 0))),
 un (.asg 15 (.t 14)),
 ⟨some (15,false),.mov 16 (.t 0)⟩,
 ⟨some (15,false),.bin 17 .gtr (.t 16) (.c (.int .i64 10))⟩,
 un (.pick 18 (.t 15) (.c (.bool true)) (.t 17)),
 un (.asg 19 (.t 18)),
 ⟨some (19,false),.mov 20 (.t 1)⟩,
 ⟨some (19,false),.len 21 (.t 20)⟩,
 ⟨some (19,false),.bin 22 .gtr (.t 21) (.c (.int .i64 60))⟩,
 un (.pick 23 (.t 19) (.c (.bool true)) (.t 22))])
 (.drop [13,14,15,16,17,18,19,20,21,22] (.cond (.t 23) (.seq (.reg [un (.bld 24 [.nilsl 1] []),
 un (.st 1 (.t 4) (.t 24)),
 un (.asg 5 (.c (.bool false)))])
 (.drop [24] .ret))
 .skip)))
def R4:ACode:=
 (.seq (.reg [un (.bin 30 .lss (.t 29) (.t 28))])
 (.seq (.cond (.t 30) .skip
 (.exit 0))
 (.seq (.block 1 (.seq (.reg [un (.mov 31 (.t 29)),
 un (.asg 7 (.t 31))])
 (.drop [31] (.reg [un (.mov 32 (.t 6)),
 un (.mov 33 (.t 7)),
 un (.iad 34 1 (.t 32) (.t 33)),
 un (.ld 35 1 false (.t 34)),
 un (.mov 36 (.t 7)),
 un (.iad 37 1 (.t 35) (.t 36)),
 un (.st 1 (.t 37) (.c (.bool true)))]))))
 (.drop [31,7,32,33,34,35,36,37] (.reg [un (.bin 38 .add (.t 29) (.c (.int .i64 1))),
 un (.asg 29 (.t 38))])))))
def Acw:ACode:=
 (.seq (.reg [un (.mov 45 (.t 6)),
 un (.aad 46 1 2 (.t 9) (.c (.int .i64 0))),
 un (.ld 47 1 false (.t 46)),
 un (.aad 48 1 2 (.t 9) (.c (.int .i64 1))),
 un (.ld 49 1 false (.t 48)),
 un (.bsl 50 1 [(.t 47),(.t 49)]),
 un (.call 51 Lv [((.t 45),false),((.t 50),false)]),
 un (.un 52 .not (.t 51)),
 un (.asg 53 (.t 52)),
 ⟨some (53,false),.aad 54 1 2 (.t 9) (.c (.int .i64 0))⟩,
 ⟨some (53,false),.ld 55 1 false (.t 54)⟩,
 ⟨some (53,false),.aad 56 1 2 (.t 9) (.c (.int .i64 1))⟩,
 ⟨some (53,false),.ld 57 1 false (.t 56)⟩,
 ⟨some (53,false),.bin 58 .eql (.t 55) (.t 57)⟩,
 un (.pick 59 (.t 53) (.c (.bool true)) (.t 58))])
 (.drop [45,46,47,48,49,50,51,52,53,54,55,56,57,58] (.cond (.t 59) (.seq (.reg [un (.bld 60 [.nilsl 1] []),
 un (.st 1 (.t 4) (.t 60)),
 un (.asg 5 (.c (.bool false)))])
 (.drop [60] .ret))
 .skip)))
def R0:ACode:=
 (.seq (.reg [un (.bin 42 .lss (.t 41) (.t 40))])
 (.seq (.cond (.t 42) .skip
 (.exit 2))
 (.seq (.block 3 (.seq (.reg [un (.iad 43 2 (.t 39) (.t 41)),
 un (.ld 44 2 true (.t 43)),
 un (.alc 9 (.agg [.int .i64 0,.int .i64 0])),
 un (.st 2 (.t 9) (.t 44))])
 (.drop [43,44] (.seq (.cut Acw)
 (.drop [45,46,47,48,49,50,51,52,53,54,55,56,57,58,59,60] (.dreg [(un (.mov 61 (.t 6)),[]),
 (un (.aad 62 1 2 (.t 9) (.c (.int .i64 0))),[61]),
 (un (.ld 63 1 false (.t 62)),[61]),
 (un (.iad 64 1 (.t 61) (.t 63)),[]),
 (un (.ld 65 1 false (.t 64)),[]),
 (un (.aad 66 1 2 (.t 9) (.c (.int .i64 1))),[61,62,63,64,65]),
 (un (.ld 67 1 false (.t 66)),[61,62,63,64,65])]
 [un (.iad 68 1 (.t 65) (.t 67)),
 un (.st 1 (.t 68) (.c (.bool true)))]))))))
 (.drop [43,44,9,45,46,47,48,49,50,51,52,53,54,55,56,57,58,59,60,61,62,63,64,65,66,67,68] (.reg [un (.bin 69 .add (.t 41) (.c (.int .i64 1))),
 un (.asg 41 (.t 69))])))))
def R6:ACode:=
 (.seq (.reg [un (.bin 83 .lss (.t 82) (.t 81))])
 (.seq (.cond (.t 83) .skip
 (.exit 8))
 (.seq (.block 9 (.seq (.reg [un (.mov 84 (.t 82)),
 un (.asg 12 (.t 84))])
 (.drop [84] (.dreg [(un (.mov 85 (.t 6)),[96,104]),
 (un (.mov 86 (.t 11)),[85,96,104]),
 (un (.iad 87 1 (.t 85) (.t 86)),[96,104]),
 (un (.ld 88 1 false (.t 87)),[96,104]),
 (un (.mov 89 (.t 12)),[85,86,87,88,96,104]),
 (un (.mov 90 (.t 6)),[85,86,87,88,89]),
 (un (.mov 91 (.t 11)),[85,86,87,88,89,90]),
 (un (.iad 92 1 (.t 90) (.t 91)),[85,86,87,88,89]),
 (un (.ld 93 1 false (.t 92)),[85,86,87,88,89]),
 (un (.mov 94 (.t 12)),[85,86,87,88,89,90,91,92,93]),
 (un (.iad 95 1 (.t 93) (.t 94)),[85,86,87,88,89]),
 (un (.ld 96 1 false (.t 95)),[85,86,87,88,89]),
 (un (.asg 97 (.t 96)),[85,86,87,88,89]),
 (⟨some (97,false),.mov 98 (.t 6)⟩,[85,86,87,88,89,96]),
 (⟨some (97,false),.mov 99 (.t 11)⟩,[85,86,87,88,89,98,96]),
 (⟨some (97,false),.iad 100 1 (.t 98) (.t 99)⟩,[85,86,87,88,89,96]),
 (⟨some (97,false),.ld 101 1 false (.t 100)⟩,[85,86,87,88,89,96]),
 (⟨some (97,false),.mov 102 (.t 10)⟩,[85,86,87,88,89,98,99,100,101,96]),
 (⟨some (97,false),.iad 103 1 (.t 101) (.t 102)⟩,[85,86,87,88,89,96]),
 (⟨some (97,false),.ld 104 1 false (.t 103)⟩,[85,86,87,88,89,96]),
 (⟨some (97,false),.asg 105 (.t 104)⟩,[85,86,87,88,89,96]),
 (⟨some (105,true),.mov 106 (.t 6)⟩,[85,86,87,88,89,96,104]),
 (⟨some (105,true),.mov 107 (.t 10)⟩,[85,86,87,88,89,106,96,104]),
 (⟨some (105,true),.iad 108 1 (.t 106) (.t 107)⟩,[85,86,87,88,89,96,104]),
 (⟨some (105,true),.ld 109 1 false (.t 108)⟩,[85,86,87,88,89,96,104]),
 (⟨some (105,true),.mov 110 (.t 12)⟩,[85,86,87,88,89,106,107,108,109,96,104]),
 (⟨some (105,true),.iad 111 1 (.t 109) (.t 110)⟩,[85,86,87,88,89,96,104]),
 (⟨some (105,true),.ld 112 1 false (.t 111)⟩,[85,86,87,88,89,96,104]),
 (⟨some (97,false),.pick 113 (.t 105) (.t 112) (.c (.bool false))⟩,[85,86,87,88,89,96,104]),
 (un (.pick 114 (.t 97) (.c (.bool true)) (.t 113)),[85,86,87,88,89,96,104])]
 [un (.iad 115 1 (.t 88) (.t 89)),
 un (.st 1 (.t 115) (.t 114))]))))
 (.drop [84,12,85,86,87,88,89,90,91,92,93,94,95,96,97,98,99,100,101,102,103,104,105,106,107,108,109,110,111,112,113,114,115] (.reg [un (.bin 116 .add (.t 82) (.c (.int .i64 1))),
 un (.asg 82 (.t 116))])))))
def Sa:ACode:=
 (.seq (.reg [un (.bin 78 .lss (.t 77) (.t 76))])
 (.seq (.cond (.t 78) .skip
 (.exit 6))
 (.seq (.block 7 (.seq (.reg [un (.mov 79 (.t 77)),
 un (.asg 11 (.t 79))])
 (.drop [79] (.seq (.reg [un (.mov 80 (.t 6)),
 un (.len 81 (.t 80)),
 un (.mov 82 (.c (.int .i64 0)))])
 (.drop [80] (.block 8 (.loop R6)))))))
 (.drop [79,11,80,81,82,83,84,12,85,86,87,88,89,90,91,92,93,94,95,96,97,98,99,100,101,102,103,104,105,106,107,108,109,110,111,112,113,114,115,116] (.reg [un (.bin 117 .add (.t 77) (.c (.int .i64 1))),
 un (.asg 77 (.t 117))])))))
def R7:ACode:=
 (.seq (.reg [un (.bin 73 .lss (.t 72) (.t 71))])
 (.seq (.cond (.t 73) .skip
 (.exit 4))
 (.seq (.block 5 (.seq (.reg [un (.mov 74 (.t 72)),
 un (.asg 10 (.t 74))])
 (.drop [74] (.seq (.reg [un (.mov 75 (.t 6)),
 un (.len 76 (.t 75)),
 un (.mov 77 (.c (.int .i64 0)))])
 (.drop [75] (.block 6 (.loop Sa)))))))
 (.drop [74,10,75,76,77,78,79,11,80,81,82,83,84,12,85,86,87,88,89,90,91,92,93,94,95,96,97,98,99,100,101,102,103,104,105,106,107,108,109,110,111,112,113,114,115,116,117] (.reg [un (.bin 118 .add (.t 72) (.c (.int .i64 1))),
 un (.asg 72 (.t 118))])))))
def Aic:ACode:=
 (.seq (.reg [un (.alc 4 (.agg [.nilsl 1])),
 un (.asg 5 (.c (.bool false)))])
 (.seq (.cut Ab2)
 (.drop [13,14,15,16,17,18,19,20,21,22,23,24] (.seq (.reg [un (.mov 25 (.t 0)),
 un (.call 26 J2 [((.t 25),false)]),
 un (.asg 6 (.t 26))])
 (.drop [25,26] (.seq (.seq (.reg [un (.mov 27 (.t 6)),
 un (.len 28 (.t 27)),
 un (.mov 29 (.c (.int .i64 0)))])
 (.drop [27] (.block 0 (.loop R4))))
 (.drop [27,28,29,30,31,7,32,33,34,35,36,37,38] (.seq (.seq (.reg [un (.mov 39 (.t 1)),
 un (.len 40 (.t 39)),
 un (.mov 41 (.c (.int .i64 0)))])
 (.block 2 (.loop R0)))
 (.drop [39,40,41,42,43,44,9,45,46,47,48,49,50,51,52,53,54,55,56,57,58,59,60,61,62,63,64,65,66,67,68,69] (.seq (.seq (.reg [un (.mov 70 (.t 6)),
 un (.len 71 (.t 70)),
 un (.mov 72 (.c (.int .i64 0)))])
 (.drop [70] (.block 4 (.loop R7))))
 (.drop [70,71,72,73,74,10,75,76,77,78,79,11,80,81,82,83,84,12,85,86,87,88,89,90,91,92,93,94,95,96,97,98,99,100,101,102,103,104,105,106,107,108,109,110,111,112,113,114,115,116,117,118] (.seq (.seq (.reg [un (.mov 119 (.t 6)),
 un (.call 120 Ia [((.t 119),false)]),
 un (.un 121 .not (.t 120))])
 (.drop [119,120] (.cond (.t 121) (.seq (.reg [un (.bld 122 [.nilsl 1] []),
 un (.st 1 (.t 4) (.t 122)),
 un (.asg 5 (.c (.bool false)))])
 (.drop [122] .ret))
 .skip)))
 (.drop [119,120,121,122] (.seq (.reg [un (.mov 123 (.t 6)),
 un (.call 124 Jq [((.t 123),false)]),
 un (.st 1 (.t 4) (.t 124)),
 un (.asg 5 (.c (.bool true)))])
 (.drop [123,124] .ret)))))))))))))))
abbrev Aiy:List RS:=[.c 4 1 true,.t 5]
theorem Ai9:A7 Try.prog Pz 125 Aic Aiy=true:=by kernel_rfl
def Akc:ACode:=
 (.seq (.reg [un (.box 1 (.t 0)),
 un (.alc 2 (.agg [.nilsl 1])),
 un (.asg 3 (.c (.bool false)))])
 (.seq (.reg [un (.ld 7 1 true (.t 1)),
 un (.call 8 Co [((.t 7),false)]),
 un (.asg 6 (.t 8)),
 un (.ext 9 (.t 6) 0),
 un (.ext 10 (.t 6) 1),
 un (.asg 4 (.t 9)),
 un (.asg 5 (.t 10))])
 (.drop [7,8,6,9,10] (.seq (.seq (.reg [un (.mov 11 (.t 5)),
 un (.un 12 .not (.t 11))])
 (.drop [11] (.cond (.t 12) (.seq (.reg [un (.bld 13 [.nilsl 1] []),
 un (.st 1 (.t 2) (.t 13)),
 un (.asg 3 (.c (.bool false)))])
 (.drop [13] .ret))
 .skip)))
 (.drop [11,12,13] (.seq (.reg [un (.mov 14 (.t 4)),
 un (.call 15 Oo [((.t 14),false)]),
 un (.call 16 Jq [((.t 15),false)]),
 un (.st 1 (.t 2) (.t 16)),
 un (.asg 3 (.c (.bool true)))])
 (.drop [14,15,16] .ret)))))))
abbrev Ake:List RS:=[.c 2 1 true,.t 3]
theorem Ajt:A7 Try.prog L1 17 Akc Ake=true:=by kernel_rfl
def Vi:ACode:=
 (.seq (.reg [un (.ld 35 1 false (.t 7)),
 un (.ld 36 1 false (.t 9)),
 un (.bin 37 .shr (.t 35) (.t 36)),
 un (.bin 38 .and (.t 37) (.c (.int .i64 1))),
 un (.bin 39 .eql (.t 38) (.c (.int .i64 1))),
 un (.asg 40 (.t 39)),
 ⟨some (40,false),.mov 41 (.t 8)⟩,
 ⟨some (40,false),.bin 42 .eql (.t 41) (.c (.int .i64 0))⟩,
 un (.pick 43 (.t 40) (.c (.bool true)) (.t 42))])
 (.drop [35,36,37,38,39,40,41,42] (.cond (.t 43) (.exit 3)
 .skip)))
def Md:ACode:=
 (.seq (.reg [un (.bin 33 .lss (.t 32) (.t 31))])
 (.seq (.cond (.t 33) .skip
 (.exit 2))
 (.seq (.block 3 (.seq (.reg [un (.mov 34 (.t 32)),
 un (.alc 9 (.int .i64 0)),
 un (.st 1 (.t 9) (.t 34))])
 (.drop [34] (.seq (.cut Vi)
 (.drop [35,36,37,38,39,40,41,42,43] (.seq (.reg [un (.ld 44 1 false (.t 4)),
 un (.mkf 45 Ga [(.t 4),(.t 9),(.t 7)]),
 un (.call 46 Id [((.t 44),false),((.t 45),false)])])
 (.drop [44,45] (.cond (.t 46) (.dreg [(un (.mov 47 (.t 6)),[]),
 (un (.ld 48 1 false (.t 7)),[47]),
 (un (.ld 49 1 false (.t 9)),[47,48]),
 (un (.bin 50 .shl (.c (.int .i64 1)) (.t 49)),[47,48]),
 (un (.bin 51 .or (.t 48) (.t 50)),[47]),
 (un (.iad 52 1 (.t 47) (.t 51)),[]),
 (un (.ld 53 1 false (.t 52)),[]),
 (un (.mov 54 (.t 6)),[47,48,49,50,51,52,53]),
 (un (.ld 55 1 false (.t 7)),[47,48,49,50,51,52,53,54]),
 (un (.iad 56 1 (.t 54) (.t 55)),[47,48,49,50,51,52,53]),
 (un (.ld 57 1 false (.t 56)),[47,48,49,50,51,52,53])]
 [un (.bin 58 .add (.t 53) (.t 57)),
 un (.iad 59 1 (.t 47) (.t 51)),
 un (.st 1 (.t 59) (.t 58))])
 .skip))))))))
 (.drop [34,9,35,36,37,38,39,40,41,42,43,44,45,46,47,48,49,50,51,52,53,54,55,56,57,58,59] (.reg [un (.bin 60 .add (.t 32) (.c (.int .i64 1))),
 un (.asg 32 (.t 60))])))))
def L9:ACode:=
 (.seq (.reg [un (.bin 26 .lss (.t 25) (.t 24))])
 (.seq (.cond (.t 26) .skip
 (.exit 0))
 (.seq (.block 1 (.seq (.reg [un (.mov 27 (.t 25)),
 un (.iad 28 1 (.t 23) (.t 25)),
 un (.ld 29 1 false (.t 28)),
 un (.alc 7 (.int .i64 0)),
 un (.st 1 (.t 7) (.t 27)),
 un (.asg 8 (.t 29))])
 (.drop [27,28,29] (.seq (.reg [un (.ld 30 1 false (.t 4)),
 un (.len 31 (.t 30)),
 un (.mov 32 (.c (.int .i64 0)))])
 (.drop [30] (.block 2 (.loop Md)))))))
 (.drop [27,28,29,7,8,30,31,32,33,34,9,35,36,37,38,39,40,41,42,43,44,45,46,47,48,49,50,51,52,53,54,55,56,57,58,59,60] (.reg [un (.bin 61 .add (.t 25) (.c (.int .i64 1))),
 un (.asg 25 (.t 61))])))))
def Z7:ACode:=
 (.seq (.reg [un (.box 1 (.t 0)),
 un (.asg 2 (.c (.int .i64 0))),
 un (.asg 3 (.c (.bool false)))])
 (.seq (.reg [un (.ld 11 1 true (.t 1)),
 un (.call 12 Co [((.t 11),false)]),
 un (.asg 10 (.t 12)),
 un (.ext 13 (.t 10) 0),
 un (.ext 14 (.t 10) 1),
 un (.alc 4 (.nilsl 1)),
 un (.st 1 (.t 4) (.t 13)),
 un (.asg 5 (.t 14))])
 (.drop [11,12,10,13,14] (.seq (.seq (.reg [un (.mov 15 (.t 5)),
 un (.un 16 .not (.t 15))])
 (.drop [15] (.cond (.t 16) (.seq (.reg [un (.asg 2 (.c (.int .i64 0))),
 un (.asg 3 (.c (.bool false)))])
 .ret)
 .skip)))
 (.drop [15,16] (.seq (.reg [un (.ld 17 1 false (.t 4)),
 un (.len 18 (.t 17)),
 un (.bin 19 .shl (.c (.int .i64 1)) (.t 18)),
 un (.mk 20 1 (.int .i64 0) (.t 19)),
 un (.asg 6 (.t 20))])
 (.drop [17,18,19,20] (.seq (.reg [un (.mov 21 (.t 6)),
 un (.iad 22 1 (.t 21) (.c (.int .i64 0))),
 un (.st 1 (.t 22) (.c (.int .i64 1)))])
 (.drop [21,22] (.seq (.seq (.reg [un (.mov 23 (.t 6)),
 un (.len 24 (.t 23)),
 un (.mov 25 (.c (.int .i64 0)))])
 (.block 0 (.loop L9)))
 (.drop [23,24,25,26,27,28,29,7,8,30,31,32,33,34,9,35,36,37,38,39,40,41,42,43,44,45,46,47,48,49,50,51,52,53,54,55,56,57,58,59,60,61] (.seq (.reg [un (.mov 62 (.t 6)),
 un (.mov 63 (.t 6)),
 un (.len 64 (.t 63)),
 un (.bin 65 .sub (.t 64) (.c (.int .i64 1))),
 un (.iad 66 1 (.t 62) (.t 65)),
 un (.ld 67 1 false (.t 66)),
 un (.asg 2 (.t 67)),
 un (.asg 3 (.c (.bool true)))])
 (.drop [62,63,64,65,66,67] .ret)))))))))))))
abbrev Aab:List RS:=[.t 2,.t 3]
theorem Aaw:A7 Try.prog G5 68 Z7 Aab=true:=by kernel_rfl
def V7:ACode:=
 (.seq (.seq (.reg [un (.mov 13 (.t 4)),
 un (.mov 14 (.t 3)),
 un (.bin 15 .lss (.t 13) (.t 14))])
 (.drop [13,14] (.cond (.t 15) .skip
 (.exit 0))))
 (.drop [13,14,15] (.seq (.block 1 (.seq (.reg [un (.fadr 18 0 (.t 1)),
 un (.ld 19 1 false (.t 18)),
 un (.mov 20 (.t 4)),
 un (.iad 21 1 (.t 19) (.t 20)),
 un (.ld 22 1 false (.t 21)),
 un (.mov 23 (.t 3)),
 un (.bin 24 .sub (.t 23) (.c (.int .i64 1))),
 un (.call 25 Sl [((.t 22),false),((.c (.int .i64 0)),false),((.t 24),false)]),
 un (.un 26 .not (.t 25)),
 un (.asg 27 (.t 26)),
 ⟨some (27,false),.fadr 28 0 (.t 1)⟩,
 ⟨some (27,false),.ld 29 1 false (.t 28)⟩,
 ⟨some (27,false),.mov 30 (.t 4)⟩,
 ⟨some (27,false),.iad 31 1 (.t 29) (.t 30)⟩,
 ⟨some (27,false),.ld 32 1 false (.t 31)⟩,
 ⟨some (27,false),.mov 33 (.t 4)⟩,
 ⟨some (27,false),.call 34 L4 [((.t 32),false),((.t 33),false)]⟩,
 ⟨some (27,false),.un 35 .not (.t 34)⟩,
 un (.pick 36 (.t 27) (.c (.bool true)) (.t 35))])
 (.drop [18,19,20,21,22,23,24,25,26,27,28,29,30,31,32,33,34,35] (.cond (.t 36) (.seq (.reg [un (.asg 2 (.c (.bool false)))])
 .ret)
 .skip))))
 (.drop [18,19,20,21,22,23,24,25,26,27,28,29,30,31,32,33,34,35,36] (.reg [un (.mov 16 (.t 4)),
 un (.bin 17 .add (.t 16) (.c (.int .i64 1))),
 un (.asg 4 (.t 17))])))))
def W5:ACode:=
 (.seq (.seq (.reg [un (.mov 42 (.t 6)),
 un (.fadr 43 0 (.t 1)),
 un (.ld 44 1 false (.t 43)),
 un (.mov 45 (.t 5)),
 un (.iad 46 1 (.t 44) (.t 45)),
 un (.ld 47 1 false (.t 46)),
 un (.len 48 (.t 47)),
 un (.bin 49 .lss (.t 42) (.t 48))])
 (.drop [42,43,44,45,46,47,48] (.cond (.t 49) .skip
 (.exit 4))))
 (.drop [42,43,44,45,46,47,48,49] (.seq (.block 5 (.seq (.reg [un (.fadr 52 0 (.t 1)),
 un (.ld 53 1 false (.t 52)),
 un (.mov 54 (.t 5)),
 un (.iad 55 1 (.t 53) (.t 54)),
 un (.ld 56 1 false (.t 55)),
 un (.mov 57 (.t 6)),
 un (.iad 58 1 (.t 56) (.t 57)),
 un (.ld 59 1 false (.t 58)),
 un (.asg 7 (.t 59))])
 (.drop [52,53,54,55,56,57,58,59] (.seq (.dreg [(un (.mov 60 (.t 7)),[]),
 (un (.mov 61 (.t 5)),[60]),
 (un (.bin 62 .neq (.t 60) (.t 61)),[]),
 (un (.asg 63 (.t 62)),[]),
 (⟨some (63,true),.fadr 64 0 (.t 1)⟩,[62]),
 (⟨some (63,true),.ld 65 1 false (.t 64)⟩,[62]),
 (⟨some (63,true),.mov 66 (.t 7)⟩,[64,65,62]),
 (⟨some (63,true),.iad 67 1 (.t 65) (.t 66)⟩,[62]),
 (⟨some (63,true),.ld 68 1 false (.t 67)⟩,[62]),
 (⟨some (63,true),.mov 69 (.t 5)⟩,[64,65,66,67,68,62]),
 (⟨some (63,true),.call 70 L4 [((.t 68),false),((.t 69),false)]⟩,[62]),
 (un (.pick 71 (.t 63) (.t 70) (.c (.bool false))),[62]),
 (un (.asg 72 (.t 71)),[62]),
 (⟨some (72,false),.fadr 73 0 (.t 1)⟩,[62,71]),
 (⟨some (72,false),.ld 74 1 false (.t 73)⟩,[62,71]),
 (⟨some (72,false),.mov 75 (.t 7)⟩,[73,74,62,71]),
 (⟨some (72,false),.iad 76 1 (.t 74) (.t 75)⟩,[62,71]),
 (⟨some (72,false),.ld 77 1 false (.t 76)⟩,[62,71]),
 (⟨some (72,false),.fadr 78 0 (.t 1)⟩,[73,74,75,76,77,62,71]),
 (⟨some (72,false),.ld 79 1 false (.t 78)⟩,[73,74,75,76,77,62,71]),
 (⟨some (72,false),.mov 80 (.t 5)⟩,[73,74,75,76,77,78,79,62,71]),
 (⟨some (72,false),.iad 81 1 (.t 79) (.t 80)⟩,[73,74,75,76,77,62,71]),
 (⟨some (72,false),.ld 82 1 false (.t 81)⟩,[73,74,75,76,77,62,71])]
 [⟨some (72,false),.call 83 Sq [((.t 77),false),((.t 82),false)]⟩,
 ⟨some (72,false),.un 84 .not (.t 83)⟩,
 un (.pick 85 (.t 72) (.c (.bool true)) (.t 84))])
 (.drop [60,61,62,63,64,65,66,67,68,69,70,71,72,73,74,75,76,77,78,79,80,81,82,83,84] (.cond (.t 85) (.seq (.reg [un (.asg 2 (.c (.bool false)))])
 .ret)
 .skip))))))
 (.drop [52,53,54,55,56,57,58,59,7,60,61,62,63,64,65,66,67,68,69,70,71,72,73,74,75,76,77,78,79,80,81,82,83,84,85] (.reg [un (.mov 50 (.t 6)),
 un (.bin 51 .add (.t 50) (.c (.int .i64 1))),
 un (.asg 6 (.t 51))])))))
def W2:ACode:=
 (.seq (.seq (.reg [un (.mov 37 (.t 5)),
 un (.mov 38 (.t 3)),
 un (.bin 39 .lss (.t 37) (.t 38))])
 (.drop [37,38] (.cond (.t 39) .skip
 (.exit 2))))
 (.drop [37,38,39] (.seq (.block 3 (.seq (.reg [un (.asg 6 (.c (.int .i64 0)))])
 (.block 4 (.loop W5))))
 (.drop [6,42,43,44,45,46,47,48,49,52,53,54,55,56,57,58,59,7,60,61,62,63,64,65,66,67,68,69,70,71,72,73,74,75,76,77,78,79,80,81,82,83,84,85,50,51] (.reg [un (.mov 40 (.t 5)),
 un (.bin 41 .add (.t 40) (.c (.int .i64 1))),
 un (.asg 5 (.t 41))])))))
def Aou:ACode:=
 (.seq (.reg [un (.box 1 (.t 0)),
 un (.asg 2 (.c (.bool false)))])
 (.seq (.reg [un (.fadr 8 0 (.t 1)),
 un (.ld 9 1 false (.t 8)),
 un (.len 10 (.t 9)),
 un (.asg 3 (.t 10))])
 (.drop [8,9,10] (.seq (.seq (.reg [un (.mov 11 (.t 3)),
 un (.bin 12 .gtr (.t 11) (.c (.int .i64 10)))])
 (.drop [11] (.cond (.t 12) (.seq (.reg [un (.asg 2 (.c (.bool false)))])
 .ret)
 .skip)))
 (.drop [11,12] (.seq (.seq (.reg [un (.asg 4 (.c (.int .i64 0)))])
 (.block 0 (.loop V7)))
 (.drop [4,13,14,15,18,19,20,21,22,23,24,25,26,27,28,29,30,31,32,33,34,35,36,16,17] (.seq (.seq (.reg [un (.asg 5 (.c (.int .i64 0)))])
 (.block 2 (.loop W2)))
 (.drop [5,37,38,39,6,42,43,44,45,46,47,48,49,52,53,54,55,56,57,58,59,7,60,61,62,63,64,65,66,67,68,69,70,71,72,73,74,75,76,77,78,79,80,81,82,83,84,85,50,51,40,41] (.seq (.reg [un (.asg 2 (.c (.bool true)))])
 .ret))))))))))
abbrev Ana:List RS:=[.t 2]
theorem Apt:A7 Try.prog Iw 86 Aou Ana=true:=by kernel_rfl
def Ams:ACode:=
 (.seq (.reg [un (.box 3 (.t 0)),
 un (.asg 6 (.c (.bool false)))])
 (.seq (.reg [un (.mov 7 (.t 1)),
 un (.mov 8 (.t 2)),
 un (.bin 9 .neq (.t 7) (.t 8)),
 un (.asg 10 (.t 9)),
 ⟨some (10,true),.ld 11 1 true (.t 3)⟩,
 ⟨some (10,true),.mov 12 (.t 1)⟩,
 ⟨some (10,true),.mov 13 (.t 2)⟩,
 ⟨some (10,true),.call 14 J9 [((.t 11),false),((.t 12),false),((.t 13),false)]⟩,
 un (.pick 15 (.t 10) (.t 14) (.c (.bool false))),
 un (.asg 6 (.t 15))])
 (.drop [7,8,9,10,11,12,13,14,15] .ret)))
abbrev Aod:List RS:=[.t 6]
theorem Apq:A7 Try.prog K0 16 Ams Aod=true:=by kernel_rfl
def Aeb:ACode:=
 (.seq (.reg [un (.box 2 (.t 0)),
 un (.box 3 (.t 1)),
 un (.asg 4 (.c (.int .i64 0)))])
 (.seq (.reg [un (.ld 5 1 false (.t 2)),
 un (.len 6 (.t 5)),
 un (.mkf 7 Hw [(.t 3),(.t 2)]),
 un (.call 8 Uq [((.t 6),false),((.t 7),false)]),
 un (.asg 4 (.t 8))])
 (.drop [5,6,7,8] .ret)))
abbrev Ad4:List RS:=[.t 4]
theorem Ad6:A7 Try.prog In 9 Aeb Ad4=true:=by kernel_rfl
end Go.Proofs.Ytpfikenknmlajaa.Ax
