/-
  The small code of the functions, written by program; that the program's code is this one, the kernel looks at.
-/
import Derived.Test.YtmkgjnphianalaaGreatAx3
import Derived.Test.YtmkgjnphianalaaGreatProg
import Derived.KernelRfl
import Derived.Test.YtmkgjnphianalaaGreatNum
namespace Go.Proofs.YtmkgjnphianalaaGreat.Ax
open Go
set_option maxRecDepth 100000
def Sm:ACode:=
 (.seq (.reg [un (.bin 22 .lss (.t 21) (.t 20))])
 (.seq (.cond (.t 22) .skip
 (.exit 4))
 (.seq (.block 5 (.seq (.reg [un (.mov 23 (.t 21)),
 un (.iad 24 1 (.t 19) (.t 21)),
 un (.ld 25 1 false (.t 24)),
 un (.asg 8 (.t 23)),
 un (.asg 9 (.t 25))])
 (.drop [23,24,25] (.seq (.reg [un (.mov 26 (.t 1)),
 un (.mov 27 (.t 9)),
 un (.iad 28 1 (.t 26) (.t 27)),
 un (.ld 29 1 false (.t 28)),
 un (.un 30 .not (.t 29)),
 un (.asg 31 (.t 30)),
 ⟨some (31,true),.mov 32 (.t 8)⟩,
 ⟨some (31,true),.fadr 33 0 (.t 7)⟩,
 ⟨some (31,true),.ld 34 1 false (.t 33)⟩,
 ⟨some (31,true),.fadr 35 0 (.t 2)⟩,
 ⟨some (31,true),.ld 36 1 false (.t 35)⟩,
 ⟨some (31,true),.mov 37 (.t 1)⟩,
 ⟨some (31,true),.call 38 Aax [((.t 32),false),((.t 34),false),((.t 36),false),((.t 37),false)]⟩,
 un (.pick 39 (.t 31) (.t 38) (.c (.bool false)))])
 (.drop [26,27,28,29,30,31,32,33,34,35,36,37,38] (.cond (.t 39) (.seq (.reg [un (.mov 40 (.t 1)),
 un (.mov 41 (.t 9)),
 un (.iad 42 1 (.t 40) (.t 41)),
 un (.st 1 (.t 42) (.c (.bool true)))])
 (.drop [40,41,42] (.reg [un (.asg 5 (.c (.bool true)))])))
 .skip))))))
 (.drop [23,24,25,8,9,26,27,28,29,30,31,32,33,34,35,36,37,38,39,40,41,42] (.reg [un (.bin 43 .add (.t 21) (.c (.int .i64 1))),
 un (.asg 21 (.t 43))])))))
def Sg:ACode:=
 (.seq (.reg [un (.bin 15 .lss (.t 14) (.t 13))])
 (.seq (.cond (.t 15) .skip
 (.exit 2))
 (.seq (.block 3 (.seq (.reg [un (.iad 16 2 (.t 12) (.t 14)),
 un (.ld 17 2 true (.t 16)),
 un (.alc 7 (.agg [.int .i64 0,.nilsl 1])),
 un (.st 2 (.t 7) (.t 17))])
 (.drop [16,17] (.seq (.reg [un (.fadr 18 1 (.t 7)),
 un (.ld 19 1 false (.t 18)),
 un (.len 20 (.t 19)),
 un (.mov 21 (.c (.int .i64 0)))])
 (.drop [18] (.block 4 (.loop Sm)))))))
 (.drop [16,17,7,18,19,20,21,22,23,24,25,8,9,26,27,28,29,30,31,32,33,34,35,36,37,38,39,40,41,42,43] (.reg [un (.bin 44 .add (.t 14) (.c (.int .i64 1))),
 un (.asg 14 (.t 44))])))))
def R8:ACode:=
 (.seq (.seq (.reg [un (.mov 10 (.t 5))])
 (.cond (.t 10) .skip
 (.exit 0)))
 (.drop [10] (.block 1 (.seq (.reg [un (.asg 5 (.c (.bool false)))])
 (.seq (.reg [un (.fadr 11 1 (.t 2)),
 un (.ld 12 1 false (.t 11)),
 un (.len 13 (.t 12)),
 un (.mov 14 (.c (.int .i64 0)))])
 (.drop [11] (.block 2 (.loop Sg))))))))
def Ah2:ACode:=
 (.seq (.reg [un (.box 2 (.t 0)),
 un (.asg 4 (.c (.nilsl 1)))])
 (.seq (.seq (.reg [un (.asg 5 (.c (.bool true)))])
 (.block 0 (.loop R8)))
 (.drop [5,10,11,12,13,14,15,16,17,7,18,19,20,21,22,23,24,25,8,9,26,27,28,29,30,31,32,33,34,35,36,37,38,39,40,41,42,43,44] (.seq (.reg [un (.mov 45 (.t 1)),
 un (.asg 4 (.t 45))])
 (.drop [45] .ret)))))
abbrev Ahv:List RS:=[.t 4]
theorem Ahz:Az Tryz.prog Om 46 Ah2 Ahv=true:=by kernel_rfl
def P0:ACode:=
 (.seq (.seq (.reg [un (.mov 10 (.t 5)),
 un (.mov 11 (.t 0)),
 un (.bin 12 .lss (.t 10) (.t 11))])
 (.drop [10,11] (.cond (.t 12) .skip
 (.exit 0))))
 (.drop [10,11,12] (.seq (.block 1 (.seq (.dreg [(un (.mov 15 (.t 1)),[]),
 (un (.mov 16 (.t 5)),[15]),
 (un (.iad 17 1 (.t 15) (.t 16)),[]),
 (un (.ld 18 1 false (.t 17)),[]),
 (un (.mov 19 (.t 5)),[15,16,17,18]),
 (un (.call 20 K8 [((.t 18),false),((.c (.int .i64 0)),false),((.t 19),false)]),[]),
 (un (.un 21 .not (.t 20)),[]),
 (un (.asg 22 (.t 21)),[]),
 (⟨some (22,false),.mov 23 (.t 1)⟩,[21]),
 (⟨some (22,false),.mov 24 (.t 1)⟩,[23,21]),
 (⟨some (22,false),.mov 25 (.t 5)⟩,[23,24,21]),
 (⟨some (22,false),.iad 26 1 (.t 24) (.t 25)⟩,[23,21]),
 (⟨some (22,false),.ld 27 1 false (.t 26)⟩,[23,21]),
 (⟨some (22,false),.iad 28 1 (.t 23) (.t 27)⟩,[21]),
 (⟨some (22,false),.ld 29 1 false (.t 28)⟩,[21]),
 (⟨some (22,false),.mov 30 (.t 1)⟩,[23,24,25,26,27,28,29,21]),
 (⟨some (22,false),.mov 31 (.t 5)⟩,[23,24,25,26,27,28,29,30,21]),
 (⟨some (22,false),.iad 32 1 (.t 30) (.t 31)⟩,[23,24,25,26,27,28,29,21]),
 (⟨some (22,false),.ld 33 1 false (.t 32)⟩,[23,24,25,26,27,28,29,21])]
 [⟨some (22,false),.bin 34 .neq (.t 29) (.t 33)⟩,
 un (.pick 35 (.t 22) (.c (.bool true)) (.t 34))])
 (.drop [15,16,17,18,19,20,21,22,23,24,25,26,27,28,29,30,31,32,33,34] (.cond (.t 35) (.seq (.reg [un (.asg 4 (.c (.bool false)))])
 .ret)
 .skip))))
 (.drop [15,16,17,18,19,20,21,22,23,24,25,26,27,28,29,30,31,32,33,34,35] (.reg [un (.mov 13 (.t 5)),
 un (.bin 14 .add (.t 13) (.c (.int .i64 1))),
 un (.asg 5 (.t 14))])))))
def Agb:ACode:=
 (.seq (.reg [un (.asg 4 (.c (.bool false)))])
 (.seq (.seq (.reg [un (.mov 6 (.t 1)),
 un (.len 7 (.t 6)),
 un (.mov 8 (.t 0)),
 un (.bin 9 .neq (.t 7) (.t 8))])
 (.drop [6,7,8] (.cond (.t 9) (.seq (.reg [un (.asg 4 (.c (.bool false)))])
 .ret)
 .skip)))
 (.drop [6,7,8,9] (.seq (.seq (.reg [un (.asg 5 (.c (.int .i64 0)))])
 (.block 0 (.loop P0)))
 (.drop [5,10,11,12,15,16,17,18,19,20,21,22,23,24,25,26,27,28,29,30,31,32,33,34,35,13,14] (.seq (.reg [un (.asg 4 (.c (.bool true)))])
 .ret))))))
abbrev Af3:List RS:=[.t 4]
theorem Agl:Az Tryz.prog M8 36 Agb Af3=true:=by kernel_rfl
def Z8:ACode:=
 (.seq (.seq (.reg [un (.mov 42 (.t 10)),
 un (.mov 43 (.t 8)),
 un (.len 44 (.t 43)),
 un (.bin 45 .lss (.t 42) (.t 44))])
 (.drop [42,43,44] (.cond (.t 45) .skip
 (.exit 4))))
 (.drop [42,43,44,45] (.seq (.block 5 (.reg [un (.mov 48 (.t 9)),
 un (.asg 49 (.t 48)),
 ⟨some (49,true),.mov 50 (.t 1)⟩,
 ⟨some (49,true),.mov 51 (.t 8)⟩,
 ⟨some (49,true),.mov 52 (.t 10)⟩,
 ⟨some (49,true),.iad 53 1 (.t 51) (.t 52)⟩,
 ⟨some (49,true),.ld 54 1 false (.t 53)⟩,
 ⟨some (49,true),.iad 55 1 (.t 50) (.t 54)⟩,
 ⟨some (49,true),.ld 56 1 false (.t 55)⟩,
 un (.pick 57 (.t 49) (.t 56) (.c (.bool false))),
 un (.asg 9 (.t 57))]))
 (.drop [48,49,50,51,52,53,54,55,56,57] (.reg [un (.mov 46 (.t 10)),
 un (.bin 47 .add (.t 46) (.c (.int .i64 1))),
 un (.asg 10 (.t 47))])))))
def Zf:ACode:=
 (.seq (.seq (.reg [un (.mov 21 (.t 7)),
 un (.fadr 22 1 (.t 2)),
 un (.ld 23 1 false (.t 22)),
 un (.mov 24 (.t 6)),
 un (.iad 25 2 (.t 23) (.t 24)),
 un (.fadr 26 1 (.t 25)),
 un (.ld 27 1 false (.t 26)),
 un (.len 28 (.t 27)),
 un (.bin 29 .lss (.t 21) (.t 28))])
 (.drop [21,22,23,24,25,26,27,28] (.cond (.t 29) .skip
 (.exit 2))))
 (.drop [21,22,23,24,25,26,27,28,29] (.seq (.block 3 (.seq (.dreg [(un (.fadr 32 0 (.t 2)),[]),
 (un (.ld 33 1 false (.t 32)),[]),
 (un (.fadr 34 1 (.t 2)),[32,33]),
 (un (.ld 35 1 false (.t 34)),[32,33]),
 (un (.mov 36 (.t 6)),[32,33,34,35]),
 (un (.iad 37 2 (.t 35) (.t 36)),[32,33]),
 (un (.fadr 38 0 (.t 37)),[32,33]),
 (un (.ld 39 1 false (.t 38)),[32,33]),
 (un (.mov 40 (.t 7)),[32,33,34,35,36,37,38,39])]
 [un (.call 41 Rf [((.t 33),false),((.t 39),false),((.t 40),false)]),
 un (.asg 8 (.t 41))])
 (.drop [32,33,34,35,36,37,38,39,40,41] (.seq (.reg [un (.asg 9 (.c (.bool true)))])
 (.seq (.seq (.reg [un (.asg 10 (.c (.int .i64 0)))])
 (.block 4 (.loop Z8)))
 (.drop [10,42,43,44,45,48,49,50,51,52,53,54,55,56,57,46,47] (.seq (.reg [un (.mov 58 (.t 9))])
 (.cond (.t 58) (.reg [un (.mov 59 (.t 5)),
 un (.fadr 60 1 (.t 2)),
 un (.ld 61 1 false (.t 60)),
 un (.mov 62 (.t 6)),
 un (.iad 63 2 (.t 61) (.t 62)),
 un (.fadr 64 1 (.t 63)),
 un (.ld 65 1 false (.t 64)),
 un (.mov 66 (.t 7)),
 un (.iad 67 1 (.t 65) (.t 66)),
 un (.ld 68 1 false (.t 67)),
 un (.iad 69 1 (.t 59) (.t 68)),
 un (.st 1 (.t 69) (.c (.bool true)))])
 .skip))))))))
 (.drop [32,33,34,35,36,37,38,39,40,41,8,9,10,42,43,44,45,48,49,50,51,52,53,54,55,56,57,46,47,58,59,60,61,62,63,64,65,66,67,68,69] (.reg [un (.mov 30 (.t 7)),
 un (.bin 31 .add (.t 30) (.c (.int .i64 1))),
 un (.asg 7 (.t 31))])))))
def Yx:ACode:=
 (.seq (.seq (.reg [un (.mov 14 (.t 6)),
 un (.fadr 15 1 (.t 2)),
 un (.ld 16 1 false (.t 15)),
 un (.len 17 (.t 16)),
 un (.bin 18 .lss (.t 14) (.t 17))])
 (.drop [14,15,16,17] (.cond (.t 18) .skip
 (.exit 0))))
 (.drop [14,15,16,17,18] (.seq (.block 1 (.seq (.reg [un (.asg 7 (.c (.int .i64 0)))])
 (.block 2 (.loop Zf))))
 (.drop [7,21,22,23,24,25,26,27,28,29,32,33,34,35,36,37,38,39,40,41,8,9,10,42,43,44,45,48,49,50,51,52,53,54,55,56,57,46,47,58,59,60,61,62,63,64,65,66,67,68,69,30,31] (.reg [un (.mov 19 (.t 6)),
 un (.bin 20 .add (.t 19) (.c (.int .i64 1))),
 un (.asg 6 (.t 20))])))))
def Ato:ACode:=
 (.seq (.reg [un (.box 2 (.t 0)),
 un (.asg 4 (.c (.nilsl 1)))])
 (.seq (.reg [un (.bsl 11 1 []),
 un (.mov 12 (.t 1)),
 un (.app 13 1 (.t 11) (.t 12)),
 un (.asg 5 (.t 13))])
 (.drop [11,12,13] (.seq (.seq (.reg [un (.asg 6 (.c (.int .i64 0)))])
 (.block 0 (.loop Yx)))
 (.drop [6,14,15,16,17,18,7,21,22,23,24,25,26,27,28,29,32,33,34,35,36,37,38,39,40,41,8,9,10,42,43,44,45,48,49,50,51,52,53,54,55,56,57,46,47,58,59,60,61,62,63,64,65,66,67,68,69,30,31,19,20] (.seq (.reg [un (.mov 70 (.t 5)),
 un (.asg 4 (.t 70))])
 (.drop [70] .ret)))))))
abbrev Atf:List RS:=[.t 4]
theorem Auf:Az Tryz.prog Ye 71 Ato Atf=true:=by kernel_rfl
def V9:ACode:=
 (.seq (.reg [un (.bin 26 .lss (.t 25) (.t 24))])
 (.seq (.cond (.t 26) .skip
 (.exit 4))
 (.seq (.block 5 (.seq (.reg [un (.mov 27 (.t 25)),
 un (.iad 28 1 (.t 23) (.t 25)),
 un (.ld 29 1 false (.t 28)),
 un (.asg 10 (.t 27)),
 un (.asg 11 (.t 29))])
 (.drop [27,28,29] (.seq (.seq (.reg [un (.mov 30 (.t 10)),
 un (.fadr 31 0 (.t 9)),
 un (.ld 32 1 false (.t 31)),
 un (.fadr 33 0 (.t 3)),
 un (.ld 34 1 false (.t 33)),
 un (.mov 35 (.t 2)),
 un (.call 36 Tf [((.t 30),false),((.t 32),false),((.t 34),false),((.t 35),false)]),
 un (.un 37 .not (.t 36))])
 (.drop [30,31,32,33,34,35,36] (.cond (.t 37) (.exit 5)
 .skip)))
 (.drop [30,31,32,33,34,35,36,37] (.seq (.dreg [(un (.fadr 38 1 (.t 4)),[]),
 (un (.ld 39 1 false (.t 38)),[]),
 (un (.mov 40 (.t 8)),[38,39]),
 (un (.iad 41 2 (.t 39) (.t 40)),[]),
 (un (.fadr 42 1 (.t 41)),[]),
 (un (.ld 43 1 false (.t 42)),[]),
 (un (.mov 44 (.t 10)),[38,39,40,41,42,43]),
 (un (.fadr 45 0 (.t 9)),[38,39,40,41,42,43,44]),
 (un (.ld 46 1 false (.t 45)),[38,39,40,41,42,43,44]),
 (un (.ld 47 2 true (.t 3)),[38,39,40,41,42,43,44,45,46]),
 (un (.ld 48 2 true (.t 4)),[38,39,40,41,42,43,44,45,46,47]),
 (un (.mov 49 (.t 2)),[38,39,40,41,42,43,44,45,46,47,48]),
 (un (.call 50 O6 [((.t 44),false),((.t 46),false),((.t 47),false),((.t 48),false),((.t 49),false)]),[38,39,40,41,42,43])]
 [un (.iad 51 1 (.t 43) (.t 50)),
 un (.ld 52 1 false (.t 51)),
 un (.asg 12 (.t 52))])
 (.drop [38,39,40,41,42,43,44,45,46,47,48,49,50,51,52] (.seq (.reg [un (.mov 53 (.t 2)),
 un (.mov 54 (.t 11)),
 un (.iad 55 1 (.t 53) (.t 54)),
 un (.ld 56 1 false (.t 55)),
 un (.bin 57 .lss (.t 56) (.c (.int .i64 0)))])
 (.drop [53,54,55,56] (.cond (.t 57) (.seq (.reg [un (.mov 58 (.t 2)),
 un (.mov 59 (.t 11)),
 un (.mov 60 (.t 12)),
 un (.iad 61 1 (.t 58) (.t 59)),
 un (.st 1 (.t 61) (.t 60))])
 (.drop [58,59,60,61] (.reg [un (.asg 7 (.c (.bool true)))])))
 (.seq (.reg [un (.mov 62 (.t 2)),
 un (.mov 63 (.t 11)),
 un (.iad 64 1 (.t 62) (.t 63)),
 un (.ld 65 1 false (.t 64)),
 un (.mov 66 (.t 12)),
 un (.bin 67 .neq (.t 65) (.t 66))])
 (.drop [62,63,64,65,66] (.cond (.t 67) (.seq (.reg [un (.asg 6 (.c (.bool false)))])
 .ret)
 .skip)))))))))))))
 (.drop [27,28,29,10,11,30,31,32,33,34,35,36,37,38,39,40,41,42,43,44,45,46,47,48,49,50,51,52,12,53,54,55,56,57,58,59,60,61,62,63,64,65,66,67] (.reg [un (.bin 68 .add (.t 25) (.c (.int .i64 1))),
 un (.asg 25 (.t 68))])))))
def Vt:ACode:=
 (.seq (.reg [un (.bin 18 .lss (.t 17) (.t 16))])
 (.seq (.cond (.t 18) .skip
 (.exit 2))
 (.seq (.block 3 (.seq (.reg [un (.mov 19 (.t 17)),
 un (.iad 20 2 (.t 15) (.t 17)),
 un (.ld 21 2 true (.t 20)),
 un (.alc 9 (.agg [.int .i64 0,.nilsl 1])),
 un (.asg 8 (.t 19)),
 un (.st 2 (.t 9) (.t 21))])
 (.drop [19,20,21] (.seq (.reg [un (.fadr 22 1 (.t 9)),
 un (.ld 23 1 false (.t 22)),
 un (.len 24 (.t 23)),
 un (.mov 25 (.c (.int .i64 0)))])
 (.drop [22] (.block 4 (.loop V9)))))))
 (.drop [19,20,21,9,8,22,23,24,25,26,27,28,29,10,11,30,31,32,33,34,35,36,37,38,39,40,41,42,43,44,45,46,47,48,49,50,51,52,12,53,54,55,56,57,58,59,60,61,62,63,64,65,66,67,68] (.reg [un (.bin 69 .add (.t 17) (.c (.int .i64 1))),
 un (.asg 17 (.t 69))])))))
def Ws:ACode:=
 (.seq (.seq (.reg [un (.mov 13 (.t 7))])
 (.cond (.t 13) .skip
 (.exit 0)))
 (.drop [13] (.block 1 (.seq (.reg [un (.asg 7 (.c (.bool false)))])
 (.seq (.reg [un (.fadr 14 1 (.t 3)),
 un (.ld 15 1 false (.t 14)),
 un (.len 16 (.t 15)),
 un (.mov 17 (.c (.int .i64 0)))])
 (.drop [14] (.block 2 (.loop Vt))))))))
def Am1:ACode:=
 (.seq (.reg [un (.box 3 (.t 0)),
 un (.box 4 (.t 1)),
 un (.asg 6 (.c (.bool false)))])
 (.seq (.seq (.reg [un (.asg 7 (.c (.bool true)))])
 (.block 0 (.loop Ws)))
 (.drop [7,13,14,15,16,17,18,19,20,21,9,8,22,23,24,25,26,27,28,29,10,11,30,31,32,33,34,35,36,37,38,39,40,41,42,43,44,45,46,47,48,49,50,51,52,12,53,54,55,56,57,58,59,60,61,62,63,64,65,66,67,68,69] (.seq (.reg [un (.asg 6 (.c (.bool true)))])
 .ret))))
abbrev Amr:List RS:=[.t 6]
theorem An4:Az Tryz.prog Ty 70 Am1 Amr=true:=by kernel_rfl
def Ae9:ACode:=
 (.seq (.reg [un (.fadr 5 0 (.t 1)),
 un (.ld 6 1 false (.t 5)),
 un (.bin 7 .lss (.t 6) (.c (.int .i64 1))),
 un (.asg 8 (.t 7)),
 ⟨some (8,false),.fadr 9 0 (.t 1)⟩,
 ⟨some (8,false),.ld 10 1 false (.t 9)⟩,
 ⟨some (8,false),.bin 11 .gtr (.t 10) (.c (.int .i64 8))⟩,
 un (.pick 12 (.t 8) (.c (.bool true)) (.t 11)),
 un (.asg 13 (.t 12)),
 ⟨some (13,false),.fadr 14 1 (.t 1)⟩,
 ⟨some (13,false),.ld 15 1 false (.t 14)⟩,
 ⟨some (13,false),.len 16 (.t 15)⟩,
 ⟨some (13,false),.bin 17 .gtr (.t 16) (.c (.int .i64 4))⟩,
 un (.pick 18 (.t 13) (.c (.bool true)) (.t 17))])
 (.drop [5,6,7,8,9,10,11,12,13,14,15,16,17] (.cond (.t 18) (.seq (.reg [un (.asg 2 (.c (.bool false)))])
 .ret)
 .skip)))
def Ub:ACode:=
 (.seq (.reg [un (.bin 23 .lss (.t 22) (.t 21))])
 (.seq (.cond (.t 23) .skip
 (.exit 0))
 (.seq (.block 1 (.seq (.reg [un (.iad 24 2 (.t 20) (.t 22)),
 un (.ld 25 2 true (.t 24)),
 un (.alc 4 (.agg [.int .i64 0,.nilsl 1])),
 un (.st 2 (.t 4) (.t 25))])
 (.drop [24,25] (.seq (.reg [un (.ld 26 2 true (.t 4)),
 un (.fadr 27 0 (.t 1)),
 un (.ld 28 1 false (.t 27)),
 un (.call 29 Ad3 [((.t 26),false),((.t 28),false)]),
 un (.un 30 .not (.t 29))])
 (.drop [26,27,28,29] (.cond (.t 30) (.seq (.reg [un (.asg 2 (.c (.bool false)))])
 .ret)
 .skip))))))
 (.drop [24,25,4,26,27,28,29,30] (.reg [un (.bin 31 .add (.t 22) (.c (.int .i64 1))),
 un (.asg 22 (.t 31))])))))
def Akx:ACode:=
 (.seq (.reg [un (.box 1 (.t 0)),
 un (.asg 2 (.c (.bool false)))])
 (.seq (.cut Ae9)
 (.drop [5,6,7,8,9,10,11,12,13,14,15,16,17,18] (.seq (.seq (.reg [un (.fadr 19 1 (.t 1)),
 un (.ld 20 1 false (.t 19)),
 un (.len 21 (.t 20)),
 un (.mov 22 (.c (.int .i64 0)))])
 (.drop [19] (.block 0 (.loop Ub))))
 (.drop [19,20,21,22,23,24,25,4,26,27,28,29,30,31] (.seq (.reg [un (.asg 2 (.c (.bool true)))])
 .ret))))))
abbrev Ak2:List RS:=[.t 2]
theorem Alr:Az Tryz.prog Ee 32 Akx Ak2=true:=by kernel_rfl
def Akk:ACode:=
 (.seq (.reg [un (.fadr 4 0 (.t 1)),
 un (.ld 5 1 false (.t 4)),
 un (.call 6 K8 [((.t 5),false),((.c (.int .i64 1)),false),((.c (.int .i64 8)),false)]),
 un (.un 7 .not (.t 6)),
 un (.asg 8 (.t 7)),
 ⟨some (8,false),.fadr 9 1 (.t 1)⟩,
 ⟨some (8,false),.ld 10 1 false (.t 9)⟩,
 ⟨some (8,false),.len 11 (.t 10)⟩,
 ⟨some (8,false),.bin 12 .gtr (.t 11) (.c (.int .i64 4))⟩,
 un (.pick 13 (.t 8) (.c (.bool true)) (.t 12))])
 (.drop [4,5,6,7,8,9,10,11,12] (.cond (.t 13) (.seq (.reg [un (.asg 2 (.c (.bool false)))])
 .ret)
 .skip)))
def Aal:ACode:=
 (.seq (.seq (.reg [un (.mov 14 (.t 3)),
 un (.fadr 15 1 (.t 1)),
 un (.ld 16 1 false (.t 15)),
 un (.len 17 (.t 16)),
 un (.bin 18 .lss (.t 14) (.t 17))])
 (.drop [14,15,16,17] (.cond (.t 18) .skip
 (.exit 0))))
 (.drop [14,15,16,17,18] (.seq (.block 1 (.seq (.dreg [(un (.fadr 21 0 (.t 1)),[]),
 (un (.ld 22 1 false (.t 21)),[]),
 (un (.fadr 23 1 (.t 1)),[21,22]),
 (un (.ld 24 1 false (.t 23)),[21,22]),
 (un (.mov 25 (.t 3)),[21,22,23,24]),
 (un (.iad 26 2 (.t 24) (.t 25)),[21,22]),
 (un (.ld 27 2 true (.t 26)),[21,22])]
 [un (.call 28 Ac9 [((.t 22),false),((.t 27),false)]),
 un (.un 29 .not (.t 28))])
 (.drop [21,22,23,24,25,26,27,28] (.cond (.t 29) (.seq (.reg [un (.asg 2 (.c (.bool false)))])
 .ret)
 .skip))))
 (.drop [21,22,23,24,25,26,27,28,29] (.reg [un (.mov 19 (.t 3)),
 un (.bin 20 .add (.t 19) (.c (.int .i64 1))),
 un (.asg 3 (.t 20))])))))
def Atn:ACode:=
 (.seq (.reg [un (.box 1 (.t 0)),
 un (.asg 2 (.c (.bool false)))])
 (.seq (.cut Akk)
 (.drop [4,5,6,7,8,9,10,11,12,13] (.seq (.seq (.reg [un (.asg 3 (.c (.int .i64 0)))])
 (.block 0 (.loop Aal)))
 (.drop [3,14,15,16,17,18,21,22,23,24,25,26,27,28,29,19,20] (.seq (.reg [un (.asg 2 (.c (.bool true)))])
 .ret))))))
abbrev Aul:List RS:=[.t 2]
theorem At8:Az Tryz.prog Mu 30 Atn Aul=true:=by kernel_rfl
def Ac5:ACode:=
 (.seq (.seq (.reg [un (.mov 11 (.t 5)),
 un (.mov 12 (.t 0)),
 un (.len 13 (.t 12)),
 un (.bin 14 .lss (.t 11) (.t 13))])
 (.drop [11,12,13] (.cond (.t 14) .skip
 (.exit 0))))
 (.drop [11,12,13,14] (.seq (.block 1 (.seq (.dreg [(un (.mov 17 (.t 0)),[]),
 (un (.mov 18 (.t 5)),[17]),
 (un (.iad 19 2 (.t 17) (.t 18)),[]),
 (un (.ld 20 2 true (.t 19)),[]),
 (un (.mov 21 (.t 1)),[17,18,19,20]),
 (un (.mov 22 (.t 5)),[17,18,19,20,21]),
 (un (.iad 23 2 (.t 21) (.t 22)),[17,18,19,20]),
 (un (.ld 24 2 true (.t 23)),[17,18,19,20])]
 [un (.call 25 Agr [((.t 20),false),((.t 24),false)]),
 un (.un 26 .not (.t 25))])
 (.drop [17,18,19,20,21,22,23,24,25] (.cond (.t 26) (.seq (.reg [un (.asg 4 (.c (.bool false)))])
 .ret)
 .skip))))
 (.drop [17,18,19,20,21,22,23,24,25,26] (.reg [un (.mov 15 (.t 5)),
 un (.bin 16 .add (.t 15) (.c (.int .i64 1))),
 un (.asg 5 (.t 16))])))))
def A0a:ACode:=
 (.seq (.reg [un (.asg 4 (.c (.bool false)))])
 (.seq (.seq (.reg [un (.mov 6 (.t 0)),
 un (.len 7 (.t 6)),
 un (.mov 8 (.t 1)),
 un (.len 9 (.t 8)),
 un (.bin 10 .neq (.t 7) (.t 9))])
 (.drop [6,7,8,9] (.cond (.t 10) (.seq (.reg [un (.asg 4 (.c (.bool false)))])
 .ret)
 .skip)))
 (.drop [6,7,8,9,10] (.seq (.seq (.reg [un (.asg 5 (.c (.int .i64 0)))])
 (.block 0 (.loop Ac5)))
 (.drop [5,11,12,13,14,17,18,19,20,21,22,23,24,25,26,15,16] (.seq (.reg [un (.asg 4 (.c (.bool true)))])
 .ret))))))
abbrev Ay0:List RS:=[.t 4]
theorem A1b:Az Tryz.prog Adq 27 A0a Ay0=true:=by kernel_rfl
def Aly:ACode:=
 (.seq (.reg [un (.asg 4 (.c (.bool false)))])
 (.seq (.reg [un (.mov 5 (.t 0)),
 un (.mov 6 (.t 1)),
 un (.call 7 A8 [((.t 5),true),((.t 6),false)]),
 un (.bin 8 .eql (.t 7) (.c (.int .i64 0))),
 un (.asg 4 (.t 8))])
 (.drop [5,6,7,8] .ret)))
abbrev Al1:List RS:=[.t 4]
theorem Akw:Az Tryz.prog L1 9 Aly Al1=true:=by kernel_rfl
def Agq:ACode:=
 (.seq (.reg [un (.asg 4 (.c (.int .i64 0)))])
 (.seq (.reg [un (.mov 5 (.t 1)),
 un (.mov 6 (.t 0)),
 un (.mov 7 (.t 1)),
 un (.len 8 (.t 7)),
 un (.call 9 A8 [((.t 6),true),((.t 8),false)]),
 un (.iad 10 1 (.t 5) (.t 9)),
 un (.ld 11 1 false (.t 10)),
 un (.asg 4 (.t 11))])
 (.drop [5,6,7,8,9,10,11] .ret)))
abbrev Ag6:List RS:=[.t 4]
theorem Af8:Az Tryz.prog Bu 12 Agq Ag6=true:=by kernel_rfl
def Ae4:ACode:=
 (.seq (.reg [un (.box 2 (.t 0)),
 un (.asg 4 (.c (.bool false)))])
 (.seq (.dreg [(un (.fadr 5 0 (.t 2)),[]),
 (un (.ld 6 1 false (.t 5)),[]),
 (un (.mov 7 (.t 1)),[5,6]),
 (un (.call 8 Nj [((.t 6),false),((.t 7),false)]),[]),
 (un (.asg 9 (.t 8)),[]),
 (⟨some (9,true),.ld 10 2 true (.t 2)⟩,[8]),
 (⟨some (9,true),.mov 11 (.t 1)⟩,[10,8]),
 (⟨some (9,true),.call 12 L0 [((.t 11),false)]⟩,[10,8])]
 [⟨some (9,true),.call 13 Kb [((.t 10),false),((.t 12),true)]⟩,
 ⟨some (9,true),.un 14 .not (.t 13)⟩,
 un (.pick 15 (.t 9) (.t 14) (.c (.bool false))),
 un (.asg 4 (.t 15))])
 (.drop [5,6,7,8,9,10,11,12,13,14,15] .ret)))
abbrev Ae7:List RS:=[.t 4]
theorem Ae6:Az Tryz.prog L8 16 Ae4 Ae7=true:=by kernel_rfl
def Ao0:ACode:=
 (.seq (.reg [un (.box 2 (.t 0)),
 un (.asg 4 (.c (.nilsl 1)))])
 (.seq (.dreg [(un (.ld 5 2 true (.t 2)),[]),
 (un (.mov 6 (.t 1)),[5]),
 (un (.fadr 7 0 (.t 2)),[5,6]),
 (un (.ld 8 1 false (.t 7)),[5,6]),
 (un (.call 9 O3 [((.t 6),false),((.t 8),false)]),[5])]
 [un (.call 10 Om [((.t 5),false),((.t 9),true)]),
 un (.call 11 Rr [((.t 10),false)]),
 un (.asg 4 (.t 11))])
 (.drop [5,6,7,8,9,10,11] .ret)))
abbrev Aop:List RS:=[.t 4]
theorem Aoc:Az Tryz.prog T3 12 Ao0 Aop=true:=by kernel_rfl
def W4:ACode:=
 (.seq (.seq (.reg [un (.mov 11 (.t 6)),
 un (.fadr 12 0 (.t 2)),
 un (.ld 13 1 false (.t 12)),
 un (.bin 14 .leq (.t 11) (.t 13))])
 (.drop [11,12,13] (.cond (.t 14) .skip
 (.exit 0))))
 (.drop [11,12,13,14] (.seq (.block 1 (.reg [un (.ld 17 2 true (.t 2)),
 un (.mov 18 (.t 5)),
 un (.call 19 Ye [((.t 17),false),((.t 18),false)]),
 un (.asg 5 (.t 19))]))
 (.drop [17,18,19] (.reg [un (.mov 15 (.t 6)),
 un (.bin 16 .add (.t 15) (.c (.int .i64 1))),
 un (.asg 6 (.t 16))])))))
def Ap0:ACode:=
 (.seq (.reg [un (.box 2 (.t 0)),
 un (.asg 4 (.c (.nilsl 1)))])
 (.seq (.reg [un (.fadr 7 0 (.t 2)),
 un (.ld 8 1 false (.t 7)),
 un (.mov 9 (.t 1)),
 un (.call 10 Aei [((.t 8),false),((.t 9),false)]),
 un (.asg 5 (.t 10))])
 (.drop [7,8,9,10] (.seq (.seq (.reg [un (.asg 6 (.c (.int .i64 0)))])
 (.block 0 (.loop W4)))
 (.drop [6,11,12,13,14,17,18,19,15,16] (.seq (.reg [un (.mov 20 (.t 5)),
 un (.call 21 Yo [((.t 20),false)]),
 un (.asg 4 (.t 21))])
 (.drop [20,21] .ret)))))))
abbrev Aqc:List RS:=[.t 4]
theorem App:Az Tryz.prog V3 22 Ap0 Aqc=true:=by kernel_rfl
def Me:ACode:=
 (.seq (.reg [un (.bin 33 .lss (.t 32) (.t 31))])
 (.seq (.cond (.t 33) .skip
 (.exit 0))
 (.seq (.block 1 (.seq (.reg [un (.iad 34 1 (.t 30) (.t 32)),
 un (.ld 35 1 false (.t 34)),
 un (.asg 7 (.t 35))])
 (.drop [34,35] (.seq (.seq (.reg [un (.mov 36 (.t 7)),
 un (.bin 37 .geq (.t 36) (.c (.int .i64 0))),
 un (.asg 38 (.t 37)),
 ⟨some (38,true),.mov 39 (.t 5)⟩,
 ⟨some (38,true),.mov 40 (.t 7)⟩,
 ⟨some (38,true),.iad 41 1 (.t 39) (.t 40)⟩,
 ⟨some (38,true),.ld 42 1 false (.t 41)⟩,
 un (.pick 43 (.t 38) (.t 42) (.c (.bool false)))])
 (.drop [36,37,38,39,40,41,42] (.cond (.t 43) (.seq (.reg [un (.asg 4 (.c (.bool false)))])
 .ret)
 .skip)))
 (.drop [36,37,38,39,40,41,42,43] (.seq (.reg [un (.mov 44 (.t 7)),
 un (.bin 45 .geq (.t 44) (.c (.int .i64 0)))])
 (.drop [44] (.cond (.t 45) (.reg [un (.mov 46 (.t 5)),
 un (.mov 47 (.t 7)),
 un (.iad 48 1 (.t 46) (.t 47)),
 un (.st 1 (.t 48) (.c (.bool true)))])
 .skip))))))))
 (.drop [34,35,7,36,37,38,39,40,41,42,43,44,45,46,47,48] (.reg [un (.bin 49 .add (.t 32) (.c (.int .i64 1))),
 un (.asg 32 (.t 49))])))))
def Acl:ACode:=
 (.seq (.reg [un (.asg 4 (.c (.bool false)))])
 (.seq (.seq (.dreg [(un (.mov 8 (.t 0)),[]),
 (un (.nck 9 (.t 8)),[]),
 (un (.fadr 10 0 (.t 9)),[]),
 (un (.ld 11 2 true (.t 10)),[]),
 (un (.mov 12 (.t 0)),[8,9,10,11]),
 (un (.nck 13 (.t 12)),[8,9,10,11]),
 (un (.fadr 14 2 (.t 13)),[8,9,10,11]),
 (un (.ld 15 2 true (.t 14)),[8,9,10,11]),
 (un (.mov 16 (.t 1)),[8,9,10,11,12,13,14,15])]
 [un (.call 17 Ty [((.t 11),false),((.t 15),false),((.t 16),true)]),
 un (.un 18 .not (.t 17))])
 (.drop [8,9,10,11,12,13,14,15,16,17] (.cond (.t 18) (.seq (.reg [un (.asg 4 (.c (.bool false)))])
 .ret)
 .skip)))
 (.drop [8,9,10,11,12,13,14,15,16,17,18] (.seq (.seq (.reg [un (.mov 19 (.t 0)),
 un (.nck 20 (.t 19)),
 un (.fadr 21 4 (.t 20)),
 un (.ld 22 1 false (.t 21)),
 un (.un 23 .not (.t 22))])
 (.drop [19,20,21,22] (.cond (.t 23) (.seq (.reg [un (.asg 4 (.c (.bool true)))])
 .ret)
 .skip)))
 (.drop [19,20,21,22,23] (.seq (.reg [un (.mov 24 (.t 0)),
 un (.nck 25 (.t 24)),
 un (.fadr 26 2 (.t 25)),
 un (.fadr 27 0 (.t 26)),
 un (.ld 28 1 false (.t 27)),
 un (.mk 29 1 (.bool false) (.t 28)),
 un (.asg 5 (.t 29))])
 (.drop [24,25,26,27,28,29] (.seq (.seq (.reg [un (.mov 30 (.t 1)),
 un (.len 31 (.t 30)),
 un (.mov 32 (.c (.int .i64 0)))])
 (.block 0 (.loop Me)))
 (.drop [30,31,32,33,34,35,7,36,37,38,39,40,41,42,43,44,45,46,47,48,49] (.seq (.reg [un (.asg 4 (.c (.bool true)))])
 .ret))))))))))
abbrev Acu:List RS:=[.t 4]
theorem Ack:Az Tryz.prog Hb 50 Acl Acu=true:=by kernel_rfl
def Yp:ACode:=
 (.seq (.seq (.reg [un (.mov 9 (.t 6)),
 un (.mov 10 (.t 1)),
 un (.len 11 (.t 10)),
 un (.bin 12 .lss (.t 9) (.t 11))])
 (.drop [9,10,11] (.cond (.t 12) .skip
 (.exit 0))))
 (.drop [9,10,11,12] (.seq (.block 1 (.reg [un (.mov 15 (.t 5)),
 un (.mov 16 (.t 6)),
 un (.mov 17 (.t 1)),
 un (.mov 18 (.t 6)),
 un (.iad 19 1 (.t 17) (.t 18)),
 un (.ld 20 1 false (.t 19)),
 un (.call 21 Io [((.t 15),false),((.t 16),false),((.t 20),false)]),
 un (.asg 5 (.t 21))]))
 (.drop [15,16,17,18,19,20,21] (.reg [un (.mov 13 (.t 6)),
 un (.bin 14 .add (.t 13) (.c (.int .i64 1))),
 un (.asg 6 (.t 14))])))))
def Atg:ACode:=
 (.seq (.reg [un (.asg 4 (.c (.nilsl 1)))])
 (.seq (.reg [un (.mov 7 (.t 0)),
 un (.call 8 Ja [((.t 7),false)]),
 un (.asg 5 (.t 8))])
 (.drop [7,8] (.seq (.seq (.reg [un (.asg 6 (.c (.int .i64 0)))])
 (.block 0 (.loop Yp)))
 (.drop [6,9,10,11,12,15,16,17,18,19,20,21,13,14] (.seq (.reg [un (.mov 22 (.t 5)),
 un (.asg 4 (.t 22))])
 (.drop [22] .ret)))))))
abbrev At5:List RS:=[.t 4]
theorem Atd:Az Tryz.prog X9 23 Atg At5=true:=by kernel_rfl
def Aae:ACode:=
 (.seq (.seq (.reg [un (.mov 41 (.t 9)),
 un (.mov 42 (.t 8)),
 un (.len 43 (.t 42)),
 un (.bin 44 .lss (.t 41) (.t 43))])
 (.drop [41,42,43] (.cond (.t 44) .skip
 (.exit 4))))
 (.drop [41,42,43,44] (.seq (.block 5 (.seq (.reg [un (.mov 47 (.t 8)),
 un (.call 48 Ja [((.t 47),false)]),
 un (.asg 10 (.t 48))])
 (.drop [47,48] (.seq (.reg [un (.mov 49 (.t 10)),
 un (.mov 50 (.t 9)),
 un (.mov 51 (.t 1)),
 un (.mov 52 (.t 8)),
 un (.mov 53 (.t 9)),
 un (.iad 54 1 (.t 52) (.t 53)),
 un (.ld 55 1 false (.t 54)),
 un (.iad 56 1 (.t 51) (.t 55)),
 un (.ld 57 1 false (.t 56)),
 un (.iad 58 1 (.t 49) (.t 50)),
 un (.st 1 (.t 58) (.t 57))])
 (.drop [49,50,51,52,53,54,55,56,57,58] (.dreg [(un (.mov 59 (.t 5)),[]),
 (un (.fadr 60 1 (.t 2)),[59]),
 (un (.ld 61 1 false (.t 60)),[59]),
 (un (.mov 62 (.t 6)),[59,60,61]),
 (un (.iad 63 2 (.t 61) (.t 62)),[59]),
 (un (.fadr 64 1 (.t 63)),[59]),
 (un (.ld 65 1 false (.t 64)),[59]),
 (un (.mov 66 (.t 7)),[59,60,61,62,63,64,65]),
 (un (.iad 67 1 (.t 65) (.t 66)),[59]),
 (un (.ld 68 1 false (.t 67)),[59]),
 (un (.ld 69 2 true (.t 2)),[59,60,61,62,63,64,65,66,67,68]),
 (un (.mov 70 (.t 6)),[59,60,61,62,63,64,65,66,67,68,69]),
 (un (.mov 71 (.t 10)),[59,60,61,62,63,64,65,66,67,68,69,70]),
 (un (.call 72 Wr [((.t 69),false),((.t 70),false),((.t 71),false)]),[59,60,61,62,63,64,65,66,67,68])]
 [un (.call 73 Io [((.t 59),false),((.t 68),false),((.t 72),false)]),
 un (.asg 5 (.t 73))]))))))
 (.drop [47,48,10,49,50,51,52,53,54,55,56,57,58,59,60,61,62,63,64,65,66,67,68,69,70,71,72,73] (.reg [un (.mov 45 (.t 9)),
 un (.bin 46 .add (.t 45) (.c (.int .i64 1))),
 un (.asg 9 (.t 46))])))))
def Zl:ACode:=
 (.seq (.seq (.reg [un (.mov 20 (.t 7)),
 un (.fadr 21 1 (.t 2)),
 un (.ld 22 1 false (.t 21)),
 un (.mov 23 (.t 6)),
 un (.iad 24 2 (.t 22) (.t 23)),
 un (.fadr 25 1 (.t 24)),
 un (.ld 26 1 false (.t 25)),
 un (.len 27 (.t 26)),
 un (.bin 28 .lss (.t 20) (.t 27))])
 (.drop [20,21,22,23,24,25,26,27] (.cond (.t 28) .skip
 (.exit 2))))
 (.drop [20,21,22,23,24,25,26,27,28] (.seq (.block 3 (.seq (.dreg [(un (.fadr 31 0 (.t 2)),[]),
 (un (.ld 32 1 false (.t 31)),[]),
 (un (.fadr 33 1 (.t 2)),[31,32]),
 (un (.ld 34 1 false (.t 33)),[31,32]),
 (un (.mov 35 (.t 6)),[31,32,33,34]),
 (un (.iad 36 2 (.t 34) (.t 35)),[31,32]),
 (un (.fadr 37 0 (.t 36)),[31,32]),
 (un (.ld 38 1 false (.t 37)),[31,32]),
 (un (.mov 39 (.t 7)),[31,32,33,34,35,36,37,38])]
 [un (.call 40 Rf [((.t 32),false),((.t 38),false),((.t 39),false)]),
 un (.asg 8 (.t 40))])
 (.drop [31,32,33,34,35,36,37,38,39,40] (.seq (.reg [un (.asg 9 (.c (.int .i64 0)))])
 (.block 4 (.loop Aae))))))
 (.drop [31,32,33,34,35,36,37,38,39,40,8,9,41,42,43,44,47,48,10,49,50,51,52,53,54,55,56,57,58,59,60,61,62,63,64,65,66,67,68,69,70,71,72,73,45,46] (.reg [un (.mov 29 (.t 7)),
 un (.bin 30 .add (.t 29) (.c (.int .i64 1))),
 un (.asg 7 (.t 30))])))))
def Zv:ACode:=
 (.seq (.seq (.reg [un (.mov 13 (.t 6)),
 un (.fadr 14 1 (.t 2)),
 un (.ld 15 1 false (.t 14)),
 un (.len 16 (.t 15)),
 un (.bin 17 .lss (.t 13) (.t 16))])
 (.drop [13,14,15,16] (.cond (.t 17) .skip
 (.exit 0))))
 (.drop [13,14,15,16,17] (.seq (.block 1 (.seq (.reg [un (.asg 7 (.c (.int .i64 0)))])
 (.block 2 (.loop Zl))))
 (.drop [7,20,21,22,23,24,25,26,27,28,31,32,33,34,35,36,37,38,39,40,8,9,41,42,43,44,47,48,10,49,50,51,52,53,54,55,56,57,58,59,60,61,62,63,64,65,66,67,68,69,70,71,72,73,45,46,29,30] (.reg [un (.mov 18 (.t 6)),
 un (.bin 19 .add (.t 18) (.c (.int .i64 1))),
 un (.asg 6 (.t 19))])))))
def Ath:ACode:=
 (.seq (.reg [un (.box 2 (.t 0)),
 un (.asg 4 (.c (.nilsl 1)))])
 (.seq (.reg [un (.mov 11 (.t 1)),
 un (.call 12 Ja [((.t 11),false)]),
 un (.asg 5 (.t 12))])
 (.drop [11,12] (.seq (.seq (.reg [un (.asg 6 (.c (.int .i64 0)))])
 (.block 0 (.loop Zv)))
 (.drop [6,13,14,15,16,17,7,20,21,22,23,24,25,26,27,28,31,32,33,34,35,36,37,38,39,40,8,9,41,42,43,44,47,48,10,49,50,51,52,53,54,55,56,57,58,59,60,61,62,63,64,65,66,67,68,69,70,71,72,73,45,46,29,30,18,19] (.seq (.reg [un (.mov 74 (.t 5)),
 un (.asg 4 (.t 74))])
 (.drop [74] .ret)))))))
abbrev Auo:List RS:=[.t 4]
theorem As3:Az Tryz.prog Rk 75 Ath Auo=true:=by kernel_rfl
def Aol:ACode:=
 (.seq (.reg [un (.box 2 (.t 0)),
 un (.box 3 (.t 1)),
 un (.asg 4 (.c (.bool false)))])
 (.seq (.reg [un (.fadr 5 0 (.t 2)),
 un (.ld 6 1 false (.t 5)),
 un (.fadr 7 0 (.t 3)),
 un (.ld 8 1 false (.t 7)),
 un (.bin 9 .eql (.t 6) (.t 8)),
 un (.asg 10 (.t 9)),
 ⟨some (10,true),.fadr 11 1 (.t 2)⟩,
 ⟨some (10,true),.ld 12 1 false (.t 11)⟩,
 ⟨some (10,true),.fadr 13 1 (.t 3)⟩,
 ⟨some (10,true),.ld 14 1 false (.t 13)⟩,
 ⟨some (10,true),.call 15 Adq [((.t 12),false),((.t 14),false)]⟩,
 un (.pick 16 (.t 10) (.t 15) (.c (.bool false))),
 un (.asg 4 (.t 16))])
 (.drop [5,6,7,8,9,10,11,12,13,14,15,16] .ret)))
abbrev Anm:List RS:=[.t 4]
theorem An3:Az Tryz.prog Ti 17 Aol Anm=true:=by kernel_rfl
def Zd:ACode:=
 (.seq (.reg [un (.mov 32 (.t 4)),
 un (.bin 33 .eql (.t 32) (.c (.int .i64 4))),
 un (.asg 34 (.t 33)),
 ⟨some (34,true),.fadr 35 0 (.t 7)⟩,
 ⟨some (34,true),.ld 36 1 false (.t 35)⟩,
 ⟨some (34,true),.bin 37 .eql (.t 36) (.c (.int .i64 3))⟩,
 un (.pick 38 (.t 34) (.t 37) (.c (.bool false)))])
 (.drop [32,33,34,35,36,37] (.cond (.t 38) (.reg [un (.fadr 39 0 (.t 7)),
 un (.st 1 (.t 39) (.c (.int .i64 2)))])
 .skip)))
def Od:ACode:=
 (.seq (.seq (.reg [un (.mov 44 (.t 8)),
 un (.bin 45 .gtr (.t 44) (.c (.int .i64 0)))])
 (.drop [44] (.cond (.t 45) .skip
 (.exit 2))))
 (.drop [44,45] (.seq (.block 3 (.dreg [(un (.fadr 48 1 (.t 7)),[132,52]),
 (un (.ld 49 1 false (.t 48)),[132,52]),
 (un (.mov 50 (.t 0)),[48,49]),
 (un (.mov 51 (.t 4)),[48,49,50]),
 (un (.call 52 A8 [((.t 50),true),((.t 51),false)]),[132,48,49]),
 (un (.bsl 53 1 [(.t 52)]),[48,49])]
 [un (.app 54 1 (.t 49) (.t 53)),
 un (.fadr 55 1 (.t 7)),
 un (.st 1 (.t 55) (.t 54))]))
 (.drop [48,49,50,51,52,53,54,55] (.reg [un (.mov 46 (.t 8)),
 un (.bin 47 .sub (.t 46) (.c (.int .i64 1))),
 un (.asg 8 (.t 47))])))))
def Ob:ACode:=
 (.seq (.seq (.reg [un (.mov 24 (.t 6)),
 un (.bin 25 .gtr (.t 24) (.c (.int .i64 0)))])
 (.drop [24] (.cond (.t 25) .skip
 (.exit 0))))
 (.drop [24,25] (.seq (.block 1 (.seq (.reg [un (.mov 28 (.t 0)),
 un (.bsl 29 1 [(.c (.int .i64 0)),(.c (.int .i64 1)),(.c (.int .i64 2)),(.c (.int .i64 2)),(.c (.int .i64 3))]),
 un (.call 30 Bu [((.t 28),true),((.t 29),false)]),
 un (.bld 31 [.int .i64 0,.nilsl 1] [(0,1,(.t 30))]),
 un (.alc 7 (.agg [.int .i64 0,.nilsl 1])),
 un (.st 2 (.t 7) (.t 31))])
 (.drop [28,29,30,31] (.seq (.cut Zd)
 (.drop [32,33,34,35,36,37,38,39] (.seq (.seq (.reg [un (.mov 40 (.t 4)),
 un (.fadr 41 0 (.t 7)),
 un (.ld 42 1 false (.t 41)),
 un (.call 43 Uj [((.t 40),false),((.t 42),false)]),
 un (.asg 8 (.t 43))])
 (.drop [40,41,42,43] (.block 2 (.loop Od))))
 (.drop [40,41,42,43,8,44,45,48,49,50,51,52,53,54,55,46,47] (.reg [un (.fadr 56 1 (.t 5)),
 un (.ld 57 1 false (.t 56)),
 un (.ld 58 2 true (.t 7)),
 un (.bsl 59 2 [(.t 58)]),
 un (.app 60 2 (.t 57) (.t 59)),
 un (.fadr 61 1 (.t 5)),
 un (.st 1 (.t 61) (.t 60))]))))))))
 (.drop [28,29,30,31,7,32,33,34,35,36,37,38,39,40,41,42,43,8,44,45,48,49,50,51,52,53,54,55,46,47,56,57,58,59,60,61] (.reg [un (.mov 26 (.t 6)),
 un (.bin 27 .sub (.t 26) (.c (.int .i64 1))),
 un (.asg 6 (.t 27))])))))
def Nz:ACode:=
 (.seq (.seq (.dreg [(un (.fadr 116 1 (.t 5)),[132]),
 (un (.ld 117 1 false (.t 116)),[132]),
 (un (.len 118 (.t 117)),[132]),
 (un (.mov 119 (.t 0)),[116,117,118]),
 (un (.call 120 A8 [((.t 119),true),((.c (.int .i64 2)),false)]),[132,116,117,118]),
 (un (.bin 121 .add (.c (.int .i64 4)) (.t 120)),[116,117,118])]
 [un (.bin 122 .lss (.t 118) (.t 121))])
 (.drop [116,117,118,119,120,121] (.cond (.t 122) .skip
 (.exit 5))))
 (.drop [116,117,118,119,120,121,122] (.block 6 (.dregl [(0,.fadr 123 1 (.t 5)),
 (1,.ld 124 1 false (.t 123)),
 (2,.mov 125 (.t 4))]
 (.alt 3 (.mk 126 1 (.int .i64 0) (.t 125)) [0,1,2] [] (.alt 4 (.bld 127 [.int .i64 0,.nilsl 1] [(0,1,(.c (.int .i64 1))),(1,1,(.t 126))]) [0,1] [] (.alt 5 (.bsl 128 2 [(.t 127)]) [0,1] [] (.alt 6 (.app 129 2 (.t 124) (.t 128)) [0,1] [124] (.alt 7 (.fadr 130 1 (.t 5)) [] [] (.alt 8 (.st 1 (.t 130) (.t 129)) [] [] .nil .nil) .nil) .nil) .nil) .nil) .nil)))))
def Adt:ACode:=
 (.seq (.reg [un (.alc 2 (.agg [.int .i64 0,.nilsl 2]))])
 (.seq (.seq (.reg [un (.mov 9 (.t 0)),
 un (.call 10 L1 [((.t 9),true),((.c (.int .i64 4)),false)]),
 un (.un 11 .not (.t 10))])
 (.drop [9,10] (.cond (.t 11) (.seq (.reg [un (.mov 12 (.t 0)),
 un (.call 13 A8 [((.t 12),true),((.c (.int .i64 17)),false)]),
 un (.call 14 Vw [((.t 13),false)]),
 un (.alc 3 (.agg [.int .i64 0,.nilsl 2])),
 un (.st 2 (.t 3) (.t 14))])
 (.drop [12,13,14] (.seq (.reg [un (.ld 15 2 true (.t 3)),
 un (.st 2 (.t 2) (.t 15))])
 (.drop [15] .ret))))
 .skip)))
 (.drop [9,10,11,12,13,14,3,15] (.seq (.reg [un (.mov 16 (.t 0)),
 un (.bsl 17 1 [(.c (.int .i64 2)),(.c (.int .i64 2)),(.c (.int .i64 3)),(.c (.int .i64 3)),(.c (.int .i64 4))]),
 un (.call 18 Bu [((.t 16),true),((.t 17),false)]),
 un (.asg 4 (.t 18))])
 (.drop [16,17,18] (.seq (.reg [un (.mov 19 (.t 4)),
 un (.bld 20 [.int .i64 0,.nilsl 2] [(0,1,(.t 19))]),
 un (.alc 5 (.agg [.int .i64 0,.nilsl 2])),
 un (.st 2 (.t 5) (.t 20))])
 (.drop [19,20] (.seq (.seq (.reg [un (.mov 21 (.t 0)),
 un (.bsl 22 1 [(.c (.int .i64 1)),(.c (.int .i64 1)),(.c (.int .i64 2))]),
 un (.call 23 Bu [((.t 21),true),((.t 22),false)]),
 un (.asg 6 (.t 23))])
 (.drop [21,22,23] (.block 0 (.loop Ob))))
 (.drop [21,22,23,6,24,25,28,29,30,31,7,32,33,34,35,36,37,38,39,40,41,42,43,8,44,45,48,49,50,51,52,53,54,55,46,47,56,57,58,59,60,61,26,27] (.seq (.seq (.reg [un (.mov 62 (.t 0)),
 un (.call 63 A8 [((.t 62),true),((.c (.int .i64 16)),false)])])
 (.drop [62] (.block 4 (.seq (.reg [un (.bin 65 .eql (.t 63) (.c (.int .i64 0))),
 un (.asg 64 (.t 65))])
 (.drop [65] (.cond (.t 64) (.reg [un (.mov 66 (.t 0)),
 un (.mov 67 (.t 4)),
 un (.bin 68 .add (.t 67) (.c (.int .i64 1))),
 un (.bsl 69 1 [(.c (.int .i64 0)),(.c (.int .i64 9)),(.t 68)]),
 un (.call 70 Bu [((.t 66),true),((.t 69),false)]),
 un (.fadr 71 0 (.t 5)),
 un (.st 1 (.t 71) (.t 70))])
 (.seq (.reg [un (.bin 73 .eql (.t 63) (.c (.int .i64 1))),
 un (.asg 72 (.t 73))])
 (.drop [73] (.cond (.t 72) (.dregl [(0,.fadr 74 1 (.t 5)),
 (1,.ld 75 1 false (.t 74)),
 (2,.fadr 76 1 (.t 5)),
 (3,.ld 77 1 false (.t 76)),
 (4,.iad 78 2 (.t 77) (.c (.int .i64 0))),
 (5,.fadr 79 1 (.t 78)),
 (6,.ld 80 1 false (.t 79))]
 (.alt 7 (.bsl 81 1 [(.c (.int .i64 0))]) [0,1,2,3,4,5,6] [] (.alt 8 (.app 82 1 (.t 80) (.t 81)) [0,1,2,3,4,5,6] [80] (.alt 9 (.iad 83 2 (.t 75) (.c (.int .i64 0))) [0,1] [] (.alt 10 (.fadr 84 1 (.t 83)) [] [] (.alt 11 (.st 1 (.t 84) (.t 82)) [] [] .nil .nil) .nil) .nil) .nil) .nil))
 (.seq (.reg [un (.bin 86 .eql (.t 63) (.c (.int .i64 2))),
 un (.asg 85 (.t 86))])
 (.drop [86] (.cond (.t 85) (.dregl [(0,.fadr 87 1 (.t 5)),
 (1,.ld 88 1 false (.t 87)),
 (2,.iad 89 2 (.t 88) (.c (.int .i64 0))),
 (3,.fadr 90 1 (.t 89)),
 (4,.ld 91 1 false (.t 90)),
 (5,.mov 92 (.t 0)),
 (6,.fadr 93 1 (.t 5)),
 (7,.ld 94 1 false (.t 93)),
 (8,.iad 95 2 (.t 94) (.c (.int .i64 0))),
 (9,.fadr 96 1 (.t 95)),
 (10,.ld 97 1 false (.t 96)),
 (13,.mov 100 (.t 0)),
 (14,.mov 101 (.t 4))]
 (.alt 11 (.len 98 (.t 97)) [0,1,2,3,4,5,6,7,8,9,10,13,14] [] (.alt 12 (.call 99 A8 [((.t 92),true),((.t 98),false)]) [0,1,2,3,4,5,13,14] [] (.alt 15 (.bsl 102 1 [(.c (.int .i64 (-1))),(.t 101)]) [0,1,2,3,4,13,14] [] (.alt 16 (.call 103 Bu [((.t 100),true),((.t 102),false)]) [0,1,2,3,4,13] [] (.alt 17 (.iad 104 1 (.t 91) (.t 99)) [0,1,2,3,4] [] (.alt 18 (.st 1 (.t 104) (.t 103)) [] [] .nil .nil) .nil) .nil) .nil) (.alt 15 (.bsl 102 1 [(.c (.int .i64 (-1))),(.t 101)]) [0,1,2,3,4,5,13,14] [] (.alt 12 (.call 99 A8 [((.t 92),true),((.t 98),false)]) [0,1,2,3,4,5,13] [] (.alt 16 (.call 103 Bu [((.t 100),true),((.t 102),false)]) [0,1,2,3,4,13] [] (.alt 17 (.iad 104 1 (.t 91) (.t 99)) [0,1,2,3,4] [] (.alt 18 (.st 1 (.t 104) (.t 103)) [] [] .nil .nil) .nil) .nil) .nil) .nil)) (.alt 15 (.bsl 102 1 [(.c (.int .i64 (-1))),(.t 101)]) [0,1,2,3,4,5,6,7,8,9,10,13,14] [] (.alt 11 (.len 98 (.t 97)) [0,1,2,3,4,5,6,7,8,9,10,13] [] (.alt 12 (.call 99 A8 [((.t 92),true),((.t 98),false)]) [0,1,2,3,4,5,13] [] (.alt 16 (.call 103 Bu [((.t 100),true),((.t 102),false)]) [0,1,2,3,4,13] [] (.alt 17 (.iad 104 1 (.t 91) (.t 99)) [0,1,2,3,4] [] (.alt 18 (.st 1 (.t 104) (.t 103)) [] [] .nil .nil) .nil) .nil) .nil) .nil) .nil)))
 (.seq (.reg [un (.bin 106 .eql (.t 63) (.c (.int .i64 3))),
 un (.asg 105 (.t 106))])
 (.drop [106] (.cond (.t 105) (.dregl [(0,.fadr 107 1 (.t 5)),
 (1,.ld 108 1 false (.t 107)),
 (2,.mov 109 (.t 0))]
 (.alt 3 (.bsl 110 1 [(.c (.int .i64 (-1))),(.c (.int .i64 4))]) [0,1,2] [] (.alt 4 (.call 111 Bu [((.t 109),true),((.t 110),false)]) [0,1,2] [] (.alt 5 (.iad 112 2 (.t 108) (.c (.int .i64 0))) [0,1] [] (.alt 6 (.fadr 113 0 (.t 112)) [] [] (.alt 7 (.st 1 (.t 113) (.t 111)) [] [] .nil .nil) .nil) .nil) .nil) .nil))
 (.seq (.reg [un (.bin 115 .eql (.t 63) (.c (.int .i64 4))),
 un (.asg 114 (.t 115))])
 (.drop [115] (.cond (.t 114) (.block 5 (.loop Nz))
 .skip))))))))))))))))))
 (.drop [62,63,65,64,66,67,68,69,70,71,73,72,74,75,76,77,78,79,80,81,82,83,84,86,85,87,88,89,90,91,92,93,94,95,96,97,98,99,100,101,102,103,104,106,105,107,108,109,110,111,112,113,115,114,116,117,118,119,120,121,122,123,124,125,126,127,128,129,130] (.seq (.reg [un (.ld 131 2 true (.t 5)),
 un (.st 2 (.t 2) (.t 131))])
 (.drop [131] .ret)))))))))))))
abbrev Adz:List RS:=[.c 2 2 true]
theorem Aef:Az Tryz.prog Kt 132 Adt Adz=true:=by kernel_rfl
def Ahn:ACode:=
 (.seq (.reg [un (.box 2 (.t 0)),
 un (.asg 4 (.c (.bool false)))])
 (.seq (.reg [un (.ld 5 2 true (.t 2)),
 un (.call 6 Ee [((.t 5),false)]),
 un (.asg 7 (.t 6)),
 ⟨some (7,true),.ld 8 2 true (.t 2)⟩,
 ⟨some (7,true),.mov 9 (.t 1)⟩,
 ⟨some (7,true),.call 10 L8 [((.t 8),false),((.t 9),false)]⟩,
 un (.pick 11 (.t 7) (.t 10) (.c (.bool false))),
 un (.asg 4 (.t 11))])
 (.drop [5,6,7,8,9,10,11] .ret)))
abbrev Af7:List RS:=[.t 4]
theorem Ahf:Az Tryz.prog Ff 12 Ahn Af7=true:=by kernel_rfl
def Ayh:ACode:=
 (.seq (.reg [un (.box 2 (.t 0)),
 un (.asg 4 (.c (.bool false)))])
 (.seq (.reg [un (.mov 5 (.t 1)),
 un (.fadr 6 0 (.t 2)),
 un (.ld 7 1 false (.t 6)),
 un (.call 8 Rq [((.t 5),false),((.t 7),false)]),
 un (.asg 9 (.t 8)),
 ⟨some (9,true),.mov 10 (.t 1)⟩,
 ⟨some (9,true),.call 11 Aba [((.t 10),false)]⟩,
 un (.pick 12 (.t 9) (.t 11) (.c (.bool false))),
 un (.asg 13 (.t 12)),
 ⟨some (13,true),.ld 14 2 true (.t 2)⟩,
 ⟨some (13,true),.mov 15 (.t 1)⟩,
 ⟨some (13,true),.call 16 T3 [((.t 14),false),((.t 15),false)]⟩,
 ⟨some (13,true),.len 17 (.t 16)⟩,
 ⟨some (13,true),.mov 18 (.t 1)⟩,
 ⟨some (13,true),.len 19 (.t 18)⟩,
 ⟨some (13,true),.bin 20 .eql (.t 17) (.t 19)⟩,
 un (.pick 21 (.t 13) (.t 20) (.c (.bool false))),
 un (.asg 4 (.t 21))])
 (.drop [5,6,7,8,9,10,11,12,13,14,15,16,17,18,19,20,21] .ret)))
abbrev Axs:List RS:=[.t 4]
theorem Av2:Az Tryz.prog Lz 22 Ayh Axs=true:=by kernel_rfl
def Az5:ACode:=
 (.seq (.reg [un (.box 2 (.t 0)),
 un (.asg 4 (.c (.bool false)))])
 (.seq (.reg [un (.mov 5 (.t 1)),
 un (.fadr 6 0 (.t 2)),
 un (.ld 7 1 false (.t 6)),
 un (.bin 8 .sub (.t 7) (.c (.int .i64 1))),
 un (.call 9 Ua [((.t 5),false),((.c (.int .i64 0)),false),((.t 8),false)]),
 un (.asg 10 (.t 9)),
 ⟨some (10,true),.ld 11 2 true (.t 2)⟩,
 ⟨some (10,true),.mov 12 (.t 1)⟩,
 ⟨some (10,true),.call 13 V3 [((.t 11),false),((.t 12),false)]⟩,
 ⟨some (10,true),.mov 14 (.t 1)⟩,
 ⟨some (10,true),.call 15 Ms [((.t 13),false),((.t 14),false)]⟩,
 un (.pick 16 (.t 10) (.t 15) (.c (.bool false))),
 un (.asg 4 (.t 16))])
 (.drop [5,6,7,8,9,10,11,12,13,14,15,16] .ret)))
abbrev A03:List RS:=[.t 4]
theorem A1y:Az Tryz.prog N4 17 Az5 A03=true:=by kernel_rfl
def Wm:ACode:=
 (.seq (.reg [un (.mov 13 (.t 6)),
 un (.bin 14 .gtr (.t 13) (.c (.int .i64 0))),
 un (.asg 15 (.t 14)),
 ⟨some (15,true),.mov 16 (.t 5)⟩,
 ⟨some (15,true),.len 17 (.t 16)⟩,
 ⟨some (15,true),.bin 18 .gtr (.t 17) (.c (.int .i64 1))⟩,
 un (.pick 19 (.t 15) (.t 18) (.c (.bool false)))])
 (.drop [13,14,15,16,17,18] (.cond (.t 19) .skip
 (.exit 0))))
def Ll:ACode:=
 (.seq (.cut Wm)
 (.drop [13,14,15,16,17,18,19] (.seq (.block 1 (.reg [un (.mov 22 (.t 5)),
 un (.mov 23 (.t 0)),
 un (.mov 24 (.t 5)),
 un (.len 25 (.t 24)),
 un (.call 26 A8 [((.t 23),true),((.t 25),false)]),
 un (.mov 27 (.t 0)),
 un (.mov 28 (.t 5)),
 un (.len 29 (.t 28)),
 un (.call 30 A8 [((.t 27),true),((.t 29),false)]),
 un (.call 31 Io [((.t 22),false),((.t 26),false),((.t 30),false)]),
 un (.asg 5 (.t 31))]))
 (.drop [22,23,24,25,26,27,28,29,30,31] (.reg [un (.mov 20 (.t 6)),
 un (.bin 21 .sub (.t 20) (.c (.int .i64 1))),
 un (.asg 6 (.t 21))])))))
def Ze:ACode:=
 (.seq (.reg [un (.asg 4 (.c (.nilsl 1)))])
 (.seq (.reg [un (.mov 7 (.t 1)),
 un (.call 8 Ri [((.t 7),false),((.c (.int .i64 0)),false)]),
 un (.call 9 Oj [((.t 8),false),((.c (.int .i64 9)),false)]),
 un (.call 10 F4 [((.t 9),false)]),
 un (.asg 5 (.t 10))])
 (.drop [7,8,9,10] (.seq (.seq (.reg [un (.mov 11 (.t 0)),
 un (.call 12 A8 [((.t 11),true),((.c (.int .i64 4)),false)]),
 un (.asg 6 (.t 12))])
 (.drop [11,12] (.block 0 (.loop Ll))))
 (.drop [11,12,6,13,14,15,16,17,18,19,22,23,24,25,26,27,28,29,30,31,20,21] (.seq (.seq (.reg [un (.mov 32 (.t 0)),
 un (.call 33 A8 [((.t 32),true),((.c (.int .i64 24)),false)])])
 (.drop [32] (.block 2 (.seq (.reg [un (.bin 35 .eql (.t 33) (.c (.int .i64 0))),
 un (.asg 34 (.t 35))])
 (.drop [35] (.cond (.t 34) (.reg [un (.mov 36 (.t 5)),
 un (.bsl 37 1 [(.c (.int .i64 0))]),
 un (.app 38 1 (.t 36) (.t 37)),
 un (.asg 5 (.t 38))])
 (.seq (.reg [un (.bin 40 .eql (.t 33) (.c (.int .i64 1))),
 un (.asg 39 (.t 40))])
 (.drop [40] (.cond (.t 39) (.seq (.reg [un (.mov 41 (.t 5)),
 un (.len 42 (.t 41)),
 un (.bin 43 .gtr (.t 42) (.c (.int .i64 0)))])
 (.drop [41,42] (.cond (.t 43) (.reg [un (.mov 44 (.t 5)),
 un (.mov 45 (.t 0)),
 un (.mov 46 (.t 5)),
 un (.len 47 (.t 46)),
 un (.call 48 A8 [((.t 45),true),((.t 47),false)]),
 un (.mov 49 (.t 0)),
 un (.mov 50 (.t 5)),
 un (.len 51 (.t 50)),
 un (.mov 52 (.t 5)),
 un (.len 53 (.t 52)),
 un (.bin 54 .sub (.t 53) (.c (.int .i64 1))),
 un (.bsl 55 1 [(.c (.int .i64 (-1))),(.t 51),(.t 54),(.c (.int .i64 0))]),
 un (.call 56 Bu [((.t 49),true),((.t 55),false)]),
 un (.iad 57 1 (.t 44) (.t 48)),
 un (.st 1 (.t 57) (.t 56))])
 .skip)))
 .skip)))))))))
 (.drop [32,33,35,34,36,37,38,40,39,41,42,43,44,45,46,47,48,49,50,51,52,53,54,55,56,57] (.seq (.reg [un (.mov 58 (.t 5)),
 un (.asg 4 (.t 58))])
 (.drop [58] .ret)))))))))
abbrev Yu:List RS:=[.t 4]
theorem Zt:Az Tryz.prog Iy 59 Ze Yu=true:=by kernel_rfl
def Azv:ACode:=
 (.seq (.reg [un (.box 2 (.t 0)),
 un (.asg 4 (.c (.bool false)))])
 (.seq (.reg [un (.fadr 5 0 (.t 2)),
 un (.ld 6 1 false (.t 5)),
 un (.mov 7 (.t 1)),
 un (.call 8 M8 [((.t 6),false),((.t 7),false)]),
 un (.asg 9 (.t 8)),
 ⟨some (9,true),.ld 10 2 true (.t 2)⟩,
 ⟨some (9,true),.mov 11 (.t 1)⟩,
 ⟨some (9,true),.call 12 Rk [((.t 10),false),((.t 11),false)]⟩,
 ⟨some (9,true),.mov 13 (.t 1)⟩,
 ⟨some (9,true),.call 14 Ms [((.t 12),false),((.t 13),false)]⟩,
 un (.pick 15 (.t 9) (.t 14) (.c (.bool false))),
 un (.asg 4 (.t 15))])
 (.drop [5,6,7,8,9,10,11,12,13,14,15] .ret)))
abbrev Az4:List RS:=[.t 4]
theorem Azu:Az Tryz.prog Add 16 Azv Az4=true:=by kernel_rfl
def Aoo:ACode:=
 (.seq (.reg [un (.box 2 (.t 0)),
 un (.box 3 (.t 1)),
 un (.asg 4 (.c (.bool false))),
 un (.asg 5 (.c (.bool false)))])
 (.seq (.seq (.reg [un (.ld 6 2 true (.t 2)),
 un (.call 7 Ee [((.t 6),false)]),
 un (.un 8 .not (.t 7)),
 un (.asg 9 (.t 8)),
 ⟨some (9,false),.ld 10 2 true (.t 3)⟩,
 ⟨some (9,false),.call 11 Ee [((.t 10),false)]⟩,
 ⟨some (9,false),.un 12 .not (.t 11)⟩,
 un (.pick 13 (.t 9) (.c (.bool true)) (.t 12))])
 (.drop [6,7,8,9,10,11,12] (.cond (.t 13) (.seq (.reg [un (.asg 4 (.c (.bool false))),
 un (.asg 5 (.c (.bool false)))])
 .ret)
 .skip)))
 (.drop [6,7,8,9,10,11,12,13] (.seq (.dreg [(un (.ld 14 2 true (.t 2)),[]),
 (un (.call 15 Ro [((.t 14),false)]),[]),
 (un (.ld 16 2 true (.t 3)),[14,15])]
 [un (.call 17 Ro [((.t 16),false)]),
 un (.call 18 Tg [((.t 15),false),((.t 17),false)]),
 un (.asg 4 (.t 18)),
 un (.asg 5 (.c (.bool true)))])
 (.drop [14,15,16,17,18] .ret)))))
abbrev Amq:List RS:=[.t 4,.t 5]
theorem Anz:Az Tryz.prog To 19 Aoo Amq=true:=by kernel_rfl
def Lq:ACode:=
 (.seq (.seq (.reg [un (.mov 8 (.t 5)),
 un (.mov 9 (.t 1)),
 un (.len 10 (.t 9)),
 un (.bin 11 .lss (.t 8) (.t 10)),
 un (.asg 12 (.t 11)),
 ⟨some (12,true),.mov 13 (.t 1)⟩,
 ⟨some (12,true),.mov 14 (.t 5)⟩,
 ⟨some (12,true),.iad 15 1 (.t 13) (.t 14)⟩,
 ⟨some (12,true),.ld 16 1 false (.t 15)⟩,
 ⟨some (12,true),.bin 17 .geq (.t 16) (.c (.int .i64 0))⟩,
 un (.pick 18 (.t 12) (.t 17) (.c (.bool false)))])
 (.drop [8,9,10,11,12,13,14,15,16,17] (.cond (.t 18) .skip
 (.exit 0))))
 (.drop [8,9,10,11,12,13,14,15,16,17,18] (.block 1 (.reg [un (.mov 19 (.t 5)),
 un (.bin 20 .add (.t 19) (.c (.int .i64 1))),
 un (.asg 5 (.t 20))]))))
def K2:ACode:=
 (.seq (.seq (.reg [un (.mov 31 (.t 6)),
 un (.mov 32 (.t 0)),
 un (.nck 33 (.t 32)),
 un (.fadr 34 2 (.t 33)),
 un (.fadr 35 0 (.t 34)),
 un (.ld 36 1 false (.t 35)),
 un (.bin 37 .lss (.t 31) (.t 36))])
 (.drop [31,32,33,34,35,36] (.cond (.t 37) .skip
 (.exit 2))))
 (.drop [31,32,33,34,35,36,37] (.seq (.block 3 (.seq (.seq (.reg [un (.mov 40 (.t 0)),
 un (.nck 41 (.t 40)),
 un (.fadr 42 5 (.t 41)),
 un (.ld 43 1 false (.t 42)),
 un (.bin 44 .add (.t 43) (.c (.int .i64 1))),
 un (.nck 45 (.t 40)),
 un (.fadr 46 5 (.t 45)),
 un (.st 1 (.t 46) (.t 44))])
 (.drop [40,41,42,43,44,45,46] (.seq (.reg [un (.mov 47 (.t 0)),
 un (.nck 48 (.t 47)),
 un (.fadr 49 5 (.t 48)),
 un (.ld 50 1 false (.t 49)),
 un (.bin 51 .gtr (.t 50) (.c (.int .i64 5000)))])
 (.drop [47,48,49,50] (.cond (.t 51) (.seq (.reg [un (.asg 4 (.c (.bool false)))])
 .ret)
 .skip)))))
 (.drop [40,41,42,43,44,45,46,47,48,49,50,51] (.seq (.reg [un (.mov 52 (.t 1)),
 un (.call 53 L0 [((.t 52),false)]),
 un (.asg 7 (.t 53))])
 (.drop [52,53] (.seq (.reg [un (.mov 54 (.t 7)),
 un (.mov 55 (.t 5)),
 un (.mov 56 (.t 6)),
 un (.iad 57 1 (.t 54) (.t 55)),
 un (.st 1 (.t 57) (.t 56))])
 (.drop [54,55,56,57] (.seq (.reg [un (.mov 58 (.t 0)),
 un (.mov 59 (.t 7)),
 un (.call 60 Hb [((.t 58),false),((.t 59),true)]),
 un (.asg 61 (.t 60)),
 ⟨some (61,true),.mov 62 (.t 0)⟩,
 ⟨some (61,true),.asgf 63 (.t 7)⟩,
 ⟨some (61,true),.call 64 B8 [((.t 62),true),((.t 63),false)]⟩,
 ⟨some (61,true),.un 65 .not (.t 64)⟩,
 un (.pick 66 (.t 61) (.t 65) (.c (.bool false)))])
 (.drop [58,59,60,61,62,63,64,65] (.cond (.t 66) (.seq (.reg [un (.asg 4 (.c (.bool false)))])
 .ret)
 .skip))))))))))
 (.drop [40,41,42,43,44,45,46,47,48,49,50,51,52,53,7,54,55,56,57,58,59,60,61,62,63,64,65,66] (.reg [un (.mov 38 (.t 6)),
 un (.bin 39 .add (.t 38) (.c (.int .i64 1))),
 un (.asg 6 (.t 39))])))))
def Y5:ACode:=
 (.seq (.reg [un (.asg 4 (.c (.bool false)))])
 (.seq (.reg [un (.asg 5 (.c (.int .i64 0)))])
 (.seq (.block 0 (.loop Lq))
 (.drop [8,9,10,11,12,13,14,15,16,17,18,19,20] (.seq (.seq (.reg [un (.mov 21 (.t 5)),
 un (.mov 22 (.t 1)),
 un (.len 23 (.t 22)),
 un (.bin 24 .eql (.t 21) (.t 23))])
 (.drop [21,22,23] (.cond (.t 24) (.seq (.reg [un (.mov 25 (.t 0)),
 un (.nck 26 (.t 25)),
 un (.fadr 27 6 (.t 26)),
 un (.ld 28 1 false (.t 27)),
 un (.mov 29 (.t 1)),
 un (.cally 30 (.t 28) [(.t 29)] [true,true,true,true,true,true,true,true,true]),
 un (.asg 4 (.t 30))])
 (.drop [25,26,27,28,29,30] .ret))
 .skip)))
 (.drop [21,22,23,24,25,26,27,28,29,30] (.seq (.seq (.reg [un (.asg 6 (.c (.int .i64 0)))])
 (.block 2 (.loop K2)))
 (.drop [6,31,32,33,34,35,36,37,40,41,42,43,44,45,46,47,48,49,50,51,52,53,7,54,55,56,57,58,59,60,61,62,63,64,65,66,38,39] (.seq (.reg [un (.asg 4 (.c (.bool true)))])
 .ret)))))))))
abbrev Zh:List RS:=[.t 4]
theorem Zk:Az Tryz.prog B8 67 Y5 Zh=true:=by kernel_rfl
def Xn:ACode:=
 (.seq (.seq (.reg [un (.mov 6 (.t 5)),
 un (.fadr 7 0 (.t 2)),
 un (.ld 8 1 false (.t 7)),
 un (.bin 9 .lss (.t 6) (.t 8))])
 (.drop [6,7,8] (.cond (.t 9) .skip
 (.exit 0))))
 (.drop [6,7,8,9] (.seq (.block 1 (.reg [un (.ld 12 2 true (.t 2)),
 un (.mov 13 (.t 1)),
 un (.call 14 Rk [((.t 12),false),((.t 13),false)]),
 un (.asg 1 (.t 14))]))
 (.drop [12,13,14] (.frz [1] (.reg [un (.mov 10 (.t 5)),
 un (.bin 11 .add (.t 10) (.c (.int .i64 1))),
 un (.asg 5 (.t 11))]))))))
def Aru:ACode:=
 (.seq (.reg [un (.box 2 (.t 0)),
 un (.asg 4 (.c (.nilsl 1)))])
 (.seq (.seq (.reg [un (.asg 5 (.c (.int .i64 0)))])
 (.block 0 (.loop Xn)))
 (.drop [5,6,7,8,9,12,13,14,10,11] (.seq (.reg [un (.mov 15 (.t 1)),
 un (.asg 4 (.t 15))])
 (.drop [15] .ret)))))
abbrev Asg:List RS:=[.t 4]
theorem Ar0:Az Tryz.prog Vz 16 Aru Asg=true:=by kernel_rfl
def W0:ACode:=
 (.seq (.reg [un (.box 3 (.t 0)),
 un (.asg 6 (.c (.nilsl 1))),
 un (.asg 7 (.c (.bool false)))])
 (.seq (.seq (.reg [un (.ld 8 2 true (.t 3)),
 un (.mov 9 (.t 2)),
 un (.call 10 Ff [((.t 8),false),((.t 9),false)]),
 un (.un 11 .not (.t 10)),
 un (.asg 12 (.t 11)),
 ⟨some (12,false),.mov 13 (.t 1)⟩,
 ⟨some (12,false),.len 14 (.t 13)⟩,
 ⟨some (12,false),.bin 15 .eql (.t 14) (.c (.int .i64 0))⟩,
 un (.pick 16 (.t 12) (.c (.bool true)) (.t 15)),
 un (.asg 17 (.t 16)),
 ⟨some (17,false),.ld 18 2 true (.t 3)⟩,
 ⟨some (17,false),.mov 19 (.t 1)⟩,
 ⟨some (17,false),.call 20 Lz [((.t 18),false),((.t 19),false)]⟩,
 ⟨some (17,false),.un 21 .not (.t 20)⟩,
 un (.pick 22 (.t 17) (.c (.bool true)) (.t 21))])
 (.drop [8,9,10,11,12,13,14,15,16,17,18,19,20,21] (.cond (.t 22) (.seq (.reg [un (.bsl 23 1 []),
 un (.asg 6 (.t 23)),
 un (.asg 7 (.c (.bool false)))])
 (.drop [23] .ret))
 .skip)))
 (.drop [8,9,10,11,12,13,14,15,16,17,18,19,20,21,22,23] (.seq (.reg [un (.mov 24 (.t 1)),
 un (.mov 25 (.t 2)),
 un (.call 26 I0 [((.t 24),false),((.t 25),false)]),
 un (.call 27 T5 [((.t 26),false)]),
 un (.asg 6 (.t 27)),
 un (.asg 7 (.c (.bool true)))])
 (.drop [24,25,26,27] .ret)))))
abbrev Wz:List RS:=[.t 6,.t 7]
theorem W1:Az Tryz.prog E3 28 W0 Wz=true:=by kernel_rfl
def Ahj:ACode:=
 (.seq (.reg [un (.box 3 (.t 0)),
 un (.asg 6 (.c (.nilsl 1))),
 un (.asg 7 (.c (.bool false)))])
 (.seq (.seq (.reg [un (.ld 8 2 true (.t 3)),
 un (.mov 9 (.t 2)),
 un (.call 10 Ff [((.t 8),false),((.t 9),false)]),
 un (.un 11 .not (.t 10)),
 un (.asg 12 (.t 11)),
 ⟨some (12,false),.ld 13 2 true (.t 3)⟩,
 ⟨some (12,false),.mov 14 (.t 1)⟩,
 ⟨some (12,false),.call 15 Lz [((.t 13),false),((.t 14),false)]⟩,
 ⟨some (12,false),.un 16 .not (.t 15)⟩,
 un (.pick 17 (.t 12) (.c (.bool true)) (.t 16))])
 (.drop [8,9,10,11,12,13,14,15,16] (.cond (.t 17) (.seq (.reg [un (.bsl 18 1 []),
 un (.asg 6 (.t 18)),
 un (.asg 7 (.c (.bool false)))])
 (.drop [18] .ret))
 .skip)))
 (.drop [8,9,10,11,12,13,14,15,16,17,18] (.seq (.reg [un (.mov 19 (.t 1)),
 un (.mov 20 (.t 2)),
 un (.call 21 Tu [((.t 19),false),((.t 20),false)]),
 un (.asg 6 (.t 21)),
 un (.asg 7 (.c (.bool true)))])
 (.drop [19,20,21] .ret)))))
abbrev Age:List RS:=[.t 6,.t 7]
theorem Af6:Az Tryz.prog M9 22 Ahj Age=true:=by kernel_rfl
def Agk:ACode:=
 (.seq (.reg [un (.ld 8 2 true (.t 3)),
 un (.mov 9 (.t 2)),
 un (.call 10 Ff [((.t 8),false),((.t 9),false)]),
 un (.un 11 .not (.t 10)),
 un (.asg 12 (.t 11)),
 ⟨some (12,false),.ld 13 2 true (.t 3)⟩,
 ⟨some (12,false),.mov 14 (.t 1)⟩,
 ⟨some (12,false),.call 15 Lz [((.t 13),false),((.t 14),false)]⟩,
 ⟨some (12,false),.un 16 .not (.t 15)⟩,
 un (.pick 17 (.t 12) (.c (.bool true)) (.t 16))])
 (.drop [8,9,10,11,12,13,14,15,16] (.cond (.t 17) (.seq (.reg [un (.bsl 18 1 []),
 un (.asg 6 (.t 18)),
 un (.asg 7 (.c (.bool false)))])
 (.drop [18] .ret))
 .skip)))
def Aoy:ACode:=
 (.seq (.reg [un (.box 3 (.t 0)),
 un (.asg 6 (.c (.nilsl 1))),
 un (.asg 7 (.c (.bool false)))])
 (.seq (.cut Agk)
 (.drop [8,9,10,11,12,13,14,15,16,17,18] (.seq (.reg [un (.mov 19 (.t 1)),
 un (.mov 20 (.t 2)),
 un (.call 21 Ki [((.t 20),false)]),
 un (.call 22 I0 [((.t 19),false),((.t 21),false)]),
 un (.mov 23 (.t 2)),
 un (.call 24 On [((.t 23),false)]),
 un (.call 25 T6 [((.t 22),false),((.t 24),false)]),
 un (.asg 6 (.t 25)),
 un (.asg 7 (.c (.bool true)))])
 (.drop [19,20,21,22,23,24,25] .ret)))))
abbrev Anv:List RS:=[.t 6,.t 7]
theorem Aoz:Az Tryz.prog M0 26 Aoy Anv=true:=by kernel_rfl
def Ae1:ACode:=
 (.seq (.reg [un (.box 2 (.t 0)),
 un (.alc 4 (.agg [.int .i64 0,.nilsl 2])),
 un (.asg 5 (.c (.bool false)))])
 (.seq (.seq (.reg [un (.ld 6 2 true (.t 2)),
 un (.call 7 Ee [((.t 6),false)]),
 un (.un 8 .not (.t 7)),
 un (.asg 9 (.t 8)),
 ⟨some (9,false),.mov 10 (.t 1)⟩,
 ⟨some (9,false),.len 11 (.t 10)⟩,
 ⟨some (9,false),.bin 12 .eql (.t 11) (.c (.int .i64 0))⟩,
 un (.pick 13 (.t 9) (.c (.bool true)) (.t 12)),
 un (.asg 14 (.t 13)),
 ⟨some (14,false),.ld 15 2 true (.t 2)⟩,
 ⟨some (14,false),.mov 16 (.t 1)⟩,
 ⟨some (14,false),.call 17 Lz [((.t 15),false),((.t 16),false)]⟩,
 ⟨some (14,false),.un 18 .not (.t 17)⟩,
 un (.pick 19 (.t 14) (.c (.bool true)) (.t 18))])
 (.drop [6,7,8,9,10,11,12,13,14,15,16,17,18] (.cond (.t 19) (.seq (.reg [un (.bld 20 [.int .i64 0,.nilsl 2] []),
 un (.st 2 (.t 4) (.t 20)),
 un (.asg 5 (.c (.bool false)))])
 (.drop [20] .ret))
 .skip)))
 (.drop [6,7,8,9,10,11,12,13,14,15,16,17,18,19,20] (.seq (.reg [un (.ld 21 2 true (.t 2)),
 un (.mov 22 (.t 1)),
 un (.call 23 Pu [((.t 21),false),((.t 22),false)]),
 un (.st 2 (.t 4) (.t 23)),
 un (.asg 5 (.c (.bool true)))])
 (.drop [21,22,23] .ret)))))
abbrev Ae8:List RS:=[.c 4 2 true,.t 5]
theorem Aez:Az Tryz.prog Gf 24 Ae1 Ae8=true:=by kernel_rfl
def Aa0:ACode:=
 (.seq (.reg [un (.box 2 (.t 0)),
 un (.alc 4 (.agg [.int .i64 0,.nilsl 2])),
 un (.asg 5 (.c (.bool false)))])
 (.seq (.seq (.reg [un (.ld 6 2 true (.t 2)),
 un (.mov 7 (.t 1)),
 un (.call 8 Ff [((.t 6),false),((.t 7),false)]),
 un (.un 9 .not (.t 8))])
 (.drop [6,7,8] (.cond (.t 9) (.seq (.reg [un (.bld 10 [.int .i64 0,.nilsl 2] []),
 un (.st 2 (.t 4) (.t 10)),
 un (.asg 5 (.c (.bool false)))])
 (.drop [10] .ret))
 .skip)))
 (.drop [6,7,8,9,10] (.seq (.reg [un (.ld 11 2 true (.t 2)),
 un (.mov 12 (.t 1)),
 un (.call 13 Tq [((.t 11),false),((.t 12),false)]),
 un (.st 2 (.t 4) (.t 13)),
 un (.asg 5 (.c (.bool true)))])
 (.drop [11,12,13] .ret)))))
abbrev Aa9:List RS:=[.c 4 2 true,.t 5]
theorem Aaw:Az Tryz.prog Er 14 Aa0 Aa9=true:=by kernel_rfl
def Apn:ACode:=
 (.seq (.reg [un (.box 2 (.t 0)),
 un (.asg 4 (.c (.bool false)))])
 (.seq (.reg [un (.ld 5 2 true (.t 2)),
 un (.call 6 Mu [((.t 5),false)]),
 un (.asg 7 (.t 6)),
 ⟨some (7,true),.ld 8 2 true (.t 2)⟩,
 ⟨some (7,true),.mov 9 (.t 1)⟩,
 ⟨some (7,true),.call 10 Add [((.t 8),false),((.t 9),false)]⟩,
 un (.pick 11 (.t 7) (.t 10) (.c (.bool false))),
 un (.asg 4 (.t 11))])
 (.drop [5,6,7,8,9,10,11] .ret)))
abbrev Ar4:List RS:=[.t 4]
theorem Aso:Az Tryz.prog Lo 12 Apn Ar4=true:=by kernel_rfl
def Ayf:ACode:=
 (.seq (.reg [un (.box 2 (.t 0)),
 un (.box 3 (.t 1)),
 un (.asg 4 (.c (.bool false)))])
 (.seq (.reg [un (.ld 8 2 true (.t 2)),
 un (.ld 9 2 true (.t 3)),
 un (.call 10 To [((.t 8),false),((.t 9),false)]),
 un (.asg 7 (.t 10)),
 un (.ext 11 (.t 7) 0),
 un (.ext 12 (.t 7) 1),
 un (.asg 5 (.t 11)),
 un (.asg 6 (.t 12))])
 (.drop [8,9,10,7,11,12] (.seq (.reg [un (.mov 13 (.t 6)),
 un (.asg 14 (.t 13)),
 ⟨some (14,true),.mov 15 (.t 5)⟩,
 un (.pick 16 (.t 14) (.t 15) (.c (.bool false))),
 un (.asg 4 (.t 16))])
 (.drop [13,14,15,16] .ret)))))
abbrev Ayt:List RS:=[.t 4]
theorem Awa:Az Tryz.prog Abl 17 Ayf Ayt=true:=by kernel_rfl
def Lm:ACode:=
 (.seq (.reg [un (.bin 24 .lss (.t 23) (.t 22))])
 (.seq (.cond (.t 24) .skip
 (.exit 0))
 (.seq (.block 1 (.seq (.reg [un (.mov 25 (.t 23)),
 un (.asg 11 (.t 25))])
 (.drop [25] (.reg [un (.mov 26 (.t 10)),
 un (.mov 27 (.t 11)),
 un (.iad 28 1 (.t 26) (.t 27)),
 un (.st 1 (.t 28) (.c (.int .i64 (-1))))]))))
 (.drop [25,11,26,27,28] (.reg [un (.bin 29 .add (.t 23) (.c (.int .i64 1))),
 un (.asg 23 (.t 29))])))))
def Aj5:ACode:=
 (.seq (.reg [un (.box 4 (.t 0)),
 un (.box 5 (.t 1)),
 un (.asg 8 (.c (.bool false)))])
 (.seq (.reg [un (.ld 12 2 true (.t 4)),
 un (.ld 13 2 true (.t 5)),
 un (.mov 14 (.t 2)),
 un (.mov 15 (.t 3)),
 un (.bld 16 [.int .i64 0,.nilsl 2,.int .i64 0,.nilsl 2,.bool false,.int .i64 0,.dead] [(0,2,(.t 12)),(2,2,(.t 13)),(4,1,(.t 14)),(6,1,(.t 15))]),
 un (.boxk 17 6 (.t 16)),
 un (.asg 9 (.t 17))])
 (.drop [12,13,14,15,16,17] (.seq (.reg [un (.fadr 18 0 (.t 4)),
 un (.ld 19 1 false (.t 18)),
 un (.mk 20 1 (.int .i64 0) (.t 19)),
 un (.asg 10 (.t 20))])
 (.drop [18,19,20] (.seq (.seq (.reg [un (.mov 21 (.t 10)),
 un (.len 22 (.t 21)),
 un (.mov 23 (.c (.int .i64 0)))])
 (.drop [21] (.block 0 (.loop Lm))))
 (.drop [21,22,23,24,25,11,26,27,28,29] (.seq (.seq (.reg [un (.mov 30 (.t 9)),
 un (.mov 31 (.t 10)),
 un (.call 32 Hb [((.t 30),false),((.t 31),true)])])
 (.drop [30,31] (.cond (.t 32) (.reg [un (.mov 33 (.t 9)),
 un (.asgf 34 (.t 10)),
 un (.call 35 B8 [((.t 33),true),((.t 34),false)])])
 .skip)))
 (.drop [30,31,32,33,34,35] (.seq (.reg [un (.mov 36 (.t 9)),
 un (.nck 37 (.t 36)),
 un (.fadr 38 5 (.t 37)),
 un (.ld 39 1 false (.t 38)),
 un (.bin 40 .leq (.t 39) (.c (.int .i64 5000))),
 un (.asg 8 (.t 40))])
 (.drop [36,37,38,39,40] (.frz [190600044] .ret))))))))))))
abbrev Aj2:List RS:=[.t 8]
theorem Aj6:Az Tryz.prog Ov 41 Aj5 Aj2=true:=by kernel_rfl
def Ach:ACode:=
 (.seq (.seq (.reg [un (.mov 7 (.t 4)),
 un (.fadr 8 0 (.t 1)),
 un (.ld 9 1 false (.t 8)),
 un (.bin 10 .shl (.c (.int .i64 1)) (.t 9)),
 un (.bin 11 .lss (.t 7) (.t 10))])
 (.drop [7,8,9,10] (.cond (.t 11) .skip
 (.exit 0))))
 (.drop [7,8,9,10,11] (.seq (.block 1 (.seq (.reg [un (.mov 14 (.t 4)),
 un (.call 15 Yn [((.t 14),false)]),
 un (.asg 5 (.t 15))])
 (.drop [14,15] (.seq (.reg [un (.ld 16 2 true (.t 1)),
 un (.mov 17 (.t 5)),
 un (.call 18 N4 [((.t 16),false),((.t 17),false)])])
 (.drop [16,17] (.cond (.t 18) (.frz [3,5] (.reg [un (.mov 19 (.t 3)),
 un (.mov 20 (.t 5)),
 un (.call 21 Ym [((.t 19),false),((.t 20),false)]),
 un (.asg 3 (.t 21))]))
 .skip))))))
 (.drop [14,15,5,16,17,18,19,20,21] (.reg [un (.mov 12 (.t 4)),
 un (.bin 13 .add (.t 12) (.c (.int .i64 1))),
 un (.asg 4 (.t 13))])))))
def Awp:ACode:=
 (.seq (.reg [un (.box 1 (.t 0)),
 un (.asg 2 (.c (.nilsl 1)))])
 (.seq (.reg [un (.bsl 6 1 []),
 un (.asg 3 (.t 6))])
 (.drop [6] (.seq (.seq (.reg [un (.asg 4 (.c (.int .i64 0)))])
 (.block 0 (.loop Ach)))
 (.drop [4,7,8,9,10,11,14,15,5,16,17,18,19,20,21,12,13] (.seq (.reg [un (.mov 22 (.t 3)),
 un (.asg 2 (.t 22))])
 (.drop [22] .ret)))))))
abbrev Ayd:List RS:=[.t 2]
theorem Aym:Az Tryz.prog Aa7 23 Awp Ayd=true:=by kernel_rfl
def Agj:ACode:=
 (.seq (.reg [un (.box 3 (.t 0)),
 un (.asg 6 (.c (.nilsl 1)))])
 (.seq (.dreg [(un (.ld 7 2 true (.t 3)),[]),
 (un (.fadr 8 0 (.t 3)),[7]),
 (un (.ld 9 1 false (.t 8)),[7]),
 (un (.call 10 F4 [((.t 9),false)]),[7]),
 (un (.mov 11 (.t 1)),[7,8,9,10]),
 (un (.mov 12 (.t 2)),[7,8,9,10,11]),
 (un (.call 13 Io [((.t 10),false),((.t 11),false),((.t 12),false)]),[7])]
 [un (.call 14 Vz [((.t 7),false),((.t 13),false)]),
 un (.asg 6 (.t 14))])
 (.drop [7,8,9,10,11,12,13,14] .ret)))
abbrev Ahl:List RS:=[.t 6]
theorem Agt:Az Tryz.prog Nv 15 Agj Ahl=true:=by kernel_rfl
def Tz:ACode:=
 (.seq (.reg [un (.ld 10 2 true (.t 3)),
 un (.mov 11 (.t 2)),
 un (.call 12 Lo [((.t 10),false),((.t 11),false)]),
 un (.un 13 .not (.t 12)),
 un (.asg 14 (.t 13)),
 ⟨some (14,false),.mov 15 (.t 1)⟩,
 ⟨some (14,false),.len 16 (.t 15)⟩,
 ⟨some (14,false),.bin 17 .eql (.t 16) (.c (.int .i64 0))⟩,
 un (.pick 18 (.t 14) (.c (.bool true)) (.t 17)),
 un (.asg 19 (.t 18)),
 ⟨some (19,false),.ld 20 2 true (.t 3)⟩,
 ⟨some (19,false),.mov 21 (.t 1)⟩,
 ⟨some (19,false),.call 22 N4 [((.t 20),false),((.t 21),false)]⟩,
 ⟨some (19,false),.un 23 .not (.t 22)⟩,
 un (.pick 24 (.t 19) (.c (.bool true)) (.t 23))])
 (.drop [10,11,12,13,14,15,16,17,18,19,20,21,22,23] (.cond (.t 24) (.seq (.reg [un (.bsl 25 1 []),
 un (.asg 6 (.t 25)),
 un (.asg 7 (.c (.bool false)))])
 (.drop [25] .ret))
 .skip)))
def Jr:ACode:=
 (.seq (.seq (.reg [un (.mov 27 (.t 9)),
 un (.mov 28 (.t 1)),
 un (.len 29 (.t 28)),
 un (.bin 30 .lss (.t 27) (.t 29))])
 (.drop [27,28,29] (.cond (.t 30) .skip
 (.exit 0))))
 (.drop [27,28,29,30] (.seq (.block 1 (.reg [un (.mov 33 (.t 8)),
 un (.mov 34 (.t 2)),
 un (.mov 35 (.t 1)),
 un (.mov 36 (.t 9)),
 un (.iad 37 1 (.t 35) (.t 36)),
 un (.ld 38 1 false (.t 37)),
 un (.iad 39 1 (.t 34) (.t 38)),
 un (.ld 40 1 false (.t 39)),
 un (.bsl 41 1 [(.t 40)]),
 un (.app 42 1 (.t 33) (.t 41)),
 un (.asg 8 (.t 42))]))
 (.drop [33,34,35,36,37,38,39,40,41,42] (.reg [un (.mov 31 (.t 9)),
 un (.bin 32 .add (.t 31) (.c (.int .i64 1))),
 un (.asg 9 (.t 32))])))))
def Wx:ACode:=
 (.seq (.reg [un (.box 3 (.t 0)),
 un (.asg 6 (.c (.nilsl 1))),
 un (.asg 7 (.c (.bool false)))])
 (.seq (.cut Tz)
 (.drop [10,11,12,13,14,15,16,17,18,19,20,21,22,23,24,25] (.seq (.reg [un (.bsl 26 1 []),
 un (.asg 8 (.t 26))])
 (.drop [26] (.seq (.seq (.reg [un (.asg 9 (.c (.int .i64 0)))])
 (.block 0 (.loop Jr)))
 (.drop [9,27,28,29,30,33,34,35,36,37,38,39,40,41,42,31,32] (.seq (.reg [un (.mov 43 (.t 8)),
 un (.call 44 Tw [((.t 43),false)]),
 un (.asg 6 (.t 44)),
 un (.asg 7 (.c (.bool true)))])
 (.drop [43,44] .ret)))))))))
abbrev Ww:List RS:=[.t 6,.t 7]
theorem Wt:Az Tryz.prog He 45 Wx Ww=true:=by kernel_rfl
def Acn:ACode:=
 (.seq (.reg [un (.ld 13 2 true (.t 3)),
 un (.mov 14 (.t 2)),
 un (.call 15 Lo [((.t 13),false),((.t 14),false)]),
 un (.un 16 .not (.t 15)),
 un (.asg 17 (.t 16)),
 ⟨some (17,false),.ld 18 2 true (.t 3)⟩,
 ⟨some (17,false),.mov 19 (.t 1)⟩,
 ⟨some (17,false),.call 20 N4 [((.t 18),false),((.t 19),false)]⟩,
 ⟨some (17,false),.un 21 .not (.t 20)⟩,
 un (.pick 22 (.t 17) (.c (.bool true)) (.t 21))])
 (.drop [13,14,15,16,17,18,19,20,21] (.cond (.t 22) (.seq (.reg [un (.mov 23 (.t 8)),
 un (.asg 6 (.t 23)),
 un (.asg 7 (.c (.bool false)))])
 (.drop [23] .ret))
 .skip)))
def P8:ACode:=
 (.seq (.seq (.reg [un (.mov 30 (.t 11)),
 un (.mov 31 (.t 1)),
 un (.len 32 (.t 31)),
 un (.bin 33 .lss (.t 30) (.t 32))])
 (.drop [30,31,32] (.cond (.t 33) .skip
 (.exit 2))))
 (.drop [30,31,32,33] (.seq (.block 3 (.dreg [(un (.mov 36 (.t 10)),[]),
 (un (.asg 37 (.t 36)),[]),
 (⟨some (37,false),.mov 38 (.t 2)⟩,[36]),
 (⟨some (37,false),.mov 39 (.t 1)⟩,[38,36]),
 (⟨some (37,false),.mov 40 (.t 11)⟩,[38,39,36]),
 (⟨some (37,false),.iad 41 1 (.t 39) (.t 40)⟩,[38,36]),
 (⟨some (37,false),.ld 42 1 false (.t 41)⟩,[38,36]),
 (⟨some (37,false),.iad 43 1 (.t 38) (.t 42)⟩,[36]),
 (⟨some (37,false),.ld 44 1 false (.t 43)⟩,[36]),
 (⟨some (37,false),.mov 45 (.t 2)⟩,[38,39,40,41,42,43,44,36]),
 (⟨some (37,false),.mov 46 (.t 9)⟩,[38,39,40,41,42,43,44,45,36]),
 (⟨some (37,false),.iad 47 1 (.t 45) (.t 46)⟩,[38,39,40,41,42,43,44,36]),
 (⟨some (37,false),.ld 48 1 false (.t 47)⟩,[38,39,40,41,42,43,44,36])]
 [⟨some (37,false),.bin 49 .eql (.t 44) (.t 48)⟩,
 un (.pick 50 (.t 37) (.c (.bool true)) (.t 49)),
 un (.asg 10 (.t 50))]))
 (.drop [36,37,38,39,40,41,42,43,44,45,46,47,48,49,50] (.reg [un (.mov 34 (.t 11)),
 un (.bin 35 .add (.t 34) (.c (.int .i64 1))),
 un (.asg 11 (.t 35))])))))
def P9:ACode:=
 (.seq (.seq (.reg [un (.mov 24 (.t 9)),
 un (.fadr 25 0 (.t 3)),
 un (.ld 26 1 false (.t 25)),
 un (.bin 27 .lss (.t 24) (.t 26))])
 (.drop [24,25,26] (.cond (.t 27) .skip
 (.exit 0))))
 (.drop [24,25,26,27] (.seq (.block 1 (.seq (.reg [un (.asg 10 (.c (.bool false)))])
 (.seq (.seq (.reg [un (.asg 11 (.c (.int .i64 0)))])
 (.block 2 (.loop P8)))
 (.drop [11,30,31,32,33,36,37,38,39,40,41,42,43,44,45,46,47,48,49,50,34,35] (.seq (.reg [un (.mov 51 (.t 10))])
 (.cond (.t 51) (.reg [un (.mov 52 (.t 8)),
 un (.mov 53 (.t 9)),
 un (.bsl 54 1 [(.t 53)]),
 un (.app 55 1 (.t 52) (.t 54)),
 un (.asg 8 (.t 55))])
 .skip))))))
 (.drop [10,11,30,31,32,33,36,37,38,39,40,41,42,43,44,45,46,47,48,49,50,34,35,51,52,53,54,55] (.reg [un (.mov 28 (.t 9)),
 un (.bin 29 .add (.t 28) (.c (.int .i64 1))),
 un (.asg 9 (.t 29))])))))
def Agf:ACode:=
 (.seq (.reg [un (.box 3 (.t 0)),
 un (.asg 6 (.c (.nilsl 1))),
 un (.asg 7 (.c (.bool false)))])
 (.seq (.reg [un (.bsl 12 1 []),
 un (.asg 8 (.t 12))])
 (.drop [12] (.seq (.cut Acn)
 (.drop [13,14,15,16,17,18,19,20,21,22,23] (.seq (.seq (.reg [un (.asg 9 (.c (.int .i64 0)))])
 (.block 0 (.loop P9)))
 (.drop [9,24,25,26,27,10,11,30,31,32,33,36,37,38,39,40,41,42,43,44,45,46,47,48,49,50,34,35,51,52,53,54,55,28,29] (.seq (.reg [un (.mov 56 (.t 8)),
 un (.asg 6 (.t 56)),
 un (.asg 7 (.c (.bool true)))])
 (.drop [56] .ret)))))))))
abbrev Agp:List RS:=[.t 6,.t 7]
theorem Ag2:Az Tryz.prog Nk 57 Agf Agp=true:=by kernel_rfl
def Agn:ACode:=
 (.seq (.reg [un (.ld 12 2 true (.t 3)),
 un (.mov 13 (.t 2)),
 un (.call 14 Lo [((.t 12),false),((.t 13),false)]),
 un (.un 15 .not (.t 14)),
 un (.asg 16 (.t 15)),
 ⟨some (16,false),.ld 17 2 true (.t 3)⟩,
 ⟨some (16,false),.mov 18 (.t 1)⟩,
 ⟨some (16,false),.call 19 N4 [((.t 17),false),((.t 18),false)]⟩,
 ⟨some (16,false),.un 20 .not (.t 19)⟩,
 un (.pick 21 (.t 16) (.c (.bool true)) (.t 20))])
 (.drop [12,13,14,15,16,17,18,19,20] (.cond (.t 21) (.seq (.reg [un (.mov 22 (.t 8)),
 un (.asg 6 (.t 22)),
 un (.asg 7 (.c (.bool false)))])
 (.drop [22] .ret))
 .skip)))
def Vd:ACode:=
 (.seq (.seq (.reg [un (.mov 25 (.t 10)),
 un (.mov 26 (.t 1)),
 un (.len 27 (.t 26)),
 un (.bin 28 .lss (.t 25) (.t 27))])
 (.drop [25,26,27] (.cond (.t 28) .skip
 (.exit 0))))
 (.drop [25,26,27,28] (.seq (.block 1 (.reg [un (.mov 31 (.t 8)),
 un (.mov 32 (.t 9)),
 un (.mov 33 (.t 1)),
 un (.mov 34 (.t 10)),
 un (.iad 35 1 (.t 33) (.t 34)),
 un (.ld 36 1 false (.t 35)),
 un (.iad 37 1 (.t 32) (.t 36)),
 un (.ld 38 1 false (.t 37)),
 un (.call 39 Aaz [((.t 31),false),((.t 38),false)]),
 un (.asg 8 (.t 39))]))
 (.drop [31,32,33,34,35,36,37,38,39] (.reg [un (.mov 29 (.t 10)),
 un (.bin 30 .add (.t 29) (.c (.int .i64 1))),
 un (.asg 10 (.t 30))])))))
def Am7:ACode:=
 (.seq (.reg [un (.box 3 (.t 0)),
 un (.asg 6 (.c (.nilsl 1))),
 un (.asg 7 (.c (.bool false)))])
 (.seq (.reg [un (.bslr 11 1 []),
 un (.asg 8 (.t 11))])
 (.drop [11] (.seq (.cut Agn)
 (.drop [12,13,14,15,16,17,18,19,20,21,22] (.seq (.reg [un (.mov 23 (.t 2)),
 un (.call 24 Abo [((.t 23),false)]),
 un (.asg 9 (.t 24))])
 (.drop [23,24] (.seq (.seq (.reg [un (.asg 10 (.c (.int .i64 0)))])
 (.block 0 (.loop Vd)))
 (.drop [10,25,26,27,28,31,32,33,34,35,36,37,38,39,29,30] (.seq (.reg [un (.mov 40 (.t 8)),
 un (.asg 6 (.t 40)),
 un (.asg 7 (.c (.bool true)))])
 (.drop [40] .ret)))))))))))
abbrev Ano:List RS:=[.t 6,.t 7]
theorem An5:Az Tryz.prog Tj 41 Am7 Ano=true:=by kernel_rfl
def An1:ACode:=
 (.seq (.reg [un (.box 2 (.t 0)),
 un (.box 3 (.t 1)),
 un (.asg 4 (.c (.bool false)))])
 (.seq (.reg [un (.ld 5 2 true (.t 2)),
 un (.call 6 Ee [((.t 5),false)]),
 un (.asg 7 (.t 6)),
 ⟨some (7,true),.ld 8 2 true (.t 3)⟩,
 ⟨some (7,true),.call 9 Ee [((.t 8),false)]⟩,
 un (.pick 10 (.t 7) (.t 9) (.c (.bool false))),
 un (.asg 11 (.t 10)),
 ⟨some (11,true),.ld 12 2 true (.t 2)⟩,
 ⟨some (11,true),.ld 13 2 true (.t 3)⟩,
 ⟨some (11,true),.call 14 Abl [((.t 12),false),((.t 13),false)]⟩,
 un (.pick 15 (.t 11) (.t 14) (.c (.bool false))),
 un (.asg 4 (.t 15))])
 (.drop [5,6,7,8,9,10,11,12,13,14,15] .ret)))
abbrev An9:List RS:=[.t 4]
theorem Ao6:Az Tryz.prog Tm 16 An1 An9=true:=by kernel_rfl
def Anh:ACode:=
 (.seq (.reg [un (.box 4 (.t 0)),
 un (.box 5 (.t 1)),
 un (.box 7 (.t 3)),
 un (.asg 8 (.c (.nl 1))),
 un (.asg 9 (.c (.bool false)))])
 (.seq (.reg [un (.alc 10 (.nl 1))])
 (.seq (.frz [7] (.reg [un (.ld 12 2 true (.t 4)),
 un (.ld 13 2 true (.t 5)),
 un (.mov 14 (.t 2)),
 un (.mkf 15 Hm [(.t 7),(.t 10)]),
 un (.call 16 Ov [((.t 12),false),((.t 13),false),((.t 14),false),((.t 15),true)]),
 un (.asg 11 (.t 16))]))
 (.drop [12,13,14,15,16] (.seq (.reg [un (.ld 17 1 false (.t 10)),
 un (.mov 18 (.t 11)),
 un (.asg 8 (.t 17)),
 un (.asg 9 (.t 18))])
 (.drop [17,18] .ret))))))
abbrev Ao8:List RS:=[.t 8,.t 9]
theorem And:Az Tryz.prog Tb 19 Anh Ao8=true:=by kernel_rfl
def Ajt:ACode:=
 (.seq (.reg [un (.box 3 (.t 1)),
 un (.asg 4 (.c (.nilsl 1)))])
 (.seq (.seq (.reg [un (.ld 7 2 true (.t 3)),
 un (.call 8 Mu [((.t 7),false)]),
 un (.un 9 .not (.t 8))])
 (.drop [7,8] (.cond (.t 9) (.seq (.reg [un (.bsl 10 1 [(.c (.int .i64 0))]),
 un (.asg 4 (.t 10))])
 (.drop [10] .ret))
 .skip)))
 (.drop [7,8,9,10] (.seq (.reg [un (.ld 11 2 true (.t 3)),
 un (.call 12 Aa7 [((.t 11),false)]),
 un (.asg 5 (.t 12))])
 (.drop [11,12] (.seq (.reg [un (.mov 13 (.t 5)),
 un (.mov 14 (.t 0)),
 un (.mov 15 (.t 5)),
 un (.len 16 (.t 15)),
 un (.call 17 A8 [((.t 14),true),((.t 16),false)]),
 un (.iad 18 1 (.t 13) (.t 17)),
 un (.ld 19 1 false (.t 18)),
 un (.call 20 Ja [((.t 19),false)]),
 un (.asg 6 (.t 20))])
 (.drop [13,14,15,16,17,18,19,20] (.seq (.seq (.reg [un (.mov 21 (.t 0)),
 un (.call 22 A8 [((.t 21),true),((.c (.int .i64 16)),false)])])
 (.drop [21] (.block 0 (.seq (.reg [un (.bin 24 .eql (.t 22) (.c (.int .i64 0))),
 un (.asg 23 (.t 24))])
 (.drop [24] (.cond (.t 23) (.reg [un (.mov 25 (.t 6)),
 un (.mov 26 (.t 0)),
 un (.fadr 27 0 (.t 3)),
 un (.ld 28 1 false (.t 27)),
 un (.bin 29 .sub (.t 28) (.c (.int .i64 1))),
 un (.fadr 30 0 (.t 3)),
 un (.ld 31 1 false (.t 30)),
 un (.bsl 32 1 [(.c (.int .i64 0)),(.t 29),(.t 31)]),
 un (.call 33 Bu [((.t 26),true),((.t 32),false)]),
 un (.bsl 34 1 [(.t 33)]),
 un (.app 35 1 (.t 25) (.t 34)),
 un (.asg 6 (.t 35))])
 (.seq (.reg [un (.bin 37 .eql (.t 22) (.c (.int .i64 1))),
 un (.asg 36 (.t 37))])
 (.drop [37] (.cond (.t 36) (.seq (.reg [un (.mov 38 (.t 6)),
 un (.len 39 (.t 38)),
 un (.bin 40 .gtr (.t 39) (.c (.int .i64 0)))])
 (.drop [38,39] (.cond (.t 40) (.frz [6] (.reg [un (.mov 41 (.t 6)),
 un (.slc 42 1 (.t 41) (some (.c (.int .i64 1))) none),
 un (.asg 6 (.t 42))]))
 .skip)))
 .skip)))))))))
 (.drop [21,22,24,23,25,26,27,28,29,30,31,32,33,34,35,37,36,38,39,40,41,42] (.seq (.reg [un (.mov 43 (.t 6)),
 un (.asg 4 (.t 43))])
 (.drop [43] .ret)))))))))))
abbrev Ajo:List RS:=[.t 4]
theorem Ajj:Az Tryz.prog Pa 44 Ajt Ajo=true:=by kernel_rfl
def Yy:ACode:=
 (.seq (.seq (.reg [un (.mov 21 (.t 7)),
 un (.mov 22 (.t 6)),
 un (.bin 23 .lss (.t 21) (.t 22))])
 (.drop [21,22] (.cond (.t 23) .skip
 (.exit 2))))
 (.drop [21,22,23] (.seq (.block 3 (.reg [un (.mov 26 (.t 5)),
 un (.ld 27 2 true (.t 2)),
 un (.mov 28 (.t 6)),
 un (.mov 29 (.t 7)),
 un (.call 30 Nv [((.t 27),false),((.t 28),false),((.t 29),false)]),
 un (.call 31 Uu [((.t 26),false),((.t 30),false)]),
 un (.asg 5 (.t 31))]))
 (.drop [26,27,28,29,30,31] (.reg [un (.mov 24 (.t 7)),
 un (.bin 25 .add (.t 24) (.c (.int .i64 1))),
 un (.asg 7 (.t 25))])))))
def Aas:ACode:=
 (.seq (.seq (.reg [un (.mov 15 (.t 6)),
 un (.fadr 16 0 (.t 2)),
 un (.ld 17 1 false (.t 16)),
 un (.bin 18 .lss (.t 15) (.t 17))])
 (.drop [15,16,17] (.cond (.t 18) .skip
 (.exit 0))))
 (.drop [15,16,17,18] (.seq (.block 1 (.seq (.reg [un (.asg 7 (.c (.int .i64 0)))])
 (.block 2 (.loop Yy))))
 (.drop [7,21,22,23,26,27,28,29,30,31,24,25] (.reg [un (.mov 19 (.t 6)),
 un (.bin 20 .add (.t 19) (.c (.int .i64 1))),
 un (.asg 6 (.t 20))])))))
def Alb:ACode:=
 (.seq (.reg [un (.mov 40 (.t 10)),
 un (.mov 41 (.t 9)),
 un (.len 42 (.t 41)),
 un (.bin 43 .lss (.t 40) (.t 42)),
 un (.asg 44 (.t 43)),
 ⟨some (44,true),.mov 45 (.t 8)⟩,
 ⟨some (44,true),.len 46 (.t 45)⟩,
 ⟨some (44,true),.mov 47 (.t 1)⟩,
 ⟨some (44,true),.bin 48 .leq (.t 46) (.t 47)⟩,
 un (.pick 49 (.t 44) (.t 48) (.c (.bool false)))])
 (.drop [40,41,42,43,44,45,46,47,48] (.cond (.t 49) .skip
 (.exit 4))))
def Akl:ACode:=
 (.seq (.reg [un (.mov 52 (.t 11)),
 un (.mov 53 (.t 5)),
 un (.len 54 (.t 53)),
 un (.bin 55 .lss (.t 52) (.t 54)),
 un (.asg 56 (.t 55)),
 ⟨some (56,true),.mov 57 (.t 8)⟩,
 ⟨some (56,true),.len 58 (.t 57)⟩,
 ⟨some (56,true),.mov 59 (.t 1)⟩,
 ⟨some (56,true),.bin 60 .leq (.t 58) (.t 59)⟩,
 un (.pick 61 (.t 56) (.t 60) (.c (.bool false)))])
 (.drop [52,53,54,55,56,57,58,59,60] (.cond (.t 61) .skip
 (.exit 6))))
def Zc:ACode:=
 (.seq (.cut Akl)
 (.drop [52,53,54,55,56,57,58,59,60,61] (.seq (.block 7 (.seq (.dreg [(un (.mov 64 (.t 9)),[]),
 (un (.mov 65 (.t 10)),[64]),
 (un (.iad 66 1 (.t 64) (.t 65)),[]),
 (un (.ld 67 1 false (.t 66)),[]),
 (un (.mov 68 (.t 5)),[64,65,66,67]),
 (un (.mov 69 (.t 11)),[64,65,66,67,68]),
 (un (.iad 70 1 (.t 68) (.t 69)),[64,65,66,67]),
 (un (.ld 71 1 false (.t 70)),[64,65,66,67])]
 [un (.call 72 X9 [((.t 67),false),((.t 71),false)]),
 un (.asg 12 (.t 72))])
 (.drop [64,65,66,67,68,69,70,71,72] (.seq (.frz [12] (.reg [un (.mov 73 (.t 8)),
 un (.mov 74 (.t 12)),
 un (.call 75 Uu [((.t 73),false),((.t 74),false)]),
 un (.asg 13 (.t 75))]))
 (.drop [73,74,75] (.seq (.reg [un (.mov 76 (.t 13)),
 un (.len 77 (.t 76)),
 un (.mov 78 (.t 8)),
 un (.len 79 (.t 78)),
 un (.bin 80 .gtr (.t 77) (.t 79))])
 (.drop [76,77,78,79] (.cond (.t 80) (.seq (.reg [un (.mov 81 (.t 13)),
 un (.asg 8 (.t 81))])
 (.drop [81] (.reg [un (.mov 82 (.t 9)),
 un (.mov 83 (.t 12)),
 un (.bsl 84 1 [(.t 83)]),
 un (.app 85 1 (.t 82) (.t 84)),
 un (.asg 9 (.t 85))])))
 .skip))))))))
 (.drop [64,65,66,67,68,69,70,71,72,12,73,74,75,13,76,77,78,79,80,81,82,83,84,85] (.reg [un (.mov 62 (.t 11)),
 un (.bin 63 .add (.t 62) (.c (.int .i64 1))),
 un (.asg 11 (.t 63))])))))
def Zi:ACode:=
 (.seq (.cut Alb)
 (.drop [40,41,42,43,44,45,46,47,48,49] (.seq (.block 5 (.seq (.reg [un (.asg 11 (.c (.int .i64 0)))])
 (.block 6 (.loop Zc))))
 (.drop [11,52,53,54,55,56,57,58,59,60,61,64,65,66,67,68,69,70,71,72,12,73,74,75,13,76,77,78,79,80,81,82,83,84,85,62,63] (.reg [un (.mov 50 (.t 10)),
 un (.bin 51 .add (.t 50) (.c (.int .i64 1))),
 un (.asg 10 (.t 51))])))))
def At6:ACode:=
 (.seq (.reg [un (.box 2 (.t 0)),
 un (.asg 4 (.c (.nilsl 1)))])
 (.seq (.reg [un (.bsl 14 1 []),
 un (.asg 5 (.t 14))])
 (.drop [14] (.seq (.seq (.reg [un (.asg 6 (.c (.int .i64 0)))])
 (.frz [5] (.block 0 (.loop Aas))))
 (.drop [6,15,16,17,18,7,21,22,23,26,27,28,29,30,31,24,25,19,20] (.seq (.reg [un (.fadr 32 0 (.t 2)),
 un (.ld 33 1 false (.t 32)),
 un (.call 34 F4 [((.t 33),false)]),
 un (.bsl 35 1 [(.t 34)]),
 un (.asg 8 (.t 35))])
 (.drop [32,33,34,35] (.seq (.reg [un (.fadr 36 0 (.t 2)),
 un (.ld 37 1 false (.t 36)),
 un (.call 38 F4 [((.t 37),false)]),
 un (.bsl 39 1 [(.t 38)]),
 un (.asg 9 (.t 39))])
 (.drop [36,37,38,39] (.seq (.seq (.reg [un (.asg 10 (.c (.int .i64 0)))])
 (.frz [8,100009] (.block 4 (.loop Zi))))
 (.drop [10,40,41,42,43,44,45,46,47,48,49,11,52,53,54,55,56,57,58,59,60,61,64,65,66,67,68,69,70,71,72,12,73,74,75,13,76,77,78,79,80,81,82,83,84,85,62,63,50,51] (.seq (.reg [un (.mov 86 (.t 8)),
 un (.asg 4 (.t 86))])
 (.drop [86] .ret)))))))))))))
abbrev As9:List RS:=[.t 4]
theorem Ate:Az Tryz.prog Yl 87 At6 As9=true:=by kernel_rfl
def Adh:ACode:=
 (.seq (.reg [un (.box 2 (.t 0)),
 un (.box 3 (.t 1)),
 un (.asg 4 (.c (.bool false))),
 un (.asg 5 (.c (.bool false)))])
 (.seq (.seq (.reg [un (.ld 8 2 true (.t 2)),
 un (.ld 9 2 true (.t 3)),
 un (.call 10 Tm [((.t 8),false),((.t 9),false)]),
 un (.un 11 .not (.t 10))])
 (.drop [8,9,10] (.cond (.t 11) (.seq (.reg [un (.asg 4 (.c (.bool false))),
 un (.asg 5 (.c (.bool false)))])
 .ret)
 .skip)))
 (.drop [8,9,10,11] (.seq (.seq (.reg [un (.fadr 12 0 (.t 2)),
 un (.ld 13 1 false (.t 12)),
 un (.fadr 14 0 (.t 3)),
 un (.ld 15 1 false (.t 14)),
 un (.bin 16 .neq (.t 13) (.t 15))])
 (.drop [12,13,14,15] (.cond (.t 16) (.seq (.reg [un (.asg 4 (.c (.bool false))),
 un (.asg 5 (.c (.bool true)))])
 .ret)
 .skip)))
 (.drop [12,13,14,15,16] (.seq (.reg [un (.ld 18 2 true (.t 2)),
 un (.ld 19 2 true (.t 3)),
 un (.call 20 Tb [((.t 18),false),((.t 19),false),((.c (.bool true)),false),((.c (.clo Rj [])),false)]),
 un (.asg 17 (.t 20)),
 un (.ext 21 (.t 17) 0),
 un (.ext 22 (.t 17) 1),
 un (.asg 6 (.t 21)),
 un (.asg 7 (.t 22))])
 (.drop [18,19,20,17,21,22] (.seq (.reg [un (.mov 23 (.t 7)),
 un (.asg 24 (.t 23)),
 ⟨some (24,true),.mov 25 (.t 6)⟩,
 ⟨some (24,true),.nilq 26 true (.t 25)⟩,
 un (.pick 27 (.t 24) (.t 26) (.c (.bool false))),
 un (.mov 28 (.t 7)),
 un (.asg 4 (.t 27)),
 un (.asg 5 (.t 28))])
 (.drop [23,24,25,26,27,28] .ret)))))))))
abbrev Ac0:List RS:=[.t 4,.t 5]
theorem Adv:Az Tryz.prog Lt 29 Adh Ac0=true:=by kernel_rfl
def Ur:ACode:=
 (.seq (.reg [un (.ld 6 2 true (.t 3)),
 un (.call 7 Mu [((.t 6),false)]),
 un (.un 8 .not (.t 7)),
 un (.asg 9 (.t 8)),
 ⟨some (9,false),.mov 10 (.t 0)⟩,
 ⟨some (9,false),.call 11 L1 [((.t 10),true),((.c (.int .i64 5)),false)]⟩,
 un (.pick 12 (.t 9) (.c (.bool true)) (.t 11))])
 (.drop [6,7,8,9,10,11] (.cond (.t 12) (.seq (.reg [un (.mov 13 (.t 0)),
 un (.fadr 14 0 (.t 3)),
 un (.ld 15 1 false (.t 14)),
 un (.call 16 Iy [((.t 13),true),((.t 15),false)]),
 un (.asg 4 (.t 16))])
 (.drop [13,14,15,16] .ret))
 .skip)))
def X5:ACode:=
 (.seq (.reg [un (.box 3 (.t 1)),
 un (.asg 4 (.c (.nilsl 1)))])
 (.seq (.cut Ur)
 (.drop [6,7,8,9,10,11,12,13,14,15,16] (.seq (.reg [un (.ld 17 2 true (.t 3)),
 un (.call 18 Yl [((.t 17),false),((.c (.int .i64 200)),false)]),
 un (.asg 5 (.t 18))])
 (.drop [17,18] (.seq (.reg [un (.mov 19 (.t 5)),
 un (.mov 20 (.t 0)),
 un (.mov 21 (.t 5)),
 un (.len 22 (.t 21)),
 un (.call 23 A8 [((.t 20),true),((.t 22),false)]),
 un (.iad 24 1 (.t 19) (.t 23)),
 un (.ld 25 1 false (.t 24)),
 un (.call 26 Ja [((.t 25),false)]),
 un (.asg 4 (.t 26))])
 (.drop [19,20,21,22,23,24,25,26] .ret)))))))
abbrev X6:List RS:=[.t 4]
theorem X7:Az Tryz.prog Ia 27 X5 X6=true:=by kernel_rfl
def Sq:ACode:=
 (.seq (.reg [un (.alc 2 (.agg [.int .i64 0,.nilsl 2])),
 un (.asg 3 (.c (.nilsl 1))),
 un (.asg 4 (.c (.nilsl 1)))])
 (.seq (.reg [un (.mov 7 (.t 0)),
 un (.bld 8 [.nilsl 1,.int .i64 0,.int .u64 0] [(0,1,(.t 7))]),
 un (.box 9 (.t 8)),
 un (.asg 5 (.t 9))])
 (.drop [7,8,9] (.seq (.reg [un (.mov 10 (.t 5)),
 un (.call 11 Kt [((.t 10),true)]),
 un (.alc 6 (.agg [.int .i64 0,.nilsl 2])),
 un (.st 2 (.t 6) (.t 11))])
 (.drop [10,11] (.seq (.frz [100006] (.dregl [(0,.ld 12 2 true (.t 6)),
 (1,.mov 13 (.t 5)),
 (2,.ld 14 2 true (.t 6)),
 (4,.mov 16 (.t 5)),
 (5,.ld 17 2 true (.t 6))]
 (.alt 3 (.call 15 Pa [((.t 13),true),((.t 14),false)]) [0,1,2,4,5] [] (.alt 6 (.call 18 Ia [((.t 16),true),((.t 17),false)]) [0,4,5] [] (.alt 7 (.st 2 (.t 2) (.t 12)) [0] [] (.alt 8 (.asg 3 (.t 15)) [] [] (.alt 9 (.asg 4 (.t 18)) [] [] .nil .nil) .nil) .nil) .nil) .nil)))
 (.drop [12,13,14,15,16,17,18] .ret)))))))
abbrev Sl:List RS:=[.c 2 2 true,.t 3,.t 4]
theorem Ss:Az Tryz.prog Fp 19 Sq Sl=true:=by kernel_rfl
def Rb:ACode:=
 (.seq (.reg [un (.ld 52 2 true (.t 3)),
 un (.mov 53 (.t 4)),
 un (.mov 54 (.t 5)),
 un (.call 55 He [((.t 52),false),((.t 53),false),((.t 54),false)]),
 un (.asg 51 (.t 55)),
 un (.ext 56 (.t 51) 0),
 un (.ext 57 (.t 51) 1),
 un (.asg 8 (.t 56)),
 un (.asg 9 (.t 57))])
 (.drop [52,53,54,55,51,56,57] (.seq (.reg [un (.mov 58 (.t 7)),
 un (.mov 59 (.t 9)),
 un (.binb 60 .neq (.t 58) (.t 59)),
 un (.asg 61 (.t 60)),
 ⟨some (61,false),.mov 62 (.t 6)⟩,
 ⟨some (61,false),.mov 63 (.t 8)⟩,
 ⟨some (61,false),.call 64 Jb [((.t 62),false),((.t 63),false)]⟩,
 ⟨some (61,false),.un 65 .not (.t 64)⟩,
 un (.pick 66 (.t 61) (.c (.bool true)) (.t 65))])
 (.drop [58,59,60,61,62,63,64,65] (.cond (.t 66) (.seq (.reg [un (.asg 2 (.c (.bool false)))])
 .ret)
 .skip)))))
def Qk:ACode:=
 (.seq (.reg [un (.ld 75 2 true (.t 3)),
 un (.mov 76 (.t 4)),
 un (.mov 77 (.t 5)),
 un (.call 78 Nk [((.t 75),false),((.t 76),false),((.t 77),false)]),
 un (.asg 74 (.t 78)),
 un (.ext 79 (.t 74) 0),
 un (.ext 80 (.t 74) 1),
 un (.asg 12 (.t 79)),
 un (.asg 13 (.t 80))])
 (.drop [75,76,77,78,74,79,80] (.seq (.reg [un (.mov 81 (.t 11)),
 un (.mov 82 (.t 13)),
 un (.binb 83 .neq (.t 81) (.t 82)),
 un (.asg 84 (.t 83)),
 ⟨some (84,false),.mov 85 (.t 10)⟩,
 ⟨some (84,false),.mov 86 (.t 12)⟩,
 ⟨some (84,false),.call 87 Jb [((.t 85),false),((.t 86),false)]⟩,
 ⟨some (84,false),.un 88 .not (.t 87)⟩,
 un (.pick 89 (.t 84) (.c (.bool true)) (.t 88))])
 (.drop [81,82,83,84,85,86,87,88] (.cond (.t 89) (.seq (.reg [un (.asg 2 (.c (.bool false)))])
 .ret)
 .skip)))))
def Q3:ACode:=
 (.seq (.reg [un (.ld 98 2 true (.t 3)),
 un (.mov 99 (.t 4)),
 un (.mov 100 (.t 5)),
 un (.call 101 Tj [((.t 98),false),((.t 99),false),((.t 100),false)]),
 un (.asg 97 (.t 101)),
 un (.ext 102 (.t 97) 0),
 un (.ext 103 (.t 97) 1),
 un (.asg 16 (.t 102)),
 un (.asg 17 (.t 103))])
 (.drop [98,99,100,101,97,102,103] (.seq (.reg [un (.mov 104 (.t 15)),
 un (.mov 105 (.t 17)),
 un (.binb 106 .neq (.t 104) (.t 105)),
 un (.asg 107 (.t 106)),
 ⟨some (107,false),.mov 108 (.t 15)⟩,
 ⟨some (107,false),.mov 109 (.t 11)⟩,
 ⟨some (107,false),.binb 110 .neq (.t 108) (.t 109)⟩,
 un (.pick 111 (.t 107) (.c (.bool true)) (.t 110)),
 un (.asg 112 (.t 111)),
 ⟨some (112,false),.mov 113 (.t 14)⟩,
 ⟨some (112,false),.mov 114 (.t 16)⟩,
 ⟨some (112,false),.call 115 Jb [((.t 113),false),((.t 114),false)]⟩,
 ⟨some (112,false),.un 116 .not (.t 115)⟩,
 un (.pick 117 (.t 112) (.c (.bool true)) (.t 116))])
 (.drop [104,105,106,107,108,109,110,111,112,113,114,115,116] (.cond (.t 117) (.seq (.reg [un (.asg 2 (.c (.bool false)))])
 .ret)
 .skip)))))
def Qz:ACode:=
 (.seq (.reg [un (.mov 150 (.t 11)),
 un (.un 151 .not (.t 150)),
 un (.asg 152 (.t 151)),
 ⟨some (152,false),.mov 153 (.t 15)⟩,
 ⟨some (152,false),.un 154 .not (.t 153)⟩,
 un (.pick 155 (.t 152) (.c (.bool true)) (.t 154)),
 un (.asg 156 (.t 155)),
 ⟨some (156,false),.mov 157 (.t 19)⟩,
 ⟨some (156,false),.un 158 .not (.t 157)⟩,
 un (.pick 159 (.t 156) (.c (.bool true)) (.t 158)),
 un (.asg 160 (.t 159)),
 ⟨some (160,false),.mov 161 (.t 21)⟩,
 ⟨some (160,false),.un 162 .not (.t 161)⟩,
 un (.pick 163 (.t 160) (.c (.bool true)) (.t 162)),
 un (.asg 164 (.t 163)),
 ⟨some (164,false),.mov 165 (.t 23)⟩,
 ⟨some (164,false),.un 166 .not (.t 165)⟩,
 un (.pick 167 (.t 164) (.c (.bool true)) (.t 166)),
 un (.asg 168 (.t 167)),
 ⟨some (168,false),.mov 169 (.t 25)⟩,
 ⟨some (168,false),.un 170 .not (.t 169)⟩,
 un (.pick 171 (.t 168) (.c (.bool true)) (.t 170)),
 un (.asg 172 (.t 171)),
 ⟨some (172,false),.mov 173 (.t 27)⟩,
 ⟨some (172,false),.asg 174 (.t 173)⟩,
 ⟨some (174,true),.mov 175 (.t 26)⟩,
 ⟨some (174,true),.un 176 .not (.t 175)⟩,
 ⟨some (172,false),.pick 177 (.t 174) (.t 176) (.c (.bool false))⟩,
 un (.pick 178 (.t 172) (.c (.bool true)) (.t 177))])
 (.drop [150,151,152,153,154,155,156,157,158,159,160,161,162,163,164,165,166,167,168,169,170,171,172,173,174,175,176,177] (.cond (.t 178) (.seq (.reg [un (.asg 2 (.c (.bool false)))])
 .ret)
 .skip)))
def Uq:ACode:=
 (.seq (.reg [un (.asg 2 (.c (.bool false)))])
 (.seq (.seq (.reg [un (.mov 36 (.t 0)),
 un (.call 37 Acw [((.t 36),false)])])
 (.drop [36] (.cond (.t 37) (.seq (.reg [un (.asg 2 (.c (.bool true)))])
 .ret)
 .skip)))
 (.drop [36,37] (.seq (.reg [un (.mov 39 (.t 0)),
 un (.call 40 Fp [((.t 39),false)]),
 un (.asg 38 (.t 40)),
 un (.ext 41 (.t 38) 0),
 un (.ext 42 (.t 38) 1),
 un (.ext 43 (.t 38) 2),
 un (.alc 3 (.agg [.int .i64 0,.nilsl 2])),
 un (.st 2 (.t 3) (.t 41)),
 un (.asg 4 (.t 42)),
 un (.asg 5 (.t 43))])
 (.drop [39,40,38,41,42,43] (.seq (.reg [un (.ld 45 2 true (.t 3)),
 un (.mov 46 (.t 4)),
 un (.mov 47 (.t 5)),
 un (.call 48 E3 [((.t 45),false),((.t 46),false),((.t 47),false)]),
 un (.asg 44 (.t 48)),
 un (.ext 49 (.t 44) 0),
 un (.ext 50 (.t 44) 1),
 un (.asg 6 (.t 49)),
 un (.asg 7 (.t 50))])
 (.drop [45,46,47,48,44,49,50] (.seq (.cut Rb)
 (.drop [52,53,54,55,51,56,57,8,9,58,59,60,61,62,63,64,65,66] (.seq (.reg [un (.ld 68 2 true (.t 3)),
 un (.mov 69 (.t 4)),
 un (.mov 70 (.t 5)),
 un (.call 71 M9 [((.t 68),false),((.t 69),false),((.t 70),false)]),
 un (.asg 67 (.t 71)),
 un (.ext 72 (.t 67) 0),
 un (.ext 73 (.t 67) 1),
 un (.asg 10 (.t 72)),
 un (.asg 11 (.t 73))])
 (.drop [68,69,70,71,67,72,73] (.seq (.cut Qk)
 (.drop [75,76,77,78,74,79,80,12,13,81,82,83,84,85,86,87,88,89] (.seq (.reg [un (.ld 91 2 true (.t 3)),
 un (.mov 92 (.t 4)),
 un (.mov 93 (.t 5)),
 un (.call 94 M0 [((.t 91),false),((.t 92),false),((.t 93),false)]),
 un (.asg 90 (.t 94)),
 un (.ext 95 (.t 90) 0),
 un (.ext 96 (.t 90) 1),
 un (.asg 14 (.t 95)),
 un (.asg 15 (.t 96))])
 (.drop [91,92,93,94,90,95,96] (.seq (.cut Q3)
 (.drop [98,99,100,101,97,102,103,16,17,104,105,106,107,108,109,110,111,112,113,114,115,116,117] (.seq (.seq (.reg [un (.mov 118 (.t 7)),
 un (.un 119 .not (.t 118))])
 (.drop [118] (.cond (.t 119) (.seq (.reg [un (.asg 2 (.c (.bool true)))])
 .ret)
 .skip)))
 (.drop [118,119] (.seq (.reg [un (.ld 121 2 true (.t 3)),
 un (.mov 122 (.t 4)),
 un (.call 123 Gf [((.t 121),false),((.t 122),false)]),
 un (.asg 120 (.t 123)),
 un (.ext 124 (.t 120) 0),
 un (.ext 125 (.t 120) 1),
 un (.alc 18 (.agg [.int .i64 0,.nilsl 2])),
 un (.st 2 (.t 18) (.t 124)),
 un (.asg 19 (.t 125))])
 (.drop [121,122,123,120,124,125] (.seq (.reg [un (.ld 127 2 true (.t 18)),
 un (.mov 128 (.t 6)),
 un (.call 129 Er [((.t 127),false),((.t 128),false)]),
 un (.asg 126 (.t 129)),
 un (.ext 130 (.t 126) 0),
 un (.ext 131 (.t 126) 1),
 un (.alc 20 (.agg [.int .i64 0,.nilsl 2])),
 un (.st 2 (.t 20) (.t 130)),
 un (.asg 21 (.t 131))])
 (.drop [127,128,129,126,130,131] (.seq (.reg [un (.ld 133 2 true (.t 3)),
 un (.mov 134 (.t 5)),
 un (.call 135 Er [((.t 133),false),((.t 134),false)]),
 un (.asg 132 (.t 135)),
 un (.ext 136 (.t 132) 0),
 un (.ext 137 (.t 132) 1),
 un (.alc 22 (.agg [.int .i64 0,.nilsl 2])),
 un (.st 2 (.t 22) (.t 136)),
 un (.asg 23 (.t 137))])
 (.drop [133,134,135,132,136,137] (.seq (.reg [un (.ld 139 2 true (.t 22)),
 un (.mov 140 (.t 14)),
 un (.call 141 Gf [((.t 139),false),((.t 140),false)]),
 un (.asg 138 (.t 141)),
 un (.ext 142 (.t 138) 0),
 un (.ext 143 (.t 138) 1),
 un (.alc 24 (.agg [.int .i64 0,.nilsl 2])),
 un (.st 2 (.t 24) (.t 142)),
 un (.asg 25 (.t 143))])
 (.drop [139,140,141,138,142,143] (.seq (.reg [un (.ld 145 2 true (.t 20)),
 un (.ld 146 2 true (.t 24)),
 un (.call 147 Lt [((.t 145),false),((.t 146),false)]),
 un (.asg 144 (.t 147)),
 un (.ext 148 (.t 144) 0),
 un (.ext 149 (.t 144) 1),
 un (.asg 26 (.t 148)),
 un (.asg 27 (.t 149))])
 (.drop [145,146,147,144,148,149] (.seq (.cut Qz)
 (.drop [150,151,152,153,154,155,156,157,158,159,160,161,162,163,164,165,166,167,168,169,170,171,172,173,174,175,176,177,178] (.seq (.reg [un (.ld 180 2 true (.t 3)),
 un (.mov 181 (.t 10)),
 un (.call 182 Gf [((.t 180),false),((.t 181),false)]),
 un (.asg 179 (.t 182)),
 un (.ext 183 (.t 179) 0),
 un (.ext 184 (.t 179) 1),
 un (.alc 28 (.agg [.int .i64 0,.nilsl 2])),
 un (.st 2 (.t 28) (.t 183)),
 un (.asg 29 (.t 184))])
 (.drop [180,181,182,179,183,184] (.seq (.reg [un (.ld 186 2 true (.t 3)),
 un (.mov 187 (.t 10)),
 un (.mov 188 (.t 5)),
 un (.call 189 E3 [((.t 186),false),((.t 187),false),((.t 188),false)]),
 un (.asg 185 (.t 189)),
 un (.ext 190 (.t 185) 0),
 un (.ext 191 (.t 185) 1),
 un (.asg 30 (.t 190)),
 un (.asg 31 (.t 191))])
 (.drop [186,187,188,189,185,190,191] (.seq (.reg [un (.ld 193 2 true (.t 28)),
 un (.mov 194 (.t 30)),
 un (.call 195 Er [((.t 193),false),((.t 194),false)]),
 un (.asg 192 (.t 195)),
 un (.ext 196 (.t 192) 0),
 un (.ext 197 (.t 192) 1),
 un (.alc 32 (.agg [.int .i64 0,.nilsl 2])),
 un (.st 2 (.t 32) (.t 196)),
 un (.asg 33 (.t 197))])
 (.drop [193,194,195,192,196,197] (.seq (.reg [un (.ld 199 2 true (.t 3)),
 un (.mov 200 (.t 10)),
 un (.mov 201 (.t 5)),
 un (.call 202 M0 [((.t 199),false),((.t 200),false),((.t 201),false)]),
 un (.asg 198 (.t 202)),
 un (.ext 203 (.t 198) 0),
 un (.ext 204 (.t 198) 1),
 un (.asg 34 (.t 203)),
 un (.asg 35 (.t 204))])
 (.drop [199,200,201,202,198,203,204] (.seq (.reg [un (.mov 205 (.t 29)),
 un (.asg 206 (.t 205)),
 ⟨some (206,true),.mov 207 (.t 31)⟩,
 un (.pick 208 (.t 206) (.t 207) (.c (.bool false))),
 un (.asg 209 (.t 208)),
 ⟨some (209,true),.mov 210 (.t 33)⟩,
 un (.pick 211 (.t 209) (.t 210) (.c (.bool false))),
 un (.asg 212 (.t 211)),
 ⟨some (212,true),.mov 213 (.t 35)⟩,
 un (.pick 214 (.t 212) (.t 213) (.c (.bool false))),
 un (.asg 215 (.t 214)),
 ⟨some (215,true),.mov 216 (.t 34)⟩,
 ⟨some (215,true),.mov 217 (.t 14)⟩,
 ⟨some (215,true),.call 218 Jb [((.t 216),false),((.t 217),false)]⟩,
 un (.pick 219 (.t 215) (.t 218) (.c (.bool false))),
 un (.asg 220 (.t 219)),
 ⟨some (220,true),.ld 221 2 true (.t 32)⟩,
 ⟨some (220,true),.ld 222 2 true (.t 24)⟩,
 ⟨some (220,true),.call 223 Ti [((.t 221),false),((.t 222),false)]⟩,
 un (.pick 224 (.t 220) (.t 223) (.c (.bool false))),
 un (.asg 2 (.t 224))])
 (.drop [205,206,207,208,209,210,211,212,213,214,215,216,217,218,219,220,221,222,223,224] .ret)))))))))))))))))))))))))))))))))))))))))
abbrev Ut:List RS:=[.t 2]
theorem Uf:Az Tryz.prog Kn 225 Uq Ut=true:=by kernel_rfl
end Go.Proofs.YtmkgjnphianalaaGreat.Ax
