/-
  The small code of the functions, written by program; that the program's code is this one, the kernel looks at.
-/
import Derived.Test.YtjcekpmojnnmbaaGreatAx3
import Derived.Test.YtjcekpmojnnmbaaGreatProg
import Derived.KernelRfl
import Derived.Test.YtjcekpmojnnmbaaGreatNum
namespace Go.Proofs.YtjcekpmojnnmbaaGreat.Ax
open Go
set_option maxRecDepth 100000
def Agd:ACode:=
 (.seq (.reg [un (.box 4 (.t 1)),
 un (.box 5 (.t 2)),
 un (.asg 6 (.c (.bool false))),
 un (.asg 7 (.c (.bool false)))])
 (.seq (.seq (.reg [un (.mov 11 (.t 0)),
 un (.ld 12 2 true (.t 4)),
 un (.ld 13 2 true (.t 5)),
 un (.call 14 Qn [((.t 11),false),((.t 12),false),((.t 13),false)]),
 un (.un 15 .not (.t 14))])
 (.drop [11,12,13,14] (.cond (.t 15) (.seq (.reg [un (.asg 6 (.c (.bool false))),
 un (.asg 7 (.c (.bool false)))])
 .ret)
 .skip)))
 (.drop [11,12,13,14,15] (.seq (.reg [un (.mov 17 (.t 0)),
 un (.ld 18 2 true (.t 4)),
 un (.ld 19 2 true (.t 5)),
 un (.call 20 Ih [((.t 17),false),((.t 18),false),((.t 19),false)]),
 un (.asg 16 (.t 20)),
 un (.ext 21 (.t 16) 0),
 un (.ext 22 (.t 16) 1),
 un (.ext 23 (.t 16) 2),
 un (.asg 8 (.t 21)),
 un (.asg 9 (.t 22)),
 un (.asg 10 (.t 23))])
 (.drop [17,18,19,20,16,21,22,23,8,9] (.seq (.reg [un (.mov 24 (.t 10)),
 un (.un 25 .not (.t 24)),
 un (.asg 6 (.t 25)),
 un (.asg 7 (.c (.bool true)))])
 (.drop [24,25] .ret)))))))
abbrev Agr:List RS:=[.t 6,.t 7]
theorem Agb:A4 Tryz.prog Om 26 Agd Agr=true:=by kernel_rfl
def Ae2:ACode:=
 (.seq (.reg [un (.box 1 (.t 0)),
 un (.asg 2 (.c (.bool false)))])
 (.seq (.reg [un (.ld 3 3 true (.t 1)),
 un (.call 4 Jj [((.t 3),false)]),
 un (.asg 5 (.t 4)),
 ⟨some (5,true),.fadr 6 1 (.t 1)⟩,
 ⟨some (5,true),.ld 7 1 false (.t 6)⟩,
 ⟨some (5,true),.bin 8 .eql (.t 7) (.c (.int .i64 2))⟩,
 un (.pick 9 (.t 5) (.t 8) (.c (.bool false))),
 un (.asg 2 (.t 9))])
 (.drop [3,4,5,6,7,8,9] .ret)))
abbrev Aen:List RS:=[.t 2]
theorem Aek:A4 Tryz.prog Hb 10 Ae2 Aen=true:=by kernel_rfl
def J7:ACode:=
 (.seq (.seq (.reg [un (.mov 16 (.t 6)),
 un (.bin 17 .lss (.t 16) (.c (.int .i64 2)))])
 (.drop [16] (.cond (.t 17) .skip
 (.exit 2))))
 (.drop [16,17] (.seq (.block 3 (.dreg [(un (.mov 20 (.t 3)),[25]),
 (un (.mov 21 (.t 6)),[20,25]),
 (un (.mov 22 (.t 3)),[20,21]),
 (un (.mov 23 (.t 6)),[20,21,22]),
 (un (.iad 24 1 (.t 22) (.t 23)),[20,21]),
 (un (.ld 25 1 false (.t 24)),[20,21]),
 (un (.asg 26 (.t 25)),[20,21]),
 (⟨some (26,true),.fadr 27 1 (.t 5)⟩,[20,21,25]),
 (⟨some (26,true),.ld 28 2 true (.t 27)⟩,[20,21,25]),
 (⟨some (26,true),.fadr 29 1 (.t 5)⟩,[20,21,27,28,25]),
 (⟨some (26,true),.fadr 30 0 (.t 29)⟩,[20,21,27,28,25]),
 (⟨some (26,true),.ld 31 1 false (.t 30)⟩,[20,21,27,28,25]),
 (⟨some (26,true),.mov 32 (.t 6)⟩,[20,21,27,28,29,30,31,25]),
 (⟨some (26,true),.call 33 Iz [((.t 31),false),((.t 32),false)]⟩,[20,21,27,28,25]),
 (⟨some (26,true),.call 34 Ts [((.t 28),false),((.t 33),false)]⟩,[20,21,25]),
 (un (.pick 35 (.t 26) (.t 34) (.c (.bool false))),[20,21,25])]
 [un (.iad 36 1 (.t 20) (.t 21)),
 un (.st 1 (.t 36) (.t 35))]))
 (.drop [20,21,22,23,24,25,26,27,28,29,30,31,32,33,34,35,36] (.reg [un (.mov 18 (.t 6)),
 un (.bin 19 .add (.t 18) (.c (.int .i64 1))),
 un (.asg 6 (.t 19))])))))
def Ko:ACode:=
 (.seq (.reg [un (.bin 40 .lss (.t 39) (.t 38))])
 (.seq (.cond (.t 40) .skip
 (.exit 4))
 (.seq (.block 5 (.seq (.reg [un (.mov 41 (.t 39)),
 un (.iad 42 2 (.t 37) (.t 39)),
 un (.ld 43 2 true (.t 42)),
 un (.alc 8 (.agg [.int .i64 0,.nilsl 1])),
 un (.asg 7 (.t 41)),
 un (.st 2 (.t 8) (.t 43))])
 (.drop [41,42,43] (.reg [un (.mov 44 (.t 3)),
 un (.mov 45 (.t 7)),
 un (.bin 46 .add (.c (.int .i64 2)) (.t 45)),
 un (.mov 47 (.t 3)),
 un (.mov 48 (.t 7)),
 un (.bin 49 .add (.c (.int .i64 2)) (.t 48)),
 un (.iad 50 1 (.t 47) (.t 49)),
 un (.ld 51 1 false (.t 50)),
 un (.asg 52 (.t 51)),
 ⟨some (52,true),.fadr 53 1 (.t 5)⟩,
 ⟨some (52,true),.ld 54 2 true (.t 53)⟩,
 ⟨some (52,true),.bslr 55 2 [(.t 54)]⟩,
 ⟨some (52,true),.ld 56 2 true (.t 8)⟩,
 ⟨some (52,true),.call 57 O3 [((.c (.int .i64 2)),false),((.t 55),false),((.t 56),false)]⟩,
 un (.pick 58 (.t 52) (.t 57) (.c (.bool false))),
 un (.iad 59 1 (.t 44) (.t 46)),
 un (.st 1 (.t 59) (.t 58))]))))
 (.drop [41,42,43,8,7,44,45,46,47,48,49,50,51,52,53,54,55,56,57,58,59] (.reg [un (.bin 60 .add (.t 39) (.c (.int .i64 1))),
 un (.asg 39 (.t 60))])))))
def J9:ACode:=
 (.seq (.reg [un (.bin 13 .lss (.t 12) (.t 11))])
 (.seq (.cond (.t 13) .skip
 (.exit 0))
 (.seq (.block 1 (.seq (.reg [un (.iad 14 3 (.t 10) (.t 12)),
 un (.ld 15 3 true (.t 14)),
 un (.alc 5 (.agg [.nilsl 1,.int .i64 0,.nilsl 1])),
 un (.st 3 (.t 5) (.t 15))])
 (.drop [14,15] (.seq (.seq (.reg [un (.asg 6 (.c (.int .i64 0)))])
 (.block 2 (.loop J7)))
 (.drop [6,16,17,20,21,22,23,24,25,26,27,28,29,30,31,32,33,34,35,36,18,19] (.seq (.reg [un (.call 37 Lq []),
 un (.len 38 (.t 37)),
 un (.mov 39 (.c (.int .i64 0)))])
 (.block 4 (.loop Ko))))))))
 (.drop [14,15,5,6,16,17,20,21,22,23,24,25,26,27,28,29,30,31,32,33,34,35,36,18,19,37,38,39,40,41,42,43,8,7,44,45,46,47,48,49,50,51,52,53,54,55,56,57,58,59,60] (.reg [un (.bin 61 .add (.t 12) (.c (.int .i64 1))),
 un (.asg 12 (.t 61))])))))
def Wv:ACode:=
 (.seq (.reg [un (.asg 2 (.c (.nilsl 1)))])
 (.seq (.reg [un (.bsl 9 1 [(.c (.bool true)),(.c (.bool true)),(.c (.bool true)),(.c (.bool true)),(.c (.bool true)),(.c (.bool true))]),
 un (.asg 3 (.t 9))])
 (.drop [9] (.seq (.seq (.reg [un (.mov 10 (.t 0)),
 un (.len 11 (.t 10)),
 un (.mov 12 (.c (.int .i64 0)))])
 (.block 0 (.loop J9)))
 (.drop [10,11,12,13,14,15,5,6,16,17,20,21,22,23,24,25,26,27,28,29,30,31,32,33,34,35,36,18,19,37,38,39,40,41,42,43,8,7,44,45,46,47,48,49,50,51,52,53,54,55,56,57,58,59,60,61] (.seq (.reg [un (.mov 62 (.t 3)),
 un (.asg 2 (.t 62))])
 (.drop [62] .ret)))))))
abbrev Xb:List RS:=[.t 2]
theorem Xe:A4 Tryz.prog Fs 63 Wv Xb=true:=by kernel_rfl
def W9:ACode:=
 (.seq (.reg [un (.ld 13 2 true (.t 6)),
 un (.call 14 L5 [((.c (.int .i64 2)),false),((.t 13),false)]),
 un (.un 15 .not (.t 14))])
 (.drop [13,14] (.cond (.t 15) (.reg [un (.mov 16 (.t 5)),
 un (.call 17 Lk [((.c (.int .i64 2)),false),((.t 16),false)]),
 un (.st 2 (.t 6) (.t 17))])
 .skip)))
def Wy:ACode:=
 (.reg [un (.mov 19 (.t 1)),
 un (.bin 20 .leq (.t 19) (.c (.int .i64 1))),
 un (.asg 21 (.t 20)),
 ⟨some (21,true),.fadr 22 1 (.t 6)⟩,
 ⟨some (21,true),.ld 23 1 false (.t 22)⟩,
 ⟨some (21,true),.len 24 (.t 23)⟩,
 ⟨some (21,true),.bin 25 .gtr (.t 24) (.c (.int .i64 0))⟩,
 un (.pick 26 (.t 21) (.t 25) (.c (.bool false))),
 un (.asg 18 (.t 26))])
def Wt:ACode:=
 (.reg [un (.mov 36 (.t 1)),
 un (.bin 37 .gtr (.t 36) (.c (.int .i64 1))),
 un (.asg 38 (.t 37)),
 ⟨some (38,true),.mov 39 (.t 1)⟩,
 ⟨some (38,true),.bin 40 .lss (.t 39) (.c (.int .i64 6))⟩,
 un (.pick 41 (.t 38) (.t 40) (.c (.bool false))),
 un (.asg 35 (.t 41))])
def Abc:ACode:=
 (.seq (.reg [un (.alc 4 (.agg [.int .i64 0,.nilsl 1]))])
 (.seq (.reg [un (.mov 7 (.t 0)),
 un (.bsl 8 1 [(.c (.int .i64 1)),(.c (.int .i64 2)),(.c (.int .i64 2)),(.c (.int .i64 3)),(.c (.int .i64 3)),(.c (.int .i64 3))]),
 un (.call 9 B7 [((.t 7),true),((.t 8),false)]),
 un (.asg 5 (.t 9))])
 (.drop [7,8,9] (.seq (.reg [un (.mov 10 (.t 0)),
 un (.mov 11 (.t 5)),
 un (.call 12 H6 [((.t 10),true),((.c (.int .i64 2)),false),((.t 11),false)]),
 un (.alc 6 (.agg [.int .i64 0,.nilsl 1])),
 un (.st 2 (.t 6) (.t 12))])
 (.drop [10,11,12] (.seq (.cut W9)
 (.drop [13,14,15,16,17] (.seq (.block 0 (.seq (.cut Wy)
 (.drop [19,20,21,22,23,24,25,26] (.cond (.t 18) (.dreg [(un (.fadr 27 1 (.t 6)),[]),
 (un (.ld 28 1 false (.t 27)),[]),
 (un (.fadr 29 0 (.t 6)),[27,28]),
 (un (.ld 30 1 false (.t 29)),[27,28]),
 (un (.mov 31 (.t 1)),[27,28,29,30]),
 (un (.call 32 Kz [((.t 30),false),((.t 31),false)]),[27,28])]
 [un (.call 33 Jd [((.t 28),true),((.t 32),false)]),
 un (.fadr 34 1 (.t 6)),
 un (.st 1 (.t 34) (.t 33))])
 (.seq (.cut Wt)
 (.drop [36,37,38,39,40,41] (.cond (.t 35) (.frz [100006] (.dreg [(un (.call 43 Ni []),[]),
 (un (.mov 44 (.t 1)),[43]),
 (un (.bin 45 .sub (.t 44) (.c (.int .i64 2))),[43]),
 (un (.iad 46 2 (.t 43) (.t 45)),[]),
 (un (.ld 47 2 true (.t 46)),[]),
 (un (.bslr 48 2 [(.t 47)]),[]),
 (un (.bld 49 [.int .i64 0,.nilsl 2] [(0,1,(.c (.int .i64 2))),(1,1,(.t 48))]),[47]),
 (un (.fadr 50 0 (.t 6)),[43,44,45,46,47,48,49,47]),
 (un (.ld 51 1 false (.t 50)),[43,44,45,46,47,48,49,47]),
 (un (.fadr 52 1 (.t 6)),[43,44,45,46,47,48,49,50,51,47]),
 (un (.ld 53 1 false (.t 52)),[43,44,45,46,47,48,49,50,51,47]),
 (un (.call 54 P2 [((.t 49),false),((.t 51),false),((.t 53),false)]),[47]),
 (un (.asg 42 (.t 54)),[47]),
 (un (.ext 55 (.t 42) 0),[47,54]),
 (un (.ext 56 (.t 42) 1),[55,47,54])]
 [un (.fadr 57 1 (.t 6)),
 un (.st 1 (.t 57) (.t 55))]))
 .skip)))))))
 (.drop [19,20,21,22,23,24,25,26,18,27,28,29,30,31,32,33,34,36,37,38,39,40,41,35,43,44,45,46,47,48,49,50,51,52,53,54,42,55,56,57] (.seq (.reg [un (.ld 58 2 true (.t 6)),
 un (.st 2 (.t 4) (.t 58))])
 (.drop [58] .ret)))))))))))
abbrev Aa1:List RS:=[.c 4 2 true]
theorem Aar:A4 Tryz.prog K2 59 Abc Aa1=true:=by kernel_rfl
def Lh:ACode:=
 (.seq (.reg [un (.bin 13 .lss (.t 12) (.t 11))])
 (.seq (.cond (.t 13) .skip
 (.exit 0))
 (.seq (.block 1 (.seq (.reg [un (.iad 14 1 (.t 10) (.t 12)),
 un (.ld 15 1 false (.t 14)),
 un (.asg 7 (.t 15))])
 (.drop [14,15] (.reg [un (.mov 16 (.t 5)),
 un (.mov 17 (.t 7)),
 un (.mov 18 (.t 1)),
 un (.call 19 Qp [((.t 17),false),((.t 18),false)]),
 un (.bsl 20 1 [(.t 19)]),
 un (.app 21 1 (.t 16) (.t 20)),
 un (.asg 5 (.t 21))]))))
 (.drop [14,15,7,16,17,18,19,20,21] (.reg [un (.bin 22 .add (.t 12) (.c (.int .i64 1))),
 un (.asg 12 (.t 22))])))))
def X6:ACode:=
 (.seq (.reg [un (.box 2 (.t 0)),
 un (.alc 4 (.agg [.int .i64 0,.nilsl 1]))])
 (.seq (.reg [un (.bsl 8 1 []),
 un (.asg 5 (.t 8))])
 (.drop [8] (.seq (.seq (.reg [un (.fadr 9 1 (.t 2)),
 un (.ld 10 1 false (.t 9)),
 un (.len 11 (.t 10)),
 un (.mov 12 (.c (.int .i64 0)))])
 (.drop [9] (.block 0 (.loop Lh))))
 (.drop [9,10,11,12,13,14,15,7,16,17,18,19,20,21,22] (.seq (.frz [5] (.reg [un (.fadr 23 0 (.t 2)),
 un (.ld 24 1 false (.t 23)),
 un (.mov 25 (.t 5)),
 un (.call 26 Js [((.t 24),false),((.t 25),false)]),
 un (.st 2 (.t 4) (.t 26))]))
 (.drop [23,24,25,26] .ret)))))))
abbrev Yn:List RS:=[.c 4 2 true]
theorem Yt:A4 Tryz.prog Jb 27 X6 Yn=true:=by kernel_rfl
def Ank:ACode:=
 (.seq (.reg [un (.box 5 (.t 2)),
 un (.asg 6 (.c (.bool false)))])
 (.seq (.reg [un (.mov 7 (.t 1)),
 un (.fadr 8 1 (.t 5)),
 un (.ld 9 2 true (.t 8)),
 un (.call 10 L5 [((.t 7),false),((.t 9),false)]),
 un (.asg 11 (.t 10)),
 ⟨some (11,true),.fadr 12 0 (.t 5)⟩,
 ⟨some (11,true),.ld 13 1 false (.t 12)⟩,
 ⟨some (11,true),.len 14 (.t 13)⟩,
 ⟨some (11,true),.fadr 15 1 (.t 5)⟩,
 ⟨some (11,true),.fadr 16 0 (.t 15)⟩,
 ⟨some (11,true),.ld 17 1 false (.t 16)⟩,
 ⟨some (11,true),.bin 18 .eql (.t 14) (.t 17)⟩,
 un (.pick 19 (.t 11) (.t 18) (.c (.bool false))),
 un (.asg 20 (.t 19)),
 ⟨some (20,true),.mov 21 (.t 0)⟩,
 ⟨some (20,true),.fadr 22 0 (.t 5)⟩,
 ⟨some (20,true),.ld 23 1 false (.t 22)⟩,
 ⟨some (20,true),.call 24 Id [((.t 21),false),((.t 23),false)]⟩,
 un (.pick 25 (.t 20) (.t 24) (.c (.bool false))),
 un (.asg 6 (.t 25))])
 (.drop [7,8,9,10,11,12,13,14,15,16,17,18,19,20,21,22,23,24,25] .ret)))
abbrev Ang:List RS:=[.t 6]
theorem Aop:A4 Tryz.prog Vm 26 Ank Ang=true:=by kernel_rfl
def Ahd:ACode:=
 (.seq (.reg [un (.box 4 (.t 1)),
 un (.box 5 (.t 2)),
 un (.asg 6 (.c (.bool false)))])
 (.seq (.reg [un (.mov 11 (.t 0)),
 un (.ld 12 2 true (.t 4)),
 un (.ld 13 2 true (.t 5)),
 un (.call 14 Ol [((.t 11),false),((.t 12),false),((.t 13),false)]),
 un (.asg 10 (.t 14)),
 un (.ext 15 (.t 10) 0),
 un (.ext 16 (.t 10) 1),
 un (.ext 17 (.t 10) 2),
 un (.asg 7 (.t 15)),
 un (.asg 8 (.t 16)),
 un (.asg 9 (.t 17))])
 (.drop [11,12,13,14,10,15,16,17,7,8] (.seq (.reg [un (.mov 18 (.t 9)),
 un (.un 19 .not (.t 18)),
 un (.asg 6 (.t 19))])
 (.drop [18,19] .ret)))))
abbrev Agk:List RS:=[.t 6]
theorem Age:A4 Tryz.prog Oy 20 Ahd Agk=true:=by kernel_rfl
def Xc:ACode:=
 (.seq (.reg [un (.box 1 (.t 0)),
 un (.asg 2 (.c (.nilsl 1))),
 un (.asg 3 (.c (.bool false)))])
 (.seq (.seq (.reg [un (.ld 4 3 true (.t 1)),
 un (.call 5 Hb [((.t 4),false)]),
 un (.un 6 .not (.t 5))])
 (.drop [4,5] (.cond (.t 6) (.seq (.reg [un (.bsl 7 1 []),
 un (.asg 2 (.t 7)),
 un (.asg 3 (.c (.bool false)))])
 (.drop [7] .ret))
 .skip)))
 (.drop [4,5,6,7] (.seq (.reg [un (.fadr 8 2 (.t 1)),
 un (.ld 9 1 false (.t 8)),
 un (.call 10 Fs [((.t 9),false)]),
 un (.asg 2 (.t 10)),
 un (.asg 3 (.c (.bool true)))])
 (.drop [8,9,10] .ret)))))
abbrev Ww:List RS:=[.t 2,.t 3]
theorem W0:A4 Tryz.prog D6 11 Xc Ww=true:=by kernel_rfl
def Oe:ACode:=
 (.seq (.reg [un (.bin 14 .lss (.t 13) (.t 12))])
 (.seq (.cond (.t 14) .skip
 (.exit 0))
 (.seq (.block 1 (.seq (.reg [un (.mov 15 (.t 13)),
 un (.iad 16 1 (.t 11) (.t 13)),
 un (.ld 17 1 false (.t 16)),
 un (.asg 4 (.t 15)),
 un (.asg 5 (.t 17))])
 (.drop [15,16,17] (.seq (.reg [un (.mov 18 (.t 5))])
 (.cond (.t 18) (.seq (.reg [un (.mov 19 (.t 4)),
 un (.asg 2 (.t 19)),
 un (.asg 3 (.c (.bool true)))])
 (.drop [19] .ret))
 .skip)))))
 (.drop [15,16,17,4,5,18,19] (.reg [un (.bin 20 .add (.t 13) (.c (.int .i64 1))),
 un (.asg 13 (.t 20))])))))
def Aca:ACode:=
 (.seq (.reg [un (.box 1 (.t 0)),
 un (.asg 2 (.c (.int .i64 0))),
 un (.asg 3 (.c (.bool false)))])
 (.seq (.seq (.reg [un (.ld 6 3 true (.t 1)),
 un (.call 7 Hb [((.t 6),false)]),
 un (.un 8 .not (.t 7))])
 (.drop [6,7] (.cond (.t 8) (.seq (.reg [un (.asg 2 (.c (.int .i64 0))),
 un (.asg 3 (.c (.bool false)))])
 .ret)
 .skip)))
 (.drop [6,7,8] (.seq (.seq (.reg [un (.fadr 9 2 (.t 1)),
 un (.ld 10 1 false (.t 9)),
 un (.call 11 Fs [((.t 10),false)]),
 un (.len 12 (.t 11)),
 un (.mov 13 (.c (.int .i64 0)))])
 (.drop [9,10] (.block 0 (.loop Oe))))
 (.drop [9,10,11,12,13,14,15,16,17,4,5,18,19,20] (.seq (.reg [un (.asg 2 (.c (.int .i64 6))),
 un (.asg 3 (.c (.bool true)))])
 .ret))))))
abbrev Ado:List RS:=[.t 2,.t 3]
theorem Ac3:A4 Tryz.prog Lm 21 Aca Ado=true:=by kernel_rfl
def Q8:ACode:=
 (.seq (.reg [un (.mov 17 (.t 6)),
 un (.bin 18 .gtr (.t 17) (.c (.int .i64 0))),
 un (.asg 19 (.t 18)),
 ⟨some (19,true),.fadr 20 0 (.t 5)⟩,
 ⟨some (19,true),.ld 21 1 false (.t 20)⟩,
 ⟨some (19,true),.bin 22 .gtr (.t 21) (.c (.int .i64 0))⟩,
 un (.pick 23 (.t 19) (.t 22) (.c (.bool false)))])
 (.drop [17,18,19,20,21,22] (.cond (.t 23) .skip
 (.exit 0))))
def Jp:ACode:=
 (.seq (.seq (.reg [un (.mov 30 (.t 8)),
 un (.fadr 31 1 (.t 7)),
 un (.fadr 32 0 (.t 31)),
 un (.ld 33 1 false (.t 32)),
 un (.bin 34 .lss (.t 30) (.t 33))])
 (.drop [30,31,32,33] (.cond (.t 34) .skip
 (.exit 2))))
 (.drop [30,31,32,33,34] (.seq (.block 3 (.dreg [(un (.fadr 37 0 (.t 7)),[87,42]),
 (un (.ld 38 1 false (.t 37)),[87,42]),
 (un (.mov 39 (.t 0)),[37,38]),
 (un (.fadr 40 0 (.t 5)),[37,38,39]),
 (un (.ld 41 1 false (.t 40)),[37,38,39]),
 (un (.call 42 Ca [((.t 39),true),((.t 41),false)]),[87,37,38]),
 (un (.bsl 43 1 [(.t 42)]),[37,38])]
 [un (.app 44 1 (.t 38) (.t 43)),
 un (.fadr 45 0 (.t 7)),
 un (.st 1 (.t 45) (.t 44))]))
 (.drop [37,38,39,40,41,42,43,44,45] (.reg [un (.mov 35 (.t 8)),
 un (.bin 36 .add (.t 35) (.c (.int .i64 1))),
 un (.asg 8 (.t 36))])))))
def Jo:ACode:=
 (.seq (.cut Q8)
 (.drop [17,18,19,20,21,22,23] (.seq (.block 1 (.seq (.reg [un (.mov 26 (.t 0)),
 un (.mov 27 (.t 1)),
 un (.call 28 K2 [((.t 26),true),((.t 27),false)]),
 un (.bld 29 [.nilsl 1,.int .i64 0,.nilsl 1] [(1,2,(.t 28))]),
 un (.alc 7 (.agg [.nilsl 1,.int .i64 0,.nilsl 1])),
 un (.st 3 (.t 7) (.t 29))])
 (.drop [26,27,28,29] (.seq (.seq (.reg [un (.asg 8 (.c (.int .i64 0)))])
 (.block 2 (.loop Jp)))
 (.drop [8,30,31,32,33,34,37,38,39,40,41,42,43,44,45,35,36] (.reg [un (.fadr 46 2 (.t 5)),
 un (.ld 47 1 false (.t 46)),
 un (.ld 48 3 true (.t 7)),
 un (.bsl 49 3 [(.t 48)]),
 un (.app 50 3 (.t 47) (.t 49)),
 un (.fadr 51 2 (.t 5)),
 un (.st 1 (.t 51) (.t 50))]))))))
 (.drop [26,27,28,29,7,8,30,31,32,33,34,37,38,39,40,41,42,43,44,45,35,36,46,47,48,49,50,51] (.reg [un (.mov 24 (.t 6)),
 un (.bin 25 .sub (.t 24) (.c (.int .i64 1))),
 un (.asg 6 (.t 25))])))))
def V4:ACode:=
 (.seq (.reg [un (.alc 4 (.agg [.int .i64 0,.int .i64 0,.nilsl 3]))])
 (.seq (.reg [un (.mov 9 (.t 0)),
 un (.bsl 10 1 [(.c (.int .i64 2)),(.c (.int .i64 3)),(.c (.int .i64 3)),(.c (.int .i64 4)),(.c (.int .i64 5)),(.c (.int .i64 1)),(.c (.int .i64 9)),(.c (.int .i64 0))]),
 un (.call 11 B7 [((.t 9),true),((.t 10),false)]),
 un (.bsl 12 3 []),
 un (.bld 13 [.int .i64 0,.int .i64 0,.nilsl 3] [(0,1,(.t 11)),(1,1,(.c (.int .i64 2))),(2,1,(.t 12))]),
 un (.alc 5 (.agg [.int .i64 0,.int .i64 0,.nilsl 3])),
 un (.st 3 (.t 5) (.t 13))])
 (.drop [9,10,11,12,13] (.seq (.seq (.reg [un (.mov 14 (.t 0)),
 un (.bsl 15 1 [(.c (.int .i64 1)),(.c (.int .i64 2)),(.c (.int .i64 3)),(.c (.int .i64 4)),(.c (.int .i64 5)),(.c (.int .i64 6)),(.c (.int .i64 0))]),
 un (.call 16 B7 [((.t 14),true),((.t 15),false)]),
 un (.asg 6 (.t 16))])
 (.drop [14,15,16] (.block 0 (.loop Jo))))
 (.drop [14,15,16,6,17,18,19,20,21,22,23,26,27,28,29,7,8,30,31,32,33,34,37,38,39,40,41,42,43,44,45,35,36,46,47,48,49,50,51,24,25] (.seq (.seq (.reg [un (.mov 52 (.t 0)),
 un (.call 53 Ca [((.t 52),true),((.c (.int .i64 40)),false)])])
 (.drop [52] (.block 4 (.seq (.reg [un (.bin 55 .eql (.t 53) (.c (.int .i64 0))),
 un (.asg 54 (.t 55))])
 (.drop [55] (.cond (.t 54) (.reg [un (.mov 56 (.t 0)),
 un (.bsl 57 1 [(.c (.int .i64 3)),(.c (.int .i64 1)),(.c (.int .i64 0))]),
 un (.call 58 B7 [((.t 56),true),((.t 57),false)]),
 un (.fadr 59 1 (.t 5)),
 un (.st 1 (.t 59) (.t 58))])
 (.seq (.reg [un (.bin 61 .eql (.t 53) (.c (.int .i64 1))),
 un (.asg 60 (.t 61))])
 (.drop [61] (.cond (.t 60) (.reg [un (.mov 62 (.t 0)),
 un (.fadr 63 0 (.t 5)),
 un (.ld 64 1 false (.t 63)),
 un (.bin 65 .add (.t 64) (.c (.int .i64 1))),
 un (.bsl 66 1 [(.c (.int .i64 (-1))),(.c (.int .i64 10)),(.t 65)]),
 un (.call 67 B7 [((.t 62),true),((.t 66),false)]),
 un (.fadr 68 0 (.t 5)),
 un (.st 1 (.t 68) (.t 67))])
 (.seq (.reg [un (.bin 70 .eql (.t 53) (.c (.int .i64 2))),
 un (.asg 69 (.t 70))])
 (.drop [70] (.cond (.t 69) (.seq (.reg [un (.fadr 71 2 (.t 5)),
 un (.ld 72 1 false (.t 71)),
 un (.len 73 (.t 72)),
 un (.bin 74 .gtr (.t 73) (.c (.int .i64 0)))])
 (.drop [71,72,73] (.cond (.t 74) (.dregl [(0,.fadr 75 2 (.t 5)),
 (1,.ld 76 1 false (.t 75)),
 (2,.fadr 77 2 (.t 5)),
 (3,.ld 78 1 false (.t 77)),
 (4,.iad 79 3 (.t 78) (.c (.int .i64 0))),
 (5,.fadr 80 0 (.t 79)),
 (6,.ld 81 1 false (.t 80))]
 (.alt 7 (.bsl 82 1 [(.c (.int .i64 0))]) [0,1,2,3,4,5,6] [] (.alt 8 (.app 83 1 (.t 81) (.t 82)) [0,1,2,3,4,5,6] [81] (.alt 9 (.iad 84 3 (.t 76) (.c (.int .i64 0))) [0,1] [] (.alt 10 (.fadr 85 0 (.t 84)) [] [] (.alt 11 (.st 1 (.t 85) (.t 83)) [] [] .nil .nil) .nil) .nil) .nil) .nil))
 .skip)))
 .skip))))))))))))
 (.drop [52,53,55,54,56,57,58,59,61,60,62,63,64,65,66,67,68,70,69,71,72,73,74,75,76,77,78,79,80,81,82,83,84,85] (.seq (.reg [un (.ld 86 3 true (.t 5)),
 un (.st 3 (.t 4) (.t 86))])
 (.drop [86] .ret)))))))))
abbrev Vc:List RS:=[.c 4 3 true]
theorem Vt:A4 Tryz.prog Hm 87 V4 Vc=true:=by kernel_rfl
def Sy:ACode:=
 (.seq (.reg [un (.ld 9 3 true (.t 2)),
 un (.call 10 Jj [((.t 9),false)]),
 un (.un 11 .not (.t 10)),
 un (.asg 12 (.t 11)),
 ⟨some (12,false),.fadr 13 0 (.t 3)⟩,
 ⟨some (12,false),.ld 14 1 false (.t 13)⟩,
 ⟨some (12,false),.bin 15 .neq (.t 14) (.c (.int .i64 1))⟩,
 un (.pick 16 (.t 12) (.c (.bool true)) (.t 15)),
 un (.asg 17 (.t 16)),
 ⟨some (17,false),.ld 18 2 true (.t 3)⟩,
 ⟨some (17,false),.fadr 19 1 (.t 2)⟩,
 ⟨some (17,false),.ld 20 1 false (.t 19)⟩,
 ⟨some (17,false),.call 21 Sm [((.t 18),false),((.t 20),false)]⟩,
 ⟨some (17,false),.un 22 .not (.t 21)⟩,
 un (.pick 23 (.t 17) (.c (.bool true)) (.t 22))])
 (.drop [9,10,11,12,13,14,15,16,17,18,19,20,21,22] (.cond (.t 23) (.seq (.reg [un (.bld 24 [.int .i64 0,.int .i64 0,.nilsl 3] []),
 un (.st 3 (.t 4) (.t 24)),
 un (.asg 5 (.c (.bool false)))])
 (.drop [24] .ret))
 .skip)))
def Kf:ACode:=
 (.seq (.reg [un (.bin 30 .lss (.t 29) (.t 28))])
 (.seq (.cond (.t 30) .skip
 (.exit 0))
 (.seq (.block 1 (.seq (.reg [un (.iad 31 3 (.t 27) (.t 29)),
 un (.ld 32 3 true (.t 31)),
 un (.alc 8 (.agg [.nilsl 1,.int .i64 0,.nilsl 1])),
 un (.st 3 (.t 8) (.t 32))])
 (.drop [31,32] (.dregl [(0,.mov 33 (.t 6)),
 (1,.fadr 34 0 (.t 8)),
 (2,.ld 35 1 false (.t 34)),
 (4,.fadr 37 1 (.t 8)),
 (5,.ld 38 2 true (.t 37)),
 (6,.fadr 39 1 (.t 3)),
 (7,.ld 40 1 false (.t 39))]
 (.alt 3 (.call 36 Pk [((.t 35),false)]) [0,1,2,4,5,6,7] [] (.alt 8 (.call 41 Jb [((.t 38),false),((.t 40),false)]) [0,4,5,6,7] [] (.alt 9 (.bld 42 [.nilsl 1,.int .i64 0,.nilsl 1] [(0,1,(.t 36)),(1,2,(.t 41))]) [0] [] (.alt 10 (.bsl 43 3 [(.t 42)]) [0] [] (.alt 11 (.app 44 3 (.t 33) (.t 43)) [0] [33] (.alt 12 (.asg 6 (.t 44)) [] [] .nil .nil) .nil) .nil) .nil) .nil) .nil)))))
 (.drop [31,32,8,33,34,35,36,37,38,39,40,41,42,43,44] (.reg [un (.bin 45 .add (.t 29) (.c (.int .i64 1))),
 un (.asg 29 (.t 45))])))))
def Xk:ACode:=
 (.seq (.reg [un (.box 2 (.t 0)),
 un (.box 3 (.t 1)),
 un (.alc 4 (.agg [.int .i64 0,.int .i64 0,.nilsl 3])),
 un (.asg 5 (.c (.bool false)))])
 (.seq (.cut Sy)
 (.drop [9,10,11,12,13,14,15,16,17,18,19,20,21,22,23,24] (.seq (.reg [un (.bsl 25 3 []),
 un (.asg 6 (.t 25))])
 (.drop [25] (.seq (.seq (.reg [un (.fadr 26 2 (.t 2)),
 un (.ld 27 1 false (.t 26)),
 un (.len 28 (.t 27)),
 un (.mov 29 (.c (.int .i64 0)))])
 (.drop [26] (.block 0 (.loop Kf))))
 (.drop [26,27,28,29,30,31,32,8,33,34,35,36,37,38,39,40,41,42,43,44,45] (.seq (.frz [6] (.reg [un (.ld 46 3 true (.t 2)),
 un (.mov 47 (.t 6)),
 un (.call 48 Hk [((.t 46),false),((.t 47),false)]),
 un (.ext 49 (.t 48) 0),
 un (.ext 50 (.t 48) 1),
 un (.st 3 (.t 4) (.t 49)),
 un (.asg 5 (.t 50))]))
 (.drop [46,47,48,49,50] .ret)))))))))
abbrev Xg:List RS:=[.c 4 3 true,.t 5]
theorem Xf:A4 Tryz.prog H9 51 Xk Xg=true:=by kernel_rfl
def Adm:ACode:=
 (.seq (.reg [un (.fadr 4 0 (.t 1)),
 un (.ld 5 1 false (.t 4)),
 un (.call 6 Hd [((.t 5),false),((.c (.int .i64 0)),false),((.c (.int .i64 9)),false)]),
 un (.un 7 .not (.t 6)),
 un (.asg 8 (.t 7)),
 ⟨some (8,false),.fadr 9 1 (.t 1)⟩,
 ⟨some (8,false),.ld 10 1 false (.t 9)⟩,
 ⟨some (8,false),.call 11 Hd [((.t 10),false),((.c (.int .i64 1)),false),((.c (.int .i64 4)),false)]⟩,
 ⟨some (8,false),.un 12 .not (.t 11)⟩,
 un (.pick 13 (.t 8) (.c (.bool true)) (.t 12)),
 un (.asg 14 (.t 13)),
 ⟨some (14,false),.fadr 15 2 (.t 1)⟩,
 ⟨some (14,false),.ld 16 1 false (.t 15)⟩,
 ⟨some (14,false),.len 17 (.t 16)⟩,
 ⟨some (14,false),.bin 18 .gtr (.t 17) (.c (.int .i64 40))⟩,
 un (.pick 19 (.t 14) (.c (.bool true)) (.t 18))])
 (.drop [4,5,6,7,8,9,10,11,12,13,14,15,16,17,18] (.cond (.t 19) (.seq (.reg [un (.asg 2 (.c (.bool false)))])
 .ret)
 .skip)))
def Rf:ACode:=
 (.seq (.seq (.reg [un (.mov 20 (.t 3)),
 un (.fadr 21 2 (.t 1)),
 un (.ld 22 1 false (.t 21)),
 un (.len 23 (.t 22)),
 un (.bin 24 .lss (.t 20) (.t 23))])
 (.drop [20,21,22,23] (.cond (.t 24) .skip
 (.exit 0))))
 (.drop [20,21,22,23,24] (.seq (.block 1 (.seq (.dreg [(un (.fadr 27 0 (.t 1)),[]),
 (un (.ld 28 1 false (.t 27)),[]),
 (un (.fadr 29 1 (.t 1)),[27,28]),
 (un (.ld 30 1 false (.t 29)),[27,28]),
 (un (.fadr 31 2 (.t 1)),[27,28,29,30]),
 (un (.ld 32 1 false (.t 31)),[27,28,29,30]),
 (un (.mov 33 (.t 3)),[27,28,29,30,31,32]),
 (un (.iad 34 3 (.t 32) (.t 33)),[27,28,29,30]),
 (un (.ld 35 3 true (.t 34)),[27,28,29,30])]
 [un (.call 36 Vm [((.t 28),false),((.t 30),false),((.t 35),false)]),
 un (.un 37 .not (.t 36))])
 (.drop [27,28,29,30,31,32,33,34,35,36] (.cond (.t 37) (.seq (.reg [un (.asg 2 (.c (.bool false)))])
 .ret)
 .skip))))
 (.drop [27,28,29,30,31,32,33,34,35,36,37] (.reg [un (.mov 25 (.t 3)),
 un (.bin 26 .add (.t 25) (.c (.int .i64 1))),
 un (.asg 3 (.t 26))])))))
def Ajt:ACode:=
 (.seq (.reg [un (.box 1 (.t 0)),
 un (.asg 2 (.c (.bool false)))])
 (.seq (.cut Adm)
 (.drop [4,5,6,7,8,9,10,11,12,13,14,15,16,17,18,19] (.seq (.seq (.reg [un (.asg 3 (.c (.int .i64 0)))])
 (.block 0 (.loop Rf)))
 (.drop [3,20,21,22,23,24,27,28,29,30,31,32,33,34,35,36,37,25,26] (.seq (.reg [un (.asg 2 (.c (.bool true)))])
 .ret))))))
abbrev Ajm:List RS:=[.t 2]
theorem Ai2:A4 Tryz.prog Qa 38 Ajt Ajm=true:=by kernel_rfl
def Wh:ACode:=
 (.seq (.seq (.reg [un (.mov 10 (.t 6)),
 un (.fadr 11 0 (.t 2)),
 un (.ld 12 1 false (.t 11)),
 un (.bin 13 .lss (.t 10) (.t 12))])
 (.drop [10,11,12] (.cond (.t 13) .skip
 (.exit 0))))
 (.drop [10,11,12,13] (.seq (.block 1 (.reg [un (.mov 16 (.t 5)),
 un (.mov 17 (.t 1)),
 un (.bsl 18 1 [(.t 17)]),
 un (.app 19 1 (.t 16) (.t 18)),
 un (.asg 5 (.t 19))]))
 (.drop [16,17,18,19] (.reg [un (.mov 14 (.t 6)),
 un (.bin 15 .add (.t 14) (.c (.int .i64 1))),
 un (.asg 6 (.t 15))])))))
def Ant:ACode:=
 (.seq (.reg [un (.box 2 (.t 0)),
 un (.asg 4 (.c (.bool false)))])
 (.seq (.seq (.reg [un (.mov 7 (.t 1)),
 un (.bin 8 .leq (.t 7) (.c (.int .i64 1)))])
 (.drop [7] (.cond (.t 8) (.seq (.reg [un (.bsl 9 1 []),
 un (.asg 5 (.t 9))])
 (.drop [9] (.seq (.seq (.reg [un (.asg 6 (.c (.int .i64 0)))])
 (.block 0 (.loop Wh)))
 (.drop [6,10,11,12,13,16,17,18,19,14,15] (.seq (.reg [un (.ld 20 2 true (.t 2)),
 un (.mov 21 (.t 5)),
 un (.call 22 Nn [((.t 20),false),((.t 21),false)]),
 un (.asg 4 (.t 22))])
 (.drop [20,21,22] .ret))))))
 .skip)))
 (.drop [7,8,9,5,6,10,11,12,13,16,17,18,19,14,15,20,21,22] (.seq (.dreg [(un (.call 23 Ni []),[]),
 (un (.mov 24 (.t 1)),[23]),
 (un (.bin 25 .sub (.t 24) (.c (.int .i64 2))),[23]),
 (un (.iad 26 2 (.t 23) (.t 25)),[]),
 (un (.ld 27 2 true (.t 26)),[]),
 (un (.ld 28 2 true (.t 2)),[23,24,25,26,27])]
 [un (.call 29 Oy [((.c (.int .i64 2)),false),((.t 27),false),((.t 28),false)]),
 un (.asg 4 (.t 29))])
 (.drop [23,24,25,26,27,28,29] .ret)))))
abbrev An2:List RS:=[.t 4]
theorem Aoj:A4 Tryz.prog Vq 30 Ant An2=true:=by kernel_rfl
def Q5:ACode:=
 (.seq (.reg [un (.alc 2 (.agg [.int .i64 0,.int .i64 0,.nilsl 3]))])
 (.seq (.reg [un (.mov 4 (.t 0)),
 un (.bld 5 [.nilsl 1,.int .i64 0,.int .u64 0] [(0,1,(.t 4))]),
 un (.box 6 (.t 5)),
 un (.asg 3 (.t 6))])
 (.drop [4,5,6] (.seq (.reg [un (.mov 7 (.t 3)),
 un (.mov 8 (.t 3)),
 un (.call 9 Ca [((.t 8),true),((.c (.int .i64 8)),false)]),
 un (.call 10 Hm [((.t 7),true),((.t 9),false)]),
 un (.st 3 (.t 2) (.t 10))])
 (.drop [7,8,9,10] .ret)))))
abbrev Q7:List RS:=[.c 2 3 true]
theorem Ra:A4 Tryz.prog Fv 11 Q5 Q7=true:=by kernel_rfl
def Aap:ACode:=
 (.seq (.reg [un (.box 1 (.t 0)),
 un (.alc 2 (.agg [.int .i64 0,.int .i64 0,.nilsl 3])),
 un (.asg 3 (.c (.bool false)))])
 (.seq (.seq (.reg [un (.ld 4 3 true (.t 1)),
 un (.call 5 Hb [((.t 4),false)]),
 un (.un 6 .not (.t 5))])
 (.drop [4,5] (.cond (.t 6) (.seq (.reg [un (.bld 7 [.int .i64 0,.int .i64 0,.nilsl 3] []),
 un (.st 3 (.t 2) (.t 7)),
 un (.asg 3 (.c (.bool false)))])
 (.drop [7] .ret))
 .skip)))
 (.drop [4,5,6,7] (.seq (.reg [un (.ld 8 3 true (.t 1)),
 un (.bslr 9 1 [(.c (.int .i64 1)),(.c (.int .i64 0))]),
 un (.bld 10 [.int .i64 0,.nilsl 1] [(0,1,(.c (.int .i64 1))),(1,1,(.t 9))]),
 un (.call 11 H9 [((.t 8),false),((.t 10),false)]),
 un (.ext 12 (.t 11) 0),
 un (.ext 13 (.t 11) 1),
 un (.st 3 (.t 2) (.t 12)),
 un (.asg 3 (.t 13))])
 (.drop [8,9,10,11,12,13] .ret)))))
abbrev Aba:List RS:=[.c 2 3 true,.t 3]
theorem Aan:A4 Tryz.prog Hg 14 Aap Aba=true:=by kernel_rfl
def Ajq:ACode:=
 (.seq (.reg [un (.box 1 (.t 0)),
 un (.asg 2 (.c (.bool false)))])
 (.seq (.reg [un (.fadr 3 1 (.t 1)),
 un (.ld 4 1 false (.t 3)),
 un (.bin 5 .eql (.t 4) (.c (.int .i64 2))),
 un (.asg 6 (.t 5)),
 ⟨some (6,true),.ld 7 3 true (.t 1)⟩,
 ⟨some (6,true),.call 8 Qa [((.t 7),false)]⟩,
 un (.pick 9 (.t 6) (.t 8) (.c (.bool false))),
 un (.asg 2 (.t 9))])
 (.drop [3,4,5,6,7,8,9] .ret)))
abbrev Ai5:List RS:=[.t 2]
theorem Ah2:A4 Tryz.prog Ln 10 Ajq Ai5=true:=by kernel_rfl
def Wg:ACode:=
 (.seq (.seq (.reg [un (.mov 6 (.t 5)),
 un (.fadr 7 2 (.t 2)),
 un (.ld 8 1 false (.t 7)),
 un (.len 9 (.t 8)),
 un (.bin 10 .lss (.t 6) (.t 9))])
 (.drop [6,7,8,9] (.cond (.t 10) .skip
 (.exit 0))))
 (.drop [6,7,8,9,10] (.seq (.block 1 (.seq (.reg [un (.fadr 13 2 (.t 2)),
 un (.ld 14 1 false (.t 13)),
 un (.mov 15 (.t 5)),
 un (.iad 16 3 (.t 14) (.t 15)),
 un (.fadr 17 1 (.t 16)),
 un (.ld 18 2 true (.t 17)),
 un (.mov 19 (.t 1)),
 un (.call 20 Vq [((.t 18),false),((.t 19),false)]),
 un (.un 21 .not (.t 20))])
 (.drop [13,14,15,16,17,18,19,20] (.cond (.t 21) (.seq (.reg [un (.asg 4 (.c (.bool false)))])
 .ret)
 .skip))))
 (.drop [13,14,15,16,17,18,19,20,21] (.reg [un (.mov 11 (.t 5)),
 un (.bin 12 .add (.t 11) (.c (.int .i64 1))),
 un (.asg 5 (.t 12))])))))
def Ao5:ACode:=
 (.seq (.reg [un (.box 2 (.t 0)),
 un (.asg 4 (.c (.bool false)))])
 (.seq (.seq (.reg [un (.asg 5 (.c (.int .i64 0)))])
 (.block 0 (.loop Wg)))
 (.drop [5,6,7,8,9,10,13,14,15,16,17,18,19,20,21,11,12] (.seq (.reg [un (.asg 4 (.c (.bool true)))])
 .ret))))
abbrev Anp:List RS:=[.t 4]
theorem An5:A4 Tryz.prog Pm 22 Ao5 Anp=true:=by kernel_rfl
def Kp:ACode:=
 (.seq (.seq (.reg [un (.mov 11 (.t 5)),
 un (.bin 12 .lss (.t 11) (.c (.int .i64 6)))])
 (.drop [11] (.cond (.t 12) .skip
 (.exit 0))))
 (.drop [11,12] (.seq (.block 1 (.reg [un (.mov 15 (.t 4)),
 un (.ld 16 3 true (.t 1)),
 un (.mov 17 (.t 5)),
 un (.call 18 Pm [((.t 16),false),((.t 17),false)]),
 un (.bsl 19 1 [(.t 18)]),
 un (.app 20 1 (.t 15) (.t 19)),
 un (.asg 4 (.t 20))]))
 (.drop [15,16,17,18,19,20] (.reg [un (.mov 13 (.t 5)),
 un (.bin 14 .add (.t 13) (.c (.int .i64 1))),
 un (.asg 5 (.t 14))])))))
def Xl:ACode:=
 (.seq (.reg [un (.box 1 (.t 0)),
 un (.asg 2 (.c (.nilsl 1))),
 un (.asg 3 (.c (.bool false)))])
 (.seq (.reg [un (.bsl 6 1 []),
 un (.asg 4 (.t 6))])
 (.drop [6] (.seq (.seq (.reg [un (.ld 7 3 true (.t 1)),
 un (.call 8 Ln [((.t 7),false)]),
 un (.un 9 .not (.t 8))])
 (.drop [7,8] (.cond (.t 9) (.seq (.reg [un (.mov 10 (.t 4)),
 un (.asg 2 (.t 10)),
 un (.asg 3 (.c (.bool false)))])
 (.drop [10] .ret))
 .skip)))
 (.drop [7,8,9,10] (.seq (.seq (.reg [un (.asg 5 (.c (.int .i64 0)))])
 (.block 0 (.loop Kp)))
 (.drop [5,11,12,15,16,17,18,19,20,13,14] (.seq (.reg [un (.mov 21 (.t 4)),
 un (.asg 2 (.t 21)),
 un (.asg 3 (.c (.bool true)))])
 (.drop [21] .ret)))))))))
abbrev Wx:List RS:=[.t 2,.t 3]
theorem W6:A4 Tryz.prog H3 22 Xl Wx=true:=by kernel_rfl
def Ql:ACode:=
 (.seq (.seq (.reg [un (.mov 4 (.t 3)),
 un (.bin 5 .lss (.t 4) (.c (.int .i64 6)))])
 (.drop [4] (.cond (.t 5) .skip
 (.exit 0))))
 (.drop [4,5] (.seq (.block 1 (.seq (.reg [un (.ld 8 3 true (.t 1)),
 un (.mov 9 (.t 3)),
 un (.call 10 Pm [((.t 8),false),((.t 9),false)])])
 (.drop [8,9] (.cond (.t 10) (.seq (.reg [un (.mov 11 (.t 3)),
 un (.asg 2 (.t 11))])
 (.drop [11] .ret))
 .skip))))
 (.drop [8,9,10,11] (.reg [un (.mov 6 (.t 3)),
 un (.bin 7 .add (.t 6) (.c (.int .i64 1))),
 un (.asg 3 (.t 7))])))))
def Agx:ACode:=
 (.seq (.reg [un (.box 1 (.t 0)),
 un (.asg 2 (.c (.int .i64 0)))])
 (.seq (.seq (.reg [un (.asg 3 (.c (.int .i64 0)))])
 (.block 0 (.loop Ql)))
 (.drop [3,4,5,8,9,10,11,6,7] (.seq (.reg [un (.asg 2 (.c (.int .i64 6)))])
 .ret))))
abbrev Agj:List RS:=[.t 2]
theorem Ag9:A4 Tryz.prog Oq 12 Agx Agj=true:=by kernel_rfl
def Acz:ACode:=
 (.seq (.reg [un (.box 1 (.t 0)),
 un (.asg 2 (.c (.int .i64 0))),
 un (.asg 3 (.c (.bool false)))])
 (.seq (.seq (.reg [un (.ld 4 3 true (.t 1)),
 un (.call 5 Ln [((.t 4),false)]),
 un (.un 6 .not (.t 5))])
 (.drop [4,5] (.cond (.t 6) (.seq (.reg [un (.asg 2 (.c (.int .i64 0))),
 un (.asg 3 (.c (.bool false)))])
 .ret)
 .skip)))
 (.drop [4,5,6] (.seq (.reg [un (.ld 7 3 true (.t 1)),
 un (.call 8 Oq [((.t 7),false)]),
 un (.asg 2 (.t 8)),
 un (.asg 3 (.c (.bool true)))])
 (.drop [7,8] .ret)))))
abbrev Adk:List RS:=[.t 2,.t 3]
theorem Acs:A4 Tryz.prog Lz 9 Acz Adk=true:=by kernel_rfl
def P9:ACode:=
 (.seq (.reg [un (.ld 36 3 true (.t 3)),
 un (.call 37 H3 [((.t 36),false)]),
 un (.asg 35 (.t 37)),
 un (.ext 38 (.t 35) 0),
 un (.ext 39 (.t 35) 1),
 un (.asg 6 (.t 38)),
 un (.asg 7 (.t 39))])
 (.drop [36,37,35,38,39] (.seq (.reg [un (.mov 40 (.t 5)),
 un (.mov 41 (.t 7)),
 un (.binb 42 .neq (.t 40) (.t 41)),
 un (.asg 43 (.t 42)),
 ⟨some (43,false),.mov 44 (.t 4)⟩,
 ⟨some (43,false),.mov 45 (.t 6)⟩,
 ⟨some (43,false),.call 46 Np [((.t 44),false),((.t 45),false)]⟩,
 ⟨some (43,false),.un 47 .not (.t 46)⟩,
 un (.pick 48 (.t 43) (.c (.bool true)) (.t 47))])
 (.drop [40,41,42,43,44,45,46,47] (.cond (.t 48) (.seq (.reg [un (.asg 2 (.c (.bool false)))])
 .ret)
 .skip)))))
def Qr:ACode:=
 (.seq (.reg [un (.ld 55 3 true (.t 3)),
 un (.call 56 Lz [((.t 55),false)]),
 un (.asg 54 (.t 56)),
 un (.ext 57 (.t 54) 0),
 un (.ext 58 (.t 54) 1),
 un (.asg 10 (.t 57)),
 un (.asg 11 (.t 58))])
 (.drop [55,56,54,57,58] (.seq (.reg [un (.mov 59 (.t 8)),
 un (.mov 60 (.t 10)),
 un (.bin 61 .neq (.t 59) (.t 60)),
 un (.asg 62 (.t 61)),
 ⟨some (62,false),.mov 63 (.t 9)⟩,
 ⟨some (62,false),.mov 64 (.t 11)⟩,
 ⟨some (62,false),.binb 65 .neq (.t 63) (.t 64)⟩,
 un (.pick 66 (.t 62) (.c (.bool true)) (.t 65)),
 un (.asg 67 (.t 66)),
 ⟨some (67,false),.mov 68 (.t 9)⟩,
 ⟨some (67,false),.mov 69 (.t 5)⟩,
 ⟨some (67,false),.binb 70 .neq (.t 68) (.t 69)⟩,
 un (.pick 71 (.t 67) (.c (.bool true)) (.t 70))])
 (.drop [59,60,61,62,63,64,65,66,67,68,69,70] (.cond (.t 71) (.seq (.reg [un (.asg 2 (.c (.bool false)))])
 .ret)
 .skip)))))
def Il:ACode:=
 (.seq (.seq (.reg [un (.mov 74 (.t 12)),
 un (.mov 75 (.t 4)),
 un (.len 76 (.t 75)),
 un (.bin 77 .lss (.t 74) (.t 76))])
 (.drop [74,75,76] (.cond (.t 77) .skip
 (.exit 0))))
 (.drop [74,75,76,77] (.seq (.block 1 (.seq (.reg [un (.mov 80 (.t 4)),
 un (.mov 81 (.t 12)),
 un (.iad 82 1 (.t 80) (.t 81)),
 un (.ld 83 1 false (.t 82)),
 un (.asg 84 (.t 83)),
 ⟨some (84,true),.mov 85 (.t 8)⟩,
 ⟨some (84,true),.mov 86 (.t 12)⟩,
 ⟨some (84,true),.bin 87 .gtr (.t 85) (.t 86)⟩,
 un (.pick 88 (.t 84) (.t 87) (.c (.bool false))),
 un (.asg 89 (.t 88)),
 ⟨some (89,false),.mov 90 (.t 12)⟩,
 ⟨some (89,false),.mov 91 (.t 8)⟩,
 ⟨some (89,false),.bin 92 .eql (.t 90) (.t 91)⟩,
 ⟨some (89,false),.asg 93 (.t 92)⟩,
 ⟨some (93,true),.mov 94 (.t 4)⟩,
 ⟨some (93,true),.mov 95 (.t 12)⟩,
 ⟨some (93,true),.iad 96 1 (.t 94) (.t 95)⟩,
 ⟨some (93,true),.ld 97 1 false (.t 96)⟩,
 ⟨some (93,true),.un 98 .not (.t 97)⟩,
 ⟨some (89,false),.pick 99 (.t 93) (.t 98) (.c (.bool false))⟩,
 un (.pick 100 (.t 89) (.c (.bool true)) (.t 99))])
 (.drop [80,81,82,83,84,85,86,87,88,89,90,91,92,93,94,95,96,97,98,99] (.cond (.t 100) (.seq (.reg [un (.asg 2 (.c (.bool false)))])
 .ret)
 .skip))))
 (.drop [80,81,82,83,84,85,86,87,88,89,90,91,92,93,94,95,96,97,98,99,100] (.reg [un (.mov 78 (.t 12)),
 un (.bin 79 .add (.t 78) (.c (.int .i64 1))),
 un (.asg 12 (.t 79))])))))
def Qq:ACode:=
 (.seq (.reg [un (.mov 121 (.t 14)),
 un (.un 122 .not (.t 121)),
 un (.asg 123 (.t 122)),
 ⟨some (123,false),.mov 124 (.t 16)⟩,
 ⟨some (123,false),.un 125 .not (.t 124)⟩,
 un (.pick 126 (.t 123) (.c (.bool true)) (.t 125)),
 un (.asg 127 (.t 126)),
 ⟨some (127,false),.mov 128 (.t 18)⟩,
 ⟨some (127,false),.un 129 .not (.t 128)⟩,
 un (.pick 130 (.t 127) (.c (.bool true)) (.t 129)),
 un (.asg 131 (.t 130)),
 ⟨some (131,false),.mov 132 (.t 20)⟩,
 ⟨some (131,false),.un 133 .not (.t 132)⟩,
 un (.pick 134 (.t 131) (.c (.bool true)) (.t 133)),
 un (.asg 135 (.t 134)),
 ⟨some (135,false),.mov 136 (.t 15)⟩,
 ⟨some (135,false),.len 137 (.t 136)⟩,
 ⟨some (135,false),.bin 138 .neq (.t 137) (.c (.int .i64 6))⟩,
 un (.pick 139 (.t 135) (.c (.bool true)) (.t 138)),
 un (.asg 140 (.t 139)),
 ⟨some (140,false),.mov 141 (.t 19)⟩,
 ⟨some (140,false),.mov 142 (.t 4)⟩,
 ⟨some (140,false),.call 143 Np [((.t 141),false),((.t 142),false)]⟩,
 ⟨some (140,false),.un 144 .not (.t 143)⟩,
 un (.pick 145 (.t 140) (.c (.bool true)) (.t 144))])
 (.drop [121,122,123,124,125,126,127,128,129,130,131,132,133,134,135,136,137,138,139,140,141,142,143,144] (.cond (.t 145) (.seq (.reg [un (.asg 2 (.c (.bool false)))])
 .ret)
 .skip)))
def Qs:ACode:=
 (.seq (.dreg [(un (.mov 146 (.t 15)),[]),
 (un (.iad 147 1 (.t 146) (.c (.int .i64 0))),[]),
 (un (.ld 148 1 false (.t 147)),[]),
 (un (.mov 149 (.t 4)),[146,147,148]),
 (un (.iad 150 1 (.t 149) (.c (.int .i64 1))),[146,147,148]),
 (un (.ld 151 1 false (.t 150)),[146,147,148]),
 (un (.binb 152 .neq (.t 148) (.t 151)),[]),
 (un (.asg 153 (.t 152)),[]),
 (⟨some (153,false),.mov 154 (.t 15)⟩,[152]),
 (⟨some (153,false),.iad 155 1 (.t 154) (.c (.int .i64 1))⟩,[152]),
 (⟨some (153,false),.ld 156 1 false (.t 155)⟩,[152]),
 (⟨some (153,false),.mov 157 (.t 4)⟩,[154,155,156,152]),
 (⟨some (153,false),.iad 158 1 (.t 157) (.c (.int .i64 0))⟩,[154,155,156,152]),
 (⟨some (153,false),.ld 159 1 false (.t 158)⟩,[154,155,156,152]),
 (⟨some (153,false),.binb 160 .neq (.t 156) (.t 159)⟩,[152]),
 (un (.pick 161 (.t 153) (.c (.bool true)) (.t 160)),[152]),
 (un (.asg 162 (.t 161)),[152]),
 (⟨some (162,false),.mov 163 (.t 15)⟩,[152,161]),
 (⟨some (162,false),.iad 164 1 (.t 163) (.c (.int .i64 2))⟩,[152,161]),
 (⟨some (162,false),.ld 165 1 false (.t 164)⟩,[152,161]),
 (⟨some (162,false),.mov 166 (.t 4)⟩,[163,164,165,152,161]),
 (⟨some (162,false),.iad 167 1 (.t 166) (.c (.int .i64 3))⟩,[163,164,165,152,161]),
 (⟨some (162,false),.ld 168 1 false (.t 167)⟩,[163,164,165,152,161]),
 (⟨some (162,false),.binb 169 .neq (.t 165) (.t 168)⟩,[152,161]),
 (un (.pick 170 (.t 162) (.c (.bool true)) (.t 169)),[152,161]),
 (un (.asg 171 (.t 170)),[152,161]),
 (⟨some (171,false),.mov 172 (.t 15)⟩,[152,161,170]),
 (⟨some (171,false),.iad 173 1 (.t 172) (.c (.int .i64 3))⟩,[152,161,170]),
 (⟨some (171,false),.ld 174 1 false (.t 173)⟩,[152,161,170]),
 (⟨some (171,false),.mov 175 (.t 4)⟩,[172,173,174,152,161,170]),
 (⟨some (171,false),.iad 176 1 (.t 175) (.c (.int .i64 2))⟩,[172,173,174,152,161,170]),
 (⟨some (171,false),.ld 177 1 false (.t 176)⟩,[172,173,174,152,161,170]),
 (⟨some (171,false),.binb 178 .neq (.t 174) (.t 177)⟩,[152,161,170]),
 (un (.pick 179 (.t 171) (.c (.bool true)) (.t 178)),[152,161,170]),
 (un (.asg 180 (.t 179)),[152,161,170]),
 (⟨some (180,false),.mov 181 (.t 15)⟩,[152,161,170,179]),
 (⟨some (180,false),.iad 182 1 (.t 181) (.c (.int .i64 4))⟩,[152,161,170,179]),
 (⟨some (180,false),.ld 183 1 false (.t 182)⟩,[152,161,170,179]),
 (⟨some (180,false),.mov 184 (.t 4)⟩,[181,182,183,152,161,170,179]),
 (⟨some (180,false),.iad 185 1 (.t 184) (.c (.int .i64 4))⟩,[181,182,183,152,161,170,179]),
 (⟨some (180,false),.ld 186 1 false (.t 185)⟩,[181,182,183,152,161,170,179]),
 (⟨some (180,false),.binb 187 .neq (.t 183) (.t 186)⟩,[152,161,170,179]),
 (un (.pick 188 (.t 180) (.c (.bool true)) (.t 187)),[152,161,170,179]),
 (un (.asg 189 (.t 188)),[152,161,170,179]),
 (⟨some (189,false),.mov 190 (.t 15)⟩,[152,161,170,179,188]),
 (⟨some (189,false),.iad 191 1 (.t 190) (.c (.int .i64 5))⟩,[152,161,170,179,188]),
 (⟨some (189,false),.ld 192 1 false (.t 191)⟩,[152,161,170,179,188]),
 (⟨some (189,false),.mov 193 (.t 4)⟩,[190,191,192,152,161,170,179,188]),
 (⟨some (189,false),.iad 194 1 (.t 193) (.c (.int .i64 5))⟩,[190,191,192,152,161,170,179,188]),
 (⟨some (189,false),.ld 195 1 false (.t 194)⟩,[190,191,192,152,161,170,179,188])]
 [⟨some (189,false),.binb 196 .neq (.t 192) (.t 195)⟩,
 un (.pick 197 (.t 189) (.c (.bool true)) (.t 196))])
 (.drop [146,147,148,149,150,151,152,153,154,155,156,157,158,159,160,161,162,163,164,165,166,167,168,169,170,171,172,173,174,175,176,177,178,179,180,181,182,183,184,185,186,187,188,189,190,191,192,193,194,195,196] (.cond (.t 197) (.seq (.reg [un (.asg 2 (.c (.bool false)))])
 .ret)
 .skip)))
def I6:ACode:=
 (.seq (.seq (.reg [un (.mov 200 (.t 23)),
 un (.fadr 201 2 (.t 3)),
 un (.ld 202 1 false (.t 201)),
 un (.len 203 (.t 202)),
 un (.bin 204 .lss (.t 200) (.t 203))])
 (.drop [200,201,202,203] (.cond (.t 204) .skip
 (.exit 2))))
 (.drop [200,201,202,203,204] (.seq (.block 3 (.seq (.dreg [(un (.ld 208 2 true (.t 21)),[]),
 (un (.fadr 209 2 (.t 3)),[208]),
 (un (.ld 210 1 false (.t 209)),[208]),
 (un (.mov 211 (.t 23)),[208,209,210]),
 (un (.iad 212 3 (.t 210) (.t 211)),[208]),
 (un (.fadr 213 1 (.t 212)),[208]),
 (un (.ld 214 2 true (.t 213)),[208]),
 (un (.call 215 Om [((.c (.int .i64 2)),false),((.t 208),false),((.t 214),false)]),[]),
 (un (.asg 207 (.t 215)),[]),
 (un (.ext 216 (.t 207) 0),[215]),
 (un (.ext 217 (.t 207) 1),[216,215,216])]
 [un (.asg 24 (.t 216)),
 un (.asg 25 (.t 217))])
 (.drop [208,209,210,211,212,213,214,215,207,216,217] (.reg [un (.mov 218 (.t 22)),
 un (.asg 219 (.t 218)),
 ⟨some (219,true),.mov 220 (.t 25)⟩,
 un (.pick 221 (.t 219) (.t 220) (.c (.bool false))),
 un (.asg 222 (.t 221)),
 ⟨some (222,true),.mov 223 (.t 24)⟩,
 un (.pick 224 (.t 222) (.t 223) (.c (.bool false))),
 un (.asg 22 (.t 224))]))))
 (.drop [208,209,210,211,212,213,214,215,207,216,217,24,25,218,219,220,221,222,223,224] (.reg [un (.mov 205 (.t 23)),
 un (.bin 206 .add (.t 205) (.c (.int .i64 1))),
 un (.asg 23 (.t 206))])))))
def Tz:ACode:=
 (.seq (.reg [un (.asg 2 (.c (.bool false)))])
 (.seq (.seq (.reg [un (.mov 26 (.t 0)),
 un (.call 27 X1 [((.t 26),false)])])
 (.drop [26] (.cond (.t 27) (.seq (.reg [un (.asg 2 (.c (.bool true)))])
 .ret)
 .skip)))
 (.drop [26,27] (.seq (.reg [un (.mov 28 (.t 0)),
 un (.call 29 Fv [((.t 28),false)]),
 un (.alc 3 (.agg [.int .i64 0,.int .i64 0,.nilsl 3])),
 un (.st 3 (.t 3) (.t 29))])
 (.drop [28,29] (.seq (.reg [un (.ld 31 3 true (.t 3)),
 un (.call 32 D6 [((.t 31),false)]),
 un (.asg 30 (.t 32)),
 un (.ext 33 (.t 30) 0),
 un (.ext 34 (.t 30) 1),
 un (.asg 4 (.t 33)),
 un (.asg 5 (.t 34))])
 (.drop [31,32,30,33,34] (.seq (.cut P9)
 (.drop [36,37,35,38,39,6,7,40,41,42,43,44,45,46,47,48] (.seq (.reg [un (.ld 50 3 true (.t 3)),
 un (.call 51 Lm [((.t 50),false)]),
 un (.asg 49 (.t 51)),
 un (.ext 52 (.t 49) 0),
 un (.ext 53 (.t 49) 1),
 un (.asg 8 (.t 52)),
 un (.asg 9 (.t 53))])
 (.drop [50,51,49,52,53] (.seq (.cut Qr)
 (.drop [55,56,54,57,58,10,11,59,60,61,62,63,64,65,66,67,68,69,70,71] (.seq (.seq (.reg [un (.mov 72 (.t 5)),
 un (.un 73 .not (.t 72))])
 (.drop [72] (.cond (.t 73) (.seq (.reg [un (.asg 2 (.c (.bool true)))])
 .ret)
 .skip)))
 (.drop [72,73] (.seq (.seq (.reg [un (.asg 12 (.c (.int .i64 0)))])
 (.block 0 (.loop Il)))
 (.drop [12,74,75,76,77,80,81,82,83,84,85,86,87,88,89,90,91,92,93,94,95,96,97,98,99,100,78,79] (.seq (.reg [un (.ld 102 3 true (.t 3)),
 un (.call 103 Hg [((.t 102),false)]),
 un (.asg 101 (.t 103)),
 un (.ext 104 (.t 101) 0),
 un (.ext 105 (.t 101) 1),
 un (.alc 13 (.agg [.int .i64 0,.int .i64 0,.nilsl 3])),
 un (.st 3 (.t 13) (.t 104)),
 un (.asg 14 (.t 105))])
 (.drop [102,103,101,104,105] (.seq (.reg [un (.ld 107 3 true (.t 13)),
 un (.call 108 D6 [((.t 107),false)]),
 un (.asg 106 (.t 108)),
 un (.ext 109 (.t 106) 0),
 un (.ext 110 (.t 106) 1),
 un (.asg 15 (.t 109)),
 un (.asg 16 (.t 110))])
 (.drop [107,108,106,109,110] (.seq (.reg [un (.ld 112 3 true (.t 13)),
 un (.call 113 Hg [((.t 112),false)]),
 un (.asg 111 (.t 113)),
 un (.ext 114 (.t 111) 0),
 un (.ext 115 (.t 111) 1),
 un (.alc 17 (.agg [.int .i64 0,.int .i64 0,.nilsl 3])),
 un (.st 3 (.t 17) (.t 114)),
 un (.asg 18 (.t 115))])
 (.drop [112,113,111,114,115] (.seq (.reg [un (.ld 117 3 true (.t 17)),
 un (.call 118 D6 [((.t 117),false)]),
 un (.asg 116 (.t 118)),
 un (.ext 119 (.t 116) 0),
 un (.ext 120 (.t 116) 1),
 un (.asg 19 (.t 119)),
 un (.asg 20 (.t 120))])
 (.drop [117,118,116,119,120] (.seq (.cut Qq)
 (.drop [121,122,123,124,125,126,127,128,129,130,131,132,133,134,135,136,137,138,139,140,141,142,143,144,145] (.seq (.cut Qs)
 (.drop [146,147,148,149,150,151,152,153,154,155,156,157,158,159,160,161,162,163,164,165,166,167,168,169,170,171,172,173,174,175,176,177,178,179,180,181,182,183,184,185,186,187,188,189,190,191,192,193,194,195,196,197] (.seq (.reg [un (.bslr 198 1 [(.c (.int .i64 0)),(.c (.int .i64 0)),(.c (.int .i64 0)),(.c (.int .i64 1))]),
 un (.bld 199 [.int .i64 0,.nilsl 1] [(0,1,(.c (.int .i64 2))),(1,1,(.t 198))]),
 un (.alc 21 (.agg [.int .i64 0,.nilsl 1])),
 un (.st 2 (.t 21) (.t 199))])
 (.drop [198,199] (.seq (.reg [un (.asg 22 (.c (.bool true)))])
 (.seq (.seq (.reg [un (.asg 23 (.c (.int .i64 0)))])
 (.block 2 (.loop I6)))
 (.drop [23,200,201,202,203,204,208,209,210,211,212,213,214,215,207,216,217,24,25,218,219,220,221,222,223,224,205,206] (.seq (.reg [un (.mov 225 (.t 22)),
 un (.mov 226 (.t 4)),
 un (.iad 227 1 (.t 226) (.c (.int .i64 2))),
 un (.ld 228 1 false (.t 227)),
 un (.binb 229 .eql (.t 225) (.t 228)),
 un (.asg 2 (.t 229))])
 (.drop [225,226,227,228,229] .ret))))))))))))))))))))))))))))))))))))
abbrev Ue:List RS:=[.t 2]
theorem Tu:A4 Tryz.prog La 230 Tz Ue=true:=by kernel_rfl
end Go.Proofs.YtjcekpmojnnmbaaGreat.Ax
