/-
  The small code of the functions, written by program; that the program's code is this one, the kernel looks at.
-/
import Derived.Test.YtbnoclklhcbidaaDoorAx3
import Derived.Test.YtbnoclklhcbidaaDoorProg
import Derived.KernelRfl
import Derived.Test.YtbnoclklhcbidaaDoorNum
namespace Go.Proofs.YtbnoclklhcbidaaDoor.Ax
open Go
set_option maxRecDepth 100000
def Ab7:ACode:=
 (.seq (.reg [un (.box 2 (.t 0)),
 ⟨none,.asg 4 (.c (.str ⟨#[]⟩))⟩,
 un (.asg 5 (.c (.bool false)))])
 (.seq (.seq (.reg [un (.ld 6 2 true (.t 2)),
 un (.mov 7 (.t 1)),
 un (.call 8 Fu [((.t 6),false),((.t 7),false)]),
 un (.un 9 .not (.t 8))])
 (.drop [6,7,8] (.cond (.t 9) (.seq (.reg [⟨none,.asg 4 (.c (.str ⟨#[]⟩))⟩,
 un (.asg 5 (.c (.bool false)))])
 .ret)
 .skip)))
 (.drop [6,7,8,9] (.seq (.reg [un (.ld 10 2 true (.t 2)),
 un (.mov 11 (.t 1)),
 un (.call 12 Iz [((.t 10),false),((.t 11),false)]),
 un (.asg 4 (.t 12)),
 un (.asg 5 (.c (.bool true)))])
 (.drop [10,11,12] .ret)))))
abbrev Abh:List RS:=[.t 4,.t 5]
theorem Abg:Bh Tryd.prog I2 13 Ab7 Abh=true:=by kernel_rfl
def Abx:ACode:=
 (.seq (.reg [un (.box 2 (.t 0)),
 ⟨none,.asg 4 (.c (.str ⟨#[]⟩))⟩,
 un (.asg 5 (.c (.bool false)))])
 (.seq (.seq (.reg [un (.ld 6 2 true (.t 2)),
 un (.mov 7 (.t 1)),
 un (.call 8 Dk [((.t 6),false),((.t 7),false)]),
 un (.un 9 .not (.t 8))])
 (.drop [6,7,8] (.cond (.t 9) (.seq (.reg [⟨none,.asg 4 (.c (.str ⟨#[]⟩))⟩,
 un (.asg 5 (.c (.bool false)))])
 .ret)
 .skip)))
 (.drop [6,7,8,9] (.seq (.reg [un (.ld 10 2 true (.t 2)),
 un (.mov 11 (.t 1)),
 un (.call 12 De [((.t 10),false),((.t 11),false)]),
 un (.asg 4 (.t 12)),
 un (.asg 5 (.c (.bool true)))])
 (.drop [10,11,12] .ret)))))
abbrev Abd:List RS:=[.t 4,.t 5]
theorem Aca:Bh Tryd.prog L5 13 Abx Abd=true:=by kernel_rfl
def Ll:ACode:=
 (.seq (.reg [un (.bin 22 .lss (.t 21) (.t 20))])
 (.seq (.cond (.t 22) .skip
 (.exit 0))
 (.seq (.block 1 (.seq (.reg [un (.iad 23 1 (.t 19) (.t 21)),
 un (.ld 24 1 false (.t 23)),
 un (.asg 9 (.t 24))])
 (.drop [23,24] (.seq (.seq (.reg [un (.mov 25 (.t 9)),
 un (.bin 26 .lss (.t 25) (.c (.int .i64 0)))])
 (.drop [25] (.cond (.t 26) (.seq (.reg [un (.mov 27 (.t 7)),
 un (.mov 28 (.t 9)),
 un (.bsl 29 1 [(.t 28)]),
 un (.app 30 1 (.t 27) (.t 29)),
 un (.asg 7 (.t 30))])
 (.drop [27,28,29,30] (.exit 1)))
 .skip)))
 (.drop [25,26,27,28,29,30] (.seq (.seq (.reg [un (.mov 32 (.t 6)),
 un (.mov 33 (.t 9)),
 un (.mlk 34 (.t 32) (.t 33) (.int .i64 0) true true),
 un (.asg 31 (.t 34)),
 un (.ext 35 (.t 31) 0),
 un (.ext 36 (.t 31) 1),
 un (.asg 10 (.t 35)),
 un (.asg 11 (.t 36))])
 (.drop [32,33,34,31,35,36,10] (.seq (.reg [un (.mov 37 (.t 11)),
 un (.un 38 .not (.t 37))])
 (.drop [37] (.cond (.t 38) (.reg [un (.mov 39 (.t 6)),
 un (.mov 40 (.t 9)),
 un (.mov 41 (.t 6)),
 un (.mln 42 (.t 41)),
 un (.mup (.t 39) (.t 40) (.t 42) true)])
 .skip)))))
 (.drop [32,33,34,31,35,36,10,11,37,38,39,40,41,42] (.reg [un (.mov 43 (.t 7)),
 un (.mov 44 (.t 6)),
 un (.mov 45 (.t 9)),
 un (.mlk 46 (.t 44) (.t 45) (.int .i64 0) false true),
 un (.bsl 47 1 [(.t 46)]),
 un (.app 48 1 (.t 43) (.t 47)),
 un (.asg 7 (.t 48))]))))))))
 (.drop [23,24,9,25,26,27,28,29,30,32,33,34,31,35,36,10,11,37,38,39,40,41,42,43,44,45,46,47,48] (.reg [un (.bin 49 .add (.t 21) (.c (.int .i64 1))),
 un (.asg 21 (.t 49))])))))
def Xm:ACode:=
 (.seq (.reg [un (.box 2 (.t 0)),
 un (.asg 4 (.c (.nilsl 1))),
 un (.asg 5 (.c (.bool false)))])
 (.seq (.seq (.reg [un (.ld 12 2 true (.t 2)),
 un (.mov 13 (.t 1)),
 un (.call 14 Fu [((.t 12),false),((.t 13),false)]),
 un (.un 15 .not (.t 14))])
 (.drop [12,13,14] (.cond (.t 15) (.seq (.reg [un (.bsl 16 1 []),
 un (.asg 4 (.t 16)),
 un (.asg 5 (.c (.bool false)))])
 (.drop [16] .ret))
 .skip)))
 (.drop [12,13,14,15,16] (.seq (.reg [un (.mkm 17 true),
 un (.asg 6 (.t 17))])
 (.drop [17] (.seq (.reg [un (.bsl 18 1 []),
 un (.asg 7 (.t 18))])
 (.drop [18] (.seq (.seq (.reg [un (.mov 19 (.t 1)),
 un (.len 20 (.t 19)),
 un (.mov 21 (.c (.int .i64 0)))])
 (.block 0 (.loop Ll)))
 (.drop [19,20,21,22,23,24,9,25,26,27,28,29,30,32,33,34,31,35,36,10,11,37,38,39,40,41,42,43,44,45,46,47,48,49] (.seq (.reg [un (.mov 50 (.t 7)),
 un (.asg 4 (.t 50)),
 un (.asg 5 (.c (.bool true)))])
 (.drop [50] .ret)))))))))))
abbrev Xd:List RS:=[.t 4,.t 5]
theorem Xs:Bh Tryd.prog Hc 51 Xm Xd=true:=by kernel_rfl
def Lr:ACode:=
 (.seq (.seq (.dreg [(un (.mov 35 (.t 9)),[]),
 (un (.mov 36 (.t 6)),[35]),
 (un (.len 37 (.t 36)),[35]),
 (un (.bin 38 .lss (.t 35) (.t 37)),[]),
 (un (.asg 39 (.t 38)),[]),
 (⟨some (39,true),.mov 40 (.t 6)⟩,[38]),
 (⟨some (39,true),.mov 41 (.t 9)⟩,[40,38]),
 (⟨some (39,true),.iad 42 1 (.t 40) (.t 41)⟩,[38]),
 (⟨some (39,true),.ld 43 1 false (.t 42)⟩,[38]),
 (⟨some (39,true),.mov 44 (.t 1)⟩,[40,41,42,43,38]),
 (⟨some (39,true),.mov 45 (.t 8)⟩,[40,41,42,43,44,38]),
 (⟨some (39,true),.iad 46 1 (.t 44) (.t 45)⟩,[40,41,42,43,38]),
 (⟨some (39,true),.ld 47 1 false (.t 46)⟩,[40,41,42,43,38])]
 [⟨some (39,true),.bin 48 .neq (.t 43) (.t 47)⟩,
 un (.pick 49 (.t 39) (.t 48) (.c (.bool false)))])
 (.drop [35,36,37,38,39,40,41,42,43,44,45,46,47,48] (.cond (.t 49) .skip
 (.exit 2))))
 (.drop [35,36,37,38,39,40,41,42,43,44,45,46,47,48,49] (.block 3 (.reg [un (.mov 50 (.t 9)),
 un (.bin 51 .add (.t 50) (.c (.int .i64 1))),
 un (.asg 9 (.t 51))]))))
def Lk:ACode:=
 (.seq (.seq (.reg [un (.mov 17 (.t 8)),
 un (.mov 18 (.t 1)),
 un (.len 19 (.t 18)),
 un (.bin 20 .lss (.t 17) (.t 19))])
 (.drop [17,18,19] (.cond (.t 20) .skip
 (.exit 0))))
 (.drop [17,18,19,20] (.seq (.block 1 (.seq (.seq (.reg [un (.mov 23 (.t 1)),
 un (.mov 24 (.t 8)),
 un (.iad 25 1 (.t 23) (.t 24)),
 un (.ld 26 1 false (.t 25)),
 un (.bin 27 .lss (.t 26) (.c (.int .i64 0)))])
 (.drop [23,24,25,26] (.cond (.t 27) (.seq (.reg [un (.mov 28 (.t 7)),
 un (.mov 29 (.t 1)),
 un (.mov 30 (.t 8)),
 un (.iad 31 1 (.t 29) (.t 30)),
 un (.ld 32 1 false (.t 31)),
 un (.bsl 33 1 [(.t 32)]),
 un (.app 34 1 (.t 28) (.t 33)),
 un (.asg 7 (.t 34))])
 (.drop [28,29,30,31,32,33,34] (.exit 1)))
 .skip)))
 (.drop [23,24,25,26,27,28,29,30,31,32,33,34] (.seq (.reg [un (.asg 9 (.c (.int .i64 0)))])
 (.seq (.block 2 (.loop Lr))
 (.drop [35,36,37,38,39,40,41,42,43,44,45,46,47,48,49,50,51] (.seq (.seq (.reg [un (.mov 52 (.t 9)),
 un (.mov 53 (.t 6)),
 un (.len 54 (.t 53)),
 un (.bin 55 .eql (.t 52) (.t 54))])
 (.drop [52,53,54] (.cond (.t 55) (.reg [un (.mov 56 (.t 6)),
 un (.mov 57 (.t 1)),
 un (.mov 58 (.t 8)),
 un (.iad 59 1 (.t 57) (.t 58)),
 un (.ld 60 1 false (.t 59)),
 un (.bsl 61 1 [(.t 60)]),
 un (.app 62 1 (.t 56) (.t 61)),
 un (.asg 6 (.t 62))])
 .skip)))
 (.drop [52,53,54,55,56,57,58,59,60,61,62] (.reg [un (.mov 63 (.t 7)),
 un (.mov 64 (.t 9)),
 un (.bsl 65 1 [(.t 64)]),
 un (.app 66 1 (.t 63) (.t 65)),
 un (.asg 7 (.t 66))])))))))))
 (.drop [23,24,25,26,27,28,29,30,31,32,33,34,9,35,36,37,38,39,40,41,42,43,44,45,46,47,48,49,50,51,52,53,54,55,56,57,58,59,60,61,62,63,64,65,66] (.reg [un (.mov 21 (.t 8)),
 un (.bin 22 .add (.t 21) (.c (.int .i64 1))),
 un (.asg 8 (.t 22))])))))
def Xk:ACode:=
 (.seq (.reg [un (.box 2 (.t 0)),
 un (.asg 4 (.c (.nilsl 1))),
 un (.asg 5 (.c (.bool false)))])
 (.seq (.seq (.reg [un (.ld 10 2 true (.t 2)),
 un (.mov 11 (.t 1)),
 un (.call 12 Dk [((.t 10),false),((.t 11),false)]),
 un (.un 13 .not (.t 12))])
 (.drop [10,11,12] (.cond (.t 13) (.seq (.reg [un (.bsl 14 1 []),
 un (.asg 4 (.t 14)),
 un (.asg 5 (.c (.bool false)))])
 (.drop [14] .ret))
 .skip)))
 (.drop [10,11,12,13,14] (.seq (.reg [un (.bsl 15 1 []),
 un (.bsl 16 1 []),
 un (.asg 6 (.t 15)),
 un (.asg 7 (.t 16))])
 (.drop [15,16] (.seq (.seq (.reg [un (.asg 8 (.c (.int .i64 0)))])
 (.block 0 (.loop Lk)))
 (.drop [8,17,18,19,20,23,24,25,26,27,28,29,30,31,32,33,34,9,35,36,37,38,39,40,41,42,43,44,45,46,47,48,49,50,51,52,53,54,55,56,57,58,59,60,61,62,63,64,65,66,21,22] (.seq (.reg [un (.mov 67 (.t 7)),
 un (.asg 4 (.t 67)),
 un (.asg 5 (.c (.bool true)))])
 (.drop [67] .ret)))))))))
abbrev Xi:List RS:=[.t 4,.t 5]
theorem Yh:Bh Tryd.prog Jp 68 Xk Xi=true:=by kernel_rfl
def Aad:ACode:=
 (.seq (.reg [un (.box 2 (.t 0)),
 un (.asg 4 (.c (.nilsl 1))),
 un (.asg 5 (.c (.bool false)))])
 (.seq (.reg [un (.mov 7 (.t 1)),
 un (.call 8 N6 [((.t 7),false)]),
 un (.asg 6 (.t 8))])
 (.drop [7,8] (.seq (.seq (.reg [un (.ld 9 2 true (.t 2)),
 un (.mov 10 (.t 6)),
 un (.call 11 Dk [((.t 9),false),((.t 10),false)]),
 un (.un 12 .not (.t 11)),
 un (.asg 13 (.t 12)),
 ⟨some (13,false),.ld 14 2 true (.t 2)⟩,
 ⟨some (13,false),.mov 15 (.t 6)⟩,
 ⟨some (13,false),.call 16 De [((.t 14),false),((.t 15),false)]⟩,
 ⟨some (13,false),.mov 17 (.t 1)⟩,
 ⟨some (13,false),.bin 18 .neq (.t 16) (.t 17)⟩,
 un (.pick 19 (.t 13) (.c (.bool true)) (.t 18))])
 (.drop [9,10,11,12,13,14,15,16,17,18] (.cond (.t 19) (.seq (.reg [un (.bsl 20 1 []),
 un (.asg 4 (.t 20)),
 un (.asg 5 (.c (.bool false)))])
 (.drop [20] .ret))
 .skip)))
 (.drop [9,10,11,12,13,14,15,16,17,18,19,20] (.seq (.reg [un (.mov 21 (.t 6)),
 un (.asg 4 (.t 21)),
 un (.asg 5 (.c (.bool true)))])
 (.drop [21] .ret)))))))
abbrev Aaa:List RS:=[.t 4,.t 5]
theorem Zq:Bh Tryd.prog Kr 22 Aad Aaa=true:=by kernel_rfl
def U8:ACode:=
 (.seq (.reg [un (.ld 11 2 true (.t 3)),
 un (.mov 12 (.t 1)),
 un (.call 13 Fu [((.t 11),false),((.t 12),false)]),
 un (.un 14 .not (.t 13)),
 un (.asg 15 (.t 14)),
 ⟨some (15,false),.ld 16 2 true (.t 3)⟩,
 ⟨some (15,false),.mov 17 (.t 2)⟩,
 ⟨some (15,false),.call 18 Ft [((.t 16),false),((.t 17),false)]⟩,
 ⟨some (15,false),.un 19 .not (.t 18)⟩,
 un (.pick 20 (.t 15) (.c (.bool true)) (.t 19))])
 (.drop [11,12,13,14,15,16,17,18,19] (.cond (.t 20) (.seq (.reg [un (.bsl 21 1 []),
 un (.asg 6 (.t 21)),
 un (.asg 7 (.c (.bool false)))])
 (.drop [21] .ret))
 .skip)))
def Mk:ACode:=
 (.seq (.reg [un (.bin 35 .lss (.t 34) (.t 33))])
 (.seq (.cond (.t 35) .skip
 (.exit 0))
 (.seq (.block 1 (.seq (.reg [un (.mov 36 (.t 34)),
 un (.asg 10 (.t 36))])
 (.drop [36] (.seq (.reg [un (.mov 37 (.t 8)),
 un (.mov 38 (.t 10)),
 un (.iad 39 1 (.t 37) (.t 38)),
 un (.ld 40 1 false (.t 39)),
 un (.nilq 41 false (.t 40))])
 (.drop [37,38,39,40] (.cond (.t 41) (.reg [un (.mov 42 (.t 8)),
 un (.mov 43 (.t 10)),
 un (.bsl 44 1 []),
 un (.iad 45 1 (.t 42) (.t 43)),
 un (.st 1 (.t 45) (.t 44))])
 .skip))))))
 (.drop [36,10,37,38,39,40,41,42,43,44,45] (.reg [un (.bin 46 .add (.t 34) (.c (.int .i64 1))),
 un (.asg 34 (.t 46))])))))
def Zs:ACode:=
 (.seq (.reg [un (.box 3 (.t 0)),
 un (.asg 6 (.c (.nilsl 1))),
 un (.asg 7 (.c (.bool false)))])
 (.seq (.cut U8)
 (.drop [11,12,13,14,15,16,17,18,19,20,21] (.seq (.reg [un (.ld 23 2 true (.t 3)),
 un (.mov 24 (.t 1)),
 un (.mov 25 (.t 2)),
 un (.call 26 Ku [((.t 23),false),((.t 24),false),((.t 25),false)]),
 un (.asg 22 (.t 26)),
 un (.ext 27 (.t 22) 0),
 un (.ext 28 (.t 22) 1),
 un (.asg 8 (.t 27)),
 un (.asg 9 (.t 28))])
 (.drop [23,24,25,26,22,27,28] (.seq (.seq (.reg [un (.mov 29 (.t 9)),
 un (.un 30 .not (.t 29))])
 (.drop [29] (.cond (.t 30) (.seq (.reg [un (.bsl 31 1 []),
 un (.asg 6 (.t 31)),
 un (.asg 7 (.c (.bool false)))])
 (.drop [31] .ret))
 .skip)))
 (.drop [29,30,31] (.seq (.seq (.reg [un (.mov 32 (.t 8)),
 un (.len 33 (.t 32)),
 un (.mov 34 (.c (.int .i64 0)))])
 (.drop [32] (.block 0 (.loop Mk))))
 (.drop [32,33,34,35,36,10,37,38,39,40,41,42,43,44,45,46] (.seq (.reg [un (.mov 47 (.t 8)),
 un (.asg 6 (.t 47)),
 un (.asg 7 (.c (.bool true)))])
 (.drop [47] .ret)))))))))))
abbrev Z6:List RS:=[.t 6,.t 7]
theorem Zc:Bh Tryd.prog Kt 48 Zs Z6=true:=by kernel_rfl
def Vy:ACode:=
 (.seq (.reg [un (.ld 10 2 true (.t 3)),
 un (.mov 11 (.t 1)),
 un (.call 12 Dk [((.t 10),false),((.t 11),false)]),
 un (.un 13 .not (.t 12)),
 un (.asg 14 (.t 13)),
 ⟨some (14,false),.ld 15 2 true (.t 3)⟩,
 ⟨some (14,false),.mov 16 (.t 2)⟩,
 ⟨some (14,false),.call 17 G3 [((.t 15),false),((.t 16),false)]⟩,
 ⟨some (14,false),.un 18 .not (.t 17)⟩,
 un (.pick 19 (.t 14) (.c (.bool true)) (.t 18))])
 (.drop [10,11,12,13,14,15,16,17,18] (.cond (.t 19) (.seq (.reg [un (.bsl 20 1 []),
 un (.asg 6 (.t 20)),
 un (.asg 7 (.c (.bool false)))])
 (.drop [20] .ret))
 .skip)))
def Aaq:ACode:=
 (.seq (.reg [un (.box 3 (.t 0)),
 un (.asg 6 (.c (.nilsl 1))),
 un (.asg 7 (.c (.bool false)))])
 (.seq (.cut Vy)
 (.drop [10,11,12,13,14,15,16,17,18,19,20] (.seq (.reg [un (.ld 22 2 true (.t 3)),
 un (.mov 23 (.t 1)),
 un (.mov 24 (.t 2)),
 un (.call 25 N0 [((.t 22),false),((.t 23),false),((.t 24),false)]),
 un (.asg 21 (.t 25)),
 un (.ext 26 (.t 21) 0),
 un (.ext 27 (.t 21) 1),
 un (.asg 8 (.t 26)),
 un (.asg 9 (.t 27))])
 (.drop [22,23,24,25,21,26,27] (.seq (.seq (.reg [un (.mov 28 (.t 9)),
 un (.un 29 .not (.t 28))])
 (.drop [28] (.cond (.t 29) (.seq (.reg [un (.bsl 30 1 []),
 un (.asg 6 (.t 30)),
 un (.asg 7 (.c (.bool false)))])
 (.drop [30] .ret))
 .skip)))
 (.drop [28,29,30] (.seq (.reg [un (.mov 31 (.t 8)),
 un (.asg 6 (.t 31)),
 un (.asg 7 (.c (.bool true)))])
 (.drop [31] .ret)))))))))
abbrev Y0:List RS:=[.t 6,.t 7]
theorem Za:Bh Tryd.prog Kz 32 Aaq Y0=true:=by kernel_rfl
def Vg:ACode:=
 (.seq (.reg [un (.box 3 (.t 0)),
 un (.asg 6 (.c (.nilsl 1))),
 un (.asg 7 (.c (.bool false)))])
 (.seq (.seq (.reg [un (.ld 8 2 true (.t 3)),
 un (.mov 9 (.t 1)),
 un (.call 10 Fu [((.t 8),false),((.t 9),false)]),
 un (.un 11 .not (.t 10)),
 un (.asg 12 (.t 11)),
 ⟨some (12,false),.mov 13 (.t 2)⟩,
 ⟨some (12,false),.len 14 (.t 13)⟩,
 ⟨some (12,false),.bin 15 .gtr (.t 14) (.c (.int .i64 6))⟩,
 un (.pick 16 (.t 12) (.c (.bool true)) (.t 15)),
 un (.asg 17 (.t 16)),
 ⟨some (17,false),.ld 18 2 true (.t 3)⟩,
 ⟨some (17,false),.mov 19 (.t 2)⟩,
 ⟨some (17,false),.call 20 Mf [((.t 18),false),((.t 19),false)]⟩,
 ⟨some (17,false),.un 21 .not (.t 20)⟩,
 un (.pick 22 (.t 17) (.c (.bool true)) (.t 21))])
 (.drop [8,9,10,11,12,13,14,15,16,17,18,19,20,21] (.cond (.t 22) (.seq (.reg [un (.bsl 23 1 []),
 un (.asg 6 (.t 23)),
 un (.asg 7 (.c (.bool false)))])
 (.drop [23] .ret))
 .skip)))
 (.drop [8,9,10,11,12,13,14,15,16,17,18,19,20,21,22,23] (.seq (.reg [un (.mov 24 (.t 1)),
 un (.mov 25 (.t 2)),
 un (.call 26 Jo [((.t 24),false),((.t 25),false)]),
 un (.ext 27 (.t 26) 0),
 un (.ext 28 (.t 26) 1),
 un (.asg 6 (.t 27)),
 un (.asg 7 (.t 28))])
 (.drop [24,25,26,27,28] .ret)))))
abbrev Vk:List RS:=[.t 6,.t 7]
theorem Uz:Bh Tryd.prog Ie 29 Vg Vk=true:=by kernel_rfl
def Uq:ACode:=
 (.seq (.reg [un (.box 3 (.t 0)),
 un (.asg 6 (.c (.int .i64 0))),
 un (.asg 7 (.c (.bool false)))])
 (.seq (.seq (.reg [un (.ld 8 2 true (.t 3)),
 un (.mov 9 (.t 1)),
 un (.call 10 Fu [((.t 8),false),((.t 9),false)]),
 un (.un 11 .not (.t 10)),
 un (.asg 12 (.t 11)),
 ⟨some (12,false),.ld 13 2 true (.t 3)⟩,
 ⟨some (12,false),.mov 14 (.t 2)⟩,
 ⟨some (12,false),.call 15 Ft [((.t 13),false),((.t 14),false)]⟩,
 ⟨some (12,false),.un 16 .not (.t 15)⟩,
 un (.pick 17 (.t 12) (.c (.bool true)) (.t 16))])
 (.drop [8,9,10,11,12,13,14,15,16] (.cond (.t 17) (.seq (.reg [un (.asg 6 (.c (.int .i64 0))),
 un (.asg 7 (.c (.bool false)))])
 .ret)
 .skip)))
 (.drop [8,9,10,11,12,13,14,15,16,17] (.seq (.reg [un (.mov 18 (.t 1)),
 un (.mov 19 (.t 2)),
 un (.call 20 Ig [((.t 18),false),((.t 19),false)]),
 un (.asg 6 (.t 20)),
 un (.asg 7 (.c (.bool true)))])
 (.drop [18,19,20] .ret)))))
abbrev Vn:List RS:=[.t 6,.t 7]
theorem Ui:Bh Tryd.prog F2 21 Uq Vn=true:=by kernel_rfl
def Qz:ACode:=
 (.seq (.reg [un (.ld 8 2 true (.t 3)),
 un (.mov 9 (.t 1)),
 un (.call 10 Dk [((.t 8),false),((.t 9),false)]),
 un (.un 11 .not (.t 10)),
 un (.asg 12 (.t 11)),
 ⟨some (12,false),.ld 13 2 true (.t 3)⟩,
 ⟨some (12,false),.mov 14 (.t 2)⟩,
 ⟨some (12,false),.call 15 G3 [((.t 13),false),((.t 14),false)]⟩,
 ⟨some (12,false),.un 16 .not (.t 15)⟩,
 un (.pick 17 (.t 12) (.c (.bool true)) (.t 16))])
 (.drop [8,9,10,11,12,13,14,15,16] (.cond (.t 17) (.seq (.reg [un (.asg 6 (.c (.int .i64 0))),
 un (.asg 7 (.c (.bool false)))])
 .ret)
 .skip)))
def Vh:ACode:=
 (.seq (.reg [un (.box 3 (.t 0)),
 un (.asg 6 (.c (.int .i64 0))),
 un (.asg 7 (.c (.bool false)))])
 (.seq (.cut Qz)
 (.drop [8,9,10,11,12,13,14,15,16,17] (.seq (.block 0 (.seq (.reg [un (.mov 19 (.t 1)),
 un (.mov 20 (.t 2)),
 un (.call 21 I0 [((.t 19),false),((.t 20),false)]),
 un (.asg 18 (.t 21))])
 (.drop [19,20,21] (.cond (.t 18) (.seq (.reg [un (.asg 6 (.c (.int .i64 (-1)))),
 un (.asg 7 (.c (.bool true)))])
 .ret)
 (.seq (.reg [un (.mov 23 (.t 2)),
 un (.mov 24 (.t 1)),
 un (.call 25 I0 [((.t 23),false),((.t 24),false)]),
 un (.asg 22 (.t 25))])
 (.drop [23,24,25] (.cond (.t 22) (.seq (.reg [un (.asg 6 (.c (.int .i64 1))),
 un (.asg 7 (.c (.bool true)))])
 .ret)
 .skip)))))))
 (.drop [19,20,21,18,23,24,25,22] (.seq (.reg [un (.asg 6 (.c (.int .i64 0))),
 un (.asg 7 (.c (.bool true)))])
 .ret))))))
abbrev U3:List RS:=[.t 6,.t 7]
theorem Vi:Bh Tryd.prog Ih 26 Vh U3=true:=by kernel_rfl
def Tl:ACode:=
 (.dregl [(0,.mov 10 (.t 0)),
 (1,.ld 11 2 true (.t 3)),
 (2,.mov 12 (.t 0)),
 (5,.mov 15 (.t 0))]
 (.alt 3 (.call 13 Ao [((.t 12),true),((.c (.int .i64 3)),false)]) [0,1,2,5] [] (.alt 4 (.bin 14 .add (.c (.int .i64 1)) (.t 13)) [0,1,5] [] (.alt 6 (.bsl 16 1 [(.c (.int .i64 1)),(.c (.int .i64 2)),(.c (.int .i64 3)),(.c (.int .i64 3)),(.c (.int .i64 6))]) [0,1,5] [] (.alt 7 (.call 17 Ap [((.t 15),true),((.t 16),false)]) [0,1,5] [] (.alt 8 (.call 18 Bk [((.t 10),true),((.t 11),false),((.t 14),false),((.t 17),false)]) [0,1] [] (.alt 9 (.asg 5 (.t 18)) [] [] .nil .nil) .nil) .nil) .nil) (.alt 6 (.bsl 16 1 [(.c (.int .i64 1)),(.c (.int .i64 2)),(.c (.int .i64 3)),(.c (.int .i64 3)),(.c (.int .i64 6))]) [0,1,5] [] (.alt 4 (.bin 14 .add (.c (.int .i64 1)) (.t 13)) [0,1,5] [] (.alt 7 (.call 17 Ap [((.t 15),true),((.t 16),false)]) [0,1,5] [] (.alt 8 (.call 18 Bk [((.t 10),true),((.t 11),false),((.t 14),false),((.t 17),false)]) [0,1] [] (.alt 9 (.asg 5 (.t 18)) [] [] .nil .nil) .nil) .nil) (.alt 7 (.call 17 Ap [((.t 15),true),((.t 16),false)]) [0,1,5] [] (.alt 4 (.bin 14 .add (.c (.int .i64 1)) (.t 13)) [0,1] [] (.alt 8 (.call 18 Bk [((.t 10),true),((.t 11),false),((.t 14),false),((.t 17),false)]) [0,1] [] (.alt 9 (.asg 5 (.t 18)) [] [] .nil .nil) .nil) .nil) .nil)) .nil)) (.alt 6 (.bsl 16 1 [(.c (.int .i64 1)),(.c (.int .i64 2)),(.c (.int .i64 3)),(.c (.int .i64 3)),(.c (.int .i64 6))]) [0,1,2,5] [] (.alt 3 (.call 13 Ao [((.t 12),true),((.c (.int .i64 3)),false)]) [0,1,2,5] [] (.alt 4 (.bin 14 .add (.c (.int .i64 1)) (.t 13)) [0,1,5] [] (.alt 7 (.call 17 Ap [((.t 15),true),((.t 16),false)]) [0,1,5] [] (.alt 8 (.call 18 Bk [((.t 10),true),((.t 11),false),((.t 14),false),((.t 17),false)]) [0,1] [] (.alt 9 (.asg 5 (.t 18)) [] [] .nil .nil) .nil) .nil) (.alt 7 (.call 17 Ap [((.t 15),true),((.t 16),false)]) [0,1,5] [] (.alt 4 (.bin 14 .add (.c (.int .i64 1)) (.t 13)) [0,1] [] (.alt 8 (.call 18 Bk [((.t 10),true),((.t 11),false),((.t 14),false),((.t 17),false)]) [0,1] [] (.alt 9 (.asg 5 (.t 18)) [] [] .nil .nil) .nil) .nil) .nil)) .nil) .nil)))
def Xz:ACode:=
 (.seq (.reg [un (.box 3 (.t 1)),
 un (.asg 4 (.c (.nilsl 1)))])
 (.seq (.seq (.reg [un (.ld 6 2 true (.t 3)),
 un (.call 7 Lb [((.t 6),false)]),
 un (.un 8 .not (.t 7))])
 (.drop [6,7] (.cond (.t 8) (.seq (.reg [un (.bsl 9 1 [(.c (.int .i64 0))]),
 un (.asg 4 (.t 9))])
 (.drop [9] .ret))
 .skip)))
 (.drop [6,7,8,9] (.seq (.cut Tl)
 (.drop [10,11,12,13,14,15,16,17,18] (.seq (.seq (.reg [un (.mov 19 (.t 0)),
 un (.call 20 Ao [((.t 19),true),((.c (.int .i64 32)),false)])])
 (.drop [19] (.block 0 (.seq (.reg [un (.bin 22 .eql (.t 20) (.c (.int .i64 0))),
 un (.asg 21 (.t 22))])
 (.drop [22] (.cond (.t 21) (.reg [un (.mov 23 (.t 5)),
 un (.bsl 24 1 [(.c (.int .i64 0))]),
 un (.app 25 1 (.t 23) (.t 24)),
 un (.asg 5 (.t 25))])
 (.seq (.reg [un (.bin 27 .eql (.t 20) (.c (.int .i64 1))),
 un (.asg 26 (.t 27))])
 (.drop [27] (.cond (.t 26) (.dregl [(0,.mov 28 (.t 5)),
 (1,.mov 29 (.t 0)),
 (2,.mov 30 (.t 5)),
 (5,.mov 33 (.t 0)),
 (6,.fadr 34 1 (.t 3)),
 (7,.ld 35 1 false (.t 34))]
 (.alt 3 (.len 31 (.t 30)) [0,1,2,5,6,7] [] (.alt 4 (.call 32 Ao [((.t 29),true),((.t 31),false)]) [0,1,5,6,7] [] (.alt 8 (.len 36 (.t 35)) [0,5,6,7] [] (.alt 9 (.bin 37 .sub (.c (.int .i64 (-1))) (.t 36)) [0,5] [] (.alt 10 (.bsl 38 1 [(.t 37),(.c (.int .i64 6)),(.c (.int .i64 (-9223372036854775808))),(.c (.int .i64 9223372036854775807))]) [0,5] [] (.alt 11 (.call 39 Ap [((.t 33),true),((.t 38),false)]) [0,5] [] (.alt 12 (.iad 40 1 (.t 28) (.t 32)) [0] [] (.alt 13 (.st 1 (.t 40) (.t 39)) [] [] .nil .nil) .nil) .nil) .nil) .nil) .nil) (.alt 8 (.len 36 (.t 35)) [0,1,5,6,7] [] (.alt 4 (.call 32 Ao [((.t 29),true),((.t 31),false)]) [0,1,5] [] (.alt 9 (.bin 37 .sub (.c (.int .i64 (-1))) (.t 36)) [0,5] [] (.alt 10 (.bsl 38 1 [(.t 37),(.c (.int .i64 6)),(.c (.int .i64 (-9223372036854775808))),(.c (.int .i64 9223372036854775807))]) [0,5] [] (.alt 11 (.call 39 Ap [((.t 33),true),((.t 38),false)]) [0,5] [] (.alt 12 (.iad 40 1 (.t 28) (.t 32)) [0] [] (.alt 13 (.st 1 (.t 40) (.t 39)) [] [] .nil .nil) .nil) .nil) .nil) .nil) (.alt 9 (.bin 37 .sub (.c (.int .i64 (-1))) (.t 36)) [0,1,5] [] (.alt 4 (.call 32 Ao [((.t 29),true),((.t 31),false)]) [0,1,5] [] (.alt 10 (.bsl 38 1 [(.t 37),(.c (.int .i64 6)),(.c (.int .i64 (-9223372036854775808))),(.c (.int .i64 9223372036854775807))]) [0,5] [] (.alt 11 (.call 39 Ap [((.t 33),true),((.t 38),false)]) [0,5] [] (.alt 12 (.iad 40 1 (.t 28) (.t 32)) [0] [] (.alt 13 (.st 1 (.t 40) (.t 39)) [] [] .nil .nil) .nil) .nil) .nil) (.alt 10 (.bsl 38 1 [(.t 37),(.c (.int .i64 6)),(.c (.int .i64 (-9223372036854775808))),(.c (.int .i64 9223372036854775807))]) [0,1,5] [] (.alt 4 (.call 32 Ao [((.t 29),true),((.t 31),false)]) [0,1,5] [] (.alt 11 (.call 39 Ap [((.t 33),true),((.t 38),false)]) [0,5] [] (.alt 12 (.iad 40 1 (.t 28) (.t 32)) [0] [] (.alt 13 (.st 1 (.t 40) (.t 39)) [] [] .nil .nil) .nil) .nil) .nil) .nil)) .nil)) .nil)) (.alt 8 (.len 36 (.t 35)) [0,1,2,5,6,7] [] (.alt 3 (.len 31 (.t 30)) [0,1,2,5] [] (.alt 4 (.call 32 Ao [((.t 29),true),((.t 31),false)]) [0,1,5] [] (.alt 9 (.bin 37 .sub (.c (.int .i64 (-1))) (.t 36)) [0,5] [] (.alt 10 (.bsl 38 1 [(.t 37),(.c (.int .i64 6)),(.c (.int .i64 (-9223372036854775808))),(.c (.int .i64 9223372036854775807))]) [0,5] [] (.alt 11 (.call 39 Ap [((.t 33),true),((.t 38),false)]) [0,5] [] (.alt 12 (.iad 40 1 (.t 28) (.t 32)) [0] [] (.alt 13 (.st 1 (.t 40) (.t 39)) [] [] .nil .nil) .nil) .nil) .nil) .nil) (.alt 9 (.bin 37 .sub (.c (.int .i64 (-1))) (.t 36)) [0,1,5] [] (.alt 4 (.call 32 Ao [((.t 29),true),((.t 31),false)]) [0,1,5] [] (.alt 10 (.bsl 38 1 [(.t 37),(.c (.int .i64 6)),(.c (.int .i64 (-9223372036854775808))),(.c (.int .i64 9223372036854775807))]) [0,5] [] (.alt 11 (.call 39 Ap [((.t 33),true),((.t 38),false)]) [0,5] [] (.alt 12 (.iad 40 1 (.t 28) (.t 32)) [0] [] (.alt 13 (.st 1 (.t 40) (.t 39)) [] [] .nil .nil) .nil) .nil) .nil) (.alt 10 (.bsl 38 1 [(.t 37),(.c (.int .i64 6)),(.c (.int .i64 (-9223372036854775808))),(.c (.int .i64 9223372036854775807))]) [0,1,5] [] (.alt 4 (.call 32 Ao [((.t 29),true),((.t 31),false)]) [0,1,5] [] (.alt 11 (.call 39 Ap [((.t 33),true),((.t 38),false)]) [0,5] [] (.alt 12 (.iad 40 1 (.t 28) (.t 32)) [0] [] (.alt 13 (.st 1 (.t 40) (.t 39)) [] [] .nil .nil) .nil) .nil) .nil) .nil)) .nil)) (.alt 9 (.bin 37 .sub (.c (.int .i64 (-1))) (.t 36)) [0,1,2,5] [] (.alt 3 (.len 31 (.t 30)) [0,1,2,5] [] (.alt 4 (.call 32 Ao [((.t 29),true),((.t 31),false)]) [0,1,5] [] (.alt 10 (.bsl 38 1 [(.t 37),(.c (.int .i64 6)),(.c (.int .i64 (-9223372036854775808))),(.c (.int .i64 9223372036854775807))]) [0,5] [] (.alt 11 (.call 39 Ap [((.t 33),true),((.t 38),false)]) [0,5] [] (.alt 12 (.iad 40 1 (.t 28) (.t 32)) [0] [] (.alt 13 (.st 1 (.t 40) (.t 39)) [] [] .nil .nil) .nil) .nil) .nil) (.alt 10 (.bsl 38 1 [(.t 37),(.c (.int .i64 6)),(.c (.int .i64 (-9223372036854775808))),(.c (.int .i64 9223372036854775807))]) [0,1,5] [] (.alt 4 (.call 32 Ao [((.t 29),true),((.t 31),false)]) [0,1,5] [] (.alt 11 (.call 39 Ap [((.t 33),true),((.t 38),false)]) [0,5] [] (.alt 12 (.iad 40 1 (.t 28) (.t 32)) [0] [] (.alt 13 (.st 1 (.t 40) (.t 39)) [] [] .nil .nil) .nil) .nil) .nil) .nil)) (.alt 10 (.bsl 38 1 [(.t 37),(.c (.int .i64 6)),(.c (.int .i64 (-9223372036854775808))),(.c (.int .i64 9223372036854775807))]) [0,1,2,5] [] (.alt 3 (.len 31 (.t 30)) [0,1,2,5] [] (.alt 4 (.call 32 Ao [((.t 29),true),((.t 31),false)]) [0,1,5] [] (.alt 11 (.call 39 Ap [((.t 33),true),((.t 38),false)]) [0,5] [] (.alt 12 (.iad 40 1 (.t 28) (.t 32)) [0] [] (.alt 13 (.st 1 (.t 40) (.t 39)) [] [] .nil .nil) .nil) .nil) .nil) .nil) .nil)) .nil)) .nil)))
 (.seq (.reg [un (.bin 42 .eql (.t 20) (.c (.int .i64 2))),
 un (.asg 41 (.t 42))])
 (.drop [42] (.cond (.t 41) (.frz [5] (.reg [un (.mov 43 (.t 5)),
 un (.slc 44 1 (.t 43) (some (.c (.int .i64 1))) none),
 un (.asg 5 (.t 44))]))
 .skip))))))))))))
 (.drop [19,20,22,21,23,24,25,27,26,28,29,30,31,32,33,34,35,36,37,38,39,40,42,41,43,44] (.seq (.reg [un (.mov 45 (.t 5)),
 un (.asg 4 (.t 45))])
 (.drop [45] .ret)))))))))
abbrev X3:List RS:=[.t 4]
theorem X0:Bh Tryd.prog Cm 46 Xz X3=true:=by kernel_rfl
def U9:ACode:=
 (.seq (.reg [un (.box 3 (.t 0)),
 un (.asg 6 (.c (.nilsl 1))),
 un (.asg 7 (.c (.bool false)))])
 (.seq (.seq (.reg [un (.ld 8 2 true (.t 3)),
 un (.mov 9 (.t 1)),
 un (.call 10 Dk [((.t 8),false),((.t 9),false)]),
 un (.un 11 .not (.t 10)),
 un (.asg 12 (.t 11)),
 ⟨some (12,false),.mov 13 (.t 2)⟩,
 ⟨some (12,false),.len 14 (.t 13)⟩,
 ⟨some (12,false),.bin 15 .gtr (.t 14) (.c (.int .i64 6))⟩,
 un (.pick 16 (.t 12) (.c (.bool true)) (.t 15)),
 un (.asg 17 (.t 16)),
 ⟨some (17,false),.ld 18 2 true (.t 3)⟩,
 ⟨some (17,false),.mov 19 (.t 2)⟩,
 ⟨some (17,false),.call 20 Pf [((.t 18),false),((.t 19),false)]⟩,
 ⟨some (17,false),.un 21 .not (.t 20)⟩,
 un (.pick 22 (.t 17) (.c (.bool true)) (.t 21))])
 (.drop [8,9,10,11,12,13,14,15,16,17,18,19,20,21] (.cond (.t 22) (.seq (.reg [un (.bsl 23 1 []),
 un (.asg 6 (.t 23)),
 un (.asg 7 (.c (.bool false)))])
 (.drop [23] .ret))
 .skip)))
 (.drop [8,9,10,11,12,13,14,15,16,17,18,19,20,21,22,23] (.seq (.reg [un (.mov 24 (.t 1)),
 un (.mov 25 (.t 2)),
 un (.call 26 H9 [((.t 24),false),((.t 25),false)]),
 un (.ext 27 (.t 26) 0),
 un (.ext 28 (.t 26) 1),
 un (.asg 6 (.t 27)),
 un (.asg 7 (.t 28))])
 (.drop [24,25,26,27,28] .ret)))))
abbrev Uy:List RS:=[.t 6,.t 7]
theorem U6:Bh Tryd.prog Ii 29 U9 Uy=true:=by kernel_rfl
def P1:ACode:=
 (.seq (.frz [100005] (.reg [un (.mov 13 (.t 4)),
 un (.ld 14 2 true (.t 5)),
 un (.call 15 Cm [((.t 13),true),((.t 14),false)]),
 un (.asg 7 (.t 15))]))
 (.drop [13,14,15] (.seq (.reg [un (.ld 16 2 true (.t 5)),
 un (.mov 17 (.t 7)),
 un (.call 18 Dk [((.t 16),false),((.t 17),false)])])
 (.drop [16,17] (.cond (.t 18) (.reg [un (.ld 19 2 true (.t 5)),
 un (.mov 20 (.t 7)),
 un (.call 21 De [((.t 19),false),((.t 20),false)]),
 un (.asg 6 (.t 21))])
 .skip)))))
def S4:ACode:=
 (.seq (.reg [un (.alc 2 (.agg [.int .i64 0,.nilsl 2])),
 ⟨none,.asg 3 (.c (.str ⟨#[]⟩))⟩])
 (.seq (.reg [un (.mov 8 (.t 0)),
 un (.bld 9 [.nilsl 1,.int .i64 0,.int .u64 0] [(0,1,(.t 8))]),
 un (.box 10 (.t 9)),
 un (.asg 4 (.t 10))])
 (.drop [8,9,10] (.seq (.reg [un (.mov 11 (.t 4)),
 un (.call 12 C5 [((.t 11),true)]),
 un (.alc 5 (.agg [.int .i64 0,.nilsl 2])),
 un (.st 2 (.t 5) (.t 12))])
 (.drop [11,12] (.seq (.reg [⟨none,.asg 6 (.c (.str ⟨#[120,48]⟩))⟩])
 (.seq (.cut P1)
 (.drop [13,14,15,7,16,17,18,19,20,21] (.seq (.seq (.reg [un (.mov 22 (.t 4)),
 un (.call 23 Dy [((.t 22),true),((.c (.int .i64 4)),false)])])
 (.drop [22] (.cond (.t 23) (.reg [un (.mov 24 (.t 4)),
 un (.mov 25 (.t 6)),
 ⟨none,.call 26 H8 [((.t 24),true),((.t 25),false),((.c (.str ⟨#[120,102,48,49,50,57,40,44,41]⟩)),false)]⟩,
 un (.asg 6 (.t 26))])
 .skip)))
 (.drop [22,23,24,25,26] (.seq (.reg [un (.ld 27 2 true (.t 5)),
 un (.mov 28 (.t 6)),
 un (.st 2 (.t 2) (.t 27)),
 un (.asg 3 (.t 28))])
 (.drop [27,28] .ret))))))))))))
abbrev S5:List RS:=[.c 2 2 true,.t 3]
theorem Tm:Bh Tryd.prog Hr 29 S4 S5=true:=by kernel_rfl
def Pz:ACode:=
 (.seq (.reg [un (.alc 2 (.agg [.int .i64 0,.nilsl 2])),
 un (.asg 3 (.c (.nilsl 1))),
 un (.asg 4 (.c (.nilsl 1)))])
 (.seq (.reg [un (.mov 7 (.t 0)),
 un (.bld 8 [.nilsl 1,.int .i64 0,.int .u64 0] [(0,1,(.t 7))]),
 un (.box 9 (.t 8)),
 un (.asg 5 (.t 9))])
 (.drop [7,8,9] (.seq (.reg [un (.mov 10 (.t 5)),
 un (.call 11 C5 [((.t 10),true)]),
 un (.alc 6 (.agg [.int .i64 0,.nilsl 2])),
 un (.st 2 (.t 6) (.t 11))])
 (.drop [10,11] (.seq (.frz [100006] (.dregl [(0,.ld 12 2 true (.t 6)),
 (1,.mov 13 (.t 5)),
 (2,.ld 14 2 true (.t 6)),
 (4,.mov 16 (.t 5)),
 (5,.ld 17 2 true (.t 6))]
 (.alt 3 (.call 15 Cm [((.t 13),true),((.t 14),false)]) [0,1,2,4,5] [] (.alt 6 (.call 18 Cm [((.t 16),true),((.t 17),false)]) [0,4,5] [] (.alt 7 (.st 2 (.t 2) (.t 12)) [0] [] (.alt 8 (.asg 3 (.t 15)) [] [] (.alt 9 (.asg 4 (.t 18)) [] [] .nil .nil) .nil) .nil) .nil) .nil)))
 (.drop [12,13,14,15,16,17,18] .ret)))))))
abbrev Pq:List RS:=[.c 2 2 true,.t 3,.t 4]
theorem Qf:Bh Tryd.prog F9 19 Pz Pq=true:=by kernel_rfl
def Yf:ACode:=
 (.seq (.reg [un (.alc 2 (.agg [.int .i64 0,.nilsl 2])),
 un (.asg 3 (.c (.nilsl 1)))])
 (.seq (.reg [un (.mov 6 (.t 0)),
 un (.bld 7 [.nilsl 1,.int .i64 0,.int .u64 0] [(0,1,(.t 6))]),
 un (.box 8 (.t 7)),
 un (.asg 4 (.t 8))])
 (.drop [6,7,8] (.seq (.reg [un (.mov 9 (.t 4)),
 un (.call 10 C5 [((.t 9),true)]),
 un (.alc 5 (.agg [.int .i64 0,.nilsl 2])),
 un (.st 2 (.t 5) (.t 10))])
 (.drop [9,10] (.seq (.frz [100005] (.dregl [(0,.ld 11 2 true (.t 5)),
 (1,.mov 12 (.t 4)),
 (2,.ld 13 2 true (.t 5))]
 (.alt 3 (.call 14 Cm [((.t 12),true),((.t 13),false)]) [0,1,2] [] (.alt 4 (.st 2 (.t 2) (.t 11)) [0] [] (.alt 5 (.asg 3 (.t 14)) [] [] .nil .nil) .nil) .nil)))
 (.drop [11,12,13,14] .ret)))))))
abbrev Xg:List RS:=[.c 2 2 true,.t 3]
theorem Xe:Bh Tryd.prog Ke 15 Yf Xg=true:=by kernel_rfl
def Jt:ACode:=
 (.seq (.seq (.reg [un (.mov 11 (.t 6)),
 un (.bin 12 .gtr (.t 11) (.c (.int .i64 0)))])
 (.drop [11] (.cond (.t 12) .skip
 (.exit 0))))
 (.drop [11,12] (.seq (.block 1 (.reg [un (.mov 15 (.t 5)),
 un (.mov 16 (.t 0)),
 un (.ld 17 2 true (.t 3)),
 un (.call 18 Cm [((.t 16),true),((.t 17),false)]),
 un (.bsl 19 1 [(.t 18)]),
 un (.app 20 1 (.t 15) (.t 19)),
 un (.asg 5 (.t 20))]))
 (.drop [15,16,17,18,19,20] (.reg [un (.mov 13 (.t 6)),
 un (.bin 14 .sub (.t 13) (.c (.int .i64 1))),
 un (.asg 6 (.t 14))])))))
def Vv:ACode:=
 (.seq (.reg [un (.box 3 (.t 1)),
 un (.asg 4 (.c (.nilsl 1)))])
 (.seq (.reg [un (.bsl 7 1 []),
 un (.asg 5 (.t 7))])
 (.drop [7] (.seq (.seq (.reg [un (.mov 8 (.t 0)),
 un (.bsl 9 1 [(.c (.int .i64 3)),(.c (.int .i64 6)),(.c (.int .i64 6)),(.c (.int .i64 2)),(.c (.int .i64 1)),(.c (.int .i64 0)),(.c (.int .i64 7))]),
 un (.call 10 Ap [((.t 8),true),((.t 9),false)]),
 un (.asg 6 (.t 10))])
 (.drop [8,9,10] (.block 0 (.loop Jt))))
 (.drop [8,9,10,6,11,12,15,16,17,18,19,20,13,14] (.seq (.reg [un (.mov 21 (.t 5)),
 un (.asg 4 (.t 21))])
 (.drop [21] .ret)))))))
abbrev U4:List RS:=[.t 4]
theorem Ut:Bh Tryd.prog Ik 22 Vv U4=true:=by kernel_rfl
def Ud:ACode:=
 (.seq (.reg [un (.alc 2 (.agg [.int .i64 0,.nilsl 2])),
 un (.asg 3 (.c (.nilsl 1)))])
 (.seq (.reg [un (.mov 4 (.t 0)),
 un (.call 5 Ke [((.t 4),false)]),
 un (.ext 6 (.t 5) 0),
 un (.ext 7 (.t 5) 1),
 un (.st 2 (.t 2) (.t 6)),
 un (.asg 3 (.t 7))])
 (.drop [4,5,6,7] .ret)))
abbrev Vl:List RS:=[.c 2 2 true,.t 3]
theorem Vm:Bh Tryd.prog Ib 8 Ud Vl=true:=by kernel_rfl
def Qc:ACode:=
 (.seq (.dreg [(un (.ld 19 2 true (.t 6)),[5]),
 (un (.mov 20 (.t 7)),[5,19]),
 (un (.mov 21 (.t 5)),[19,20]),
 (un (.ld 22 2 true (.t 6)),[19,20,21]),
 (un (.call 23 Ik [((.t 21),true),((.t 22),false)]),[5,19,20]),
 (un (.call 24 Ii [((.t 19),false),((.t 20),false),((.t 23),false)]),[]),
 (un (.asg 18 (.t 24)),[]),
 (un (.ext 25 (.t 18) 0),[24]),
 (un (.ext 26 (.t 18) 1),[25,24,25])]
 [un (.asg 8 (.t 25)),
 un (.asg 9 (.t 26))])
 (.drop [19,20,21,22,23,24,18,25,26] (.seq (.reg [un (.mov 27 (.t 9)),
 un (.asg 28 (.t 27)),
 ⟨some (28,true),.mov 29 (.t 5)⟩,
 ⟨some (28,true),.call 30 Dy [((.t 29),true),((.c (.int .i64 3)),false)]⟩,
 ⟨some (28,true),.un 31 .not (.t 30)⟩,
 un (.pick 32 (.t 28) (.t 31) (.c (.bool false)))])
 (.drop [27,28,29,30,31] (.cond (.t 32) (.seq (.reg [un (.ld 33 2 true (.t 6)),
 un (.mov 34 (.t 7)),
 un (.mov 35 (.t 8)),
 un (.st 2 (.t 2) (.t 33)),
 un (.asg 3 (.t 34)),
 un (.asg 4 (.t 35))])
 (.drop [33,34,35] .ret))
 .skip)))))
def So:ACode:=
 (.seq (.reg [un (.alc 2 (.agg [.int .i64 0,.nilsl 2])),
 un (.asg 3 (.c (.nilsl 1))),
 un (.asg 4 (.c (.nilsl 1)))])
 (.seq (.reg [un (.mov 10 (.t 0)),
 un (.bld 11 [.nilsl 1,.int .i64 0,.int .u64 0] [(0,1,(.t 10))]),
 un (.box 12 (.t 11)),
 un (.asg 5 (.t 12))])
 (.drop [10,11,12] (.seq (.reg [un (.mov 13 (.t 5)),
 un (.call 14 C5 [((.t 13),true)]),
 un (.alc 6 (.agg [.int .i64 0,.nilsl 2])),
 un (.st 2 (.t 6) (.t 14))])
 (.drop [13,14] (.seq (.frz [100006] (.reg [un (.mov 15 (.t 5)),
 un (.ld 16 2 true (.t 6)),
 un (.call 17 Cm [((.t 15),true),((.t 16),false)]),
 un (.asg 7 (.t 17))]))
 (.drop [15,16,17] (.seq (.cut Qc)
 (.drop [19,20,21,22,23,24,18,25,26,8,9,27,28,29,30,31,32,33,34,35] (.seq (.dregl [(0,.ld 36 2 true (.t 6)),
 (1,.mov 37 (.t 7)),
 (2,.mov 38 (.t 5)),
 (3,.ld 39 2 true (.t 6))]
 (.alt 4 (.call 40 Cm [((.t 38),true),((.t 39),false)]) [0,1,2,3] [] (.alt 5 (.st 2 (.t 2) (.t 36)) [0,1] [] (.alt 6 (.asg 3 (.t 37)) [1] [] (.alt 7 (.asg 4 (.t 40)) [] [] .nil .nil) .nil) .nil) .nil))
 (.drop [36,37,38,39,40] .ret)))))))))))
abbrev Ta:List RS:=[.c 2 2 true,.t 3,.t 4]
theorem Ti:Bh Tryd.prog Hl 41 So Ta=true:=by kernel_rfl
def R2:ACode:=
 (.seq (.reg [un (.ld 59 2 true (.t 3)),
 un (.mov 60 (.t 4)),
 un (.call 61 L5 [((.t 59),false),((.t 60),false)]),
 un (.asg 58 (.t 61)),
 un (.ext 62 (.t 58) 0),
 un (.ext 63 (.t 58) 1),
 un (.asg 7 (.t 62)),
 un (.asg 8 (.t 63))])
 (.drop [59,60,61,58,62,63] (.seq (.reg [un (.mov 64 (.t 5)),
 un (.mov 65 (.t 7)),
 un (.bin 66 .neq (.t 64) (.t 65)),
 un (.asg 67 (.t 66)),
 ⟨some (67,false),.mov 68 (.t 6)⟩,
 ⟨some (67,false),.mov 69 (.t 8)⟩,
 ⟨some (67,false),.binb 70 .neq (.t 68) (.t 69)⟩,
 un (.pick 71 (.t 67) (.c (.bool true)) (.t 70))])
 (.drop [64,65,66,67,68,69,70] (.cond (.t 71) (.seq (.reg [un (.asg 2 (.c (.bool false)))])
 .ret)
 .skip)))))
def R4:ACode:=
 (.seq (.reg [un (.ld 79 2 true (.t 3)),
 un (.mov 80 (.t 4)),
 un (.call 81 Jp [((.t 79),false),((.t 80),false)]),
 un (.asg 78 (.t 81)),
 un (.ext 82 (.t 78) 0),
 un (.ext 83 (.t 78) 1),
 un (.asg 11 (.t 82)),
 un (.asg 12 (.t 83))])
 (.drop [79,80,81,78,82,83] (.seq (.reg [un (.mov 84 (.t 10)),
 un (.mov 85 (.t 12)),
 un (.binb 86 .neq (.t 84) (.t 85)),
 un (.asg 87 (.t 86)),
 ⟨some (87,false),.mov 88 (.t 10)⟩,
 ⟨some (87,false),.mov 89 (.t 6)⟩,
 ⟨some (87,false),.binb 90 .neq (.t 88) (.t 89)⟩,
 un (.pick 91 (.t 87) (.c (.bool true)) (.t 90)),
 un (.asg 92 (.t 91)),
 ⟨some (92,false),.mov 93 (.t 9)⟩,
 ⟨some (92,false),.mov 94 (.t 11)⟩,
 ⟨some (92,false),.call 95 Fr [((.t 93),false),((.t 94),false)]⟩,
 ⟨some (92,false),.un 96 .not (.t 95)⟩,
 un (.pick 97 (.t 92) (.c (.bool true)) (.t 96))])
 (.drop [84,85,86,87,88,89,90,91,92,93,94,95,96] (.cond (.t 97) (.seq (.reg [un (.asg 2 (.c (.bool false)))])
 .ret)
 .skip)))))
def Sa:ACode:=
 (.seq (.reg [un (.mov 98 (.t 6))])
 (.cond (.t 98) (.seq (.reg [un (.ld 100 2 true (.t 3)),
 un (.mov 101 (.t 5)),
 un (.call 102 Hx [((.t 100),false),((.t 101),false)]),
 un (.asg 99 (.t 102)),
 un (.ext 103 (.t 99) 0),
 un (.ext 104 (.t 99) 1),
 un (.asg 13 (.t 103)),
 un (.asg 14 (.t 104))])
 (.drop [100,101,102,99,103,104] (.seq (.reg [un (.ld 106 2 true (.t 3)),
 un (.mov 107 (.t 9)),
 un (.call 108 Hc [((.t 106),false),((.t 107),false)]),
 un (.asg 105 (.t 108)),
 un (.ext 109 (.t 105) 0),
 un (.ext 110 (.t 105) 1),
 un (.asg 15 (.t 109)),
 un (.asg 16 (.t 110))])
 (.drop [106,107,108,105,109,110] (.seq (.reg [un (.mov 111 (.t 14)),
 un (.un 112 .not (.t 111)),
 un (.asg 113 (.t 112)),
 ⟨some (113,false),.mov 114 (.t 13)⟩,
 ⟨some (113,false),.mov 115 (.t 4)⟩,
 ⟨some (113,false),.call 116 Fr [((.t 114),false),((.t 115),false)]⟩,
 ⟨some (113,false),.un 117 .not (.t 116)⟩,
 un (.pick 118 (.t 113) (.c (.bool true)) (.t 117)),
 un (.asg 119 (.t 118)),
 ⟨some (119,false),.mov 120 (.t 16)⟩,
 ⟨some (119,false),.un 121 .not (.t 120)⟩,
 un (.pick 122 (.t 119) (.c (.bool true)) (.t 121)),
 un (.asg 123 (.t 122)),
 ⟨some (123,false),.mov 124 (.t 15)⟩,
 ⟨some (123,false),.mov 125 (.t 9)⟩,
 ⟨some (123,false),.call 126 Fr [((.t 124),false),((.t 125),false)]⟩,
 ⟨some (123,false),.un 127 .not (.t 126)⟩,
 un (.pick 128 (.t 123) (.c (.bool true)) (.t 127))])
 (.drop [111,112,113,114,115,116,117,118,119,120,121,122,123,124,125,126,127] (.cond (.t 128) (.seq (.reg [un (.asg 2 (.c (.bool false)))])
 .ret)
 .skip)))))))
 .skip))
def R3:ACode:=
 (.seq (.reg [un (.ld 141 2 true (.t 17)),
 un (.mov 142 (.t 18)),
 un (.call 143 Kr [((.t 141),false),((.t 142),false)]),
 un (.asg 140 (.t 143)),
 un (.ext 144 (.t 140) 0),
 un (.ext 145 (.t 140) 1),
 un (.asg 21 (.t 144)),
 un (.asg 22 (.t 145))])
 (.drop [141,142,143,140,144,145] (.seq (.reg [un (.mov 146 (.t 20)),
 un (.mov 147 (.t 22)),
 un (.binb 148 .neq (.t 146) (.t 147)),
 un (.asg 149 (.t 148)),
 ⟨some (149,false),.mov 150 (.t 19)⟩,
 ⟨some (149,false),.mov 151 (.t 21)⟩,
 ⟨some (149,false),.call 152 Fr [((.t 150),false),((.t 151),false)]⟩,
 ⟨some (149,false),.un 153 .not (.t 152)⟩,
 un (.pick 154 (.t 149) (.c (.bool true)) (.t 153))])
 (.drop [146,147,148,149,150,151,152,153] (.cond (.t 154) (.seq (.reg [un (.asg 2 (.c (.bool false)))])
 .ret)
 .skip)))))
def R6:ACode:=
 (.seq (.reg [un (.mov 155 (.t 20))])
 (.cond (.t 155) (.seq (.reg [un (.ld 157 2 true (.t 17)),
 un (.mov 158 (.t 19)),
 un (.call 159 I2 [((.t 157),false),((.t 158),false)]),
 un (.asg 156 (.t 159)),
 un (.ext 160 (.t 156) 0),
 un (.ext 161 (.t 156) 1),
 un (.asg 23 (.t 160)),
 un (.asg 24 (.t 161))])
 (.drop [157,158,159,156,160,161] (.seq (.reg [un (.mov 162 (.t 24)),
 un (.un 163 .not (.t 162)),
 un (.asg 164 (.t 163)),
 ⟨some (164,false),.mov 165 (.t 23)⟩,
 ⟨some (164,false),.mov 166 (.t 18)⟩,
 ⟨some (164,false),.bin 167 .neq (.t 165) (.t 166)⟩,
 un (.pick 168 (.t 164) (.c (.bool true)) (.t 167))])
 (.drop [162,163,164,165,166,167] (.cond (.t 168) (.seq (.reg [un (.asg 2 (.c (.bool false)))])
 .ret)
 .skip)))))
 .skip))
def R9:ACode:=
 (.seq (.reg [un (.ld 183 2 true (.t 25)),
 un (.mov 184 (.t 26)),
 un (.mov 185 (.t 27)),
 un (.call 186 Kz [((.t 183),false),((.t 184),false),((.t 185),false)]),
 un (.asg 182 (.t 186)),
 un (.ext 187 (.t 182) 0),
 un (.ext 188 (.t 182) 1),
 un (.asg 30 (.t 187)),
 un (.asg 31 (.t 188))])
 (.drop [183,184,185,186,182,187,188] (.seq (.reg [un (.mov 189 (.t 29)),
 un (.mov 190 (.t 31)),
 un (.binb 191 .neq (.t 189) (.t 190)),
 un (.asg 192 (.t 191)),
 ⟨some (192,false),.mov 193 (.t 28)⟩,
 ⟨some (192,false),.mov 194 (.t 30)⟩,
 ⟨some (192,false),.call 195 Pk [((.t 193),false),((.t 194),false)]⟩,
 ⟨some (192,false),.un 196 .not (.t 195)⟩,
 un (.pick 197 (.t 192) (.c (.bool true)) (.t 196))])
 (.drop [189,190,191,192,193,194,195,196] (.cond (.t 197) (.seq (.reg [un (.asg 2 (.c (.bool false)))])
 .ret)
 .skip)))))
def Kk:ACode:=
 (.seq (.seq (.reg [un (.mov 200 (.t 33)),
 un (.mov 201 (.t 28)),
 un (.len 202 (.t 201)),
 un (.bin 203 .lss (.t 200) (.t 202))])
 (.drop [200,201,202] (.cond (.t 203) .skip
 (.exit 0))))
 (.drop [200,201,202,203] (.seq (.block 1 (.seq (.reg [un (.mov 206 (.t 28)),
 un (.mov 207 (.t 33)),
 un (.iad 208 1 (.t 206) (.t 207)),
 un (.ld 209 1 false (.t 208)),
 un (.len 210 (.t 209)),
 un (.bin 211 .eql (.t 210) (.c (.int .i64 0)))])
 (.drop [206,207,208,209,210] (.cond (.t 211) (.reg [un (.mov 212 (.t 32)),
 un (.mov 213 (.t 33)),
 un (.bslr 214 1 [(.t 213)]),
 un (.bsl 215 1 [(.t 214)]),
 un (.app 216 1 (.t 212) (.t 215)),
 un (.asg 32 (.t 216))])
 (.reg [un (.mov 217 (.t 32)),
 un (.mov 218 (.t 28)),
 un (.mov 219 (.t 33)),
 un (.iad 220 1 (.t 218) (.t 219)),
 un (.ld 221 1 false (.t 220)),
 un (.bsl 222 1 [(.t 221)]),
 un (.app 223 1 (.t 217) (.t 222)),
 un (.asg 32 (.t 223))])))))
 (.drop [206,207,208,209,210,211,212,213,214,215,216,217,218,219,220,221,222,223] (.reg [un (.mov 204 (.t 33)),
 un (.bin 205 .add (.t 204) (.c (.int .i64 1))),
 un (.asg 33 (.t 205))])))))
def R8:ACode:=
 (.seq (.reg [un (.mov 198 (.t 29))])
 (.cond (.t 198) (.seq (.reg [un (.bsl 199 1 []),
 un (.asg 32 (.t 199))])
 (.drop [199] (.seq (.seq (.reg [un (.asg 33 (.c (.int .i64 0)))])
 (.block 0 (.loop Kk)))
 (.drop [33,200,201,202,203,206,207,208,209,210,211,212,213,214,215,216,217,218,219,220,221,222,223,204,205] (.seq (.reg [un (.ld 225 2 true (.t 25)),
 un (.mov 226 (.t 26)),
 un (.mov 227 (.t 32)),
 un (.call 228 Ie [((.t 225),false),((.t 226),false),((.t 227),false)]),
 un (.asg 224 (.t 228)),
 un (.ext 229 (.t 224) 0),
 un (.ext 230 (.t 224) 1),
 un (.asg 34 (.t 229)),
 un (.asg 35 (.t 230))])
 (.drop [225,226,227,228,224,229,230] (.seq (.reg [un (.mov 231 (.t 35)),
 un (.un 232 .not (.t 231)),
 un (.asg 233 (.t 232)),
 ⟨some (233,false),.mov 234 (.t 34)⟩,
 ⟨some (233,false),.mov 235 (.t 27)⟩,
 ⟨some (233,false),.call 236 Fr [((.t 234),false),((.t 235),false)]⟩,
 ⟨some (233,false),.un 237 .not (.t 236)⟩,
 un (.pick 238 (.t 233) (.c (.bool true)) (.t 237))])
 (.drop [231,232,233,234,235,236,237] (.cond (.t 238) (.seq (.reg [un (.asg 2 (.c (.bool false)))])
 .ret)
 .skip)))))))))
 .skip))
def Sb:ACode:=
 (.seq (.reg [un (.ld 253 2 true (.t 36)),
 un (.mov 254 (.t 37)),
 un (.mov 255 (.t 38)),
 un (.call 256 Ih [((.t 253),false),((.t 254),false),((.t 255),false)]),
 un (.asg 252 (.t 256)),
 un (.ext 257 (.t 252) 0),
 un (.ext 258 (.t 252) 1),
 un (.asg 41 (.t 257)),
 un (.asg 42 (.t 258))])
 (.drop [253,254,255,256,252,257,258] (.seq (.reg [un (.mov 259 (.t 39)),
 un (.mov 260 (.t 41)),
 un (.bin 261 .neq (.t 259) (.t 260)),
 un (.asg 262 (.t 261)),
 ⟨some (262,false),.mov 263 (.t 40)⟩,
 ⟨some (262,false),.mov 264 (.t 42)⟩,
 ⟨some (262,false),.binb 265 .neq (.t 263) (.t 264)⟩,
 un (.pick 266 (.t 262) (.c (.bool true)) (.t 265))])
 (.drop [259,260,261,262,263,264,265] (.cond (.t 266) (.seq (.reg [un (.asg 2 (.c (.bool false)))])
 .ret)
 .skip)))))
def Wx:ACode:=
 (.seq (.reg [un (.asg 2 (.c (.bool false)))])
 (.seq (.seq (.reg [un (.mov 45 (.t 0)),
 un (.call 46 Sk [((.t 45),false)])])
 (.drop [45] (.cond (.t 46) (.seq (.reg [un (.asg 2 (.c (.bool true)))])
 .ret)
 .skip)))
 (.drop [45,46] (.seq (.reg [un (.mov 48 (.t 0)),
 un (.call 49 Ib [((.t 48),false)]),
 un (.asg 47 (.t 49)),
 un (.ext 50 (.t 47) 0),
 un (.ext 51 (.t 47) 1),
 un (.alc 3 (.agg [.int .i64 0,.nilsl 2])),
 un (.st 2 (.t 3) (.t 50)),
 un (.asg 4 (.t 51))])
 (.drop [48,49,47,50,51] (.seq (.reg [un (.ld 53 2 true (.t 3)),
 un (.mov 54 (.t 4)),
 un (.call 55 I2 [((.t 53),false),((.t 54),false)]),
 un (.asg 52 (.t 55)),
 un (.ext 56 (.t 52) 0),
 un (.ext 57 (.t 52) 1),
 un (.asg 5 (.t 56)),
 un (.asg 6 (.t 57))])
 (.drop [53,54,55,52,56,57] (.seq (.cut R2)
 (.drop [59,60,61,58,62,63,7,8,64,65,66,67,68,69,70,71] (.seq (.reg [un (.ld 73 2 true (.t 3)),
 un (.mov 74 (.t 4)),
 un (.call 75 Hc [((.t 73),false),((.t 74),false)]),
 un (.asg 72 (.t 75)),
 un (.ext 76 (.t 72) 0),
 un (.ext 77 (.t 72) 1),
 un (.asg 9 (.t 76)),
 un (.asg 10 (.t 77))])
 (.drop [73,74,75,72,76,77] (.seq (.cut R4)
 (.drop [79,80,81,78,82,83,11,12,84,85,86,87,88,89,90,91,92,93,94,95,96,97] (.seq (.cut Sa)
 (.drop [98,100,101,102,99,103,104,13,14,106,107,108,105,109,110,15,16,111,112,113,114,115,116,117,118,119,120,121,122,123,124,125,126,127,128] (.seq (.reg [un (.mov 130 (.t 0)),
 un (.call 131 Hr [((.t 130),false)]),
 un (.asg 129 (.t 131)),
 un (.ext 132 (.t 129) 0),
 un (.ext 133 (.t 129) 1),
 un (.alc 17 (.agg [.int .i64 0,.nilsl 2])),
 un (.st 2 (.t 17) (.t 132)),
 un (.asg 18 (.t 133))])
 (.drop [130,131,129,132,133] (.seq (.reg [un (.ld 135 2 true (.t 17)),
 un (.mov 136 (.t 18)),
 un (.call 137 Hx [((.t 135),false),((.t 136),false)]),
 un (.asg 134 (.t 137)),
 un (.ext 138 (.t 134) 0),
 un (.ext 139 (.t 134) 1),
 un (.asg 19 (.t 138)),
 un (.asg 20 (.t 139))])
 (.drop [135,136,137,134,138,139] (.seq (.cut R3)
 (.drop [141,142,143,140,144,145,21,22,146,147,148,149,150,151,152,153,154] (.seq (.cut R6)
 (.drop [155,157,158,159,156,160,161,23,24,162,163,164,165,166,167,168] (.seq (.reg [un (.mov 170 (.t 0)),
 un (.call 171 Hl [((.t 170),false)]),
 un (.asg 169 (.t 171)),
 un (.ext 172 (.t 169) 0),
 un (.ext 173 (.t 169) 1),
 un (.ext 174 (.t 169) 2),
 un (.alc 25 (.agg [.int .i64 0,.nilsl 2])),
 un (.st 2 (.t 25) (.t 172)),
 un (.asg 26 (.t 173)),
 un (.asg 27 (.t 174))])
 (.drop [170,171,169,172,173,174] (.seq (.reg [un (.ld 176 2 true (.t 25)),
 un (.mov 177 (.t 26)),
 un (.mov 178 (.t 27)),
 un (.call 179 Kt [((.t 176),false),((.t 177),false),((.t 178),false)]),
 un (.asg 175 (.t 179)),
 un (.ext 180 (.t 175) 0),
 un (.ext 181 (.t 175) 1),
 un (.asg 28 (.t 180)),
 un (.asg 29 (.t 181))])
 (.drop [176,177,178,179,175,180,181] (.seq (.cut R9)
 (.drop [183,184,185,186,182,187,188,30,31,189,190,191,192,193,194,195,196,197] (.seq (.cut R8)
 (.drop [198,199,32,33,200,201,202,203,206,207,208,209,210,211,212,213,214,215,216,217,218,219,220,221,222,223,204,205,225,226,227,228,224,229,230,34,35,231,232,233,234,235,236,237,238] (.seq (.reg [un (.mov 240 (.t 0)),
 un (.call 241 F9 [((.t 240),false)]),
 un (.asg 239 (.t 241)),
 un (.ext 242 (.t 239) 0),
 un (.ext 243 (.t 239) 1),
 un (.ext 244 (.t 239) 2),
 un (.alc 36 (.agg [.int .i64 0,.nilsl 2])),
 un (.st 2 (.t 36) (.t 242)),
 un (.asg 37 (.t 243)),
 un (.asg 38 (.t 244))])
 (.drop [240,241,239,242,243,244] (.seq (.reg [un (.ld 246 2 true (.t 36)),
 un (.mov 247 (.t 37)),
 un (.mov 248 (.t 38)),
 un (.call 249 F2 [((.t 246),false),((.t 247),false),((.t 248),false)]),
 un (.asg 245 (.t 249)),
 un (.ext 250 (.t 245) 0),
 un (.ext 251 (.t 245) 1),
 un (.asg 39 (.t 250)),
 un (.asg 40 (.t 251))])
 (.drop [246,247,248,249,245,250,251] (.seq (.cut Sb)
 (.drop [253,254,255,256,252,257,258,41,42,259,260,261,262,263,264,265,266] (.seq (.reg [un (.ld 268 2 true (.t 36)),
 un (.mov 269 (.t 38)),
 un (.mov 270 (.t 37)),
 un (.call 271 F2 [((.t 268),false),((.t 269),false),((.t 270),false)]),
 un (.asg 267 (.t 271)),
 un (.ext 272 (.t 267) 0),
 un (.ext 273 (.t 267) 1),
 un (.asg 43 (.t 272)),
 un (.asg 44 (.t 273))])
 (.drop [268,269,270,271,267,272,273] (.seq (.reg [un (.mov 274 (.t 44)),
 un (.mov 275 (.t 40)),
 un (.binb 276 .eql (.t 274) (.t 275)),
 un (.asg 277 (.t 276)),
 ⟨some (277,true),.mov 278 (.t 43)⟩,
 ⟨some (277,true),.mov 279 (.t 39)⟩,
 ⟨some (277,true),.un 280 .neg (.t 279)⟩,
 ⟨some (277,true),.bin 281 .eql (.t 278) (.t 280)⟩,
 un (.pick 282 (.t 277) (.t 281) (.c (.bool false))),
 un (.asg 2 (.t 282))])
 (.drop [274,275,276,277,278,279,280,281,282] .ret)))))))))))))))))))))))))))))))))))))))))
abbrev We:List RS:=[.t 2]
theorem Ww:Bh Tryd.prog Nx 283 Wx We=true:=by kernel_rfl
end Go.Proofs.YtbnoclklhcbidaaDoor.Ax
