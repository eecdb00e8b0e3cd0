/-
  The small code of the functions, written by program; that the program's code is this one, the kernel looks at.
-/
import Derived.Test.YtbnoclklhcbidaaDoorAx3
import Derived.Test.YtbnoclklhcbidaaDoorProg
import Derived.KernelRfl
import Derived.Test.YtbnoclklhcbidaaDoorNum
namespace Go.Proofs.YtbnoclklhcbidaaDoor.Ax
open Go
set_option maxRecDepth 100000
def Amd:ACode:=
 (.seq (.reg [un (.asg 2 (.c (.bool false)))])
 (.seq (.reg [un (.mov 3 (.t 0)),
 un (.len 4 (.t 3)),
 un (.bin 5 .gtr (.t 4) (.c (.int .i64 65536))),
 un (.asg 2 (.t 5))])
 (.drop [3,4,5] .ret)))
abbrev Akp:List RS:=[.t 2]
theorem Alb:Bh Tryd.prog Sk 6 Amd Akp=true:=by kernel_rfl
def Rq:ACode:=
 (.seq (.seq (.reg [un (.mov 11 (.t 5)),
 un (.mov 12 (.t 0)),
 un (.len 13 (.t 12)),
 un (.bin 14 .lss (.t 11) (.t 13))])
 (.drop [11,12,13] (.cond (.t 14) .skip
 (.exit 0))))
 (.drop [11,12,13,14] (.seq (.block 1 (.seq (.dreg [(un (.mov 17 (.t 0)),[]),
 (un (.mov 18 (.t 5)),[17]),
 (un (.iad 19 1 (.t 17) (.t 18)),[]),
 (un (.ld 20 1 false (.t 19)),[]),
 (un (.mov 21 (.t 1)),[17,18,19,20]),
 (un (.mov 22 (.t 5)),[17,18,19,20,21]),
 (un (.iad 23 1 (.t 21) (.t 22)),[17,18,19,20]),
 (un (.ld 24 1 false (.t 23)),[17,18,19,20])]
 [un (.bin 25 .neq (.t 20) (.t 24))])
 (.drop [17,18,19,20,21,22,23,24] (.cond (.t 25) (.seq (.reg [un (.asg 4 (.c (.bool false)))])
 .ret)
 .skip))))
 (.drop [17,18,19,20,21,22,23,24,25] (.reg [un (.mov 15 (.t 5)),
 un (.bin 16 .add (.t 15) (.c (.int .i64 1))),
 un (.asg 5 (.t 16))])))))
def Ai3:ACode:=
 (.seq (.reg [un (.asg 4 (.c (.bool false)))])
 (.seq (.seq (.reg [un (.mov 6 (.t 0)),
 un (.len 7 (.t 6)),
 un (.mov 8 (.t 1)),
 un (.len 9 (.t 8)),
 un (.bin 10 .neq (.t 7) (.t 9))])
 (.drop [6,7,8,9] (.cond (.t 10) (.seq (.reg [un (.asg 4 (.c (.bool false)))])
 .ret)
 .skip)))
 (.drop [6,7,8,9,10] (.seq (.seq (.reg [un (.asg 5 (.c (.int .i64 0)))])
 (.block 0 (.loop Rq)))
 (.drop [5,11,12,13,14,17,18,19,20,21,22,23,24,25,15,16] (.seq (.reg [un (.asg 4 (.c (.bool true)))])
 .ret))))))
abbrev Ahy:List RS:=[.t 4]
theorem Ajb:Bh Tryd.prog Fr 26 Ai3 Ahy=true:=by kernel_rfl
def Yg:ACode:=
 (.seq (.reg [un (.mov 7 (.t 4)),
 un (.bin 8 .add (.t 7) (.c (.int .i64 1))),
 un (.mov 9 (.t 0)),
 un (.slen 10 (.t 9)),
 un (.bin 11 .lss (.t 8) (.t 10)),
 un (.asg 12 (.t 11)),
 ⟨some (12,true),.mov 13 (.t 3)⟩,
 ⟨some (12,true),.len 14 (.t 13)⟩,
 ⟨some (12,true),.bin 15 .leq (.t 14) (.c (.int .i64 60))⟩,
 un (.pick 16 (.t 12) (.t 15) (.c (.bool false)))])
 (.drop [7,8,9,10,11,12,13,14,15] (.cond (.t 16) .skip
 (.exit 0))))
def Xf:ACode:=
 (.reg [un (.mov 19 (.t 0)),
 un (.mov 20 (.t 4)),
 un (.sidx 21 (.t 19) (.t 20)),
 un (.bin 22 .eql (.t 21) (.c (.int .u8 120))),
 un (.asg 23 (.t 22)),
 ⟨some (23,false),.mov 24 (.t 0)⟩,
 ⟨some (23,false),.mov 25 (.t 4)⟩,
 ⟨some (23,false),.sidx 26 (.t 24) (.t 25)⟩,
 ⟨some (23,false),.bin 27 .eql (.t 26) (.c (.int .u8 102))⟩,
 un (.pick 28 (.t 23) (.c (.bool true)) (.t 27))])
def Oq:ACode:=
 (.seq (.cut Yg)
 (.drop [7,8,9,10,11,12,13,14,15,16] (.seq (.block 1 (.seq (.cut Xf)
 (.drop [19,20,21,22,23,24,25,26,27] (.cond (.t 28) (.seq (.reg [un (.mov 29 (.t 0)),
 un (.mov 30 (.t 4)),
 un (.bin 31 .add (.t 30) (.c (.int .i64 1))),
 un (.sidx 32 (.t 29) (.t 31)),
 un (.cnv 33 .i64 (.t 32)),
 un (.bin 34 .sub (.t 33) (.c (.int .i64 48))),
 un (.asg 5 (.t 34))])
 (.drop [29,30,31,32,33,34] (.seq (.seq (.reg [un (.mov 35 (.t 0)),
 un (.mov 36 (.t 4)),
 un (.sidx 37 (.t 35) (.t 36)),
 un (.bin 38 .eql (.t 37) (.c (.int .u8 102)))])
 (.drop [35,36,37] (.cond (.t 38) (.reg [un (.mov 39 (.t 5)),
 un (.bin 40 .sub (.c (.int .i64 (-1))) (.t 39)),
 un (.asg 5 (.t 40))])
 .skip)))
 (.drop [35,36,37,38,39,40] (.reg [un (.mov 41 (.t 3)),
 un (.mov 42 (.t 5)),
 un (.bsl 43 1 [(.t 42)]),
 un (.app 44 1 (.t 41) (.t 43)),
 un (.asg 3 (.t 44))])))))
 .skip))))
 (.drop [19,20,21,22,23,24,25,26,27,28,29,30,31,32,33,34,5,35,36,37,38,39,40,41,42,43,44] (.reg [un (.mov 17 (.t 4)),
 un (.bin 18 .add (.t 17) (.c (.int .i64 1))),
 un (.asg 4 (.t 18))])))))
def Ad1:ACode:=
 (.seq (.reg [un (.asg 2 (.c (.nilsl 1)))])
 (.seq (.reg [un (.bsl 6 1 []),
 un (.asg 3 (.t 6))])
 (.drop [6] (.seq (.seq (.reg [un (.asg 4 (.c (.int .i64 0)))])
 (.block 0 (.loop Oq)))
 (.drop [4,7,8,9,10,11,12,13,14,15,16,19,20,21,22,23,24,25,26,27,28,29,30,31,32,33,34,5,35,36,37,38,39,40,41,42,43,44,17,18] (.seq (.reg [un (.mov 45 (.t 3)),
 un (.asg 2 (.t 45))])
 (.drop [45] .ret)))))))
abbrev Adg:List RS:=[.t 2]
theorem Adm:Bh Tryd.prog N6 46 Ad1 Adg=true:=by kernel_rfl
def Lj:ACode:=
 (.seq (.reg [un (.bin 13 .lss (.t 12) (.t 11))])
 (.seq (.cond (.t 13) .skip
 (.exit 0))
 (.seq (.block 1 (.seq (.reg [un (.iad 14 1 (.t 10) (.t 12)),
 un (.ld 15 1 false (.t 14)),
 un (.asg 8 (.t 15))])
 (.drop [14,15] (.seq (.seq (.reg [un (.mov 16 (.t 8)),
 un (.bin 17 .lss (.t 16) (.c (.int .i64 0)))])
 (.drop [16] (.cond (.t 17) (.seq (.reg [un (.mov 18 (.t 6)),
 un (.mov 19 (.t 8)),
 un (.bsl 20 1 [(.t 19)]),
 un (.app 21 1 (.t 18) (.t 20)),
 un (.asg 6 (.t 21))])
 (.drop [18,19,20,21] (.exit 1)))
 .skip)))
 (.drop [16,17,18,19,20,21] (.seq (.seq (.reg [un (.mov 22 (.t 8)),
 un (.mov 23 (.t 1)),
 un (.len 24 (.t 23)),
 un (.bin 25 .geq (.t 22) (.t 24))])
 (.drop [22,23,24] (.cond (.t 25) (.seq (.reg [un (.bsl 26 1 []),
 un (.asg 4 (.t 26)),
 un (.asg 5 (.c (.bool false)))])
 (.drop [26] .ret))
 .skip)))
 (.drop [22,23,24,25,26] (.seq (.reg [un (.mov 27 (.t 6)),
 un (.mov 28 (.t 1)),
 un (.mov 29 (.t 8)),
 un (.iad 30 1 (.t 28) (.t 29)),
 un (.ld 31 1 false (.t 30)),
 un (.app 32 1 (.t 27) (.t 31)),
 un (.asg 6 (.t 32))])
 (.drop [27,28,29,30,31,32] (.seq (.reg [un (.mov 33 (.t 6)),
 un (.len 34 (.t 33)),
 un (.bin 35 .gtr (.t 34) (.c (.int .i64 60)))])
 (.drop [33,34] (.cond (.t 35) (.seq (.reg [un (.bsl 36 1 []),
 un (.asg 4 (.t 36)),
 un (.asg 5 (.c (.bool false)))])
 (.drop [36] .ret))
 .skip))))))))))))
 (.drop [14,15,8,16,17,18,19,20,21,22,23,24,25,26,27,28,29,30,31,32,33,34,35,36] (.reg [un (.bin 37 .add (.t 12) (.c (.int .i64 1))),
 un (.asg 12 (.t 37))])))))
def X2:ACode:=
 (.seq (.reg [un (.asg 4 (.c (.nilsl 1))),
 un (.asg 5 (.c (.bool false)))])
 (.seq (.reg [un (.bsl 9 1 []),
 un (.asg 6 (.t 9))])
 (.drop [9] (.seq (.seq (.reg [un (.mov 10 (.t 0)),
 un (.len 11 (.t 10)),
 un (.mov 12 (.c (.int .i64 0)))])
 (.block 0 (.loop Lj)))
 (.drop [10,11,12,13,14,15,8,16,17,18,19,20,21,22,23,24,25,26,27,28,29,30,31,32,33,34,35,36,37] (.seq (.seq (.reg [un (.mov 38 (.t 6)),
 un (.len 39 (.t 38)),
 un (.bin 40 .gtr (.t 39) (.c (.int .i64 60)))])
 (.drop [38,39] (.cond (.t 40) (.seq (.reg [un (.bsl 41 1 []),
 un (.asg 4 (.t 41)),
 un (.asg 5 (.c (.bool false)))])
 (.drop [41] .ret))
 .skip)))
 (.drop [38,39,40,41] (.seq (.reg [un (.mov 42 (.t 6)),
 un (.asg 4 (.t 42)),
 un (.asg 5 (.c (.bool true)))])
 (.drop [42] .ret)))))))))
abbrev Yu:List RS:=[.t 4,.t 5]
theorem Yx:Bh Tryd.prog Jo 43 X2 Yu=true:=by kernel_rfl
def Ajp:ACode:=
 (.seq (.reg [⟨none,.asg 2 (.c (.str ⟨#[]⟩))⟩])
 (.seq (.seq (.reg [un (.mov 3 (.t 0)),
 un (.bin 4 .lss (.t 3) (.c (.int .i64 0)))])
 (.drop [3] (.cond (.t 4) (.seq (.reg [un (.mov 5 (.t 0)),
 un (.un 6 .neg (.t 5)),
 un (.call 7 Ew [((.t 6),false)]),
 ⟨none,.bin 8 .add (.c (.str ⟨#[45]⟩)) (.t 7)⟩,
 un (.asg 2 (.t 8))])
 (.drop [5,6,7,8] .ret))
 .skip)))
 (.drop [3,4,5,6,7,8] (.seq (.seq (.reg [un (.mov 9 (.t 0)),
 un (.bin 10 .lss (.t 9) (.c (.int .i64 10)))])
 (.drop [9] (.cond (.t 10) (.seq (.reg [un (.mov 11 (.t 0)),
 un (.mov 12 (.t 0)),
 un (.bin 13 .add (.t 12) (.c (.int .i64 1))),
 ⟨none,.ssl 14 (.c (.str ⟨#[48,49,50,51,52,53,54,55,56,57]⟩)) (some (.t 11)) (some (.t 13))⟩,
 un (.asg 2 (.t 14))])
 (.drop [11,12,13,14] .ret))
 .skip)))
 (.drop [9,10,11,12,13,14] (.seq (.dreg [(un (.mov 15 (.t 0)),[]),
 (un (.bin 16 .quo (.t 15) (.c (.int .i64 10))),[]),
 (un (.call 17 Ew [((.t 16),false)]),[]),
 (un (.mov 18 (.t 0)),[15,16,17]),
 (un (.bin 19 .rem (.t 18) (.c (.int .i64 10))),[15,16,17]),
 (un (.mov 20 (.t 0)),[15,16,17,18,19]),
 (un (.bin 21 .rem (.t 20) (.c (.int .i64 10))),[15,16,17,18,19]),
 (un (.bin 22 .add (.t 21) (.c (.int .i64 1))),[15,16,17,18,19]),
 (⟨none,.ssl 23 (.c (.str ⟨#[48,49,50,51,52,53,54,55,56,57]⟩)) (some (.t 19)) (some (.t 22))⟩,[15,16,17])]
 [un (.bin 24 .add (.t 17) (.t 23)),
 un (.asg 2 (.t 24))])
 (.drop [15,16,17,18,19,20,21,22,23,24] .ret)))))))
abbrev Ahx:List RS:=[.t 2]
theorem Aht:Bh Tryd.prog Ew 25 Ajp Ahx=true:=by kernel_rfl
def Qi:ACode:=
 (.seq (.reg [un (.bin 10 .lss (.t 9) (.t 8))])
 (.seq (.cond (.t 10) .skip
 (.exit 0))
 (.seq (.block 1 (.seq (.reg [un (.iad 11 1 (.t 7) (.t 9)),
 un (.ld 12 1 false (.t 11)),
 un (.asg 6 (.t 12))])
 (.drop [11,12] (.seq (.reg [un (.mov 13 (.t 6)),
 un (.bin 14 .lss (.t 13) (.c (.int .i64 0))),
 un (.asg 15 (.t 14)),
 ⟨some (15,false),.mov 16 (.t 6)⟩,
 ⟨some (15,false),.mov 17 (.t 1)⟩,
 ⟨some (15,false),.bin 18 .geq (.t 16) (.t 17)⟩,
 un (.pick 19 (.t 15) (.c (.bool true)) (.t 18))])
 (.drop [13,14,15,16,17,18] (.cond (.t 19) (.seq (.reg [un (.asg 4 (.c (.bool false)))])
 .ret)
 .skip))))))
 (.drop [11,12,6,13,14,15,16,17,18,19] (.reg [un (.bin 20 .add (.t 9) (.c (.int .i64 1))),
 un (.asg 9 (.t 20))])))))
def Agh:ACode:=
 (.seq (.reg [un (.asg 4 (.c (.bool false)))])
 (.seq (.seq (.reg [un (.mov 7 (.t 0)),
 un (.len 8 (.t 7)),
 un (.mov 9 (.c (.int .i64 0)))])
 (.block 0 (.loop Qi)))
 (.drop [7,8,9,10,11,12,6,13,14,15,16,17,18,19,20] (.seq (.reg [un (.asg 4 (.c (.bool true)))])
 .ret))))
abbrev Agf:List RS:=[.t 4]
theorem Agr:Bh Tryd.prog Pi 21 Agh Agf=true:=by kernel_rfl
def Abz:ACode:=
 (.reg [un (.mov 30 (.t 8)),
 un (.bin 31 .geq (.t 30) (.c (.int .i64 6))),
 un (.asg 32 (.t 31)),
 ⟨some (32,false),.mov 33 (.t 8)⟩,
 ⟨some (32,false),.fadr 34 1 (.t 3)⟩,
 ⟨some (32,false),.ld 35 1 false (.t 34)⟩,
 ⟨some (32,false),.len 36 (.t 35)⟩,
 ⟨some (32,false),.un 37 .neg (.t 36)⟩,
 ⟨some (32,false),.bin 38 .lss (.t 33) (.t 37)⟩,
 un (.pick 39 (.t 32) (.c (.bool true)) (.t 38)),
 un (.asg 29 (.t 39))])
def Rj:ACode:=
 (.seq (.seq (.reg [un (.mov 9 (.t 7)),
 un (.bin 10 .gtr (.t 9) (.c (.int .i64 0)))])
 (.drop [9] (.cond (.t 10) .skip
 (.exit 0))))
 (.drop [9,10] (.block 1 (.seq (.seq (.reg [un (.mov 11 (.t 2)),
 un (.mov 12 (.t 1)),
 un (.len 13 (.t 12)),
 un (.bin 14 .geq (.t 11) (.t 13))])
 (.drop [11,12,13] (.cond (.t 14) (.seq (.reg [un (.asg 6 (.c (.int .i64 (-1))))])
 .ret)
 .skip)))
 (.drop [11,12,13,14] (.seq (.reg [un (.mov 15 (.t 1)),
 un (.mov 16 (.t 2)),
 un (.iad 17 1 (.t 15) (.t 16)),
 un (.ld 18 1 false (.t 17)),
 un (.asg 8 (.t 18))])
 (.drop [15,16,17,18] (.seq (.block 2 (.seq (.cut Abz)
 (.drop [30,31,32,33,34,35,36,37,38,39] (.cond (.t 29) (.seq (.reg [un (.asg 6 (.c (.int .i64 (-1))))])
 .ret)
 (.seq (.reg [un (.mov 41 (.t 8)),
 un (.bin 42 .geq (.t 41) (.c (.int .i64 0))),
 un (.asg 40 (.t 42))])
 (.drop [41,42] (.cond (.t 40) (.reg [un (.mov 43 (.t 7)),
 un (.bin 44 .sub (.t 43) (.c (.int .i64 1))),
 un (.asg 7 (.t 44))])
 (.reg [un (.mov 19 (.t 7)),
 un (.fadr 20 1 (.t 3)),
 un (.ld 21 1 false (.t 20)),
 un (.mov 22 (.t 8)),
 un (.bin 23 .sub (.c (.int .i64 (-1))) (.t 22)),
 un (.iad 24 2 (.t 21) (.t 23)),
 un (.fadr 25 0 (.t 24)),
 un (.ld 26 1 false (.t 25)),
 un (.bin 27 .sub (.t 26) (.c (.int .i64 1))),
 un (.bin 28 .add (.t 19) (.t 27)),
 un (.asg 7 (.t 28))]))))))))
 (.drop [30,31,32,33,34,35,36,37,38,39,29,41,42,40,43,44,19,20,21,22,23,24,25,26,27,28] (.reg [un (.mov 45 (.t 2)),
 un (.bin 46 .add (.t 45) (.c (.int .i64 1))),
 un (.asg 2 (.t 46))]))))))))))
def Aib:ACode:=
 (.seq (.reg [un (.box 3 (.t 0)),
 un (.asg 6 (.c (.int .i64 0)))])
 (.seq (.reg [un (.asg 7 (.c (.int .i64 1)))])
 (.seq (.block 0 (.loop Rj))
 (.drop [9,10,11,12,13,14,15,16,17,18,8,30,31,32,33,34,35,36,37,38,39,29,41,42,40,43,44,19,20,21,22,23,24,25,26,27,28,45,46] (.seq (.reg [un (.mov 47 (.t 2)),
 un (.asg 6 (.t 47))])
 (.drop [47] .ret))))))
abbrev Ajq:List RS:=[.t 6]
theorem Aie:Bh Tryd.prog M1 48 Aib Ajq=true:=by kernel_rfl
def Rk:ACode:=
 (.seq (.seq (.reg [un (.mov 6 (.t 1)),
 un (.bin 7 .gtr (.t 6) (.c (.int .i64 0)))])
 (.drop [6] (.cond (.t 7) .skip
 (.exit 0))))
 (.drop [6,7] (.seq (.block 1 (.reg [un (.mov 10 (.t 5)),
 un (.mov 11 (.t 0)),
 un (.bin 12 .mul (.t 10) (.t 11)),
 un (.asg 5 (.t 12))]))
 (.drop [10,11,12] (.reg [un (.mov 8 (.t 1)),
 un (.bin 9 .sub (.t 8) (.c (.int .i64 1))),
 un (.asg 1 (.t 9))])))))
def Aij:ACode:=
 (.seq (.reg [un (.asg 4 (.c (.int .i64 0)))])
 (.seq (.reg [un (.asg 5 (.c (.int .i64 1)))])
 (.seq (.block 0 (.loop Rk))
 (.drop [6,7,10,11,12,8,9] (.seq (.reg [un (.mov 13 (.t 5)),
 un (.asg 4 (.t 13))])
 (.drop [13] .ret))))))
abbrev Ail:List RS:=[.t 4]
theorem Ahv:Bh Tryd.prog M4 14 Aij Ail=true:=by kernel_rfl
def Jy:ACode:=
 (.seq (.seq (.reg [un (.mov 9 (.t 7)),
 un (.mov 10 (.t 0)),
 un (.len 11 (.t 10)),
 un (.bin 12 .lss (.t 9) (.t 11))])
 (.drop [9,10,11] (.cond (.t 12) .skip
 (.exit 0))))
 (.drop [9,10,11,12] (.seq (.block 1 (.seq (.seq (.reg [un (.mov 15 (.t 0)),
 un (.mov 16 (.t 7)),
 un (.iad 17 1 (.t 15) (.t 16)),
 un (.ld 18 1 false (.t 17)),
 un (.mov 19 (.t 1)),
 un (.len 20 (.t 19)),
 un (.bin 21 .geq (.t 18) (.t 20))])
 (.drop [15,16,17,18,19,20] (.cond (.t 21) (.seq (.reg [un (.bsl 22 1 []),
 un (.asg 4 (.t 22)),
 un (.asg 5 (.c (.bool false)))])
 (.drop [22] .ret))
 .skip)))
 (.drop [15,16,17,18,19,20,21,22] (.seq (.seq (.reg [un (.mov 23 (.t 0)),
 un (.mov 24 (.t 7)),
 un (.iad 25 1 (.t 23) (.t 24)),
 un (.ld 26 1 false (.t 25)),
 un (.bin 27 .lss (.t 26) (.c (.int .i64 0)))])
 (.drop [23,24,25,26] (.cond (.t 27) (.reg [un (.mov 28 (.t 6)),
 un (.mov 29 (.t 0)),
 un (.mov 30 (.t 7)),
 un (.iad 31 1 (.t 29) (.t 30)),
 un (.ld 32 1 false (.t 31)),
 un (.bsl 33 1 [(.t 32)]),
 un (.app 34 1 (.t 28) (.t 33)),
 un (.asg 6 (.t 34))])
 (.reg [un (.mov 35 (.t 6)),
 un (.mov 36 (.t 1)),
 un (.mov 37 (.t 0)),
 un (.mov 38 (.t 7)),
 un (.iad 39 1 (.t 37) (.t 38)),
 un (.ld 40 1 false (.t 39)),
 un (.iad 41 1 (.t 36) (.t 40)),
 un (.ld 42 1 false (.t 41)),
 un (.app 43 1 (.t 35) (.t 42)),
 un (.asg 6 (.t 43))]))))
 (.drop [23,24,25,26,27,28,29,30,31,32,33,34,35,36,37,38,39,40,41,42,43] (.seq (.reg [un (.mov 44 (.t 6)),
 un (.len 45 (.t 44)),
 un (.bin 46 .gtr (.t 45) (.c (.int .i64 60)))])
 (.drop [44,45] (.cond (.t 46) (.seq (.reg [un (.bsl 47 1 []),
 un (.asg 4 (.t 47)),
 un (.asg 5 (.c (.bool false)))])
 (.drop [47] .ret))
 .skip))))))))
 (.drop [15,16,17,18,19,20,21,22,23,24,25,26,27,28,29,30,31,32,33,34,35,36,37,38,39,40,41,42,43,44,45,46,47] (.reg [un (.mov 13 (.t 7)),
 un (.bin 14 .add (.t 13) (.c (.int .i64 1))),
 un (.asg 7 (.t 14))])))))
def Uu:ACode:=
 (.seq (.reg [un (.asg 4 (.c (.nilsl 1))),
 un (.asg 5 (.c (.bool false)))])
 (.seq (.reg [un (.bsl 8 1 []),
 un (.asg 6 (.t 8))])
 (.drop [8] (.seq (.seq (.reg [un (.asg 7 (.c (.int .i64 0)))])
 (.block 0 (.loop Jy)))
 (.drop [7,9,10,11,12,15,16,17,18,19,20,21,22,23,24,25,26,27,28,29,30,31,32,33,34,35,36,37,38,39,40,41,42,43,44,45,46,47,13,14] (.seq (.reg [un (.mov 48 (.t 6)),
 un (.asg 4 (.t 48)),
 un (.asg 5 (.c (.bool true)))])
 (.drop [48] .ret)))))))
abbrev Vb:List RS:=[.t 4,.t 5]
theorem Vt:Bh Tryd.prog H9 49 Uu Vb=true:=by kernel_rfl
def Ah3:ACode:=
 (.seq (.reg [un (.asg 2 (.c (.nilsl 1)))])
 (.seq (.reg [un (.bsl 3 1 []),
 un (.mov 4 (.t 0)),
 un (.app 5 1 (.t 3) (.t 4)),
 un (.asg 2 (.t 5))])
 (.drop [3,4,5] .ret)))
abbrev Ai5:List RS:=[.t 2]
theorem Ajc:Bh Tryd.prog Rc 6 Ah3 Ai5=true:=by kernel_rfl
def N7:ACode:=
 (.seq (.reg [un (.bin 15 .lss (.t 14) (.t 13))])
 (.seq (.cond (.t 15) .skip
 (.exit 0))
 (.seq (.block 1 (.seq (.reg [un (.mov 16 (.t 14)),
 un (.iad 17 1 (.t 12) (.t 14)),
 un (.ld 18 1 false (.t 17)),
 un (.asg 5 (.t 16)),
 un (.asg 6 (.t 18))])
 (.drop [16,17,18] (.seq (.reg [un (.mov 19 (.t 1)),
 un (.mov 20 (.t 5)),
 un (.iad 21 1 (.t 19) (.t 20)),
 un (.ld 22 1 false (.t 21)),
 un (.mov 23 (.t 6)),
 un (.bin 24 .neq (.t 22) (.t 23))])
 (.drop [19,20,21,22,23] (.cond (.t 24) (.seq (.reg [un (.asg 4 (.c (.bool false)))])
 .ret)
 .skip))))))
 (.drop [16,17,18,5,6,19,20,21,22,23,24] (.reg [un (.bin 25 .add (.t 14) (.c (.int .i64 1))),
 un (.asg 14 (.t 25))])))))
def Abm:ACode:=
 (.seq (.reg [un (.asg 4 (.c (.bool false)))])
 (.seq (.seq (.reg [un (.mov 7 (.t 0)),
 un (.len 8 (.t 7)),
 un (.mov 9 (.t 1)),
 un (.len 10 (.t 9)),
 un (.bin 11 .neq (.t 8) (.t 10))])
 (.drop [7,8,9,10] (.cond (.t 11) (.seq (.reg [un (.asg 4 (.c (.bool false)))])
 .ret)
 .skip)))
 (.drop [7,8,9,10,11] (.seq (.seq (.reg [un (.mov 12 (.t 0)),
 un (.len 13 (.t 12)),
 un (.mov 14 (.c (.int .i64 0)))])
 (.block 0 (.loop N7)))
 (.drop [12,13,14,15,16,17,18,5,6,19,20,21,22,23,24,25] (.seq (.reg [un (.asg 4 (.c (.bool true)))])
 .ret))))))
abbrev Acg:List RS:=[.t 4]
theorem Abt:Bh Tryd.prog Ma 26 Abm Acg=true:=by kernel_rfl
def Aia:ACode:=
 (.seq (.reg [un (.asg 2 (.c (.nilsl 1)))])
 (.seq (.reg [un (.bsl 3 1 []),
 un (.mov 4 (.t 0)),
 un (.app 5 1 (.t 3) (.t 4)),
 un (.asg 2 (.t 5))])
 (.drop [3,4,5] .ret)))
abbrev Ait:List RS:=[.t 2]
theorem Ais:Bh Tryd.prog Mz 6 Aia Ait=true:=by kernel_rfl
def Qm:ACode:=
 (.seq (.seq (.reg [un (.mov 11 (.t 5)),
 un (.mov 12 (.t 0)),
 un (.len 13 (.t 12)),
 un (.bin 14 .lss (.t 11) (.t 13))])
 (.drop [11,12,13] (.cond (.t 14) .skip
 (.exit 0))))
 (.drop [11,12,13,14] (.seq (.block 1 (.seq (.dreg [(un (.mov 17 (.t 0)),[]),
 (un (.mov 18 (.t 5)),[17]),
 (un (.iad 19 1 (.t 17) (.t 18)),[]),
 (un (.ld 20 1 false (.t 19)),[]),
 (un (.mov 21 (.t 1)),[17,18,19,20]),
 (un (.mov 22 (.t 5)),[17,18,19,20,21]),
 (un (.iad 23 1 (.t 21) (.t 22)),[17,18,19,20]),
 (un (.ld 24 1 false (.t 23)),[17,18,19,20])]
 [un (.bin 25 .neq (.t 20) (.t 24))])
 (.drop [17,18,19,20,21,22,23,24] (.cond (.t 25) (.seq (.reg [un (.asg 4 (.c (.bool false)))])
 .ret)
 .skip))))
 (.drop [17,18,19,20,21,22,23,24,25] (.reg [un (.mov 15 (.t 5)),
 un (.bin 16 .add (.t 15) (.c (.int .i64 1))),
 un (.asg 5 (.t 16))])))))
def Afm:ACode:=
 (.seq (.reg [un (.asg 4 (.c (.bool false)))])
 (.seq (.seq (.reg [un (.mov 6 (.t 0)),
 un (.len 7 (.t 6)),
 un (.mov 8 (.t 1)),
 un (.len 9 (.t 8)),
 un (.bin 10 .neq (.t 7) (.t 9))])
 (.drop [6,7,8,9] (.cond (.t 10) (.seq (.reg [un (.asg 4 (.c (.bool false)))])
 .ret)
 .skip)))
 (.drop [6,7,8,9,10] (.seq (.seq (.reg [un (.asg 5 (.c (.int .i64 0)))])
 (.block 0 (.loop Qm)))
 (.drop [5,11,12,13,14,17,18,19,20,21,22,23,24,25,15,16] (.seq (.reg [un (.asg 4 (.c (.bool true)))])
 .ret))))))
abbrev Afh:List RS:=[.t 4]
theorem Af4:Bh Tryd.prog Ph 26 Afm Afh=true:=by kernel_rfl
def Q7:ACode:=
 (.seq (.reg [un (.mov 6 (.t 5)),
 un (.mov 7 (.t 0)),
 un (.len 8 (.t 7)),
 un (.bin 9 .lss (.t 6) (.t 8)),
 un (.asg 10 (.t 9)),
 ⟨some (10,true),.mov 11 (.t 5)⟩,
 ⟨some (10,true),.mov 12 (.t 1)⟩,
 ⟨some (10,true),.len 13 (.t 12)⟩,
 ⟨some (10,true),.bin 14 .lss (.t 11) (.t 13)⟩,
 un (.pick 15 (.t 10) (.t 14) (.c (.bool false)))])
 (.drop [6,7,8,9,10,11,12,13,14] (.cond (.t 15) .skip
 (.exit 0))))
def J4:ACode:=
 (.seq (.cut Q7)
 (.drop [6,7,8,9,10,11,12,13,14,15] (.seq (.block 1 (.seq (.dreg [(un (.mov 18 (.t 0)),[]),
 (un (.mov 19 (.t 5)),[18]),
 (un (.iad 20 1 (.t 18) (.t 19)),[]),
 (un (.ld 21 1 false (.t 20)),[]),
 (un (.mov 22 (.t 1)),[18,19,20,21]),
 (un (.mov 23 (.t 5)),[18,19,20,21,22]),
 (un (.iad 24 1 (.t 22) (.t 23)),[18,19,20,21]),
 (un (.ld 25 1 false (.t 24)),[18,19,20,21])]
 [un (.bin 26 .neq (.t 21) (.t 25))])
 (.drop [18,19,20,21,22,23,24,25] (.cond (.t 26) (.seq (.seq (.dreg [(un (.mov 27 (.t 0)),[]),
 (un (.mov 28 (.t 5)),[27]),
 (un (.iad 29 1 (.t 27) (.t 28)),[]),
 (un (.ld 30 1 false (.t 29)),[]),
 (un (.mov 31 (.t 1)),[27,28,29,30]),
 (un (.mov 32 (.t 5)),[27,28,29,30,31]),
 (un (.iad 33 1 (.t 31) (.t 32)),[27,28,29,30]),
 (un (.ld 34 1 false (.t 33)),[27,28,29,30])]
 [un (.bin 35 .lss (.t 30) (.t 34))])
 (.drop [27,28,29,30,31,32,33,34] (.cond (.t 35) (.seq (.reg [un (.asg 4 (.c (.int .i64 (-1))))])
 .ret)
 .skip)))
 (.drop [27,28,29,30,31,32,33,34,35] (.seq (.reg [un (.asg 4 (.c (.int .i64 1)))])
 .ret)))
 .skip))))
 (.drop [18,19,20,21,22,23,24,25,26,27,28,29,30,31,32,33,34,35] (.reg [un (.mov 16 (.t 5)),
 un (.bin 17 .add (.t 16) (.c (.int .i64 1))),
 un (.asg 5 (.t 17))])))))
def Uf:ACode:=
 (.seq (.reg [un (.asg 4 (.c (.int .i64 0)))])
 (.seq (.seq (.reg [un (.asg 5 (.c (.int .i64 0)))])
 (.block 0 (.loop J4)))
 (.drop [5,6,7,8,9,10,11,12,13,14,15,18,19,20,21,22,23,24,25,26,27,28,29,30,31,32,33,34,35,16,17] (.seq (.block 2 (.seq (.reg [un (.mov 37 (.t 0)),
 un (.len 38 (.t 37)),
 un (.mov 39 (.t 1)),
 un (.len 40 (.t 39)),
 un (.bin 41 .lss (.t 38) (.t 40)),
 un (.asg 36 (.t 41))])
 (.drop [37,38,39,40,41] (.cond (.t 36) (.seq (.reg [un (.asg 4 (.c (.int .i64 (-1))))])
 .ret)
 (.seq (.reg [un (.mov 43 (.t 0)),
 un (.len 44 (.t 43)),
 un (.mov 45 (.t 1)),
 un (.len 46 (.t 45)),
 un (.bin 47 .gtr (.t 44) (.t 46)),
 un (.asg 42 (.t 47))])
 (.drop [43,44,45,46,47] (.cond (.t 42) (.seq (.reg [un (.asg 4 (.c (.int .i64 1)))])
 .ret)
 .skip)))))))
 (.drop [37,38,39,40,41,36,43,44,45,46,47,42] (.seq (.reg [un (.asg 4 (.c (.int .i64 0)))])
 .ret))))))
abbrev Uv:List RS:=[.t 4]
theorem Vx:Bh Tryd.prog Id 48 Uf Uv=true:=by kernel_rfl
def P6:ACode:=
 (.seq (.seq (.reg [un (.mov 6 (.t 5)),
 un (.mov 7 (.t 0)),
 un (.len 8 (.t 7)),
 un (.bin 9 .lss (.t 6) (.t 8))])
 (.drop [6,7,8] (.cond (.t 9) .skip
 (.exit 0))))
 (.drop [6,7,8,9] (.seq (.block 1 (.seq (.dreg [(un (.mov 12 (.t 0)),[]),
 (un (.mov 13 (.t 5)),[12]),
 (un (.iad 14 1 (.t 12) (.t 13)),[]),
 (un (.ld 15 1 false (.t 14)),[]),
 (un (.mov 16 (.t 1)),[12,13,14,15]),
 (un (.mov 17 (.t 5)),[12,13,14,15,16]),
 (un (.iad 18 1 (.t 16) (.t 17)),[12,13,14,15]),
 (un (.ld 19 1 false (.t 18)),[12,13,14,15])]
 [un (.bin 20 .neq (.t 15) (.t 19))])
 (.drop [12,13,14,15,16,17,18,19] (.cond (.t 20) (.seq (.dreg [(un (.mov 21 (.t 0)),[]),
 (un (.mov 22 (.t 5)),[21]),
 (un (.iad 23 1 (.t 21) (.t 22)),[]),
 (un (.ld 24 1 false (.t 23)),[]),
 (un (.mov 25 (.t 1)),[21,22,23,24]),
 (un (.mov 26 (.t 5)),[21,22,23,24,25]),
 (un (.iad 27 1 (.t 25) (.t 26)),[21,22,23,24]),
 (un (.ld 28 1 false (.t 27)),[21,22,23,24])]
 [un (.bin 29 .lss (.t 24) (.t 28)),
 un (.asg 4 (.t 29))])
 (.drop [21,22,23,24,25,26,27,28,29] .ret))
 .skip))))
 (.drop [12,13,14,15,16,17,18,19,20,21,22,23,24,25,26,27,28,29] (.reg [un (.mov 10 (.t 5)),
 un (.bin 11 .add (.t 10) (.c (.int .i64 1))),
 un (.asg 5 (.t 11))])))))
def Agl:ACode:=
 (.seq (.reg [un (.asg 4 (.c (.bool false)))])
 (.seq (.seq (.reg [un (.asg 5 (.c (.int .i64 0)))])
 (.block 0 (.loop P6)))
 (.drop [5,6,7,8,9,12,13,14,15,16,17,18,19,20,21,22,23,24,25,26,27,28,29,10,11] (.seq (.reg [un (.asg 4 (.c (.bool false)))])
 .ret))))
abbrev Afy:List RS:=[.t 4]
theorem Agj:Bh Tryd.prog Pm 30 Agl Afy=true:=by kernel_rfl
def Ajw:ACode:=
 (.seq (.reg [un (.asg 6 (.c (.bool false)))])
 (.seq (.reg [un (.mov 7 (.t 0)),
 un (.mov 8 (.t 1)),
 un (.bin 9 .geq (.t 7) (.t 8)),
 un (.asg 10 (.t 9)),
 ⟨some (10,true),.mov 11 (.t 0)⟩,
 ⟨some (10,true),.mov 12 (.t 2)⟩,
 ⟨some (10,true),.bin 13 .leq (.t 11) (.t 12)⟩,
 un (.pick 14 (.t 10) (.t 13) (.c (.bool false))),
 un (.asg 6 (.t 14))])
 (.drop [7,8,9,10,11,12,13,14] .ret)))
abbrev Akb:List RS:=[.t 6]
theorem Ale:Bh Tryd.prog Jb 15 Ajw Akb=true:=by kernel_rfl
def Ru:ACode:=
 (.seq (.seq (.reg [un (.mov 6 (.t 1)),
 un (.bin 7 .gtr (.t 6) (.c (.int .i64 0)))])
 (.drop [6] (.cond (.t 7) .skip
 (.exit 0))))
 (.drop [6,7] (.seq (.block 1 (.reg [un (.mov 10 (.t 5)),
 un (.mov 11 (.t 0)),
 un (.bin 12 .mul (.t 10) (.t 11)),
 un (.asg 5 (.t 12))]))
 (.drop [10,11,12] (.reg [un (.mov 8 (.t 1)),
 un (.bin 9 .sub (.t 8) (.c (.int .i64 1))),
 un (.asg 1 (.t 9))])))))
def Aiz:ACode:=
 (.seq (.reg [un (.asg 4 (.c (.int .i64 0)))])
 (.seq (.reg [un (.asg 5 (.c (.int .i64 1)))])
 (.seq (.block 0 (.loop Ru))
 (.drop [6,7,10,11,12,8,9] (.seq (.reg [un (.mov 13 (.t 5)),
 un (.asg 4 (.t 13))])
 (.drop [13] .ret))))))
abbrev Ah6:List RS:=[.t 4]
theorem Aik:Bh Tryd.prog Ri 14 Aiz Ah6=true:=by kernel_rfl
def Nf:ACode:=
 (.seq (.seq (.reg [un (.mov 6 (.t 4)),
 un (.mov 7 (.t 0)),
 un (.slen 8 (.t 7)),
 un (.bin 9 .lss (.t 6) (.t 8))])
 (.drop [6,7,8] (.cond (.t 9) .skip
 (.exit 0))))
 (.drop [6,7,8,9] (.seq (.block 1 (.dreg [(un (.fadr 12 1 (.t 3)),[18]),
 (un (.ld 13 1 false (.t 12)),[18]),
 (un (.mov 14 (.t 0)),[12,13]),
 (un (.mov 15 (.t 4)),[12,13,14]),
 (un (.sidx 16 (.t 14) (.t 15)),[12,13]),
 (un (.bin 17 .sub (.t 16) (.c (.int .u8 48))),[12,13]),
 (un (.cnv 18 .i64 (.t 17)),[12,13]),
 (un (.bsl 19 1 [(.t 18)]),[12,13])]
 [un (.app 20 1 (.t 13) (.t 19)),
 un (.fadr 21 1 (.t 3)),
 un (.st 1 (.t 21) (.t 20))]))
 (.drop [12,13,14,15,16,17,18,19,20,21] (.reg [un (.mov 10 (.t 4)),
 un (.bin 11 .add (.t 10) (.c (.int .i64 1))),
 un (.asg 4 (.t 11))])))))
def Ab0:ACode:=
 (.seq (.reg [un (.alc 2 (.agg [.int .i64 0,.nilsl 1]))])
 (.seq (.reg [un (.bld 5 [.int .i64 0,.nilsl 1] [(0,1,(.c (.int .i64 2)))]),
 un (.alc 3 (.agg [.int .i64 0,.nilsl 1])),
 un (.st 2 (.t 3) (.t 5))])
 (.drop [5] (.seq (.seq (.reg [un (.asg 4 (.c (.int .i64 0)))])
 (.block 0 (.loop Nf)))
 (.drop [4,6,7,8,9,12,13,14,15,16,17,18,19,20,21,10,11] (.seq (.reg [un (.ld 22 2 true (.t 3)),
 un (.st 2 (.t 2) (.t 22))])
 (.drop [22] .ret)))))))
abbrev Ab6:List RS:=[.c 2 2 true]
theorem Ace:Bh Tryd.prog Bf 23 Ab0 Ab6=true:=by kernel_rfl
def Nd:ACode:=
 (.seq (.seq (.reg [un (.mov 6 (.t 4)),
 un (.mov 7 (.t 0)),
 un (.mov 8 (.t 0)),
 un (.bin 9 .mul (.t 7) (.t 8)),
 un (.mov 10 (.t 0)),
 un (.bin 11 .mul (.t 9) (.t 10)),
 un (.bin 12 .lss (.t 6) (.t 11))])
 (.drop [6,7,8,9,10,11] (.cond (.t 12) .skip
 (.exit 0))))
 (.drop [6,7,8,9,10,11,12] (.seq (.block 1 (.dreg [(un (.fadr 15 1 (.t 3)),[35]),
 (un (.ld 16 1 false (.t 15)),[35]),
 (un (.mov 17 (.t 4)),[15,16]),
 (un (.mov 18 (.t 0)),[15,16,17]),
 (un (.mov 19 (.t 0)),[15,16,17,18]),
 (un (.bin 20 .mul (.t 18) (.t 19)),[15,16,17]),
 (un (.bin 21 .quo (.t 17) (.t 20)),[15,16]),
 (un (.mov 22 (.t 0)),[15,16,17,18,19,20,21]),
 (un (.bin 23 .add (.t 21) (.t 22)),[15,16]),
 (un (.mov 24 (.t 4)),[15,16,17,18,19,20,21,22,23]),
 (un (.mov 25 (.t 0)),[15,16,17,18,19,20,21,22,23,24]),
 (un (.bin 26 .quo (.t 24) (.t 25)),[15,16,17,18,19,20,21,22,23]),
 (un (.mov 27 (.t 0)),[15,16,17,18,19,20,21,22,23,24,25,26]),
 (un (.bin 28 .rem (.t 26) (.t 27)),[15,16,17,18,19,20,21,22,23]),
 (un (.bin 29 .sub (.t 23) (.t 28)),[15,16]),
 (un (.mov 30 (.t 4)),[15,16,17,18,19,20,21,22,23,24,25,26,27,28,29]),
 (un (.mov 31 (.t 0)),[15,16,17,18,19,20,21,22,23,24,25,26,27,28,29,30]),
 (un (.bin 32 .rem (.t 30) (.t 31)),[15,16,17,18,19,20,21,22,23,24,25,26,27,28,29]),
 (un (.bin 33 .add (.t 29) (.t 32)),[15,16]),
 (un (.mov 34 (.t 0)),[15,16,17,18,19,20,21,22,23,24,25,26,27,28,29,30,31,32,33]),
 (un (.bin 35 .rem (.t 33) (.t 34)),[15,16]),
 (un (.bsl 36 1 [(.t 35)]),[15,16])]
 [un (.app 37 1 (.t 16) (.t 36)),
 un (.fadr 38 1 (.t 3)),
 un (.st 1 (.t 38) (.t 37))]))
 (.drop [15,16,17,18,19,20,21,22,23,24,25,26,27,28,29,30,31,32,33,34,35,36,37,38] (.reg [un (.mov 13 (.t 4)),
 un (.bin 14 .add (.t 13) (.c (.int .i64 1))),
 un (.asg 4 (.t 14))])))))
def Abq:ACode:=
 (.seq (.reg [un (.alc 2 (.agg [.int .i64 0,.nilsl 1]))])
 (.seq (.reg [un (.bld 5 [.int .i64 0,.nilsl 1] [(0,1,(.c (.int .i64 3)))]),
 un (.alc 3 (.agg [.int .i64 0,.nilsl 1])),
 un (.st 2 (.t 3) (.t 5))])
 (.drop [5] (.seq (.seq (.reg [un (.asg 4 (.c (.int .i64 0)))])
 (.block 0 (.loop Nd)))
 (.drop [4,6,7,8,9,10,11,12,15,16,17,18,19,20,21,22,23,24,25,26,27,28,29,30,31,32,33,34,35,36,37,38,13,14] (.seq (.reg [un (.ld 39 2 true (.t 3)),
 un (.st 2 (.t 2) (.t 39))])
 (.drop [39] .ret)))))))
abbrev Acd:List RS:=[.c 2 2 true]
theorem Abe:Bh Tryd.prog I1 40 Abq Acd=true:=by kernel_rfl
def Sl:ACode:=
 (.seq (.dreg [(un (.mov 4 (.t 0)),[]),
 (un (.nck 5 (.t 4)),[]),
 (un (.fadr 6 1 (.t 5)),[]),
 (un (.ld 7 1 false (.t 6)),[]),
 (un (.mov 8 (.t 0)),[4,5,6,7]),
 (un (.nck 9 (.t 8)),[4,5,6,7]),
 (un (.fadr 10 0 (.t 9)),[4,5,6,7]),
 (un (.ld 11 1 false (.t 10)),[4,5,6,7]),
 (un (.len 12 (.t 11)),[4,5,6,7])]
 [un (.bin 13 .lss (.t 7) (.t 12))])
 (.drop [4,5,6,7,8,9,10,11,12] (.cond (.t 13) (.dreg [(un (.mov 14 (.t 0)),[]),
 (un (.nck 15 (.t 14)),[]),
 (un (.fadr 16 0 (.t 15)),[]),
 (un (.ld 17 1 false (.t 16)),[]),
 (un (.mov 18 (.t 0)),[14,15,16,17]),
 (un (.nck 19 (.t 18)),[14,15,16,17]),
 (un (.fadr 20 1 (.t 19)),[14,15,16,17]),
 (un (.ld 21 1 false (.t 20)),[14,15,16,17])]
 [un (.iad 22 1 (.t 17) (.t 21)),
 un (.ld 23 1 false (.t 22)),
 un (.cnv 24 .i64 (.t 23)),
 un (.asg 3 (.t 24))])
 .skip)))
def X7:ACode:=
 (.seq (.reg [un (.asg 2 (.c (.int .i64 0)))])
 (.seq (.reg [un (.asg 3 (.c (.int .i64 0)))])
 (.seq (.cut Sl)
 (.drop [4,5,6,7,8,9,10,11,12,13,14,15,16,17,18,19,20,21,22,23,24] (.seq (.reg [un (.mov 25 (.t 0)),
 un (.nck 26 (.t 25)),
 un (.fadr 27 1 (.t 26)),
 un (.ld 28 1 false (.t 27)),
 un (.bin 29 .add (.t 28) (.c (.int .i64 1))),
 un (.nck 30 (.t 25)),
 un (.fadr 31 1 (.t 30)),
 un (.st 1 (.t 31) (.t 29))])
 (.drop [25,26,27,28,29,30,31] (.seq (.reg [un (.mov 32 (.t 0)),
 un (.mov 33 (.t 0)),
 un (.nck 34 (.t 33)),
 un (.fadr 35 2 (.t 34)),
 un (.ld 36 1 false (.t 35)),
 un (.bin 37 .mul (.t 36) (.c (.int .u64 6364136223846793005))),
 un (.mov 38 (.t 3)),
 un (.cnv 39 .u64 (.t 38)),
 un (.bin 40 .add (.t 37) (.t 39)),
 un (.bin 41 .add (.t 40) (.c (.int .u64 550289))),
 un (.nck 42 (.t 32)),
 un (.fadr 43 2 (.t 42)),
 un (.st 1 (.t 43) (.t 41))])
 (.drop [32,33,34,35,36,37,38,39,40,41,42,43] (.seq (.seq (.dreg [(un (.mov 44 (.t 0)),[]),
 (un (.nck 45 (.t 44)),[]),
 (un (.fadr 46 1 (.t 45)),[]),
 (un (.ld 47 1 false (.t 46)),[]),
 (un (.mov 48 (.t 0)),[44,45,46,47]),
 (un (.nck 49 (.t 48)),[44,45,46,47]),
 (un (.fadr 50 0 (.t 49)),[44,45,46,47]),
 (un (.ld 51 1 false (.t 50)),[44,45,46,47]),
 (un (.len 52 (.t 51)),[44,45,46,47])]
 [un (.bin 53 .leq (.t 47) (.t 52))])
 (.drop [44,45,46,47,48,49,50,51,52] (.cond (.t 53) (.seq (.reg [un (.mov 54 (.t 3)),
 un (.asg 2 (.t 54))])
 (.drop [54] .ret))
 .skip)))
 (.drop [44,45,46,47,48,49,50,51,52,53,54] (.seq (.reg [un (.mov 55 (.t 0)),
 un (.nck 56 (.t 55)),
 un (.fadr 57 2 (.t 56)),
 un (.ld 58 1 false (.t 57)),
 un (.bin 59 .shr (.t 58) (.c (.int .u64 40))),
 un (.bin 60 .and (.t 59) (.c (.int .u64 255))),
 un (.cnv 61 .i64 (.t 60)),
 un (.asg 2 (.t 61))])
 (.drop [55,56,57,58,59,60,61] .ret))))))))))))
abbrev Xa:List RS:=[.t 2]
theorem X9:Bh Tryd.prog G7 62 X7 Xa=true:=by kernel_rfl
def Pw:ACode:=
 (.seq (.seq (.reg [un (.mov 11 (.t 5)),
 un (.mov 12 (.t 0)),
 un (.len 13 (.t 12)),
 un (.bin 14 .lss (.t 11) (.t 13))])
 (.drop [11,12,13] (.cond (.t 14) .skip
 (.exit 0))))
 (.drop [11,12,13,14] (.seq (.block 1 (.seq (.dreg [(un (.mov 17 (.t 0)),[]),
 (un (.mov 18 (.t 5)),[17]),
 (un (.iad 19 1 (.t 17) (.t 18)),[]),
 (un (.ld 20 1 false (.t 19)),[]),
 (un (.mov 21 (.t 1)),[17,18,19,20]),
 (un (.mov 22 (.t 5)),[17,18,19,20,21]),
 (un (.iad 23 1 (.t 21) (.t 22)),[17,18,19,20]),
 (un (.ld 24 1 false (.t 23)),[17,18,19,20])]
 [un (.call 25 Fr [((.t 20),false),((.t 24),false)]),
 un (.un 26 .not (.t 25))])
 (.drop [17,18,19,20,21,22,23,24,25] (.cond (.t 26) (.seq (.reg [un (.asg 4 (.c (.bool false)))])
 .ret)
 .skip))))
 (.drop [17,18,19,20,21,22,23,24,25,26] (.reg [un (.mov 15 (.t 5)),
 un (.bin 16 .add (.t 15) (.c (.int .i64 1))),
 un (.asg 5 (.t 16))])))))
def Af1:ACode:=
 (.seq (.reg [un (.asg 4 (.c (.bool false)))])
 (.seq (.seq (.reg [un (.mov 6 (.t 0)),
 un (.len 7 (.t 6)),
 un (.mov 8 (.t 1)),
 un (.len 9 (.t 8)),
 un (.bin 10 .neq (.t 7) (.t 9))])
 (.drop [6,7,8,9] (.cond (.t 10) (.seq (.reg [un (.asg 4 (.c (.bool false)))])
 .ret)
 .skip)))
 (.drop [6,7,8,9,10] (.seq (.seq (.reg [un (.asg 5 (.c (.int .i64 0)))])
 (.block 0 (.loop Pw)))
 (.drop [5,11,12,13,14,17,18,19,20,21,22,23,24,25,26,15,16] (.seq (.reg [un (.asg 4 (.c (.bool true)))])
 .ret))))))
abbrev Agn:List RS:=[.t 4]
theorem Af7:Bh Tryd.prog Pk 27 Af1 Agn=true:=by kernel_rfl
def Aga:ACode:=
 (.seq (.reg [un (.box 2 (.t 0)),
 un (.asg 4 (.c (.bool false)))])
 (.seq (.reg [un (.mov 5 (.t 1)),
 un (.len 6 (.t 5)),
 un (.bin 7 .leq (.t 6) (.c (.int .i64 60))),
 un (.asg 8 (.t 7)),
 ⟨some (8,true),.ld 9 2 true (.t 2)⟩,
 ⟨some (8,true),.mov 10 (.t 1)⟩,
 ⟨some (8,true),.call 11 M1 [((.t 9),false),((.t 10),false),((.c (.int .i64 0)),false)]⟩,
 ⟨some (8,true),.mov 12 (.t 1)⟩,
 ⟨some (8,true),.len 13 (.t 12)⟩,
 ⟨some (8,true),.bin 14 .eql (.t 11) (.t 13)⟩,
 un (.pick 15 (.t 8) (.t 14) (.c (.bool false))),
 un (.asg 4 (.t 15))])
 (.drop [5,6,7,8,9,10,11,12,13,14,15] .ret)))
abbrev Ago:List RS:=[.t 4]
theorem Afg:Bh Tryd.prog Ft 16 Aga Ago=true:=by kernel_rfl
def Ml:ACode:=
 (.seq (.reg [un (.bin 17 .lss (.t 16) (.t 15))])
 (.seq (.cond (.t 17) .skip
 (.exit 0))
 (.seq (.block 1 (.seq (.reg [un (.iad 18 1 (.t 14) (.t 16)),
 un (.ld 19 1 false (.t 18)),
 un (.asg 11 (.t 19))])
 (.drop [18,19] (.seq (.seq (.reg [un (.mov 20 (.t 9)),
 un (.mov 21 (.t 2)),
 un (.len 22 (.t 21)),
 un (.bin 23 .geq (.t 20) (.t 22))])
 (.drop [20,21,22] (.cond (.t 23) (.seq (.reg [un (.asg 6 (.c (.nilsl 1))),
 un (.asg 7 (.c (.bool false)))])
 .ret)
 .skip)))
 (.drop [20,21,22,23] (.seq (.seq (.reg [un (.mov 24 (.t 11)),
 un (.bin 25 .lss (.t 24) (.c (.int .i64 0)))])
 (.drop [24] (.cond (.t 25) (.seq (.seq (.reg [un (.mov 26 (.t 2)),
 un (.mov 27 (.t 9)),
 un (.iad 28 1 (.t 26) (.t 27)),
 un (.ld 29 1 false (.t 28)),
 un (.mov 30 (.t 11)),
 un (.bin 31 .neq (.t 29) (.t 30))])
 (.drop [26,27,28,29,30] (.cond (.t 31) (.seq (.reg [un (.asg 6 (.c (.nilsl 1))),
 un (.asg 7 (.c (.bool false)))])
 .ret)
 .skip)))
 (.drop [26,27,28,29,30,31] (.seq (.reg [un (.mov 32 (.t 9)),
 un (.bin 33 .add (.t 32) (.c (.int .i64 1))),
 un (.asg 9 (.t 33))])
 (.drop [32,33] (.exit 1)))))
 .skip)))
 (.drop [24,25,26,27,28,29,30,31,32,33] (.seq (.reg [un (.ld 34 2 true (.t 3)),
 un (.mov 35 (.t 2)),
 un (.mov 36 (.t 9)),
 un (.call 37 M1 [((.t 34),false),((.t 35),false),((.t 36),false)]),
 un (.asg 12 (.t 37))])
 (.drop [34,35,36,37] (.seq (.seq (.reg [un (.mov 38 (.t 8)),
 un (.mov 39 (.t 11)),
 un (.iad 40 1 (.t 38) (.t 39)),
 un (.ld 41 1 false (.t 40)),
 un (.nilq 42 false (.t 41))])
 (.drop [38,39,40,41] (.cond (.t 42) (.reg [un (.mov 43 (.t 8)),
 un (.mov 44 (.t 11)),
 un (.mov 45 (.t 2)),
 un (.mov 46 (.t 9)),
 un (.mov 47 (.t 12)),
 un (.slc 48 1 (.t 45) (some (.t 46)) (some (.t 47))),
 un (.call 49 Rc [((.t 48),false)]),
 un (.iad 50 1 (.t 43) (.t 44)),
 un (.st 1 (.t 50) (.t 49))])
 (.seq (.dreg [(un (.mov 51 (.t 8)),[]),
 (un (.mov 52 (.t 11)),[51]),
 (un (.iad 53 1 (.t 51) (.t 52)),[]),
 (un (.ld 54 1 false (.t 53)),[]),
 (un (.mov 55 (.t 2)),[51,52,53,54]),
 (un (.mov 56 (.t 9)),[51,52,53,54,55]),
 (un (.mov 57 (.t 12)),[51,52,53,54,55,56]),
 (un (.slc 58 1 (.t 55) (some (.t 56)) (some (.t 57))),[51,52,53,54])]
 [un (.call 59 Ma [((.t 54),false),((.t 58),false)]),
 un (.un 60 .not (.t 59))])
 (.drop [51,52,53,54,55,56,57,58,59] (.cond (.t 60) (.seq (.reg [un (.asg 6 (.c (.nilsl 1))),
 un (.asg 7 (.c (.bool false)))])
 .ret)
 .skip))))))
 (.drop [38,39,40,41,42,43,44,45,46,47,48,49,50,51,52,53,54,55,56,57,58,59,60] (.reg [un (.mov 61 (.t 12)),
 un (.asg 9 (.t 61))]))))))))))))
 (.drop [18,19,11,20,21,22,23,24,25,26,27,28,29,30,31,32,33,34,35,36,37,12,38,39,40,41,42,43,44,45,46,47,48,49,50,51,52,53,54,55,56,57,58,59,60,61] (.reg [un (.bin 62 .add (.t 16) (.c (.int .i64 1))),
 un (.asg 16 (.t 62))])))))
def Zi:ACode:=
 (.seq (.reg [un (.box 3 (.t 0)),
 un (.asg 6 (.c (.nilsl 1))),
 un (.asg 7 (.c (.bool false)))])
 (.seq (.reg [un (.mk 13 1 (.nl 1) (.c (.int .i64 6))),
 un (.asg 8 (.t 13))])
 (.drop [13] (.seq (.reg [un (.asg 9 (.c (.int .i64 0)))])
 (.seq (.seq (.reg [un (.mov 14 (.t 1)),
 un (.len 15 (.t 14)),
 un (.mov 16 (.c (.int .i64 0)))])
 (.block 0 (.loop Ml)))
 (.drop [14,15,16,17,18,19,11,20,21,22,23,24,25,26,27,28,29,30,31,32,33,34,35,36,37,12,38,39,40,41,42,43,44,45,46,47,48,49,50,51,52,53,54,55,56,57,58,59,60,61,62] (.seq (.reg [un (.mov 63 (.t 8)),
 un (.mov 64 (.t 9)),
 un (.mov 65 (.t 2)),
 un (.len 66 (.t 65)),
 un (.bin 67 .eql (.t 64) (.t 66)),
 un (.asg 6 (.t 63)),
 un (.asg 7 (.t 67))])
 (.drop [63,64,65,66,67] .ret))))))))
abbrev Zm:List RS:=[.t 6,.t 7]
theorem Aah:Bh Tryd.prog Ku 68 Zi Zm=true:=by kernel_rfl
def Vj:ACode:=
 (.seq (.reg [un (.asg 4 (.c (.int .i64 0)))])
 (.seq (.block 0 (.seq (.reg [un (.mov 6 (.t 0)),
 un (.len 7 (.t 6)),
 un (.mov 8 (.t 1)),
 un (.len 9 (.t 8)),
 un (.bin 10 .lss (.t 7) (.t 9)),
 un (.asg 5 (.t 10))])
 (.drop [6,7,8,9,10] (.cond (.t 5) (.seq (.reg [un (.asg 4 (.c (.int .i64 (-1))))])
 .ret)
 (.seq (.reg [un (.mov 12 (.t 0)),
 un (.len 13 (.t 12)),
 un (.mov 14 (.t 1)),
 un (.len 15 (.t 14)),
 un (.bin 16 .gtr (.t 13) (.t 15)),
 un (.asg 11 (.t 16))])
 (.drop [12,13,14,15,16] (.cond (.t 11) (.seq (.reg [un (.asg 4 (.c (.int .i64 1)))])
 .ret)
 .skip)))))))
 (.drop [6,7,8,9,10,5,12,13,14,15,16,11] (.seq (.reg [un (.mov 17 (.t 0)),
 un (.mov 18 (.t 1)),
 un (.call 19 Id [((.t 17),false),((.t 18),false)]),
 un (.asg 4 (.t 19))])
 (.drop [17,18,19] .ret)))))
abbrev U0:List RS:=[.t 4]
theorem Vq:Bh Tryd.prog Ig 20 Vj U0=true:=by kernel_rfl
def Acf:ACode:=
 (.seq (.reg [un (.asg 4 (.c (.bool false)))])
 (.seq (.seq (.reg [un (.mov 5 (.t 0)),
 un (.len 6 (.t 5)),
 un (.mov 7 (.t 1)),
 un (.len 8 (.t 7)),
 un (.bin 9 .neq (.t 6) (.t 8))])
 (.drop [5,6,7,8] (.cond (.t 9) (.seq (.reg [un (.mov 10 (.t 0)),
 un (.len 11 (.t 10)),
 un (.mov 12 (.t 1)),
 un (.len 13 (.t 12)),
 un (.bin 14 .lss (.t 11) (.t 13)),
 un (.asg 4 (.t 14))])
 (.drop [10,11,12,13,14] .ret))
 .skip)))
 (.drop [5,6,7,8,9,10,11,12,13,14] (.seq (.reg [un (.mov 15 (.t 0)),
 un (.mov 16 (.t 1)),
 un (.call 17 Pm [((.t 15),false),((.t 16),false)]),
 un (.asg 4 (.t 17))])
 (.drop [15,16,17] .ret)))))
abbrev Abu:List RS:=[.t 4]
theorem Abo:Bh Tryd.prog I0 18 Acf Abu=true:=by kernel_rfl
def Ue:ACode:=
 (.seq (.reg [un (.mov 42 (.t 10)),
 un (.bin 43 .eql (.t 42) (.c (.int .i64 0)))])
 (.drop [42] (.cond (.t 43) (.reg [un (.mov 44 (.t 0)),
 ⟨none,.call 45 Bv [((.t 44),true),((.c (.str ⟨#[40]⟩)),false)]⟩])
 (.reg [un (.mov 46 (.t 0)),
 ⟨none,.call 47 Bv [((.t 46),true),((.c (.str ⟨#[44]⟩)),false)]⟩]))))
def Mr:ACode:=
 (.seq (.seq (.reg [un (.mov 31 (.t 10)),
 un (.fadr 32 1 (.t 5)),
 un (.ld 33 1 false (.t 32)),
 un (.mov 34 (.t 9)),
 un (.bin 35 .sub (.c (.int .i64 (-1))) (.t 34)),
 un (.iad 36 2 (.t 33) (.t 35)),
 un (.fadr 37 0 (.t 36)),
 un (.ld 38 1 false (.t 37)),
 un (.bin 39 .lss (.t 31) (.t 38))])
 (.drop [31,32,33,34,35,36,37,38] (.cond (.t 39) .skip
 (.exit 0))))
 (.drop [31,32,33,34,35,36,37,38,39] (.seq (.block 1 (.seq (.cut Ue)
 (.drop [42,43,44,45,46,47] (.seq (.reg [un (.mov 48 (.t 0)),
 un (.ld 49 2 true (.t 5)),
 un (.mov 50 (.t 2)),
 un (.mov 51 (.t 3)),
 un (.call 52 C6 [((.t 48),true),((.t 49),false),((.t 50),false),((.t 51),false)]),
 un (.asg 3 (.t 52))])
 (.drop [48,49,50,51,52] (.seq (.reg [un (.mov 53 (.t 10)),
 un (.fadr 54 1 (.t 5)),
 un (.ld 55 1 false (.t 54)),
 un (.mov 56 (.t 9)),
 un (.bin 57 .sub (.c (.int .i64 (-1))) (.t 56)),
 un (.iad 58 2 (.t 55) (.t 57)),
 un (.fadr 59 0 (.t 58)),
 un (.ld 60 1 false (.t 59)),
 un (.bin 61 .sub (.t 60) (.c (.int .i64 1))),
 un (.bin 62 .eql (.t 53) (.t 61))])
 (.drop [53,54,55,56,57,58,59,60,61] (.cond (.t 62) (.reg [un (.mov 63 (.t 0)),
 ⟨none,.call 64 Bv [((.t 63),true),((.c (.str ⟨#[41]⟩)),false)]⟩])
 .skip))))))))
 (.drop [42,43,44,45,46,47,48,49,50,51,52,53,54,55,56,57,58,59,60,61,62,63,64] (.reg [un (.mov 40 (.t 10)),
 un (.bin 41 .add (.t 40) (.c (.int .i64 1))),
 un (.asg 10 (.t 41))])))))
def Zv:ACode:=
 (.seq (.reg [un (.box 5 (.t 1)),
 un (.asg 8 (.c (.int .i64 0)))])
 (.seq (.reg [un (.mov 11 (.t 2)),
 un (.mov 12 (.t 3)),
 un (.iad 13 1 (.t 11) (.t 12)),
 un (.ld 14 1 false (.t 13)),
 un (.asg 9 (.t 14))])
 (.drop [11,12,13,14] (.seq (.reg [un (.mov 15 (.t 3)),
 un (.bin 16 .add (.t 15) (.c (.int .i64 1))),
 un (.asg 3 (.t 16))])
 (.drop [15,16] (.seq (.seq (.reg [un (.mov 17 (.t 9)),
 un (.bin 18 .geq (.t 17) (.c (.int .i64 0)))])
 (.drop [17] (.cond (.t 18) (.seq (.reg [un (.mov 19 (.t 0)),
 un (.mov 20 (.t 9)),
 un (.call 21 Ns [((.t 20),false)]),
 ⟨none,.bin 22 .add (.c (.str ⟨#[120]⟩)) (.t 21)⟩,
 un (.call 23 Bv [((.t 19),true),((.t 22),false)])])
 (.drop [19,20,21,22,23] (.seq (.reg [un (.mov 24 (.t 3)),
 un (.asg 8 (.t 24))])
 (.drop [24] .ret))))
 .skip)))
 (.drop [17,18,19,20,21,22,23,24] (.seq (.reg [un (.mov 25 (.t 0)),
 un (.mov 26 (.t 9)),
 un (.bin 27 .sub (.c (.int .i64 (-1))) (.t 26)),
 un (.call 28 Ns [((.t 27),false)]),
 ⟨none,.bin 29 .add (.c (.str ⟨#[102]⟩)) (.t 28)⟩,
 un (.call 30 Bv [((.t 25),true),((.t 29),false)])])
 (.drop [25,26,27,28,29,30] (.seq (.seq (.reg [un (.asg 10 (.c (.int .i64 0)))])
 (.block 0 (.loop Mr)))
 (.drop [10,31,32,33,34,35,36,37,38,39,42,43,44,45,46,47,48,49,50,51,52,53,54,55,56,57,58,59,60,61,62,63,64,40,41] (.seq (.reg [un (.mov 65 (.t 3)),
 un (.asg 8 (.t 65))])
 (.drop [65] .ret)))))))))))))
abbrev Y9:List RS:=[.t 8]
theorem Z1:Bh Tryd.prog C6 66 Zv Y9=true:=by kernel_rfl
def Al9:ACode:=
 (.seq (.reg [un (.box 2 (.t 0)),
 un (.asg 4 (.c (.bool false)))])
 (.seq (.dreg [(un (.fadr 5 0 (.t 2)),[]),
 (un (.ld 6 1 false (.t 5)),[]),
 (un (.bin 7 .geq (.t 6) (.c (.int .i64 0))),[]),
 (un (.asg 8 (.t 7)),[]),
 (⟨some (8,true),.fadr 9 0 (.t 2)⟩,[7]),
 (⟨some (8,true),.ld 10 1 false (.t 9)⟩,[7]),
 (⟨some (8,true),.bin 11 .leq (.t 10) (.c (.int .i64 3))⟩,[7]),
 (un (.pick 12 (.t 8) (.t 11) (.c (.bool false))),[7]),
 (un (.asg 13 (.t 12)),[7]),
 (⟨some (13,true),.fadr 14 1 (.t 2)⟩,[7,12]),
 (⟨some (13,true),.ld 15 1 false (.t 14)⟩,[7,12]),
 (⟨some (13,true),.len 16 (.t 15)⟩,[7,12]),
 (⟨some (13,true),.mov 17 (.t 1)⟩,[14,15,16,7,12]),
 (⟨some (13,true),.fadr 18 0 (.t 2)⟩,[14,15,16,17,7,12]),
 (⟨some (13,true),.ld 19 1 false (.t 18)⟩,[14,15,16,17,7,12]),
 (⟨some (13,true),.call 20 Ri [((.t 17),false),((.t 19),false)]⟩,[14,15,16,7,12]),
 (⟨some (13,true),.bin 21 .eql (.t 16) (.t 20)⟩,[7,12]),
 (un (.pick 22 (.t 13) (.t 21) (.c (.bool false))),[7,12]),
 (un (.asg 23 (.t 22)),[7,12]),
 (⟨some (23,true),.fadr 24 1 (.t 2)⟩,[7,12,22]),
 (⟨some (23,true),.ld 25 1 false (.t 24)⟩,[7,12,22]),
 (⟨some (23,true),.mov 26 (.t 1)⟩,[24,25,7,12,22])]
 [⟨some (23,true),.call 27 Pi [((.t 25),false),((.t 26),false)]⟩,
 un (.pick 28 (.t 23) (.t 27) (.c (.bool false))),
 un (.asg 4 (.t 28))])
 (.drop [5,6,7,8,9,10,11,12,13,14,15,16,17,18,19,20,21,22,23,24,25,26,27,28] .ret)))
abbrev Aj5:List RS:=[.t 4]
theorem Alr:Bh Tryd.prog Tg 29 Al9 Aj5=true:=by kernel_rfl
def Aea:ACode:=
 (.seq (.reg [un (.alc 2 (.agg [.int .i64 0,.nilsl 2]))])
 (.seq (.seq (.reg [un (.mov 3 (.t 0))])
 (.block 0 (.seq (.reg [un (.bin 5 .eql (.t 3) (.c (.int .i64 0))),
 un (.asg 4 (.t 5))])
 (.drop [5] (.cond (.t 4) (.seq (.reg [⟨none,.call 6 Bf [((.c (.str ⟨#[48,48,48,49]⟩)),false)]⟩,
 un (.bsl 7 2 [(.t 6)]),
 un (.bld 8 [.int .i64 0,.nilsl 2] [(0,1,(.c (.int .i64 2))),(1,1,(.t 7))]),
 un (.st 2 (.t 2) (.t 8))])
 (.drop [6,7,8] .ret))
 (.seq (.reg [un (.bin 10 .eql (.t 3) (.c (.int .i64 1))),
 un (.asg 9 (.t 10))])
 (.drop [10] (.cond (.t 9) (.seq (.reg [⟨none,.call 11 Bf [((.c (.str ⟨#[48,48,48,49]⟩)),false)]⟩,
 ⟨none,.call 12 Bf [((.c (.str ⟨#[48,49,49,49]⟩)),false)]⟩,
 un (.bsl 13 2 [(.t 11),(.t 12)]),
 un (.bld 14 [.int .i64 0,.nilsl 2] [(0,1,(.c (.int .i64 2))),(1,1,(.t 13))]),
 un (.st 2 (.t 2) (.t 14))])
 (.drop [11,12,13,14] .ret))
 (.seq (.reg [un (.bin 16 .eql (.t 3) (.c (.int .i64 2))),
 un (.asg 15 (.t 16))])
 (.drop [16] (.cond (.t 15) (.seq (.reg [⟨none,.call 17 Bf [((.c (.str ⟨#[48,48,48,49]⟩)),false)]⟩,
 ⟨none,.call 18 Bf [((.c (.str ⟨#[48,49,49,49]⟩)),false)]⟩,
 un (.bsl 19 1 [(.c (.int .i64 1)),(.c (.int .i64 0))]),
 un (.bld 20 [.int .i64 0,.nilsl 1] [(0,1,(.c (.int .i64 1))),(1,1,(.t 19))]),
 un (.bsl 21 2 [(.t 17),(.t 18),(.t 20)]),
 un (.bld 22 [.int .i64 0,.nilsl 2] [(0,1,(.c (.int .i64 2))),(1,1,(.t 21))]),
 un (.st 2 (.t 2) (.t 22))])
 (.drop [17,18,19,20,21,22] .ret))
 (.seq (.reg [un (.bin 24 .eql (.t 3) (.c (.int .i64 3))),
 un (.asg 23 (.t 24))])
 (.drop [24] (.cond (.t 23) (.seq (.reg [un (.call 25 I1 [((.c (.int .i64 2)),false)]),
 un (.bsl 26 2 [(.t 25)]),
 un (.bld 27 [.int .i64 0,.nilsl 2] [(0,1,(.c (.int .i64 2))),(1,1,(.t 26))]),
 un (.st 2 (.t 2) (.t 27))])
 (.drop [25,26,27] .ret))
 (.seq (.reg [un (.bin 29 .eql (.t 3) (.c (.int .i64 4))),
 un (.asg 28 (.t 29))])
 (.drop [29] (.cond (.t 28) (.seq (.reg [⟨none,.call 30 Bf [((.c (.str ⟨#[48,49,50,49,50,48,50,48,49]⟩)),false)]⟩,
 un (.bsl 31 2 [(.t 30)]),
 un (.bld 32 [.int .i64 0,.nilsl 2] [(0,1,(.c (.int .i64 3))),(1,1,(.t 31))]),
 un (.st 2 (.t 2) (.t 32))])
 (.drop [30,31,32] .ret))
 (.seq (.reg [un (.bin 34 .eql (.t 3) (.c (.int .i64 5))),
 un (.asg 33 (.t 34))])
 (.drop [34] (.cond (.t 33) (.seq (.reg [⟨none,.call 35 Bf [((.c (.str ⟨#[48,49,48,49,49,50,48,50,50]⟩)),false)]⟩,
 un (.bsl 36 2 [(.t 35)]),
 un (.bld 37 [.int .i64 0,.nilsl 2] [(0,1,(.c (.int .i64 3))),(1,1,(.t 36))]),
 un (.st 2 (.t 2) (.t 37))])
 (.drop [35,36,37] .ret))
 (.seq (.reg [un (.bin 39 .eql (.t 3) (.c (.int .i64 6))),
 un (.asg 38 (.t 39))])
 (.drop [39] (.cond (.t 38) (.seq (.reg [⟨none,.call 40 Bf [((.c (.str ⟨#[48,49,50,51,49,48,51,50,50,51,48,49,51,50,49,48]⟩)),false)]⟩,
 un (.bsl 41 2 [(.t 40)]),
 un (.bld 42 [.int .i64 0,.nilsl 2] [(0,1,(.c (.int .i64 4))),(1,1,(.t 41))]),
 un (.st 2 (.t 2) (.t 42))])
 (.drop [40,41,42] .ret))
 (.seq (.reg [un (.bin 44 .eql (.t 3) (.c (.int .i64 7))),
 un (.asg 43 (.t 44))])
 (.drop [44] (.cond (.t 43) (.seq (.reg [⟨none,.call 45 Bf [((.c (.str ⟨#[48,48,48,48,49,49,48,49,50]⟩)),false)]⟩,
 ⟨none,.call 46 Bf [((.c (.str ⟨#[48,49,50,49,49,50,50,50,50]⟩)),false)]⟩,
 un (.bsl 47 2 [(.t 45),(.t 46)]),
 un (.bld 48 [.int .i64 0,.nilsl 2] [(0,1,(.c (.int .i64 3))),(1,1,(.t 47))]),
 un (.st 2 (.t 2) (.t 48))])
 (.drop [45,46,47,48] .ret))
 (.seq (.reg [un (.bin 50 .eql (.t 3) (.c (.int .i64 8))),
 un (.asg 49 (.t 50))])
 (.drop [50] (.cond (.t 49) (.seq (.reg [un (.bsl 51 1 [(.c (.int .i64 1)),(.c (.int .i64 2)),(.c (.int .i64 3)),(.c (.int .i64 0))]),
 un (.bld 52 [.int .i64 0,.nilsl 1] [(0,1,(.c (.int .i64 1))),(1,1,(.t 51))]),
 un (.bsl 53 2 [(.t 52)]),
 un (.bld 54 [.int .i64 0,.nilsl 2] [(0,1,(.c (.int .i64 4))),(1,1,(.t 53))]),
 un (.st 2 (.t 2) (.t 54))])
 (.drop [51,52,53,54] .ret))
 (.seq (.reg [un (.bin 56 .eql (.t 3) (.c (.int .i64 9))),
 un (.asg 55 (.t 56))])
 (.drop [56] (.cond (.t 55) (.seq (.reg [un (.bsl 57 1 [(.c (.int .i64 0)),(.c (.int .i64 0)),(.c (.int .i64 0)),(.c (.int .i64 1)),(.c (.int .i64 0)),(.c (.int .i64 1)),(.c (.int .i64 1)),(.c (.int .i64 1))]),
 un (.bld 58 [.int .i64 0,.nilsl 1] [(0,1,(.c (.int .i64 3))),(1,1,(.t 57))]),
 un (.bsl 59 2 [(.t 58)]),
 un (.bld 60 [.int .i64 0,.nilsl 2] [(0,1,(.c (.int .i64 2))),(1,1,(.t 59))]),
 un (.st 2 (.t 2) (.t 60))])
 (.drop [57,58,59,60] .ret))
 (.seq (.reg [un (.bin 62 .eql (.t 3) (.c (.int .i64 10))),
 un (.asg 61 (.t 62))])
 (.drop [62] (.cond (.t 61) (.seq (.reg [⟨none,.call 63 Bf [((.c (.str ⟨#[48,48,48,49,49,49,50,50,50]⟩)),false)]⟩,
 un (.bsl 64 2 [(.t 63)]),
 un (.bld 65 [.int .i64 0,.nilsl 2] [(0,1,(.c (.int .i64 3))),(1,1,(.t 64))]),
 un (.st 2 (.t 2) (.t 65))])
 (.drop [63,64,65] .ret))
 (.seq (.reg [un (.bin 67 .eql (.t 3) (.c (.int .i64 11))),
 un (.asg 66 (.t 67))])
 (.drop [67] (.cond (.t 66) (.seq (.reg [⟨none,.call 68 Bf [((.c (.str ⟨#[48,48,48,48,48,48,49,48,48,49,48,48,50,48,50,48,48,48,51,51,48,49,50,51,52]⟩)),false)]⟩,
 ⟨none,.call 69 Bf [((.c (.str ⟨#[48,49,50,51,52,49,49,52,52,52,50,52,50,52,52,51,52,52,51,52,52,52,52,52,52]⟩)),false)]⟩,
 un (.bsl 70 2 [(.t 68),(.t 69)]),
 un (.bld 71 [.int .i64 0,.nilsl 2] [(0,1,(.c (.int .i64 5))),(1,1,(.t 70))]),
 un (.st 2 (.t 2) (.t 71))])
 (.drop [68,69,70,71] .ret))
 (.seq (.reg [un (.bin 73 .eql (.t 3) (.c (.int .i64 12))),
 un (.asg 72 (.t 73))])
 (.drop [73] (.cond (.t 72) (.seq (.reg [⟨none,.call 74 Bf [((.c (.str ⟨#[48,49,50,51,49,50,51,48,50,51,48,49,51,48,49,50]⟩)),false)]⟩,
 un (.bsl 75 2 [(.t 74)]),
 un (.bld 76 [.int .i64 0,.nilsl 2] [(0,1,(.c (.int .i64 4))),(1,1,(.t 75))]),
 un (.st 2 (.t 2) (.t 76))])
 (.drop [74,75,76] .ret))
 (.seq (.reg [un (.bin 78 .eql (.t 3) (.c (.int .i64 13))),
 un (.asg 77 (.t 78))])
 (.drop [78] (.cond (.t 77) (.seq (.reg [un (.bsl 79 1 [(.c (.int .i64 0)),(.c (.int .i64 0)),(.c (.int .i64 1))]),
 un (.bld 80 [.int .i64 0,.nilsl 1] [(0,1,(.c (.int .i64 1))),(1,1,(.t 79))]),
 un (.bsl 81 1 [(.c (.int .i64 2))]),
 un (.bld 82 [.int .i64 0,.nilsl 1] [(0,1,(.c (.int .i64 0))),(1,1,(.t 81))]),
 un (.bsl 83 2 [(.t 80),(.t 82)]),
 un (.bld 84 [.int .i64 0,.nilsl 2] [(0,1,(.c (.int .i64 3))),(1,1,(.t 83))]),
 un (.st 2 (.t 2) (.t 84))])
 (.drop [79,80,81,82,83,84] .ret))
 (.seq (.reg [un (.bin 86 .eql (.t 3) (.c (.int .i64 14))),
 un (.asg 85 (.t 86))])
 (.drop [86] (.cond (.t 85) (.seq (.reg [⟨none,.call 87 Bf [((.c (.str ⟨#[48]⟩)),false)]⟩,
 un (.bsl 88 2 [(.t 87)]),
 un (.bld 89 [.int .i64 0,.nilsl 2] [(0,1,(.c (.int .i64 1))),(1,1,(.t 88))]),
 un (.st 2 (.t 2) (.t 89))])
 (.drop [87,88,89] .ret))
 (.seq (.reg [un (.bin 91 .eql (.t 3) (.c (.int .i64 15))),
 un (.asg 90 (.t 91))])
 (.drop [91] (.cond (.t 90) (.seq (.reg [un (.call 92 I1 [((.c (.int .i64 3)),false)]),
 un (.bsl 93 2 [(.t 92)]),
 un (.bld 94 [.int .i64 0,.nilsl 2] [(0,1,(.c (.int .i64 3))),(1,1,(.t 93))]),
 un (.st 2 (.t 2) (.t 94))])
 (.drop [92,93,94] .ret))
 .skip))))))))))))))))))))))))))))))))))))))))))))))))))
 (.drop [3,5,4,6,7,8,10,9,11,12,13,14,16,15,17,18,19,20,21,22,24,23,25,26,27,29,28,30,31,32,34,33,35,36,37,39,38,40,41,42,44,43,45,46,47,48,50,49,51,52,53,54,56,55,57,58,59,60,62,61,63,64,65,67,66,68,69,70,71,73,72,74,75,76,78,77,79,80,81,82,83,84,86,85,87,88,89,91,90,92,93,94] (.seq (.reg [un (.bld 95 [.int .i64 0,.nilsl 2] [(0,1,(.c (.int .i64 2)))]),
 un (.st 2 (.t 2) (.t 95))])
 (.drop [95] .ret)))))
abbrev Ad6:List RS:=[.c 2 2 true]
theorem Adf:Bh Tryd.prog Nv 96 Aea Ad6=true:=by kernel_rfl
def Xr:ACode:=
 (.seq (.reg [un (.asg 4 (.c (.int .i64 0)))])
 (.seq (.seq (.reg [un (.mov 6 (.t 1)),
 un (.bin 7 .leq (.t 6) (.c (.int .i64 1)))])
 (.drop [6] (.cond (.t 7) (.seq (.reg [un (.asg 4 (.c (.int .i64 0)))])
 .ret)
 .skip)))
 (.drop [6,7] (.seq (.reg [un (.mov 8 (.t 0)),
 un (.call 9 G7 [((.t 8),true)]),
 un (.asg 5 (.t 9))])
 (.drop [8,9] (.seq (.seq (.reg [un (.mov 10 (.t 1)),
 un (.bin 11 .gtr (.t 10) (.c (.int .i64 200)))])
 (.drop [10] (.cond (.t 11) (.reg [un (.mov 12 (.t 5)),
 un (.bin 13 .mul (.t 12) (.c (.int .i64 256))),
 un (.mov 14 (.t 0)),
 un (.call 15 G7 [((.t 14),true)]),
 un (.bin 16 .add (.t 13) (.t 15)),
 un (.asg 5 (.t 16))])
 .skip)))
 (.drop [10,11,12,13,14,15,16] (.seq (.reg [un (.mov 17 (.t 5)),
 un (.mov 18 (.t 1)),
 un (.bin 19 .rem (.t 17) (.t 18)),
 un (.asg 4 (.t 19))])
 (.drop [17,18,19] .ret)))))))))
abbrev Yr:List RS:=[.t 4]
theorem Yc:Bh Tryd.prog Ao 20 Xr Yr=true:=by kernel_rfl
def Ry:ACode:=
 (.seq (.seq (.reg [un (.mov 10 (.t 8)),
 un (.mov 11 (.t 1)),
 un (.len 12 (.t 11)),
 un (.bin 13 .lss (.t 10) (.t 12))])
 (.drop [10,11,12] (.cond (.t 13) .skip
 (.exit 0))))
 (.drop [10,11,12,13] (.seq (.block 1 (.seq (.reg [un (.mov 16 (.t 7)),
 un (.bin 17 .sub (.t 16) (.c (.int .i64 1))),
 un (.asg 7 (.t 17))])
 (.drop [16,17] (.seq (.seq (.reg [un (.mov 18 (.t 1)),
 un (.mov 19 (.t 8)),
 un (.iad 20 1 (.t 18) (.t 19)),
 un (.ld 21 1 false (.t 20)),
 un (.bin 22 .lss (.t 21) (.c (.int .i64 0)))])
 (.drop [18,19,20,21] (.cond (.t 22) (.seq (.seq (.dreg [(un (.mov 23 (.t 1)),[]),
 (un (.mov 24 (.t 8)),[23]),
 (un (.iad 25 1 (.t 23) (.t 24)),[]),
 (un (.ld 26 1 false (.t 25)),[]),
 (un (.fadr 27 1 (.t 3)),[23,24,25,26]),
 (un (.ld 28 1 false (.t 27)),[23,24,25,26]),
 (un (.len 29 (.t 28)),[23,24,25,26]),
 (un (.un 30 .neg (.t 29)),[23,24,25,26])]
 [un (.call 31 Jb [((.t 26),false),((.t 30),false),((.c (.int .i64 (-1))),false)]),
 un (.un 32 .not (.t 31))])
 (.drop [23,24,25,26,27,28,29,30,31] (.cond (.t 32) (.seq (.reg [un (.asg 6 (.c (.int .i64 (-1))))])
 .ret)
 .skip)))
 (.drop [23,24,25,26,27,28,29,30,31,32] (.dreg [(un (.mov 33 (.t 7)),[]),
 (un (.fadr 34 1 (.t 3)),[33]),
 (un (.ld 35 1 false (.t 34)),[33]),
 (un (.mov 36 (.t 1)),[33,34,35]),
 (un (.mov 37 (.t 8)),[33,34,35,36]),
 (un (.iad 38 1 (.t 36) (.t 37)),[33,34,35]),
 (un (.ld 39 1 false (.t 38)),[33,34,35]),
 (un (.bin 40 .sub (.c (.int .i64 (-1))) (.t 39)),[33,34,35]),
 (un (.iad 41 2 (.t 35) (.t 40)),[33]),
 (un (.fadr 42 0 (.t 41)),[33]),
 (un (.ld 43 1 false (.t 42)),[33])]
 [un (.bin 44 .add (.t 33) (.t 43)),
 un (.asg 7 (.t 44))])))
 (.seq (.reg [un (.mov 45 (.t 1)),
 un (.mov 46 (.t 8)),
 un (.iad 47 1 (.t 45) (.t 46)),
 un (.ld 48 1 false (.t 47)),
 un (.bin 49 .geq (.t 48) (.c (.int .i64 6)))])
 (.drop [45,46,47,48] (.cond (.t 49) (.seq (.reg [un (.asg 6 (.c (.int .i64 (-1))))])
 .ret)
 .skip))))))
 (.drop [18,19,20,21,22,23,24,25,26,27,28,29,30,31,32,33,34,35,36,37,38,39,40,41,42,43,44,45,46,47,48,49] (.seq (.reg [un (.mov 50 (.t 7)),
 un (.bin 51 .eql (.t 50) (.c (.int .i64 0)))])
 (.drop [50] (.cond (.t 51) (.seq (.reg [un (.mov 52 (.t 8)),
 un (.bin 53 .add (.t 52) (.c (.int .i64 1))),
 un (.asg 6 (.t 53))])
 (.drop [52,53] .ret))
 .skip))))))))
 (.drop [16,17,18,19,20,21,22,23,24,25,26,27,28,29,30,31,32,33,34,35,36,37,38,39,40,41,42,43,44,45,46,47,48,49,50,51,52,53] (.reg [un (.mov 14 (.t 8)),
 un (.bin 15 .add (.t 14) (.c (.int .i64 1))),
 un (.asg 8 (.t 15))])))))
def Aim:ACode:=
 (.seq (.reg [un (.box 3 (.t 0)),
 un (.asg 6 (.c (.int .i64 0)))])
 (.seq (.reg [un (.asg 7 (.c (.int .i64 1)))])
 (.seq (.seq (.reg [un (.mov 9 (.t 2)),
 un (.asg 8 (.t 9))])
 (.drop [9] (.block 0 (.loop Ry))))
 (.drop [9,8,10,11,12,13,16,17,18,19,20,21,22,23,24,25,26,27,28,29,30,31,32,33,34,35,36,37,38,39,40,41,42,43,44,45,46,47,48,49,50,51,52,53,14,15] (.seq (.reg [un (.asg 6 (.c (.int .i64 (-1))))])
 .ret)))))
abbrev Ai8:List RS:=[.t 6]
theorem Aio:Bh Tryd.prog Hw 54 Aim Ai8=true:=by kernel_rfl
def Aei:ACode:=
 (.seq (.dreg [(un (.fadr 6 0 (.t 3)),[]),
 (un (.ld 7 1 false (.t 6)),[]),
 (un (.call 8 Jb [((.t 7),false),((.c (.int .i64 0)),false),((.c (.int .i64 3)),false)]),[]),
 (un (.un 9 .not (.t 8)),[]),
 (un (.asg 10 (.t 9)),[]),
 (⟨some (10,false),.fadr 11 1 (.t 3)⟩,[9]),
 (⟨some (10,false),.ld 12 1 false (.t 11)⟩,[9]),
 (⟨some (10,false),.len 13 (.t 12)⟩,[9]),
 (⟨some (10,false),.mov 14 (.t 0)⟩,[11,12,13,9]),
 (⟨some (10,false),.fadr 15 0 (.t 3)⟩,[11,12,13,14,9]),
 (⟨some (10,false),.ld 16 1 false (.t 15)⟩,[11,12,13,14,9]),
 (⟨some (10,false),.call 17 M4 [((.t 14),false),((.t 16),false)]⟩,[11,12,13,9])]
 [⟨some (10,false),.bin 18 .neq (.t 13) (.t 17)⟩,
 un (.pick 19 (.t 10) (.c (.bool true)) (.t 18))])
 (.drop [6,7,8,9,10,11,12,13,14,15,16,17,18] (.cond (.t 19) (.seq (.reg [un (.asg 4 (.c (.bool false)))])
 .ret)
 .skip)))
def Ss:ACode:=
 (.seq (.seq (.reg [un (.mov 20 (.t 5)),
 un (.fadr 21 1 (.t 3)),
 un (.ld 22 1 false (.t 21)),
 un (.len 23 (.t 22)),
 un (.bin 24 .lss (.t 20) (.t 23))])
 (.drop [20,21,22,23] (.cond (.t 24) .skip
 (.exit 0))))
 (.drop [20,21,22,23,24] (.seq (.block 1 (.seq (.reg [un (.fadr 27 1 (.t 3)),
 un (.ld 28 1 false (.t 27)),
 un (.mov 29 (.t 5)),
 un (.iad 30 1 (.t 28) (.t 29)),
 un (.ld 31 1 false (.t 30)),
 un (.mov 32 (.t 0)),
 un (.bin 33 .sub (.t 32) (.c (.int .i64 1))),
 un (.call 34 Jb [((.t 31),false),((.c (.int .i64 0)),false),((.t 33),false)]),
 un (.un 35 .not (.t 34))])
 (.drop [27,28,29,30,31,32,33,34] (.cond (.t 35) (.seq (.reg [un (.asg 4 (.c (.bool false)))])
 .ret)
 .skip))))
 (.drop [27,28,29,30,31,32,33,34,35] (.reg [un (.mov 25 (.t 5)),
 un (.bin 26 .add (.t 25) (.c (.int .i64 1))),
 un (.asg 5 (.t 26))])))))
def Akm:ACode:=
 (.seq (.reg [un (.box 3 (.t 1)),
 un (.asg 4 (.c (.bool false)))])
 (.seq (.cut Aei)
 (.drop [6,7,8,9,10,11,12,13,14,15,16,17,18,19] (.seq (.seq (.reg [un (.asg 5 (.c (.int .i64 0)))])
 (.block 0 (.loop Ss)))
 (.drop [5,20,21,22,23,24,27,28,29,30,31,32,33,34,35,25,26] (.seq (.reg [un (.asg 4 (.c (.bool true)))])
 .ret))))))
abbrev Al7:List RS:=[.t 4]
theorem Akr:Bh Tryd.prog Th 36 Akm Al7=true:=by kernel_rfl
def Aci:ACode:=
 (.seq (.reg [un (.box 2 (.t 0)),
 ⟨none,.asg 4 (.c (.str ⟨#[]⟩))⟩])
 (.seq (.reg [un (.alb 5 65 5)])
 (.seq (.reg [un (.ld 6 2 true (.t 2)),
 un (.mov 7 (.t 1)),
 un (.call 8 C6 [((.t 5),true),((.t 6),false),((.t 7),false),((.c (.int .i64 0)),false)])])
 (.drop [6,7,8] (.seq (.reg [un (.call 9 Ix [((.t 5),true)]),
 un (.asg 4 (.t 9))])
 (.drop [9] .ret))))))
abbrev Abf:List RS:=[.t 4]
theorem Ab1:Bh Tryd.prog Iz 10 Aci Abf=true:=by kernel_rfl
def Ul:ACode:=
 (.seq (.reg [un (.fadr 5 0 (.t 1)),
 un (.ld 6 1 false (.t 5)),
 un (.bin 7 .lss (.t 6) (.c (.int .i64 1))),
 un (.asg 8 (.t 7)),
 ⟨some (8,false),.fadr 9 0 (.t 1)⟩,
 ⟨some (8,false),.ld 10 1 false (.t 9)⟩,
 ⟨some (8,false),.bin 11 .gtr (.t 10) (.c (.int .i64 8))⟩,
 un (.pick 12 (.t 8) (.c (.bool true)) (.t 11)),
 un (.asg 13 (.t 12)),
 ⟨some (13,false),.fadr 14 1 (.t 1)⟩,
 ⟨some (13,false),.ld 15 1 false (.t 14)⟩,
 ⟨some (13,false),.len 16 (.t 15)⟩,
 ⟨some (13,false),.bin 17 .gtr (.t 16) (.c (.int .i64 4))⟩,
 un (.pick 18 (.t 13) (.c (.bool true)) (.t 17))])
 (.drop [5,6,7,8,9,10,11,12,13,14,15,16,17] (.cond (.t 18) (.seq (.reg [un (.asg 2 (.c (.bool false)))])
 .ret)
 .skip)))
def Mt:ACode:=
 (.seq (.reg [un (.bin 23 .lss (.t 22) (.t 21))])
 (.seq (.cond (.t 23) .skip
 (.exit 0))
 (.seq (.block 1 (.seq (.reg [un (.iad 24 2 (.t 20) (.t 22)),
 un (.ld 25 2 true (.t 24)),
 un (.alc 4 (.agg [.int .i64 0,.nilsl 1])),
 un (.st 2 (.t 4) (.t 25))])
 (.drop [24,25] (.seq (.reg [un (.ld 26 2 true (.t 4)),
 un (.fadr 27 0 (.t 1)),
 un (.ld 28 1 false (.t 27)),
 un (.call 29 Tg [((.t 26),false),((.t 28),false)]),
 un (.un 30 .not (.t 29))])
 (.drop [26,27,28,29] (.cond (.t 30) (.seq (.reg [un (.asg 2 (.c (.bool false)))])
 .ret)
 .skip))))))
 (.drop [24,25,4,26,27,28,29,30] (.reg [un (.bin 31 .add (.t 22) (.c (.int .i64 1))),
 un (.asg 22 (.t 31))])))))
def Aag:ACode:=
 (.seq (.reg [un (.box 1 (.t 0)),
 un (.asg 2 (.c (.bool false)))])
 (.seq (.cut Ul)
 (.drop [5,6,7,8,9,10,11,12,13,14,15,16,17,18] (.seq (.seq (.reg [un (.fadr 19 1 (.t 1)),
 un (.ld 20 1 false (.t 19)),
 un (.len 21 (.t 20)),
 un (.mov 22 (.c (.int .i64 0)))])
 (.drop [19] (.block 0 (.loop Mt))))
 (.drop [19,20,21,22,23,24,25,4,26,27,28,29,30,31] (.seq (.reg [un (.asg 2 (.c (.bool true)))])
 .ret))))))
abbrev Aal:List RS:=[.t 2]
theorem Zw:Bh Tryd.prog Hz 32 Aag Aal=true:=by kernel_rfl
def Zl:ACode:=
 (.seq (.reg [un (.asg 4 (.c (.bool false)))])
 (.seq (.reg [un (.mov 5 (.t 0)),
 un (.mov 6 (.t 1)),
 un (.call 7 Ao [((.t 5),true),((.t 6),false)]),
 un (.bin 8 .eql (.t 7) (.c (.int .i64 0))),
 un (.asg 4 (.t 8))])
 (.drop [5,6,7,8] .ret)))
abbrev Z8:List RS:=[.t 4]
theorem Zz:Bh Tryd.prog Dy 9 Zl Z8=true:=by kernel_rfl
def Up:ACode:=
 (.seq (.reg [⟨none,.asg 6 (.c (.str ⟨#[]⟩))⟩])
 (.seq (.seq (.reg [un (.mov 9 (.t 1)),
 ⟨none,.bin 10 .eql (.t 9) (.c (.str ⟨#[]⟩))⟩])
 (.drop [9] (.cond (.t 10) (.seq (.reg [un (.mov 11 (.t 2)),
 un (.ssl 12 (.t 11) none (some (.c (.int .i64 1)))),
 un (.asg 6 (.t 12))])
 (.drop [11,12] .ret))
 .skip)))
 (.drop [9,10,11,12] (.seq (.reg [un (.mov 13 (.t 0)),
 un (.mov 14 (.t 1)),
 un (.slen 15 (.t 14)),
 un (.call 16 Ao [((.t 13),true),((.t 15),false)]),
 un (.asg 7 (.t 16))])
 (.drop [13,14,15,16] (.seq (.reg [un (.mov 17 (.t 2)),
 un (.mov 18 (.t 0)),
 un (.mov 19 (.t 2)),
 un (.slen 20 (.t 19)),
 un (.call 21 Ao [((.t 18),true),((.t 20),false)]),
 un (.ssl 22 (.t 17) (some (.t 21)) none),
 un (.ssl 23 (.t 22) none (some (.c (.int .i64 1)))),
 un (.asg 8 (.t 23))])
 (.drop [17,18,19,20,21,22,23] (.seq (.seq (.reg [un (.mov 24 (.t 0)),
 un (.call 25 Ao [((.t 24),true),((.c (.int .i64 3)),false)])])
 (.drop [24] (.block 0 (.seq (.reg [un (.bin 27 .eql (.t 25) (.c (.int .i64 0))),
 un (.asg 26 (.t 27))])
 (.drop [27] (.cond (.t 26) (.seq (.dreg [(un (.mov 28 (.t 1)),[]),
 (un (.mov 29 (.t 7)),[28]),
 (un (.ssl 30 (.t 28) none (some (.t 29))),[]),
 (un (.mov 31 (.t 8)),[28,29,30]),
 (un (.bin 32 .add (.t 30) (.t 31)),[]),
 (un (.mov 33 (.t 1)),[28,29,30,31,32]),
 (un (.mov 34 (.t 7)),[28,29,30,31,32,33]),
 (un (.ssl 35 (.t 33) (some (.t 34)) none),[28,29,30,31,32])]
 [un (.bin 36 .add (.t 32) (.t 35)),
 un (.asg 6 (.t 36))])
 (.drop [28,29,30,31,32,33,34,35,36] .ret))
 (.seq (.reg [un (.bin 38 .eql (.t 25) (.c (.int .i64 1))),
 un (.asg 37 (.t 38))])
 (.drop [38] (.cond (.t 37) (.seq (.dreg [(un (.mov 39 (.t 1)),[]),
 (un (.mov 40 (.t 7)),[39]),
 (un (.ssl 41 (.t 39) none (some (.t 40))),[]),
 (un (.mov 42 (.t 8)),[39,40,41]),
 (un (.bin 43 .add (.t 41) (.t 42)),[]),
 (un (.mov 44 (.t 1)),[39,40,41,42,43]),
 (un (.mov 45 (.t 7)),[39,40,41,42,43,44]),
 (un (.bin 46 .add (.t 45) (.c (.int .i64 1))),[39,40,41,42,43,44]),
 (un (.ssl 47 (.t 44) (some (.t 46)) none),[39,40,41,42,43])]
 [un (.bin 48 .add (.t 43) (.t 47)),
 un (.asg 6 (.t 48))])
 (.drop [39,40,41,42,43,44,45,46,47,48] .ret))
 .skip)))))))))
 (.drop [24,25,27,26,28,29,30,31,32,33,34,35,36,38,37,39,40,41,42,43,44,45,46,47,48] (.seq (.dreg [(un (.mov 49 (.t 1)),[]),
 (un (.mov 50 (.t 7)),[49]),
 (un (.ssl 51 (.t 49) none (some (.t 50))),[]),
 (un (.mov 52 (.t 1)),[49,50,51]),
 (un (.mov 53 (.t 7)),[49,50,51,52]),
 (un (.bin 54 .add (.t 53) (.c (.int .i64 1))),[49,50,51,52]),
 (un (.ssl 55 (.t 52) (some (.t 54)) none),[49,50,51])]
 [un (.bin 56 .add (.t 51) (.t 55)),
 un (.asg 6 (.t 56))])
 (.drop [49,50,51,52,53,54,55,56] .ret)))))))))))
abbrev Ur:List RS:=[.t 6]
theorem Vf:Bh Tryd.prog H8 57 Up Ur=true:=by kernel_rfl
def Agg:ACode:=
 (.seq (.reg [un (.box 2 (.t 0)),
 un (.asg 4 (.c (.bool false)))])
 (.seq (.reg [un (.mov 5 (.t 1)),
 un (.len 6 (.t 5)),
 un (.bin 7 .gtr (.t 6) (.c (.int .i64 0))),
 un (.asg 8 (.t 7)),
 ⟨some (8,true),.mov 9 (.t 1)⟩,
 ⟨some (8,true),.len 10 (.t 9)⟩,
 ⟨some (8,true),.bin 11 .leq (.t 10) (.c (.int .i64 60))⟩,
 un (.pick 12 (.t 8) (.t 11) (.c (.bool false))),
 un (.asg 13 (.t 12)),
 ⟨some (13,true),.ld 14 2 true (.t 2)⟩,
 ⟨some (13,true),.mov 15 (.t 1)⟩,
 ⟨some (13,true),.call 16 Hw [((.t 14),false),((.t 15),false),((.c (.int .i64 0)),false)]⟩,
 ⟨some (13,true),.mov 17 (.t 1)⟩,
 ⟨some (13,true),.len 18 (.t 17)⟩,
 ⟨some (13,true),.bin 19 .eql (.t 16) (.t 18)⟩,
 un (.pick 20 (.t 13) (.t 19) (.c (.bool false))),
 un (.asg 4 (.t 20))])
 (.drop [5,6,7,8,9,10,11,12,13,14,15,16,17,18,19,20] .ret)))
abbrev Afi:List RS:=[.t 4]
theorem Afu:Bh Tryd.prog G3 21 Agg Afi=true:=by kernel_rfl
def Ot:ACode:=
 (.seq (.seq (.reg [un (.mov 15 (.t 9)),
 un (.bin 16 .lss (.t 15) (.c (.int .i64 6)))])
 (.drop [15] (.cond (.t 16) .skip
 (.exit 0))))
 (.drop [15,16] (.seq (.block 1 (.reg [un (.mov 19 (.t 8)),
 un (.bslr 20 1 []),
 un (.bsl 21 1 [(.t 20)]),
 un (.app 22 1 (.t 19) (.t 21)),
 un (.asg 8 (.t 22))]))
 (.drop [19,20,21,22] (.reg [un (.mov 17 (.t 9)),
 un (.bin 18 .add (.t 17) (.c (.int .i64 1))),
 un (.asg 9 (.t 18))])))))
def Ys:ACode:=
 (.seq (.frz [12] (.reg [un (.mov 63 (.t 8)),
 un (.mov 64 (.t 13)),
 un (.iad 65 1 (.t 63) (.t 64)),
 un (.ld 66 1 false (.t 65)),
 un (.len 67 (.t 66)),
 un (.bin 68 .gtr (.t 67) (.c (.int .i64 0))),
 un (.asg 69 (.t 68)),
 ⟨some (69,true),.mov 70 (.t 8)⟩,
 ⟨some (69,true),.mov 71 (.t 13)⟩,
 ⟨some (69,true),.iad 72 1 (.t 70) (.t 71)⟩,
 ⟨some (69,true),.ld 73 1 false (.t 72)⟩,
 ⟨some (69,true),.mov 74 (.t 12)⟩,
 ⟨some (69,true),.call 75 Ph [((.t 73),false),((.t 74),false)]⟩,
 ⟨some (69,true),.un 76 .not (.t 75)⟩,
 un (.pick 77 (.t 69) (.t 76) (.c (.bool false)))]))
 (.drop [63,64,65,66,67,68,69,70,71,72,73,74,75,76] (.cond (.t 77) (.seq (.reg [un (.bsl 78 1 []),
 un (.asg 6 (.t 78)),
 un (.asg 7 (.c (.bool false)))])
 (.drop [78] .ret))
 .skip)))
def Og:ACode:=
 (.seq (.seq (.reg [un (.mov 23 (.t 11)),
 un (.mov 24 (.t 1)),
 un (.len 25 (.t 24)),
 un (.bin 26 .lss (.t 23) (.t 25))])
 (.drop [23,24,25] (.cond (.t 26) .skip
 (.exit 2))))
 (.drop [23,24,25,26] (.seq (.block 3 (.seq (.seq (.reg [un (.mov 29 (.t 10)),
 un (.mov 30 (.t 2)),
 un (.len 31 (.t 30)),
 un (.bin 32 .geq (.t 29) (.t 31))])
 (.drop [29,30,31] (.cond (.t 32) (.seq (.reg [un (.bsl 33 1 []),
 un (.asg 6 (.t 33)),
 un (.asg 7 (.c (.bool false)))])
 (.drop [33] .ret))
 .skip)))
 (.drop [29,30,31,32,33] (.seq (.seq (.reg [un (.mov 34 (.t 1)),
 un (.mov 35 (.t 11)),
 un (.iad 36 1 (.t 34) (.t 35)),
 un (.ld 37 1 false (.t 36)),
 un (.bin 38 .lss (.t 37) (.c (.int .i64 0)))])
 (.drop [34,35,36,37] (.cond (.t 38) (.seq (.seq (.dreg [(un (.mov 39 (.t 2)),[]),
 (un (.mov 40 (.t 10)),[39]),
 (un (.iad 41 1 (.t 39) (.t 40)),[]),
 (un (.ld 42 1 false (.t 41)),[]),
 (un (.mov 43 (.t 1)),[39,40,41,42]),
 (un (.mov 44 (.t 11)),[39,40,41,42,43]),
 (un (.iad 45 1 (.t 43) (.t 44)),[39,40,41,42]),
 (un (.ld 46 1 false (.t 45)),[39,40,41,42])]
 [un (.bin 47 .neq (.t 42) (.t 46))])
 (.drop [39,40,41,42,43,44,45,46] (.cond (.t 47) (.seq (.reg [un (.bsl 48 1 []),
 un (.asg 6 (.t 48)),
 un (.asg 7 (.c (.bool false)))])
 (.drop [48] .ret))
 .skip)))
 (.drop [39,40,41,42,43,44,45,46,47,48] (.seq (.reg [un (.mov 49 (.t 10)),
 un (.bin 50 .add (.t 49) (.c (.int .i64 1))),
 un (.asg 10 (.t 50))])
 (.drop [49,50] (.exit 3)))))
 .skip)))
 (.drop [34,35,36,37,38,39,40,41,42,43,44,45,46,47,48,49,50] (.seq (.dregp 0 [12] [(un (.mov 51 (.t 2)),[]),
 (un (.mov 52 (.t 10)),[51]),
 (un (.ld 53 2 true (.t 3)),[51,52]),
 (un (.mov 54 (.t 2)),[51,52,53]),
 (un (.mov 55 (.t 10)),[51,52,53,54]),
 (un (.call 56 Hw [((.t 53),false),((.t 54),false),((.t 55),false)]),[51,52]),
 (un (.slc 57 1 (.t 51) (some (.t 52)) (some (.t 56))),[]),
 (un (.call 58 Mz [((.t 57),false)]),[]),
 (un (.mov 59 (.t 1)),[51,52,53,54,55,56,57,58,58]),
 (un (.mov 60 (.t 11)),[51,52,53,54,55,56,57,58,59,58]),
 (un (.iad 61 1 (.t 59) (.t 60)),[51,52,53,54,55,56,57,58,58]),
 (un (.ld 62 1 false (.t 61)),[51,52,53,54,55,56,57,58,58]),
 (un (.asg 12 (.t 58)),[59,60,61,62])]
 [un (.asg 13 (.t 62))])
 (.drop [51,52,53,54,55,56,57,58,59,60,61,62] (.seq (.cut Ys)
 (.drop [63,64,65,66,67,68,69,70,71,72,73,74,75,76,77,78] (.seq (.reg [un (.mov 79 (.t 8)),
 un (.mov 80 (.t 13)),
 un (.mov 81 (.t 12)),
 un (.iad 82 1 (.t 79) (.t 80)),
 un (.st 1 (.t 82) (.t 81))])
 (.drop [79,80,81,82] (.reg [un (.mov 83 (.t 10)),
 un (.mov 84 (.t 12)),
 un (.len 85 (.t 84)),
 un (.bin 86 .add (.t 83) (.t 85)),
 un (.asg 10 (.t 86))]))))))))))))
 (.drop [29,30,31,32,33,34,35,36,37,38,39,40,41,42,43,44,45,46,47,48,49,50,51,52,53,54,55,56,57,58,59,60,61,62,12,13,63,64,65,66,67,68,69,70,71,72,73,74,75,76,77,78,79,80,81,82,83,84,85,86] (.reg [un (.mov 27 (.t 11)),
 un (.bin 28 .add (.t 27) (.c (.int .i64 1))),
 un (.asg 11 (.t 28))])))))
def Ad7:ACode:=
 (.seq (.reg [un (.box 3 (.t 0)),
 un (.asg 6 (.c (.nilsl 1))),
 un (.asg 7 (.c (.bool false)))])
 (.seq (.reg [un (.bsl 14 1 []),
 un (.asg 8 (.t 14))])
 (.drop [14] (.seq (.seq (.reg [un (.asg 9 (.c (.int .i64 0)))])
 (.block 0 (.loop Ot)))
 (.drop [9,15,16,19,20,21,22,17,18] (.seq (.reg [un (.asg 10 (.c (.int .i64 0)))])
 (.seq (.seq (.reg [un (.asg 11 (.c (.int .i64 0)))])
 (.block 2 (.loop Og)))
 (.drop [11,23,24,25,26,29,30,31,32,33,34,35,36,37,38,39,40,41,42,43,44,45,46,47,48,49,50,51,52,53,54,55,56,57,58,59,60,61,62,12,13,63,64,65,66,67,68,69,70,71,72,73,74,75,76,77,78,79,80,81,82,83,84,85,86,27,28] (.seq (.reg [un (.mov 87 (.t 8)),
 un (.mov 88 (.t 10)),
 un (.mov 89 (.t 2)),
 un (.len 90 (.t 89)),
 un (.bin 91 .eql (.t 88) (.t 90)),
 un (.asg 6 (.t 87)),
 un (.asg 7 (.t 91))])
 (.drop [87,88,89,90,91] .ret))))))))))
abbrev Ac5:List RS:=[.t 6,.t 7]
theorem Aeh:Bh Tryd.prog N0 92 Ad7 Ac5=true:=by kernel_rfl
def N9:ACode:=
 (.seq (.reg [un (.bin 10 .lss (.t 9) (.t 8))])
 (.seq (.cond (.t 10) .skip
 (.exit 0))
 (.seq (.block 1 (.seq (.reg [un (.iad 11 1 (.t 7) (.t 9)),
 un (.ld 12 1 false (.t 11)),
 un (.asg 6 (.t 12))])
 (.drop [11,12] (.seq (.reg [un (.ld 13 2 true (.t 2)),
 un (.mov 14 (.t 6)),
 un (.call 15 Ft [((.t 13),false),((.t 14),false)]),
 un (.un 16 .not (.t 15))])
 (.drop [13,14,15] (.cond (.t 16) (.seq (.reg [un (.asg 4 (.c (.bool false)))])
 .ret)
 .skip))))))
 (.drop [11,12,6,13,14,15,16] (.reg [un (.bin 17 .add (.t 9) (.c (.int .i64 1))),
 un (.asg 9 (.t 17))])))))
def Abk:ACode:=
 (.seq (.reg [un (.box 2 (.t 0)),
 un (.asg 4 (.c (.bool false)))])
 (.seq (.seq (.reg [un (.mov 7 (.t 1)),
 un (.len 8 (.t 7)),
 un (.mov 9 (.c (.int .i64 0)))])
 (.block 0 (.loop N9)))
 (.drop [7,8,9,10,11,12,6,13,14,15,16,17] (.seq (.reg [un (.asg 4 (.c (.bool true)))])
 .ret))))
abbrev Ab2:List RS:=[.t 4]
theorem Acb:Bh Tryd.prog Mf 18 Abk Ab2=true:=by kernel_rfl
def Zg:ACode:=
 (.seq (.reg [un (.fadr 4 0 (.t 1)),
 un (.ld 5 1 false (.t 4)),
 un (.call 6 Jb [((.t 5),false),((.c (.int .i64 1)),false),((.c (.int .i64 8)),false)]),
 un (.un 7 .not (.t 6)),
 un (.asg 8 (.t 7)),
 ⟨some (8,false),.fadr 9 1 (.t 1)⟩,
 ⟨some (8,false),.ld 10 1 false (.t 9)⟩,
 ⟨some (8,false),.len 11 (.t 10)⟩,
 ⟨some (8,false),.bin 12 .gtr (.t 11) (.c (.int .i64 4))⟩,
 un (.pick 13 (.t 8) (.c (.bool true)) (.t 12))])
 (.drop [4,5,6,7,8,9,10,11,12] (.cond (.t 13) (.seq (.reg [un (.asg 2 (.c (.bool false)))])
 .ret)
 .skip)))
def P8:ACode:=
 (.seq (.seq (.reg [un (.mov 14 (.t 3)),
 un (.fadr 15 1 (.t 1)),
 un (.ld 16 1 false (.t 15)),
 un (.len 17 (.t 16)),
 un (.bin 18 .lss (.t 14) (.t 17))])
 (.drop [14,15,16,17] (.cond (.t 18) .skip
 (.exit 0))))
 (.drop [14,15,16,17,18] (.seq (.block 1 (.seq (.dreg [(un (.fadr 21 0 (.t 1)),[]),
 (un (.ld 22 1 false (.t 21)),[]),
 (un (.fadr 23 1 (.t 1)),[21,22]),
 (un (.ld 24 1 false (.t 23)),[21,22]),
 (un (.mov 25 (.t 3)),[21,22,23,24]),
 (un (.iad 26 2 (.t 24) (.t 25)),[21,22]),
 (un (.ld 27 2 true (.t 26)),[21,22])]
 [un (.call 28 Th [((.t 22),false),((.t 27),false)]),
 un (.un 29 .not (.t 28))])
 (.drop [21,22,23,24,25,26,27,28] (.cond (.t 29) (.seq (.reg [un (.asg 2 (.c (.bool false)))])
 .ret)
 .skip))))
 (.drop [21,22,23,24,25,26,27,28,29] (.reg [un (.mov 19 (.t 3)),
 un (.bin 20 .add (.t 19) (.c (.int .i64 1))),
 un (.asg 3 (.t 20))])))))
def Agq:ACode:=
 (.seq (.reg [un (.box 1 (.t 0)),
 un (.asg 2 (.c (.bool false)))])
 (.seq (.cut Zg)
 (.drop [4,5,6,7,8,9,10,11,12,13] (.seq (.seq (.reg [un (.asg 3 (.c (.int .i64 0)))])
 (.block 0 (.loop P8)))
 (.drop [3,14,15,16,17,18,21,22,23,24,25,26,27,28,29,19,20] (.seq (.reg [un (.asg 2 (.c (.bool true)))])
 .ret))))))
abbrev Af6:List RS:=[.t 2]
theorem Afp:Bh Tryd.prog Lb 30 Agq Af6=true:=by kernel_rfl
def Ol:ACode:=
 (.seq (.seq (.reg [un (.mov 8 (.t 6)),
 un (.mov 9 (.t 1)),
 un (.len 10 (.t 9)),
 un (.bin 11 .lss (.t 8) (.t 10))])
 (.drop [8,9,10] (.cond (.t 11) .skip
 (.exit 0))))
 (.drop [8,9,10,11] (.seq (.block 1 (.reg [un (.mov 16 (.t 5)),
 un (.mov 17 (.t 1)),
 un (.mov 18 (.t 6)),
 un (.ld 19 2 true (.t 2)),
 un (.mov 20 (.t 1)),
 un (.mov 21 (.t 6)),
 un (.call 22 Hw [((.t 19),false),((.t 20),false),((.t 21),false)]),
 un (.slc 23 1 (.t 17) (some (.t 18)) (some (.t 22))),
 un (.call 24 Mz [((.t 23),false)]),
 un (.bsl 25 1 [(.t 24)]),
 un (.app 26 1 (.t 16) (.t 25)),
 un (.asg 5 (.t 26))]))
 (.drop [16,17,18,19,20,21,22,23,24,25,26] (.reg [un (.ld 12 2 true (.t 2)),
 un (.mov 13 (.t 1)),
 un (.mov 14 (.t 6)),
 un (.call 15 Hw [((.t 12),false),((.t 13),false),((.t 14),false)]),
 un (.asg 6 (.t 15))])))))
def Ae0:ACode:=
 (.seq (.reg [un (.box 2 (.t 0)),
 un (.asg 4 (.c (.nilsl 1)))])
 (.seq (.reg [un (.bsl 7 1 []),
 un (.asg 5 (.t 7))])
 (.drop [7] (.seq (.seq (.reg [un (.asg 6 (.c (.int .i64 1)))])
 (.block 0 (.loop Ol)))
 (.drop [6,8,9,10,11,16,17,18,19,20,21,22,23,24,25,26,12,13,14,15] (.seq (.reg [un (.mov 27 (.t 5)),
 un (.asg 4 (.t 27))])
 (.drop [27] .ret)))))))
abbrev Aeo:List RS:=[.t 4]
theorem Aew:Bh Tryd.prog Nl 28 Ae0 Aeo=true:=by kernel_rfl
def Wq:ACode:=
 (.seq (.reg [un (.asg 4 (.c (.int .i64 0)))])
 (.seq (.reg [un (.mov 5 (.t 1)),
 un (.mov 6 (.t 0)),
 un (.mov 7 (.t 1)),
 un (.len 8 (.t 7)),
 un (.call 9 Ao [((.t 6),true),((.t 8),false)]),
 un (.iad 10 1 (.t 5) (.t 9)),
 un (.ld 11 1 false (.t 10)),
 un (.asg 4 (.t 11))])
 (.drop [5,6,7,8,9,10,11] .ret)))
abbrev Wo:List RS:=[.t 4]
theorem Wd:Bh Tryd.prog Ap 12 Wq Wo=true:=by kernel_rfl
def Uo:ACode:=
 (.seq (.reg [un (.mov 14 (.t 7)),
 un (.mov 15 (.t 1)),
 un (.slen 16 (.t 15)),
 un (.bin 17 .lss (.t 14) (.t 16)),
 un (.asg 18 (.t 17)),
 ⟨some (18,true),.mov 19 (.t 6)⟩,
 ⟨some (18,true),.len 20 (.t 19)⟩,
 ⟨some (18,true),.bin 21 .leq (.t 20) (.c (.int .i64 60))⟩,
 un (.pick 22 (.t 18) (.t 21) (.c (.bool false)))])
 (.drop [14,15,16,17,18,19,20,21] (.cond (.t 22) .skip
 (.exit 0))))
def Vp:ACode:=
 (.seq (.reg [un (.mov 25 (.t 1)),
 un (.mov 26 (.t 7)),
 un (.sidx 27 (.t 25) (.t 26)),
 un (.bin 28 .neq (.t 27) (.c (.int .u8 120))),
 un (.asg 29 (.t 28)),
 ⟨some (29,true),.mov 30 (.t 1)⟩,
 ⟨some (29,true),.mov 31 (.t 7)⟩,
 ⟨some (29,true),.sidx 32 (.t 30) (.t 31)⟩,
 ⟨some (29,true),.bin 33 .neq (.t 32) (.c (.int .u8 102))⟩,
 un (.pick 34 (.t 29) (.t 33) (.c (.bool false))),
 un (.asg 35 (.t 34)),
 ⟨some (35,false),.mov 36 (.t 7)⟩,
 ⟨some (35,false),.bin 37 .add (.t 36) (.c (.int .i64 1))⟩,
 ⟨some (35,false),.mov 38 (.t 1)⟩,
 ⟨some (35,false),.slen 39 (.t 38)⟩,
 ⟨some (35,false),.bin 40 .geq (.t 37) (.t 39)⟩,
 un (.pick 41 (.t 35) (.c (.bool true)) (.t 40)),
 un (.asg 42 (.t 41)),
 ⟨some (42,false),.mov 43 (.t 1)⟩,
 ⟨some (42,false),.mov 44 (.t 7)⟩,
 ⟨some (42,false),.bin 45 .add (.t 44) (.c (.int .i64 1))⟩,
 ⟨some (42,false),.sidx 46 (.t 43) (.t 45)⟩,
 ⟨some (42,false),.bin 47 .lss (.t 46) (.c (.int .u8 48))⟩,
 un (.pick 48 (.t 42) (.c (.bool true)) (.t 47)),
 un (.asg 49 (.t 48)),
 ⟨some (49,false),.mov 50 (.t 1)⟩,
 ⟨some (49,false),.mov 51 (.t 7)⟩,
 ⟨some (49,false),.bin 52 .add (.t 51) (.c (.int .i64 1))⟩,
 ⟨some (49,false),.sidx 53 (.t 50) (.t 52)⟩,
 ⟨some (49,false),.bin 54 .gtr (.t 53) (.c (.int .u8 57))⟩,
 un (.pick 55 (.t 49) (.c (.bool true)) (.t 54))])
 (.drop [25,26,27,28,29,30,31,32,33,34,35,36,37,38,39,40,41,42,43,44,45,46,47,48,49,50,51,52,53,54] (.cond (.t 55) (.exit 1)
 .skip)))
def Mn:ACode:=
 (.seq (.cut Uo)
 (.drop [14,15,16,17,18,19,20,21,22] (.seq (.block 1 (.seq (.cut Vp)
 (.drop [25,26,27,28,29,30,31,32,33,34,35,36,37,38,39,40,41,42,43,44,45,46,47,48,49,50,51,52,53,54,55] (.seq (.reg [un (.mov 56 (.t 1)),
 un (.mov 57 (.t 7)),
 un (.bin 58 .add (.t 57) (.c (.int .i64 1))),
 un (.sidx 59 (.t 56) (.t 58)),
 un (.bin 60 .sub (.t 59) (.c (.int .u8 48))),
 un (.cnv 61 .i64 (.t 60)),
 un (.asg 8 (.t 61))])
 (.drop [56,57,58,59,60,61] (.seq (.seq (.reg [un (.mov 62 (.t 1)),
 un (.mov 63 (.t 7)),
 un (.sidx 64 (.t 62) (.t 63)),
 un (.bin 65 .eql (.t 64) (.c (.int .u8 102)))])
 (.drop [62,63,64] (.cond (.t 65) (.reg [un (.mov 66 (.t 8)),
 un (.bin 67 .sub (.c (.int .i64 (-1))) (.t 66)),
 un (.asg 8 (.t 67))])
 .skip)))
 (.drop [62,63,64,65,66,67] (.reg [un (.mov 68 (.t 6)),
 un (.mov 69 (.t 8)),
 un (.bsl 70 1 [(.t 69)]),
 un (.app 71 1 (.t 68) (.t 70)),
 un (.asg 6 (.t 71))]))))))))
 (.drop [25,26,27,28,29,30,31,32,33,34,35,36,37,38,39,40,41,42,43,44,45,46,47,48,49,50,51,52,53,54,55,56,57,58,59,60,61,8,62,63,64,65,66,67,68,69,70,71] (.reg [un (.mov 23 (.t 7)),
 un (.bin 24 .add (.t 23) (.c (.int .i64 1))),
 un (.asg 7 (.t 24))])))))
def Zy:ACode:=
 (.seq (.reg [un (.box 2 (.t 0)),
 un (.asg 4 (.c (.nilsl 1))),
 un (.asg 5 (.c (.bool false)))])
 (.seq (.seq (.reg [un (.ld 9 2 true (.t 2)),
 un (.call 10 Hz [((.t 9),false)]),
 un (.un 11 .not (.t 10))])
 (.drop [9,10] (.cond (.t 11) (.seq (.reg [un (.bsl 12 1 []),
 un (.asg 4 (.t 12)),
 un (.asg 5 (.c (.bool false)))])
 (.drop [12] .ret))
 .skip)))
 (.drop [9,10,11,12] (.seq (.reg [un (.bsl 13 1 []),
 un (.asg 6 (.t 13))])
 (.drop [13] (.seq (.seq (.reg [un (.asg 7 (.c (.int .i64 0)))])
 (.block 0 (.loop Mn)))
 (.drop [7,14,15,16,17,18,19,20,21,22,25,26,27,28,29,30,31,32,33,34,35,36,37,38,39,40,41,42,43,44,45,46,47,48,49,50,51,52,53,54,55,56,57,58,59,60,61,8,62,63,64,65,66,67,68,69,70,71,23,24] (.seq (.seq (.reg [un (.ld 72 2 true (.t 2)),
 un (.mov 73 (.t 6)),
 un (.call 74 Ft [((.t 72),false),((.t 73),false)]),
 un (.un 75 .not (.t 74)),
 un (.asg 76 (.t 75)),
 ⟨some (76,false),.ld 77 2 true (.t 2)⟩,
 ⟨some (76,false),.mov 78 (.t 6)⟩,
 ⟨some (76,false),.call 79 Iz [((.t 77),false),((.t 78),false)]⟩,
 ⟨some (76,false),.mov 80 (.t 1)⟩,
 ⟨some (76,false),.bin 81 .neq (.t 79) (.t 80)⟩,
 un (.pick 82 (.t 76) (.c (.bool true)) (.t 81))])
 (.drop [72,73,74,75,76,77,78,79,80,81] (.cond (.t 82) (.seq (.reg [un (.bsl 83 1 []),
 un (.asg 4 (.t 83)),
 un (.asg 5 (.c (.bool false)))])
 (.drop [83] .ret))
 .skip)))
 (.drop [72,73,74,75,76,77,78,79,80,81,82,83] (.seq (.reg [un (.mov 84 (.t 6)),
 un (.asg 4 (.t 84)),
 un (.asg 5 (.c (.bool true)))])
 (.drop [84] .ret)))))))))))
abbrev Yz:List RS:=[.t 4,.t 5]
theorem Zj:Bh Tryd.prog Hx 85 Zy Yz=true:=by kernel_rfl
def Afr:ACode:=
 (.seq (.reg [un (.box 2 (.t 0)),
 un (.asg 4 (.c (.bool false)))])
 (.seq (.reg [un (.ld 5 2 true (.t 2)),
 un (.call 6 Hz [((.t 5),false)]),
 un (.asg 7 (.t 6)),
 ⟨some (7,true),.ld 8 2 true (.t 2)⟩,
 ⟨some (7,true),.mov 9 (.t 1)⟩,
 ⟨some (7,true),.call 10 Ft [((.t 8),false),((.t 9),false)]⟩,
 un (.pick 11 (.t 7) (.t 10) (.c (.bool false))),
 un (.asg 4 (.t 11))])
 (.drop [5,6,7,8,9,10,11] .ret)))
abbrev Agp:List RS:=[.t 4]
theorem Af2:Bh Tryd.prog Fu 12 Afr Agp=true:=by kernel_rfl
def Ad0:ACode:=
 (.seq (.reg [un (.box 2 (.t 0)),
 un (.asg 4 (.c (.bool false)))])
 (.seq (.reg [un (.ld 5 2 true (.t 2)),
 un (.call 6 Lb [((.t 5),false)]),
 un (.asg 7 (.t 6)),
 ⟨some (7,true),.ld 8 2 true (.t 2)⟩,
 ⟨some (7,true),.mov 9 (.t 1)⟩,
 ⟨some (7,true),.call 10 G3 [((.t 8),false),((.t 9),false)]⟩,
 un (.pick 11 (.t 7) (.t 10) (.c (.bool false))),
 un (.asg 4 (.t 11))])
 (.drop [5,6,7,8,9,10,11] .ret)))
abbrev Adp:List RS:=[.t 4]
theorem Ae6:Bh Tryd.prog Dk 12 Ad0 Adp=true:=by kernel_rfl
def Zf:ACode:=
 (.seq (.reg [un (.mov 32 (.t 7)),
 un (.bin 33 .eql (.t 32) (.c (.int .i64 0)))])
 (.drop [32] (.cond (.t 33) (.reg [un (.mov 34 (.t 5)),
 ⟨none,.bin 35 .add (.t 34) (.c (.str ⟨#[40]⟩))⟩,
 un (.asg 5 (.t 35))])
 (.reg [un (.mov 36 (.t 5)),
 ⟨none,.bin 37 .add (.t 36) (.c (.str ⟨#[44]⟩))⟩,
 un (.asg 5 (.t 37))]))))
def P0:ACode:=
 (.seq (.seq (.reg [un (.mov 26 (.t 7)),
 un (.mov 27 (.t 6)),
 un (.len 28 (.t 27)),
 un (.bin 29 .lss (.t 26) (.t 28))])
 (.drop [26,27,28] (.cond (.t 29) .skip
 (.exit 0))))
 (.drop [26,27,28,29] (.seq (.block 1 (.seq (.cut Zf)
 (.drop [32,33,34,35,36,37] (.dreg [(un (.mov 38 (.t 5)),[]),
 (un (.ld 39 2 true (.t 2)),[38]),
 (un (.mov 40 (.t 6)),[38,39]),
 (un (.mov 41 (.t 7)),[38,39,40]),
 (un (.iad 42 1 (.t 40) (.t 41)),[38,39]),
 (un (.ld 43 1 false (.t 42)),[38,39]),
 (un (.call 44 De [((.t 39),false),((.t 43),false)]),[38])]
 [un (.bin 45 .add (.t 38) (.t 44)),
 un (.asg 5 (.t 45))]))))
 (.drop [32,33,34,35,36,37,38,39,40,41,42,43,44,45] (.reg [un (.mov 30 (.t 7)),
 un (.bin 31 .add (.t 30) (.c (.int .i64 1))),
 un (.asg 7 (.t 31))])))))
def Age:ACode:=
 (.seq (.reg [un (.box 2 (.t 0)),
 ⟨none,.asg 4 (.c (.str ⟨#[]⟩))⟩])
 (.seq (.seq (.reg [un (.mov 8 (.t 1)),
 un (.iad 9 1 (.t 8) (.c (.int .i64 0))),
 un (.ld 10 1 false (.t 9)),
 un (.bin 11 .geq (.t 10) (.c (.int .i64 0)))])
 (.drop [8,9,10] (.cond (.t 11) (.seq (.reg [un (.mov 12 (.t 1)),
 un (.iad 13 1 (.t 12) (.c (.int .i64 0))),
 un (.ld 14 1 false (.t 13)),
 un (.call 15 Ew [((.t 14),false)]),
 ⟨none,.bin 16 .add (.c (.str ⟨#[120]⟩)) (.t 15)⟩,
 un (.asg 4 (.t 16))])
 (.drop [12,13,14,15,16] .ret))
 .skip)))
 (.drop [8,9,10,11,12,13,14,15,16] (.seq (.dreg [(un (.mov 17 (.t 1)),[]),
 (un (.iad 18 1 (.t 17) (.c (.int .i64 0))),[]),
 (un (.ld 19 1 false (.t 18)),[]),
 (un (.bin 20 .sub (.c (.int .i64 (-1))) (.t 19)),[]),
 (un (.call 21 Ew [((.t 20),false)]),[]),
 (⟨none,.bin 22 .add (.c (.str ⟨#[102]⟩)) (.t 21)⟩,[]),
 (un (.ld 23 2 true (.t 2)),[17,18,19,20,21,22]),
 (un (.mov 24 (.t 1)),[17,18,19,20,21,22,23]),
 (un (.call 25 Nl [((.t 23),false),((.t 24),false)]),[22])]
 [un (.asg 5 (.t 22)),
 un (.asg 6 (.t 25))])
 (.drop [17,18,19,20,21,22,23,24,25] (.seq (.seq (.reg [un (.asg 7 (.c (.int .i64 0)))])
 (.block 0 (.loop P0)))
 (.drop [7,26,27,28,29,32,33,34,35,36,37,38,39,40,41,42,43,44,45,30,31] (.seq (.seq (.reg [un (.mov 46 (.t 6)),
 un (.len 47 (.t 46)),
 un (.bin 48 .gtr (.t 47) (.c (.int .i64 0)))])
 (.drop [46,47] (.cond (.t 48) (.reg [un (.mov 49 (.t 5)),
 ⟨none,.bin 50 .add (.t 49) (.c (.str ⟨#[41]⟩))⟩,
 un (.asg 5 (.t 50))])
 .skip)))
 (.drop [46,47,48,49,50] (.seq (.reg [un (.mov 51 (.t 5)),
 un (.asg 4 (.t 51))])
 (.drop [51] .ret)))))))))))
abbrev Aft:List RS:=[.t 4]
theorem Agd:Bh Tryd.prog De 52 Age Aft=true:=by kernel_rfl
def P5:ACode:=
 (.seq (.reg [un (.mov 32 (.t 4)),
 un (.bin 33 .eql (.t 32) (.c (.int .i64 4))),
 un (.asg 34 (.t 33)),
 ⟨some (34,true),.fadr 35 0 (.t 7)⟩,
 ⟨some (34,true),.ld 36 1 false (.t 35)⟩,
 ⟨some (34,true),.bin 37 .eql (.t 36) (.c (.int .i64 3))⟩,
 un (.pick 38 (.t 34) (.t 37) (.c (.bool false)))])
 (.drop [32,33,34,35,36,37] (.cond (.t 38) (.reg [un (.fadr 39 0 (.t 7)),
 un (.st 1 (.t 39) (.c (.int .i64 2)))])
 .skip)))
def Jf:ACode:=
 (.seq (.seq (.reg [un (.mov 44 (.t 8)),
 un (.bin 45 .gtr (.t 44) (.c (.int .i64 0)))])
 (.drop [44] (.cond (.t 45) .skip
 (.exit 2))))
 (.drop [44,45] (.seq (.block 3 (.dreg [(un (.fadr 48 1 (.t 7)),[132,52]),
 (un (.ld 49 1 false (.t 48)),[132,52]),
 (un (.mov 50 (.t 0)),[48,49]),
 (un (.mov 51 (.t 4)),[48,49,50]),
 (un (.call 52 Ao [((.t 50),true),((.t 51),false)]),[132,48,49]),
 (un (.bsl 53 1 [(.t 52)]),[48,49])]
 [un (.app 54 1 (.t 49) (.t 53)),
 un (.fadr 55 1 (.t 7)),
 un (.st 1 (.t 55) (.t 54))]))
 (.drop [48,49,50,51,52,53,54,55] (.reg [un (.mov 46 (.t 8)),
 un (.bin 47 .sub (.t 46) (.c (.int .i64 1))),
 un (.asg 8 (.t 47))])))))
def Jg:ACode:=
 (.seq (.seq (.reg [un (.mov 24 (.t 6)),
 un (.bin 25 .gtr (.t 24) (.c (.int .i64 0)))])
 (.drop [24] (.cond (.t 25) .skip
 (.exit 0))))
 (.drop [24,25] (.seq (.block 1 (.seq (.reg [un (.mov 28 (.t 0)),
 un (.bsl 29 1 [(.c (.int .i64 0)),(.c (.int .i64 1)),(.c (.int .i64 2)),(.c (.int .i64 2)),(.c (.int .i64 3))]),
 un (.call 30 Ap [((.t 28),true),((.t 29),false)]),
 un (.bld 31 [.int .i64 0,.nilsl 1] [(0,1,(.t 30))]),
 un (.alc 7 (.agg [.int .i64 0,.nilsl 1])),
 un (.st 2 (.t 7) (.t 31))])
 (.drop [28,29,30,31] (.seq (.cut P5)
 (.drop [32,33,34,35,36,37,38,39] (.seq (.seq (.reg [un (.mov 40 (.t 4)),
 un (.fadr 41 0 (.t 7)),
 un (.ld 42 1 false (.t 41)),
 un (.call 43 M4 [((.t 40),false),((.t 42),false)]),
 un (.asg 8 (.t 43))])
 (.drop [40,41,42,43] (.block 2 (.loop Jf))))
 (.drop [40,41,42,43,8,44,45,48,49,50,51,52,53,54,55,46,47] (.reg [un (.fadr 56 1 (.t 5)),
 un (.ld 57 1 false (.t 56)),
 un (.ld 58 2 true (.t 7)),
 un (.bsl 59 2 [(.t 58)]),
 un (.app 60 2 (.t 57) (.t 59)),
 un (.fadr 61 1 (.t 5)),
 un (.st 1 (.t 61) (.t 60))]))))))))
 (.drop [28,29,30,31,7,32,33,34,35,36,37,38,39,40,41,42,43,8,44,45,48,49,50,51,52,53,54,55,46,47,56,57,58,59,60,61] (.reg [un (.mov 26 (.t 6)),
 un (.bin 27 .sub (.t 26) (.c (.int .i64 1))),
 un (.asg 6 (.t 27))])))))
def Jd:ACode:=
 (.seq (.seq (.dreg [(un (.fadr 116 1 (.t 5)),[132]),
 (un (.ld 117 1 false (.t 116)),[132]),
 (un (.len 118 (.t 117)),[132]),
 (un (.mov 119 (.t 0)),[116,117,118]),
 (un (.call 120 Ao [((.t 119),true),((.c (.int .i64 2)),false)]),[132,116,117,118]),
 (un (.bin 121 .add (.c (.int .i64 4)) (.t 120)),[116,117,118])]
 [un (.bin 122 .lss (.t 118) (.t 121))])
 (.drop [116,117,118,119,120,121] (.cond (.t 122) .skip
 (.exit 5))))
 (.drop [116,117,118,119,120,121,122] (.block 6 (.dregl [(0,.fadr 123 1 (.t 5)),
 (1,.ld 124 1 false (.t 123)),
 (2,.mov 125 (.t 4))]
 (.alt 3 (.mk 126 1 (.int .i64 0) (.t 125)) [0,1,2] [] (.alt 4 (.bld 127 [.int .i64 0,.nilsl 1] [(0,1,(.c (.int .i64 1))),(1,1,(.t 126))]) [0,1] [] (.alt 5 (.bsl 128 2 [(.t 127)]) [0,1] [] (.alt 6 (.app 129 2 (.t 124) (.t 128)) [0,1] [124] (.alt 7 (.fadr 130 1 (.t 5)) [] [] (.alt 8 (.st 1 (.t 130) (.t 129)) [] [] .nil .nil) .nil) .nil) .nil) .nil) .nil)))))
def S7:ACode:=
 (.seq (.reg [un (.alc 2 (.agg [.int .i64 0,.nilsl 2]))])
 (.seq (.seq (.reg [un (.mov 9 (.t 0)),
 un (.call 10 Dy [((.t 9),true),((.c (.int .i64 4)),false)]),
 un (.un 11 .not (.t 10))])
 (.drop [9,10] (.cond (.t 11) (.seq (.reg [un (.mov 12 (.t 0)),
 un (.call 13 Ao [((.t 12),true),((.c (.int .i64 17)),false)]),
 un (.call 14 Nv [((.t 13),false)]),
 un (.alc 3 (.agg [.int .i64 0,.nilsl 2])),
 un (.st 2 (.t 3) (.t 14))])
 (.drop [12,13,14] (.seq (.reg [un (.ld 15 2 true (.t 3)),
 un (.st 2 (.t 2) (.t 15))])
 (.drop [15] .ret))))
 .skip)))
 (.drop [9,10,11,12,13,14,3,15] (.seq (.reg [un (.mov 16 (.t 0)),
 un (.bsl 17 1 [(.c (.int .i64 2)),(.c (.int .i64 2)),(.c (.int .i64 3)),(.c (.int .i64 3)),(.c (.int .i64 4))]),
 un (.call 18 Ap [((.t 16),true),((.t 17),false)]),
 un (.asg 4 (.t 18))])
 (.drop [16,17,18] (.seq (.reg [un (.mov 19 (.t 4)),
 un (.bld 20 [.int .i64 0,.nilsl 2] [(0,1,(.t 19))]),
 un (.alc 5 (.agg [.int .i64 0,.nilsl 2])),
 un (.st 2 (.t 5) (.t 20))])
 (.drop [19,20] (.seq (.seq (.reg [un (.mov 21 (.t 0)),
 un (.bsl 22 1 [(.c (.int .i64 1)),(.c (.int .i64 1)),(.c (.int .i64 2))]),
 un (.call 23 Ap [((.t 21),true),((.t 22),false)]),
 un (.asg 6 (.t 23))])
 (.drop [21,22,23] (.block 0 (.loop Jg))))
 (.drop [21,22,23,6,24,25,28,29,30,31,7,32,33,34,35,36,37,38,39,40,41,42,43,8,44,45,48,49,50,51,52,53,54,55,46,47,56,57,58,59,60,61,26,27] (.seq (.seq (.reg [un (.mov 62 (.t 0)),
 un (.call 63 Ao [((.t 62),true),((.c (.int .i64 16)),false)])])
 (.drop [62] (.block 4 (.seq (.reg [un (.bin 65 .eql (.t 63) (.c (.int .i64 0))),
 un (.asg 64 (.t 65))])
 (.drop [65] (.cond (.t 64) (.reg [un (.mov 66 (.t 0)),
 un (.mov 67 (.t 4)),
 un (.bin 68 .add (.t 67) (.c (.int .i64 1))),
 un (.bsl 69 1 [(.c (.int .i64 0)),(.c (.int .i64 9)),(.t 68)]),
 un (.call 70 Ap [((.t 66),true),((.t 69),false)]),
 un (.fadr 71 0 (.t 5)),
 un (.st 1 (.t 71) (.t 70))])
 (.seq (.reg [un (.bin 73 .eql (.t 63) (.c (.int .i64 1))),
 un (.asg 72 (.t 73))])
 (.drop [73] (.cond (.t 72) (.dregl [(0,.fadr 74 1 (.t 5)),
 (1,.ld 75 1 false (.t 74)),
 (2,.fadr 76 1 (.t 5)),
 (3,.ld 77 1 false (.t 76)),
 (4,.iad 78 2 (.t 77) (.c (.int .i64 0))),
 (5,.fadr 79 1 (.t 78)),
 (6,.ld 80 1 false (.t 79))]
 (.alt 7 (.bsl 81 1 [(.c (.int .i64 0))]) [0,1,2,3,4,5,6] [] (.alt 8 (.app 82 1 (.t 80) (.t 81)) [0,1,2,3,4,5,6] [80] (.alt 9 (.iad 83 2 (.t 75) (.c (.int .i64 0))) [0,1] [] (.alt 10 (.fadr 84 1 (.t 83)) [] [] (.alt 11 (.st 1 (.t 84) (.t 82)) [] [] .nil .nil) .nil) .nil) .nil) .nil))
 (.seq (.reg [un (.bin 86 .eql (.t 63) (.c (.int .i64 2))),
 un (.asg 85 (.t 86))])
 (.drop [86] (.cond (.t 85) (.dregl [(0,.fadr 87 1 (.t 5)),
 (1,.ld 88 1 false (.t 87)),
 (2,.iad 89 2 (.t 88) (.c (.int .i64 0))),
 (3,.fadr 90 1 (.t 89)),
 (4,.ld 91 1 false (.t 90)),
 (5,.mov 92 (.t 0)),
 (6,.fadr 93 1 (.t 5)),
 (7,.ld 94 1 false (.t 93)),
 (8,.iad 95 2 (.t 94) (.c (.int .i64 0))),
 (9,.fadr 96 1 (.t 95)),
 (10,.ld 97 1 false (.t 96)),
 (13,.mov 100 (.t 0)),
 (14,.mov 101 (.t 4))]
 (.alt 11 (.len 98 (.t 97)) [0,1,2,3,4,5,6,7,8,9,10,13,14] [] (.alt 12 (.call 99 Ao [((.t 92),true),((.t 98),false)]) [0,1,2,3,4,5,13,14] [] (.alt 15 (.bsl 102 1 [(.c (.int .i64 (-1))),(.t 101)]) [0,1,2,3,4,13,14] [] (.alt 16 (.call 103 Ap [((.t 100),true),((.t 102),false)]) [0,1,2,3,4,13] [] (.alt 17 (.iad 104 1 (.t 91) (.t 99)) [0,1,2,3,4] [] (.alt 18 (.st 1 (.t 104) (.t 103)) [] [] .nil .nil) .nil) .nil) .nil) (.alt 15 (.bsl 102 1 [(.c (.int .i64 (-1))),(.t 101)]) [0,1,2,3,4,5,13,14] [] (.alt 12 (.call 99 Ao [((.t 92),true),((.t 98),false)]) [0,1,2,3,4,5,13] [] (.alt 16 (.call 103 Ap [((.t 100),true),((.t 102),false)]) [0,1,2,3,4,13] [] (.alt 17 (.iad 104 1 (.t 91) (.t 99)) [0,1,2,3,4] [] (.alt 18 (.st 1 (.t 104) (.t 103)) [] [] .nil .nil) .nil) .nil) .nil) .nil)) (.alt 15 (.bsl 102 1 [(.c (.int .i64 (-1))),(.t 101)]) [0,1,2,3,4,5,6,7,8,9,10,13,14] [] (.alt 11 (.len 98 (.t 97)) [0,1,2,3,4,5,6,7,8,9,10,13] [] (.alt 12 (.call 99 Ao [((.t 92),true),((.t 98),false)]) [0,1,2,3,4,5,13] [] (.alt 16 (.call 103 Ap [((.t 100),true),((.t 102),false)]) [0,1,2,3,4,13] [] (.alt 17 (.iad 104 1 (.t 91) (.t 99)) [0,1,2,3,4] [] (.alt 18 (.st 1 (.t 104) (.t 103)) [] [] .nil .nil) .nil) .nil) .nil) .nil) .nil)))
 (.seq (.reg [un (.bin 106 .eql (.t 63) (.c (.int .i64 3))),
 un (.asg 105 (.t 106))])
 (.drop [106] (.cond (.t 105) (.dregl [(0,.fadr 107 1 (.t 5)),
 (1,.ld 108 1 false (.t 107)),
 (2,.mov 109 (.t 0))]
 (.alt 3 (.bsl 110 1 [(.c (.int .i64 (-1))),(.c (.int .i64 4))]) [0,1,2] [] (.alt 4 (.call 111 Ap [((.t 109),true),((.t 110),false)]) [0,1,2] [] (.alt 5 (.iad 112 2 (.t 108) (.c (.int .i64 0))) [0,1] [] (.alt 6 (.fadr 113 0 (.t 112)) [] [] (.alt 7 (.st 1 (.t 113) (.t 111)) [] [] .nil .nil) .nil) .nil) .nil) .nil))
 (.seq (.reg [un (.bin 115 .eql (.t 63) (.c (.int .i64 4))),
 un (.asg 114 (.t 115))])
 (.drop [115] (.cond (.t 114) (.block 5 (.loop Jd))
 .skip))))))))))))))))))
 (.drop [62,63,65,64,66,67,68,69,70,71,73,72,74,75,76,77,78,79,80,81,82,83,84,86,85,87,88,89,90,91,92,93,94,95,96,97,98,99,100,101,102,103,104,106,105,107,108,109,110,111,112,113,115,114,116,117,118,119,120,121,122,123,124,125,126,127,128,129,130] (.seq (.reg [un (.ld 131 2 true (.t 5)),
 un (.st 2 (.t 2) (.t 131))])
 (.drop [131] .ret)))))))))))))
abbrev S0:List RS:=[.c 2 2 true]
theorem Sq:Bh Tryd.prog C5 132 S7 S0=true:=by kernel_rfl
def Kc:ACode:=
 (.seq (.seq (.reg [un (.mov 15 (.t 10)),
 un (.fadr 16 1 (.t 5)),
 un (.ld 17 1 false (.t 16)),
 un (.len 18 (.t 17)),
 un (.bin 19 .lss (.t 15) (.t 18))])
 (.drop [15,16,17,18] (.cond (.t 19) .skip
 (.exit 0))))
 (.drop [15,16,17,18,19] (.seq (.block 1 (.seq (.reg [un (.fadr 22 1 (.t 5)),
 un (.ld 23 1 false (.t 22)),
 un (.mov 24 (.t 10)),
 un (.iad 25 2 (.t 23) (.t 24)),
 un (.fadr 26 0 (.t 25)),
 un (.ld 27 1 false (.t 26)),
 un (.bin 28 .eql (.t 27) (.c (.int .i64 0)))])
 (.drop [22,23,24,25,26,27] (.cond (.t 28) (.reg [un (.mov 29 (.t 9)),
 un (.mov 30 (.t 10)),
 un (.bin 31 .sub (.c (.int .i64 (-1))) (.t 30)),
 un (.bsl 32 1 [(.t 31)]),
 un (.app 33 1 (.t 29) (.t 32)),
 un (.asg 9 (.t 33))])
 .skip))))
 (.drop [22,23,24,25,26,27,28,29,30,31,32,33] (.reg [un (.mov 20 (.t 10)),
 un (.bin 21 .add (.t 20) (.c (.int .i64 1))),
 un (.asg 10 (.t 21))])))))
def Qw:ACode:=
 (.reg [un (.mov 34 (.t 2)),
 un (.bin 35 .eql (.t 34) (.c (.int .i64 0))),
 un (.asg 36 (.t 35)),
 ⟨some (36,false),.fadr 37 1 (.t 5)⟩,
 ⟨some (36,false),.ld 38 1 false (.t 37)⟩,
 ⟨some (36,false),.len 39 (.t 38)⟩,
 ⟨some (36,false),.bin 40 .eql (.t 39) (.c (.int .i64 0))⟩,
 un (.pick 41 (.t 36) (.c (.bool true)) (.t 40)),
 un (.asg 42 (.t 41)),
 ⟨some (42,false),.mov 43 (.t 0)⟩,
 ⟨some (42,false),.call 44 Dy [((.t 43),true),((.c (.int .i64 4)),false)]⟩,
 un (.pick 45 (.t 42) (.c (.bool true)) (.t 44))])
def Ra:ACode:=
 (.reg [un (.mov 46 (.t 3)),
 un (.bin 47 .eql (.t 46) (.c (.int .i64 0))),
 un (.asg 48 (.t 47)),
 ⟨some (48,false),.mov 49 (.t 9)⟩,
 ⟨some (48,false),.len 50 (.t 49)⟩,
 ⟨some (48,false),.bin 51 .gtr (.t 50) (.c (.int .i64 0))⟩,
 ⟨some (48,false),.asg 52 (.t 51)⟩,
 ⟨some (52,true),.mov 53 (.t 0)⟩,
 ⟨some (52,true),.call 54 Dy [((.t 53),true),((.c (.int .i64 4)),false)]⟩,
 ⟨some (48,false),.pick 55 (.t 52) (.t 54) (.c (.bool false))⟩,
 un (.pick 56 (.t 48) (.c (.bool true)) (.t 55))])
def Rf:ACode:=
 (.seq (.cut Qw)
 (.drop [34,35,36,37,38,39,40,41,42,43,44] (.cond (.t 45) (.seq (.seq (.cut Ra)
 (.drop [46,47,48,49,50,51,52,53,54,55] (.cond (.t 56) (.seq (.seq (.reg [un (.mov 57 (.t 9)),
 un (.len 58 (.t 57)),
 un (.bin 59 .eql (.t 58) (.c (.int .i64 0)))])
 (.drop [57,58] (.cond (.t 59) (.seq (.reg [un (.bsl 60 1 [(.c (.int .i64 0))]),
 un (.asg 8 (.t 60))])
 (.drop [60] .ret))
 .skip)))
 (.drop [57,58,59,60] (.seq (.frz [9] (.reg [un (.mov 61 (.t 0)),
 un (.mov 62 (.t 9)),
 un (.call 63 Ap [((.t 61),true),((.t 62),false)]),
 un (.bsl 64 1 [(.t 63)]),
 un (.asg 8 (.t 64))]))
 (.drop [61,62,63,64] .ret))))
 .skip)))
 (.drop [46,47,48,49,50,51,52,53,54,55,56,57,58,59,60,61,62,63,64] (.seq (.reg [un (.mov 65 (.t 0)),
 un (.mov 66 (.t 3)),
 un (.call 67 Ao [((.t 65),true),((.t 66),false)]),
 un (.bsl 68 1 [(.t 67)]),
 un (.asg 8 (.t 68))])
 (.drop [65,66,67,68] .ret))))
 .skip)))
def J0:ACode:=
 (.seq (.seq (.reg [un (.mov 77 (.t 13)),
 un (.fadr 78 1 (.t 5)),
 un (.ld 79 1 false (.t 78)),
 un (.mov 80 (.t 11)),
 un (.iad 81 2 (.t 79) (.t 80)),
 un (.fadr 82 0 (.t 81)),
 un (.ld 83 1 false (.t 82)),
 un (.bin 84 .lss (.t 77) (.t 83))])
 (.drop [77,78,79,80,81,82,83] (.cond (.t 84) .skip
 (.exit 2))))
 (.drop [77,78,79,80,81,82,83,84] (.seq (.block 3 (.reg [un (.mov 87 (.t 12)),
 un (.mov 88 (.t 0)),
 un (.ld 89 2 true (.t 5)),
 un (.mov 90 (.t 2)),
 un (.bin 91 .sub (.t 90) (.c (.int .i64 1))),
 un (.mov 92 (.t 3)),
 un (.call 93 Bk [((.t 88),true),((.t 89),false),((.t 91),false),((.t 92),false)]),
 un (.app 94 1 (.t 87) (.t 93)),
 un (.asg 12 (.t 94))]))
 (.drop [87,88,89,90,91,92,93,94] (.reg [un (.mov 85 (.t 13)),
 un (.bin 86 .add (.t 85) (.c (.int .i64 1))),
 un (.asg 13 (.t 86))])))))
def Va:ACode:=
 (.seq (.reg [un (.box 5 (.t 1)),
 un (.asg 8 (.c (.nilsl 1)))])
 (.seq (.reg [un (.bsl 14 1 []),
 un (.asg 9 (.t 14))])
 (.drop [14] (.seq (.seq (.reg [un (.asg 10 (.c (.int .i64 0)))])
 (.block 0 (.loop Kc)))
 (.drop [10,15,16,17,18,19,22,23,24,25,26,27,28,29,30,31,32,33,20,21] (.seq (.cut Rf)
 (.drop [34,35,36,37,38,39,40,41,42,43,44,45,46,47,48,49,50,51,52,53,54,55,56,57,58,59,60,61,62,63,64,65,66,67,68] (.seq (.reg [un (.mov 69 (.t 0)),
 un (.fadr 70 1 (.t 5)),
 un (.ld 71 1 false (.t 70)),
 un (.len 72 (.t 71)),
 un (.call 73 Ao [((.t 69),true),((.t 72),false)]),
 un (.asg 11 (.t 73))])
 (.drop [69,70,71,72,73] (.seq (.reg [un (.mov 74 (.t 11)),
 un (.bin 75 .sub (.c (.int .i64 (-1))) (.t 74)),
 un (.bsl 76 1 [(.t 75)]),
 un (.asg 12 (.t 76))])
 (.drop [74,75,76] (.seq (.seq (.reg [un (.asg 13 (.c (.int .i64 0)))])
 (.block 2 (.loop J0)))
 (.drop [13,77,78,79,80,81,82,83,84,87,88,89,90,91,92,93,94,85,86] (.seq (.reg [un (.mov 95 (.t 12)),
 un (.asg 8 (.t 95))])
 (.drop [95] .ret)))))))))))))))
abbrev Ve:List RS:=[.t 8]
theorem Uj:Bh Tryd.prog Bk 96 Va Ve=true:=by kernel_rfl
def Ps:ACode:=
 (.seq (.seq (.reg [un (.mov 6 (.t 5)),
 un (.mov 7 (.t 1)),
 un (.len 8 (.t 7)),
 un (.bin 9 .lss (.t 6) (.t 8))])
 (.drop [6,7,8] (.cond (.t 9) .skip
 (.exit 0))))
 (.drop [6,7,8,9] (.seq (.block 1 (.seq (.dreg [(un (.ld 12 2 true (.t 2)),[]),
 (un (.mov 13 (.t 1)),[12]),
 (un (.mov 14 (.t 5)),[12,13]),
 (un (.iad 15 1 (.t 13) (.t 14)),[12]),
 (un (.ld 16 1 false (.t 15)),[12])]
 [un (.call 17 G3 [((.t 12),false),((.t 16),false)]),
 un (.un 18 .not (.t 17))])
 (.drop [12,13,14,15,16,17] (.cond (.t 18) (.seq (.reg [un (.asg 4 (.c (.bool false)))])
 .ret)
 .skip))))
 (.drop [12,13,14,15,16,17,18] (.reg [un (.mov 10 (.t 5)),
 un (.bin 11 .add (.t 10) (.c (.int .i64 1))),
 un (.asg 5 (.t 11))])))))
def Afq:ACode:=
 (.seq (.reg [un (.box 2 (.t 0)),
 un (.asg 4 (.c (.bool false)))])
 (.seq (.seq (.reg [un (.asg 5 (.c (.int .i64 0)))])
 (.block 0 (.loop Ps)))
 (.drop [5,6,7,8,9,12,13,14,15,16,17,18,10,11] (.seq (.reg [un (.asg 4 (.c (.bool true)))])
 .ret))))
abbrev Agk:List RS:=[.t 4]
theorem Afz:Bh Tryd.prog Pf 19 Afq Agk=true:=by kernel_rfl
end Go.Proofs.YtbnoclklhcbidaaDoor.Ax
