/-
  The small code of the functions, written by program; that the program's code is this one, the kernel looks at.
-/
import Derived.Test.YtmcbocbcpijgeaaAx3
import Derived.Test.YtmcbocbcpijgeaaProg
import Derived.KernelRfl
import Derived.Test.YtmcbocbcpijgeaaNum
namespace Go.Proofs.Ytmcbocbcpijgeaa.Ax
open Go
set_option maxRecDepth 100000
def Ad5:ACode:=
 (.seq (.reg [un (.box 3 (.t 0)),
 un (.alc 6 (.agg [.int .i64 0,.nilsl 1])),
 un (.asg 7 (.c (.bool false)))])
 (.seq (.seq (.reg [un (.ld 8 2 true (.t 3)),
 un (.mov 9 (.t 1)),
 un (.call 10 My [((.t 8),false),((.t 9),false)]),
 un (.un 11 .not (.t 10)),
 un (.asg 12 (.t 11)),
 ⟨some (12,false),.mov 13 (.t 2)⟩,
 ⟨some (12,false),.call 14 Gv [((.t 13),false),((.c (.int .i64 0)),false),((.c (.int .i64 3)),false)]⟩,
 ⟨some (12,false),.un 15 .not (.t 14)⟩,
 un (.pick 16 (.t 12) (.c (.bool true)) (.t 15)),
 un (.asg 17 (.t 16)),
 ⟨some (17,false),.mov 18 (.t 1)⟩,
 ⟨some (17,false),.mov 19 (.t 2)⟩,
 ⟨some (17,false),.call 20 Ov [((.t 18),false),((.t 19),false)]⟩,
 ⟨some (17,false),.un 21 .not (.t 20)⟩,
 un (.pick 22 (.t 17) (.c (.bool true)) (.t 21))])
 (.drop [8,9,10,11,12,13,14,15,16,17,18,19,20,21] (.cond (.t 22) (.seq (.reg [un (.bld 23 [.int .i64 0,.nilsl 1] []),
 un (.st 2 (.t 6) (.t 23)),
 un (.asg 7 (.c (.bool false)))])
 (.drop [23] .ret))
 .skip)))
 (.drop [8,9,10,11,12,13,14,15,16,17,18,19,20,21,22,23] (.seq (.reg [un (.ld 24 2 true (.t 3)),
 un (.mov 25 (.t 1)),
 un (.mov 26 (.t 2)),
 un (.call 27 Sm [((.t 24),false),((.t 25),false),((.t 26),false)]),
 un (.st 2 (.t 6) (.t 27)),
 un (.asg 7 (.c (.bool true)))])
 (.drop [24,25,26,27] .ret)))))
abbrev Ad4:List RS:=[.c 6 2 true,.t 7]
theorem Ad0:Bl Try.prog O5 28 Ad5 Ad4=true:=by kernel_rfl
def R9:ACode:=
 (.seq (.reg [un (.ld 11 2 true (.t 2)),
 un (.call 12 Ew [((.t 11),false)]),
 un (.un 13 .not (.t 12)),
 un (.asg 14 (.t 13)),
 ⟨some (14,false),.mov 15 (.t 1)⟩,
 ⟨some (14,false),.len 16 (.t 15)⟩,
 ⟨some (14,false),.bin 17 .gtr (.t 16) (.c (.int .i64 20))⟩,
 un (.pick 18 (.t 14) (.c (.bool true)) (.t 17))])
 (.drop [11,12,13,14,15,16,17] (.cond (.t 18) (.seq (.reg [un (.asg 4 (.c (.int .i64 0))),
 un (.asg 5 (.c (.bool false)))])
 .ret)
 .skip)))
def J9:ACode:=
 (.seq (.reg [un (.bin 22 .lss (.t 21) (.t 20))])
 (.seq (.cond (.t 22) .skip
 (.exit 0))
 (.seq (.block 1 (.seq (.reg [un (.mov 23 (.t 21)),
 un (.iad 24 2 (.t 19) (.t 21)),
 un (.ld 25 2 true (.t 24)),
 un (.alc 8 (.agg [.nilsl 1,.nilsl 1])),
 un (.asg 7 (.t 23)),
 un (.st 2 (.t 8) (.t 25))])
 (.drop [23,24,25] (.seq (.reg [un (.ld 27 2 true (.t 2)),
 un (.ld 28 2 true (.t 8)),
 un (.call 29 F7 [((.t 27),false),((.t 28),false)]),
 un (.asg 26 (.t 29)),
 un (.ext 30 (.t 26) 0),
 un (.ext 31 (.t 26) 1),
 un (.asg 9 (.t 30)),
 un (.asg 10 (.t 31))])
 (.drop [27,28,29,26,30,31] (.seq (.seq (.reg [un (.mov 32 (.t 10)),
 un (.un 33 .not (.t 32))])
 (.drop [32] (.cond (.t 33) (.seq (.reg [un (.asg 4 (.c (.int .i64 0))),
 un (.asg 5 (.c (.bool false)))])
 .ret)
 .skip)))
 (.drop [32,33] (.seq (.reg [un (.mov 34 (.t 9)),
 un (.un 35 .not (.t 34)),
 un (.asg 36 (.t 35)),
 ⟨some (36,true),.mov 37 (.t 6)⟩,
 ⟨some (36,true),.bin 38 .lss (.t 37) (.c (.int .i64 0))⟩,
 un (.pick 39 (.t 36) (.t 38) (.c (.bool false)))])
 (.drop [34,35,36,37,38] (.cond (.t 39) (.reg [un (.mov 40 (.t 7)),
 un (.asg 6 (.t 40))])
 .skip))))))))))
 (.drop [23,24,25,8,7,27,28,29,26,30,31,9,10,32,33,34,35,36,37,38,39,40] (.reg [un (.bin 41 .add (.t 21) (.c (.int .i64 1))),
 un (.asg 21 (.t 41))])))))
def Vg:ACode:=
 (.seq (.reg [un (.box 2 (.t 0)),
 un (.asg 4 (.c (.int .i64 0))),
 un (.asg 5 (.c (.bool false)))])
 (.seq (.cut R9)
 (.drop [11,12,13,14,15,16,17,18] (.seq (.reg [un (.asg 6 (.c (.int .i64 (-1))))])
 (.seq (.seq (.reg [un (.mov 19 (.t 1)),
 un (.len 20 (.t 19)),
 un (.mov 21 (.c (.int .i64 0)))])
 (.block 0 (.loop J9)))
 (.drop [19,20,21,22,23,24,25,8,7,27,28,29,26,30,31,9,10,32,33,34,35,36,37,38,39,40,41] (.seq (.reg [un (.mov 42 (.t 6)),
 un (.asg 4 (.t 42)),
 un (.asg 5 (.c (.bool true)))])
 (.drop [42] .ret))))))))
abbrev Vh:List RS:=[.t 4,.t 5]
theorem V1:Bl Try.prog Iq 43 Vg Vh=true:=by kernel_rfl
def R8:ACode:=
 (.seq (.reg [un (.ld 8 2 true (.t 2)),
 un (.call 9 Es [((.t 8),false)]),
 un (.un 10 .not (.t 9)),
 un (.asg 11 (.t 10)),
 ⟨some (11,false),.mov 12 (.t 1)⟩,
 ⟨some (11,false),.len 13 (.t 12)⟩,
 ⟨some (11,false),.bin 14 .gtr (.t 13) (.c (.int .i64 20))⟩,
 un (.pick 15 (.t 11) (.c (.bool true)) (.t 14))])
 (.drop [8,9,10,11,12,13,14] (.cond (.t 15) (.seq (.reg [un (.asg 4 (.c (.int .i64 0))),
 un (.asg 5 (.c (.bool false)))])
 .ret)
 .skip)))
def Jx:ACode:=
 (.seq (.seq (.reg [un (.mov 16 (.t 6)),
 un (.mov 17 (.t 1)),
 un (.len 18 (.t 17)),
 un (.bin 19 .lss (.t 16) (.t 18))])
 (.drop [16,17,18] (.cond (.t 19) .skip
 (.exit 0))))
 (.drop [16,17,18,19] (.seq (.block 1 (.seq (.dreg [(un (.ld 22 2 true (.t 2)),[]),
 (un (.mov 23 (.t 1)),[22]),
 (un (.mov 24 (.t 6)),[22,23]),
 (un (.iad 25 2 (.t 23) (.t 24)),[22]),
 (un (.ld 26 2 true (.t 25)),[22])]
 [un (.call 27 Gy [((.t 22),false),((.t 26),false)]),
 un (.un 28 .not (.t 27))])
 (.drop [22,23,24,25,26,27] (.cond (.t 28) (.seq (.reg [un (.asg 4 (.c (.int .i64 0))),
 un (.asg 5 (.c (.bool false)))])
 .ret)
 .skip))))
 (.drop [22,23,24,25,26,27,28] (.reg [un (.mov 20 (.t 6)),
 un (.bin 21 .add (.t 20) (.c (.int .i64 1))),
 un (.asg 6 (.t 21))])))))
def J3:ACode:=
 (.seq (.seq (.reg [un (.mov 29 (.t 7)),
 un (.mov 30 (.t 1)),
 un (.len 31 (.t 30)),
 un (.bin 32 .lss (.t 29) (.t 31))])
 (.drop [29,30,31] (.cond (.t 32) .skip
 (.exit 2))))
 (.drop [29,30,31,32] (.seq (.block 3 (.seq (.dreg [(un (.ld 35 2 true (.t 2)),[]),
 (un (.mov 36 (.t 1)),[35]),
 (un (.mov 37 (.t 7)),[35,36]),
 (un (.iad 38 2 (.t 36) (.t 37)),[35]),
 (un (.ld 39 2 true (.t 38)),[35])]
 [un (.call 40 Jk [((.t 35),false),((.t 39),false)]),
 un (.un 41 .not (.t 40))])
 (.drop [35,36,37,38,39,40] (.cond (.t 41) (.seq (.reg [un (.mov 42 (.t 7)),
 un (.asg 4 (.t 42)),
 un (.asg 5 (.c (.bool true)))])
 (.drop [42] .ret))
 .skip))))
 (.drop [35,36,37,38,39,40,41,42] (.reg [un (.mov 33 (.t 7)),
 un (.bin 34 .add (.t 33) (.c (.int .i64 1))),
 un (.asg 7 (.t 34))])))))
def V5:ACode:=
 (.seq (.reg [un (.box 2 (.t 0)),
 un (.asg 4 (.c (.int .i64 0))),
 un (.asg 5 (.c (.bool false)))])
 (.seq (.cut R8)
 (.drop [8,9,10,11,12,13,14,15] (.seq (.seq (.reg [un (.asg 6 (.c (.int .i64 0)))])
 (.block 0 (.loop Jx)))
 (.drop [6,16,17,18,19,22,23,24,25,26,27,28,20,21] (.seq (.seq (.reg [un (.asg 7 (.c (.int .i64 0)))])
 (.block 2 (.loop J3)))
 (.drop [7,29,30,31,32,35,36,37,38,39,40,41,42,33,34] (.seq (.reg [un (.asg 4 (.c (.int .i64 (-1)))),
 un (.asg 5 (.c (.bool true)))])
 .ret))))))))
abbrev Vw:List RS:=[.t 4,.t 5]
theorem V6:Bl Try.prog Is 43 V5 Vw=true:=by kernel_rfl
def Sq:ACode:=
 (.dregl [(0,.mov 10 (.t 0)),
 (1,.ld 11 2 true (.t 3)),
 (2,.mov 12 (.t 0)),
 (5,.mov 15 (.t 0))]
 (.alt 3 (.call 13 Ap [((.t 12),true),((.c (.int .i64 3)),false)]) [0,1,2,5] [] (.alt 4 (.bin 14 .add (.c (.int .i64 1)) (.t 13)) [0,1,5] [] (.alt 6 (.bsl 16 1 [(.c (.int .i64 1)),(.c (.int .i64 2)),(.c (.int .i64 3)),(.c (.int .i64 3)),(.c (.int .i64 6))]) [0,1,5] [] (.alt 7 (.call 17 Ar [((.t 15),true),((.t 16),false)]) [0,1,5] [] (.alt 8 (.call 18 Bj [((.t 10),true),((.t 11),false),((.t 14),false),((.t 17),false)]) [0,1] [] (.alt 9 (.asg 5 (.t 18)) [] [] .nil .nil) .nil) .nil) .nil) (.alt 6 (.bsl 16 1 [(.c (.int .i64 1)),(.c (.int .i64 2)),(.c (.int .i64 3)),(.c (.int .i64 3)),(.c (.int .i64 6))]) [0,1,5] [] (.alt 4 (.bin 14 .add (.c (.int .i64 1)) (.t 13)) [0,1,5] [] (.alt 7 (.call 17 Ar [((.t 15),true),((.t 16),false)]) [0,1,5] [] (.alt 8 (.call 18 Bj [((.t 10),true),((.t 11),false),((.t 14),false),((.t 17),false)]) [0,1] [] (.alt 9 (.asg 5 (.t 18)) [] [] .nil .nil) .nil) .nil) (.alt 7 (.call 17 Ar [((.t 15),true),((.t 16),false)]) [0,1,5] [] (.alt 4 (.bin 14 .add (.c (.int .i64 1)) (.t 13)) [0,1] [] (.alt 8 (.call 18 Bj [((.t 10),true),((.t 11),false),((.t 14),false),((.t 17),false)]) [0,1] [] (.alt 9 (.asg 5 (.t 18)) [] [] .nil .nil) .nil) .nil) .nil)) .nil)) (.alt 6 (.bsl 16 1 [(.c (.int .i64 1)),(.c (.int .i64 2)),(.c (.int .i64 3)),(.c (.int .i64 3)),(.c (.int .i64 6))]) [0,1,2,5] [] (.alt 3 (.call 13 Ap [((.t 12),true),((.c (.int .i64 3)),false)]) [0,1,2,5] [] (.alt 4 (.bin 14 .add (.c (.int .i64 1)) (.t 13)) [0,1,5] [] (.alt 7 (.call 17 Ar [((.t 15),true),((.t 16),false)]) [0,1,5] [] (.alt 8 (.call 18 Bj [((.t 10),true),((.t 11),false),((.t 14),false),((.t 17),false)]) [0,1] [] (.alt 9 (.asg 5 (.t 18)) [] [] .nil .nil) .nil) .nil) (.alt 7 (.call 17 Ar [((.t 15),true),((.t 16),false)]) [0,1,5] [] (.alt 4 (.bin 14 .add (.c (.int .i64 1)) (.t 13)) [0,1] [] (.alt 8 (.call 18 Bj [((.t 10),true),((.t 11),false),((.t 14),false),((.t 17),false)]) [0,1] [] (.alt 9 (.asg 5 (.t 18)) [] [] .nil .nil) .nil) .nil) .nil)) .nil) .nil)))
def Wq:ACode:=
 (.seq (.reg [un (.box 3 (.t 1)),
 un (.asg 4 (.c (.nilsl 1)))])
 (.seq (.seq (.reg [un (.ld 6 2 true (.t 3)),
 un (.call 7 Es [((.t 6),false)]),
 un (.un 8 .not (.t 7))])
 (.drop [6,7] (.cond (.t 8) (.seq (.reg [un (.bsl 9 1 [(.c (.int .i64 0))]),
 un (.asg 4 (.t 9))])
 (.drop [9] .ret))
 .skip)))
 (.drop [6,7,8,9] (.seq (.cut Sq)
 (.drop [10,11,12,13,14,15,16,17,18] (.seq (.seq (.reg [un (.mov 19 (.t 0)),
 un (.call 20 Ap [((.t 19),true),((.c (.int .i64 32)),false)])])
 (.drop [19] (.block 0 (.seq (.reg [un (.bin 22 .eql (.t 20) (.c (.int .i64 0))),
 un (.asg 21 (.t 22))])
 (.drop [22] (.cond (.t 21) (.reg [un (.mov 23 (.t 5)),
 un (.bsl 24 1 [(.c (.int .i64 0))]),
 un (.app 25 1 (.t 23) (.t 24)),
 un (.asg 5 (.t 25))])
 (.seq (.reg [un (.bin 27 .eql (.t 20) (.c (.int .i64 1))),
 un (.asg 26 (.t 27))])
 (.drop [27] (.cond (.t 26) (.dregl [(0,.mov 28 (.t 5)),
 (1,.mov 29 (.t 0)),
 (2,.mov 30 (.t 5)),
 (5,.mov 33 (.t 0)),
 (6,.fadr 34 1 (.t 3)),
 (7,.ld 35 1 false (.t 34))]
 (.alt 3 (.len 31 (.t 30)) [0,1,2,5,6,7] [] (.alt 4 (.call 32 Ap [((.t 29),true),((.t 31),false)]) [0,1,5,6,7] [] (.alt 8 (.len 36 (.t 35)) [0,5,6,7] [] (.alt 9 (.bin 37 .sub (.c (.int .i64 (-1))) (.t 36)) [0,5] [] (.alt 10 (.bsl 38 1 [(.t 37),(.c (.int .i64 6)),(.c (.int .i64 (-9223372036854775808))),(.c (.int .i64 9223372036854775807))]) [0,5] [] (.alt 11 (.call 39 Ar [((.t 33),true),((.t 38),false)]) [0,5] [] (.alt 12 (.iad 40 1 (.t 28) (.t 32)) [0] [] (.alt 13 (.st 1 (.t 40) (.t 39)) [] [] .nil .nil) .nil) .nil) .nil) .nil) .nil) (.alt 8 (.len 36 (.t 35)) [0,1,5,6,7] [] (.alt 4 (.call 32 Ap [((.t 29),true),((.t 31),false)]) [0,1,5] [] (.alt 9 (.bin 37 .sub (.c (.int .i64 (-1))) (.t 36)) [0,5] [] (.alt 10 (.bsl 38 1 [(.t 37),(.c (.int .i64 6)),(.c (.int .i64 (-9223372036854775808))),(.c (.int .i64 9223372036854775807))]) [0,5] [] (.alt 11 (.call 39 Ar [((.t 33),true),((.t 38),false)]) [0,5] [] (.alt 12 (.iad 40 1 (.t 28) (.t 32)) [0] [] (.alt 13 (.st 1 (.t 40) (.t 39)) [] [] .nil .nil) .nil) .nil) .nil) .nil) (.alt 9 (.bin 37 .sub (.c (.int .i64 (-1))) (.t 36)) [0,1,5] [] (.alt 4 (.call 32 Ap [((.t 29),true),((.t 31),false)]) [0,1,5] [] (.alt 10 (.bsl 38 1 [(.t 37),(.c (.int .i64 6)),(.c (.int .i64 (-9223372036854775808))),(.c (.int .i64 9223372036854775807))]) [0,5] [] (.alt 11 (.call 39 Ar [((.t 33),true),((.t 38),false)]) [0,5] [] (.alt 12 (.iad 40 1 (.t 28) (.t 32)) [0] [] (.alt 13 (.st 1 (.t 40) (.t 39)) [] [] .nil .nil) .nil) .nil) .nil) (.alt 10 (.bsl 38 1 [(.t 37),(.c (.int .i64 6)),(.c (.int .i64 (-9223372036854775808))),(.c (.int .i64 9223372036854775807))]) [0,1,5] [] (.alt 4 (.call 32 Ap [((.t 29),true),((.t 31),false)]) [0,1,5] [] (.alt 11 (.call 39 Ar [((.t 33),true),((.t 38),false)]) [0,5] [] (.alt 12 (.iad 40 1 (.t 28) (.t 32)) [0] [] (.alt 13 (.st 1 (.t 40) (.t 39)) [] [] .nil .nil) .nil) .nil) .nil) .nil)) .nil)) .nil)) (.alt 8 (.len 36 (.t 35)) [0,1,2,5,6,7] [] (.alt 3 (.len 31 (.t 30)) [0,1,2,5] [] (.alt 4 (.call 32 Ap [((.t 29),true),((.t 31),false)]) [0,1,5] [] (.alt 9 (.bin 37 .sub (.c (.int .i64 (-1))) (.t 36)) [0,5] [] (.alt 10 (.bsl 38 1 [(.t 37),(.c (.int .i64 6)),(.c (.int .i64 (-9223372036854775808))),(.c (.int .i64 9223372036854775807))]) [0,5] [] (.alt 11 (.call 39 Ar [((.t 33),true),((.t 38),false)]) [0,5] [] (.alt 12 (.iad 40 1 (.t 28) (.t 32)) [0] [] (.alt 13 (.st 1 (.t 40) (.t 39)) [] [] .nil .nil) .nil) .nil) .nil) .nil) (.alt 9 (.bin 37 .sub (.c (.int .i64 (-1))) (.t 36)) [0,1,5] [] (.alt 4 (.call 32 Ap [((.t 29),true),((.t 31),false)]) [0,1,5] [] (.alt 10 (.bsl 38 1 [(.t 37),(.c (.int .i64 6)),(.c (.int .i64 (-9223372036854775808))),(.c (.int .i64 9223372036854775807))]) [0,5] [] (.alt 11 (.call 39 Ar [((.t 33),true),((.t 38),false)]) [0,5] [] (.alt 12 (.iad 40 1 (.t 28) (.t 32)) [0] [] (.alt 13 (.st 1 (.t 40) (.t 39)) [] [] .nil .nil) .nil) .nil) .nil) (.alt 10 (.bsl 38 1 [(.t 37),(.c (.int .i64 6)),(.c (.int .i64 (-9223372036854775808))),(.c (.int .i64 9223372036854775807))]) [0,1,5] [] (.alt 4 (.call 32 Ap [((.t 29),true),((.t 31),false)]) [0,1,5] [] (.alt 11 (.call 39 Ar [((.t 33),true),((.t 38),false)]) [0,5] [] (.alt 12 (.iad 40 1 (.t 28) (.t 32)) [0] [] (.alt 13 (.st 1 (.t 40) (.t 39)) [] [] .nil .nil) .nil) .nil) .nil) .nil)) .nil)) (.alt 9 (.bin 37 .sub (.c (.int .i64 (-1))) (.t 36)) [0,1,2,5] [] (.alt 3 (.len 31 (.t 30)) [0,1,2,5] [] (.alt 4 (.call 32 Ap [((.t 29),true),((.t 31),false)]) [0,1,5] [] (.alt 10 (.bsl 38 1 [(.t 37),(.c (.int .i64 6)),(.c (.int .i64 (-9223372036854775808))),(.c (.int .i64 9223372036854775807))]) [0,5] [] (.alt 11 (.call 39 Ar [((.t 33),true),((.t 38),false)]) [0,5] [] (.alt 12 (.iad 40 1 (.t 28) (.t 32)) [0] [] (.alt 13 (.st 1 (.t 40) (.t 39)) [] [] .nil .nil) .nil) .nil) .nil) (.alt 10 (.bsl 38 1 [(.t 37),(.c (.int .i64 6)),(.c (.int .i64 (-9223372036854775808))),(.c (.int .i64 9223372036854775807))]) [0,1,5] [] (.alt 4 (.call 32 Ap [((.t 29),true),((.t 31),false)]) [0,1,5] [] (.alt 11 (.call 39 Ar [((.t 33),true),((.t 38),false)]) [0,5] [] (.alt 12 (.iad 40 1 (.t 28) (.t 32)) [0] [] (.alt 13 (.st 1 (.t 40) (.t 39)) [] [] .nil .nil) .nil) .nil) .nil) .nil)) (.alt 10 (.bsl 38 1 [(.t 37),(.c (.int .i64 6)),(.c (.int .i64 (-9223372036854775808))),(.c (.int .i64 9223372036854775807))]) [0,1,2,5] [] (.alt 3 (.len 31 (.t 30)) [0,1,2,5] [] (.alt 4 (.call 32 Ap [((.t 29),true),((.t 31),false)]) [0,1,5] [] (.alt 11 (.call 39 Ar [((.t 33),true),((.t 38),false)]) [0,5] [] (.alt 12 (.iad 40 1 (.t 28) (.t 32)) [0] [] (.alt 13 (.st 1 (.t 40) (.t 39)) [] [] .nil .nil) .nil) .nil) .nil) .nil) .nil)) .nil)) .nil)))
 (.seq (.reg [un (.bin 42 .eql (.t 20) (.c (.int .i64 2))),
 un (.asg 41 (.t 42))])
 (.drop [42] (.cond (.t 41) (.frz [5] (.reg [un (.mov 43 (.t 5)),
 un (.slc 44 1 (.t 43) (some (.c (.int .i64 1))) none),
 un (.asg 5 (.t 44))]))
 .skip))))))))))))
 (.drop [19,20,22,21,23,24,25,27,26,28,29,30,31,32,33,34,35,36,37,38,39,40,42,41,43,44] (.seq (.reg [un (.mov 45 (.t 5)),
 un (.asg 4 (.t 45))])
 (.drop [45] .ret)))))))))
abbrev Wj:List RS:=[.t 4]
theorem Xq:Bl Try.prog Dm 46 Wq Wj=true:=by kernel_rfl
def O3:ACode:=
 (.reg [un (.ld 21 2 true (.t 3)),
 un (.call 22 Es [((.t 21),false)]),
 un (.asg 23 (.t 22)),
 ⟨some (23,true),.fadr 24 1 (.t 3)⟩,
 ⟨some (23,true),.ld 25 1 false (.t 24)⟩,
 ⟨some (23,true),.len 26 (.t 25)⟩,
 ⟨some (23,true),.bin 27 .gtr (.t 26) (.c (.int .i64 0))⟩,
 un (.pick 28 (.t 23) (.t 27) (.c (.bool false))),
 un (.asg 29 (.t 28)),
 ⟨some (29,true),.fadr 30 1 (.t 3)⟩,
 ⟨some (29,true),.ld 31 1 false (.t 30)⟩,
 ⟨some (29,true),.mov 32 (.t 6)⟩,
 ⟨some (29,true),.iad 33 2 (.t 31) (.t 32)⟩,
 ⟨some (29,true),.fadr 34 0 (.t 33)⟩,
 ⟨some (29,true),.ld 35 1 false (.t 34)⟩,
 ⟨some (29,true),.bin 36 .eql (.t 35) (.c (.int .i64 2))⟩,
 un (.pick 37 (.t 29) (.t 36) (.c (.bool false))),
 un (.asg 38 (.t 37)),
 ⟨some (38,true),.mov 39 (.t 0)⟩,
 ⟨some (38,true),.call 40 D3 [((.t 39),true),((.c (.int .i64 3)),false)]⟩,
 ⟨some (38,true),.un 41 .not (.t 40)⟩,
 un (.pick 42 (.t 38) (.t 41) (.c (.bool false)))])
def Sa:ACode:=
 (.seq (.reg [un (.box 3 (.t 1)),
 un (.alc 4 (.agg [.nilsl 1,.nilsl 1]))])
 (.seq (.dregl [(0,.mov 8 (.t 0)),
 (1,.ld 9 2 true (.t 3)),
 (3,.mov 11 (.t 0)),
 (4,.ld 12 2 true (.t 3))]
 (.alt 2 (.call 10 Dm [((.t 8),true),((.t 9),false)]) [0,1,3,4] [] (.alt 5 (.call 13 Dm [((.t 11),true),((.t 12),false)]) [3,4] [] (.alt 6 (.bld 14 [.nilsl 1,.nilsl 1] [(0,1,(.t 10)),(1,1,(.t 13))]) [] [] (.alt 7 (.alc 5 (.agg [.nilsl 1,.nilsl 1])) [] [] (.alt 8 (.st 2 (.t 5) (.t 14)) [] [] .nil .nil) .nil) (.alt 7 (.alc 5 (.agg [.nilsl 1,.nilsl 1])) [] [] (.alt 6 (.bld 14 [.nilsl 1,.nilsl 1] [(0,1,(.t 10)),(1,1,(.t 13))]) [] [] (.alt 8 (.st 2 (.t 5) (.t 14)) [] [] .nil .nil) .nil) .nil)) (.alt 7 (.alc 5 (.agg [.nilsl 1,.nilsl 1])) [3,4] [] (.alt 5 (.call 13 Dm [((.t 11),true),((.t 12),false)]) [3,4] [] (.alt 6 (.bld 14 [.nilsl 1,.nilsl 1] [(0,1,(.t 10)),(1,1,(.t 13))]) [] [] (.alt 8 (.st 2 (.t 5) (.t 14)) [] [] .nil .nil) .nil) .nil) .nil)) (.alt 7 (.alc 5 (.agg [.nilsl 1,.nilsl 1])) [0,1,3,4] [] (.alt 2 (.call 10 Dm [((.t 8),true),((.t 9),false)]) [0,1,3,4] [] (.alt 5 (.call 13 Dm [((.t 11),true),((.t 12),false)]) [3,4] [] (.alt 6 (.bld 14 [.nilsl 1,.nilsl 1] [(0,1,(.t 10)),(1,1,(.t 13))]) [] [] (.alt 8 (.st 2 (.t 5) (.t 14)) [] [] .nil .nil) .nil) .nil) .nil) .nil)))
 (.drop [8,9,10,11,12,13,14] (.seq (.seq (.reg [un (.mov 15 (.t 0)),
 un (.fadr 16 1 (.t 3)),
 un (.ld 17 1 false (.t 16)),
 un (.len 18 (.t 17)),
 un (.call 19 Pb [((.c (.int .i64 1)),false),((.t 18),false)]),
 un (.call 20 Ap [((.t 15),true),((.t 19),false)]),
 un (.asg 6 (.t 20))])
 (.drop [15,16,17,18,19,20] (.seq (.cut O3)
 (.drop [21,22,23,24,25,26,27,28,29,30,31,32,33,34,35,36,37,38,39,40,41] (.cond (.t 42) (.seq (.reg [un (.mov 43 (.t 6)),
 un (.bin 44 .sub (.c (.int .i64 (-1))) (.t 43)),
 un (.asg 7 (.t 44))])
 (.drop [43,44] (.seq (.seq (.reg [un (.mov 45 (.t 0)),
 un (.call 46 Ap [((.t 45),true),((.c (.int .i64 5)),false)])])
 (.drop [45] (.block 0 (.seq (.reg [un (.bin 48 .eql (.t 46) (.c (.int .i64 0))),
 un (.asg 47 (.t 48))])
 (.drop [48] (.cond (.t 47) (.seq (.reg [un (.mov 49 (.t 7)),
 un (.bsl 50 1 [(.t 49),(.c (.int .i64 0)),(.c (.int .i64 1))]),
 un (.mov 51 (.t 7)),
 un (.bsl 52 1 [(.t 51),(.c (.int .i64 1)),(.c (.int .i64 0))]),
 un (.bld 53 [.nilsl 1,.nilsl 1] [(0,1,(.t 50)),(1,1,(.t 52))]),
 un (.st 2 (.t 4) (.t 53))])
 (.drop [49,50,51,52,53] .ret))
 (.seq (.reg [un (.bin 55 .eql (.t 46) (.c (.int .i64 1))),
 un (.asg 54 (.t 55))])
 (.drop [55] (.cond (.t 54) (.seq (.reg [un (.mov 56 (.t 7)),
 un (.mov 57 (.t 7)),
 un (.bsl 58 1 [(.t 56),(.t 57),(.c (.int .i64 0)),(.c (.int .i64 1)),(.c (.int .i64 2))]),
 un (.mov 59 (.t 7)),
 un (.mov 60 (.t 7)),
 un (.bsl 61 1 [(.t 59),(.c (.int .i64 0)),(.t 60),(.c (.int .i64 1)),(.c (.int .i64 2))]),
 un (.bld 62 [.nilsl 1,.nilsl 1] [(0,1,(.t 58)),(1,1,(.t 61))]),
 un (.st 2 (.t 4) (.t 62))])
 (.drop [56,57,58,59,60,61,62] .ret))
 (.seq (.reg [un (.bin 64 .eql (.t 46) (.c (.int .i64 2))),
 un (.asg 63 (.t 64))])
 (.drop [64] (.cond (.t 63) (.seq (.reg [un (.mov 65 (.t 7)),
 un (.bsl 66 1 [(.t 65),(.c (.int .i64 0)),(.c (.int .i64 0))]),
 un (.bsl 67 1 [(.c (.int .i64 0))]),
 un (.bld 68 [.nilsl 1,.nilsl 1] [(0,1,(.t 66)),(1,1,(.t 67))]),
 un (.st 2 (.t 4) (.t 68))])
 (.drop [65,66,67,68] .ret))
 (.seq (.reg [un (.bin 70 .eql (.t 46) (.c (.int .i64 3))),
 un (.asg 69 (.t 70))])
 (.drop [70] (.cond (.t 69) (.seq (.reg [un (.mov 71 (.t 7)),
 un (.mov 72 (.t 7)),
 un (.bsl 73 1 [(.t 71),(.c (.int .i64 0)),(.t 72),(.c (.int .i64 0)),(.c (.int .i64 1))]),
 un (.mov 74 (.t 7)),
 un (.bsl 75 1 [(.t 74),(.c (.int .i64 0)),(.c (.int .i64 1))]),
 un (.bld 76 [.nilsl 1,.nilsl 1] [(0,1,(.t 73)),(1,1,(.t 75))]),
 un (.st 2 (.t 4) (.t 76))])
 (.drop [71,72,73,74,75,76] .ret))
 .skip)))))))))))))))
 (.drop [45,46,48,47,49,50,51,52,53,55,54,56,57,58,59,60,61,62,64,63,65,66,67,68,70,69,71,72,73,74,75,76] (.seq (.reg [un (.mov 77 (.t 7)),
 un (.bsl 78 1 [(.t 77),(.c (.int .i64 0)),(.c (.int .i64 1))]),
 un (.bsl 79 1 [(.c (.int .i64 0))]),
 un (.bld 80 [.nilsl 1,.nilsl 1] [(0,1,(.t 78)),(1,1,(.t 79))]),
 un (.st 2 (.t 4) (.t 80))])
 (.drop [77,78,79,80] .ret))))))
 .skip)))))
 (.drop [15,16,17,18,19,20,6,21,22,23,24,25,26,27,28,29,30,31,32,33,34,35,36,37,38,39,40,41,42,43,44,7,45,46,48,47,49,50,51,52,53,55,54,56,57,58,59,60,61,62,64,63,65,66,67,68,70,69,71,72,73,74,75,76,77,78,79,80] (.seq (.reg [un (.ld 81 2 true (.t 5)),
 un (.st 2 (.t 4) (.t 81))])
 (.drop [81] .ret)))))))
abbrev Sd:List RS:=[.c 4 2 true]
theorem Se:Bl Try.prog E9 82 Sa Sd=true:=by kernel_rfl
def Uk:ACode:=
 (.seq (.reg [un (.alc 2 (.agg [.int .i64 0,.nilsl 2])),
 un (.alc 3 (.agg [.nilsl 1,.nilsl 1]))])
 (.seq (.reg [un (.mov 6 (.t 0)),
 un (.bld 7 [.nilsl 1,.int .i64 0,.int .u64 0] [(0,1,(.t 6))]),
 un (.box 8 (.t 7)),
 un (.asg 4 (.t 8))])
 (.drop [6,7,8] (.seq (.reg [un (.mov 9 (.t 4)),
 un (.call 10 Fh [((.t 9),true)]),
 un (.alc 5 (.agg [.int .i64 0,.nilsl 2])),
 un (.st 2 (.t 5) (.t 10))])
 (.drop [9,10] (.seq (.frz [100005] (.dreg [(un (.ld 11 2 true (.t 5)),[4]),
 (un (.mov 12 (.t 4)),[11]),
 (un (.ld 13 2 true (.t 5)),[11,12]),
 (un (.call 14 E9 [((.t 12),true),((.t 13),false)]),[4,11])]
 [un (.st 2 (.t 2) (.t 11)),
 un (.st 2 (.t 3) (.t 14))]))
 (.drop [11,12,13,14] .ret)))))))
abbrev Ud:List RS:=[.c 2 2 true,.c 3 2 true]
theorem T0:Bl Try.prog Hu 15 Uk Ud=true:=by kernel_rfl
def Hp:ACode:=
 (.seq (.seq (.reg [un (.mov 16 (.t 7)),
 un (.bin 17 .gtr (.t 16) (.c (.int .i64 0)))])
 (.drop [16] (.cond (.t 17) .skip
 (.exit 0))))
 (.drop [16,17] (.seq (.block 1 (.reg [un (.mov 20 (.t 6)),
 un (.mov 21 (.t 4)),
 un (.ld 22 2 true (.t 5)),
 un (.call 23 E9 [((.t 21),true),((.t 22),false)]),
 un (.bsl 24 2 [(.t 23)]),
 un (.app 25 2 (.t 20) (.t 24)),
 un (.asg 6 (.t 25))]))
 (.drop [20,21,22,23,24,25] (.reg [un (.mov 18 (.t 7)),
 un (.bin 19 .sub (.t 18) (.c (.int .i64 1))),
 un (.asg 7 (.t 19))])))))
def Hq:ACode:=
 (.seq (.seq (.reg [un (.mov 28 (.t 6)),
 un (.len 29 (.t 28)),
 un (.mov 30 (.t 4)),
 un (.call 31 Ap [((.t 30),true),((.c (.int .i64 2)),false)]),
 un (.bin 32 .add (.c (.int .i64 20)) (.t 31)),
 un (.bin 33 .lss (.t 29) (.t 32))])
 (.drop [28,29,30,31,32] (.cond (.t 33) .skip
 (.exit 2))))
 (.drop [28,29,30,31,32,33] (.block 3 (.reg [un (.mov 34 (.t 6)),
 un (.bslr 35 1 [(.c (.int .i64 0))]),
 un (.bslr 36 1 [(.c (.int .i64 0))]),
 un (.bld 37 [.nilsl 1,.nilsl 1] [(0,1,(.t 35)),(1,1,(.t 36))]),
 un (.bsl 38 2 [(.t 37)]),
 un (.app 39 2 (.t 34) (.t 38)),
 un (.asg 6 (.t 39))]))))
def Q0:ACode:=
 (.seq (.reg [un (.alc 2 (.agg [.int .i64 0,.nilsl 2])),
 un (.asg 3 (.c (.nilsl 2)))])
 (.seq (.reg [un (.mov 8 (.t 0)),
 un (.bld 9 [.nilsl 1,.int .i64 0,.int .u64 0] [(0,1,(.t 8))]),
 un (.box 10 (.t 9)),
 un (.asg 4 (.t 10))])
 (.drop [8,9,10] (.seq (.reg [un (.mov 11 (.t 4)),
 un (.call 12 Fh [((.t 11),true)]),
 un (.alc 5 (.agg [.int .i64 0,.nilsl 2])),
 un (.st 2 (.t 5) (.t 12))])
 (.drop [11,12] (.seq (.reg [un (.bsl 13 2 []),
 un (.asg 6 (.t 13))])
 (.drop [13] (.seq (.seq (.frz [100005] (.reg [un (.mov 14 (.t 4)),
 un (.call 15 Ap [((.t 14),true),((.c (.int .i64 5)),false)]),
 un (.asg 7 (.t 15))]))
 (.drop [14,15] (.block 0 (.loop Hp))))
 (.drop [14,15,7,16,17,20,21,22,23,24,25,18,19] (.seq (.seq (.reg [un (.mov 26 (.t 4)),
 un (.call 27 D3 [((.t 26),true),((.c (.int .i64 32)),false)])])
 (.drop [26] (.cond (.t 27) (.block 2 (.loop Hq))
 .skip)))
 (.drop [26,27,28,29,30,31,32,33,34,35,36,37,38,39] (.seq (.reg [un (.ld 40 2 true (.t 5)),
 un (.mov 41 (.t 6)),
 un (.st 2 (.t 2) (.t 40)),
 un (.asg 3 (.t 41))])
 (.drop [40,41] .ret)))))))))))))
abbrev Ql:List RS:=[.c 2 2 true,.t 3]
theorem Qr:Bl Try.prog Fx 42 Q0 Ql=true:=by kernel_rfl
def Qz:ACode:=
 (.seq (.reg [un (.ld 46 2 true (.t 3)),
 un (.ld 47 2 true (.t 4)),
 un (.call 48 Lu [((.t 46),false),((.t 47),false)]),
 un (.asg 45 (.t 48)),
 un (.ext 49 (.t 45) 0),
 un (.ext 50 (.t 45) 1),
 un (.asg 7 (.t 49)),
 un (.asg 8 (.t 50))])
 (.drop [46,47,48,45,49,50] (.seq (.reg [un (.mov 51 (.t 5)),
 un (.mov 52 (.t 7)),
 un (.binb 53 .neq (.t 51) (.t 52)),
 un (.asg 54 (.t 53)),
 ⟨some (54,false),.mov 55 (.t 6)⟩,
 ⟨some (54,false),.mov 56 (.t 8)⟩,
 ⟨some (54,false),.binb 57 .neq (.t 55) (.t 56)⟩,
 un (.pick 58 (.t 54) (.c (.bool true)) (.t 57))])
 (.drop [51,52,53,54,55,56,57] (.cond (.t 58) (.seq (.reg [un (.asg 2 (.c (.bool false)))])
 .ret)
 .skip)))))
def Rc:ACode:=
 (.seq (.reg [un (.ld 66 2 true (.t 3)),
 un (.ld 67 2 true (.t 4)),
 un (.call 68 Hs [((.t 66),false),((.t 67),false)]),
 un (.asg 65 (.t 68)),
 un (.ext 69 (.t 65) 0),
 un (.ext 70 (.t 65) 1),
 un (.asg 11 (.t 69)),
 un (.asg 12 (.t 70))])
 (.drop [66,67,68,65,69,70] (.seq (.reg [un (.mov 71 (.t 10)),
 un (.mov 72 (.t 12)),
 un (.binb 73 .neq (.t 71) (.t 72)),
 un (.asg 74 (.t 73)),
 ⟨some (74,false),.mov 75 (.t 9)⟩,
 ⟨some (74,false),.mov 76 (.t 11)⟩,
 ⟨some (74,false),.call 77 Mq [((.t 75),false),((.t 76),false)]⟩,
 ⟨some (74,false),.un 78 .not (.t 77)⟩,
 un (.pick 79 (.t 74) (.c (.bool true)) (.t 78)),
 un (.asg 80 (.t 79)),
 ⟨some (80,false),.mov 81 (.t 10)⟩,
 ⟨some (80,false),.mov 82 (.t 6)⟩,
 ⟨some (80,false),.asg 83 (.t 82)⟩,
 ⟨some (83,true),.mov 84 (.t 5)⟩,
 ⟨some (83,true),.un 85 .not (.t 84)⟩,
 ⟨some (80,false),.pick 86 (.t 83) (.t 85) (.c (.bool false))⟩,
 ⟨some (80,false),.binb 87 .neq (.t 81) (.t 86)⟩,
 un (.pick 88 (.t 80) (.c (.bool true)) (.t 87))])
 (.drop [71,72,73,74,75,76,77,78,79,80,81,82,83,84,85,86,87] (.cond (.t 88) (.seq (.reg [un (.asg 2 (.c (.bool false)))])
 .ret)
 .skip)))))
def Qp:ACode:=
 (.seq (.reg [un (.mov 89 (.t 10))])
 (.cond (.t 89) (.seq (.reg [un (.ld 91 2 true (.t 3)),
 un (.fadr 92 0 (.t 4)),
 un (.ld 93 1 false (.t 92)),
 un (.mov 94 (.t 9)),
 un (.call 95 Il [((.t 91),false),((.t 93),false),((.t 94),false)]),
 un (.asg 90 (.t 95)),
 un (.ext 96 (.t 90) 0),
 un (.ext 97 (.t 90) 1),
 un (.asg 13 (.t 96)),
 un (.asg 14 (.t 97))])
 (.drop [91,92,93,94,95,90,96,97] (.seq (.reg [un (.ld 99 2 true (.t 3)),
 un (.fadr 100 1 (.t 4)),
 un (.ld 101 1 false (.t 100)),
 un (.mov 102 (.t 9)),
 un (.call 103 Il [((.t 99),false),((.t 101),false),((.t 102),false)]),
 un (.asg 98 (.t 103)),
 un (.ext 104 (.t 98) 0),
 un (.ext 105 (.t 98) 1),
 un (.asg 15 (.t 104)),
 un (.asg 16 (.t 105))])
 (.drop [99,100,101,102,103,98,104,105] (.seq (.reg [un (.mov 106 (.t 14)),
 un (.un 107 .not (.t 106)),
 un (.asg 108 (.t 107)),
 ⟨some (108,false),.mov 109 (.t 16)⟩,
 ⟨some (108,false),.un 110 .not (.t 109)⟩,
 un (.pick 111 (.t 108) (.c (.bool true)) (.t 110)),
 un (.asg 112 (.t 111)),
 ⟨some (112,false),.mov 113 (.t 13)⟩,
 ⟨some (112,false),.mov 114 (.t 15)⟩,
 ⟨some (112,false),.bin 115 .eql (.t 113) (.t 114)⟩,
 un (.pick 116 (.t 112) (.c (.bool true)) (.t 115))])
 (.drop [106,107,108,109,110,111,112,113,114,115] (.cond (.t 116) (.seq (.reg [un (.asg 2 (.c (.bool false)))])
 .ret)
 .skip)))))))
 .skip))
def Ri:ACode:=
 (.seq (.reg [un (.ld 132 2 true (.t 3)),
 un (.fadr 133 0 (.t 4)),
 un (.ld 134 1 false (.t 133)),
 un (.call 135 O5 [((.t 132),false),((.t 134),false),((.c (.int .i64 3)),false)]),
 un (.asg 131 (.t 135)),
 un (.ext 136 (.t 131) 0),
 un (.ext 137 (.t 131) 1),
 un (.alc 21 (.agg [.int .i64 0,.nilsl 1])),
 un (.st 2 (.t 21) (.t 136)),
 un (.asg 22 (.t 137))])
 (.drop [132,133,134,135,131,136,137] (.seq (.reg [un (.mov 138 (.t 18)),
 un (.mov 139 (.t 22)),
 un (.binb 140 .neq (.t 138) (.t 139)),
 un (.asg 141 (.t 140)),
 ⟨some (141,false),.ld 142 2 true (.t 17)⟩,
 ⟨some (141,false),.ld 143 2 true (.t 21)⟩,
 ⟨some (141,false),.call 144 Q3 [((.t 142),false),((.t 143),false)]⟩,
 ⟨some (141,false),.un 145 .not (.t 144)⟩,
 un (.pick 146 (.t 141) (.c (.bool true)) (.t 145))])
 (.drop [138,139,140,141,142,143,144,145] (.cond (.t 146) (.seq (.reg [un (.asg 2 (.c (.bool false)))])
 .ret)
 .skip)))))
def Qk:ACode:=
 (.seq (.reg [un (.mov 147 (.t 6)),
 un (.asg 148 (.t 147)),
 ⟨some (148,true),.mov 149 (.t 18)⟩,
 un (.pick 150 (.t 148) (.t 149) (.c (.bool false))),
 un (.asg 151 (.t 150)),
 ⟨some (151,true),.mov 152 (.t 20)⟩,
 un (.pick 153 (.t 151) (.t 152) (.c (.bool false))),
 un (.asg 154 (.t 153)),
 ⟨some (154,true),.mov 155 (.t 5)⟩,
 ⟨some (154,true),.ld 156 2 true (.t 17)⟩,
 ⟨some (154,true),.ld 157 2 true (.t 19)⟩,
 ⟨some (154,true),.call 158 Q3 [((.t 156),false),((.t 157),false)]⟩,
 ⟨some (154,true),.binb 159 .neq (.t 155) (.t 158)⟩,
 un (.pick 160 (.t 154) (.t 159) (.c (.bool false)))])
 (.drop [147,148,149,150,151,152,153,154,155,156,157,158,159] (.cond (.t 160) (.seq (.reg [un (.asg 2 (.c (.bool false)))])
 .ret)
 .skip)))
def Qs:ACode:=
 (.seq (.reg [un (.ld 173 2 true (.t 23)),
 un (.mov 174 (.t 24)),
 un (.call 175 Is [((.t 173),false),((.t 174),false)]),
 un (.asg 172 (.t 175)),
 un (.ext 176 (.t 172) 0),
 un (.ext 177 (.t 172) 1),
 un (.asg 27 (.t 176)),
 un (.asg 28 (.t 177))])
 (.drop [173,174,175,172,176,177] (.seq (.reg [un (.mov 178 (.t 25)),
 un (.mov 179 (.t 27)),
 un (.bin 180 .neq (.t 178) (.t 179)),
 un (.asg 181 (.t 180)),
 ⟨some (181,false),.mov 182 (.t 26)⟩,
 ⟨some (181,false),.mov 183 (.t 28)⟩,
 ⟨some (181,false),.binb 184 .neq (.t 182) (.t 183)⟩,
 un (.pick 185 (.t 181) (.c (.bool true)) (.t 184))])
 (.drop [178,179,180,181,182,183,184] (.cond (.t 185) (.seq (.reg [un (.asg 2 (.c (.bool false)))])
 .ret)
 .skip)))))
def Re:ACode:=
 (.seq (.reg [un (.mov 186 (.t 29)),
 un (.mov 187 (.t 24)),
 un (.len 188 (.t 187)),
 un (.bin 189 .lss (.t 186) (.t 188)),
 un (.asg 190 (.t 189)),
 ⟨some (190,true),.mov 191 (.t 26)⟩,
 un (.pick 192 (.t 190) (.t 191) (.c (.bool false)))])
 (.drop [186,187,188,189,190,191] (.cond (.t 192) .skip
 (.exit 0))))
def I9:ACode:=
 (.seq (.cut Re)
 (.drop [186,187,188,189,190,191,192] (.seq (.block 1 (.seq (.dreg [(un (.ld 196 2 true (.t 23)),[]),
 (un (.mov 197 (.t 24)),[196]),
 (un (.mov 198 (.t 29)),[196,197]),
 (un (.iad 199 2 (.t 197) (.t 198)),[196]),
 (un (.ld 200 2 true (.t 199)),[196]),
 (un (.call 201 F7 [((.t 196),false),((.t 200),false)]),[]),
 (un (.asg 195 (.t 201)),[]),
 (un (.ext 202 (.t 195) 0),[201]),
 (un (.ext 203 (.t 195) 1),[202,201,202])]
 [un (.asg 30 (.t 202)),
 un (.asg 31 (.t 203))])
 (.drop [196,197,198,199,200,201,195,202,203] (.seq (.reg [un (.mov 204 (.t 31)),
 un (.un 205 .not (.t 204)),
 un (.asg 206 (.t 205)),
 ⟨some (206,false),.mov 207 (.t 25)⟩,
 ⟨some (206,false),.bin 208 .lss (.t 207) (.c (.int .i64 0))⟩,
 ⟨some (206,false),.asg 209 (.t 208)⟩,
 ⟨some (209,false),.mov 210 (.t 29)⟩,
 ⟨some (209,false),.mov 211 (.t 25)⟩,
 ⟨some (209,false),.bin 212 .lss (.t 210) (.t 211)⟩,
 ⟨some (206,false),.pick 213 (.t 209) (.c (.bool true)) (.t 212)⟩,
 ⟨some (206,false),.asg 214 (.t 213)⟩,
 ⟨some (214,true),.mov 215 (.t 30)⟩,
 ⟨some (214,true),.un 216 .not (.t 215)⟩,
 ⟨some (206,false),.pick 217 (.t 214) (.t 216) (.c (.bool false))⟩,
 un (.pick 218 (.t 206) (.c (.bool true)) (.t 217)),
 un (.asg 219 (.t 218)),
 ⟨some (219,false),.mov 220 (.t 29)⟩,
 ⟨some (219,false),.mov 221 (.t 25)⟩,
 ⟨some (219,false),.bin 222 .eql (.t 220) (.t 221)⟩,
 ⟨some (219,false),.asg 223 (.t 222)⟩,
 ⟨some (223,true),.mov 224 (.t 30)⟩,
 ⟨some (219,false),.pick 225 (.t 223) (.t 224) (.c (.bool false))⟩,
 un (.pick 226 (.t 219) (.c (.bool true)) (.t 225))])
 (.drop [204,205,206,207,208,209,210,211,212,213,214,215,216,217,218,219,220,221,222,223,224,225] (.cond (.t 226) (.seq (.reg [un (.asg 2 (.c (.bool false)))])
 .ret)
 .skip))))))
 (.drop [196,197,198,199,200,201,195,202,203,30,31,204,205,206,207,208,209,210,211,212,213,214,215,216,217,218,219,220,221,222,223,224,225,226] (.reg [un (.mov 193 (.t 29)),
 un (.bin 194 .add (.t 193) (.c (.int .i64 1))),
 un (.asg 29 (.t 194))])))))
def Ua:ACode:=
 (.seq (.reg [un (.asg 2 (.c (.bool false)))])
 (.seq (.seq (.reg [un (.mov 32 (.t 0)),
 un (.call 33 Sp [((.t 32),false)])])
 (.drop [32] (.cond (.t 33) (.seq (.reg [un (.asg 2 (.c (.bool true)))])
 .ret)
 .skip)))
 (.drop [32,33] (.seq (.reg [un (.mov 35 (.t 0)),
 un (.call 36 Hu [((.t 35),false)]),
 un (.asg 34 (.t 36)),
 un (.ext 37 (.t 34) 0),
 un (.ext 38 (.t 34) 1),
 un (.alc 3 (.agg [.int .i64 0,.nilsl 2])),
 un (.alc 4 (.agg [.nilsl 1,.nilsl 1])),
 un (.st 2 (.t 3) (.t 37)),
 un (.st 2 (.t 4) (.t 38))])
 (.drop [35,36,34,37,38] (.seq (.reg [un (.ld 40 2 true (.t 3)),
 un (.ld 41 2 true (.t 4)),
 un (.call 42 F7 [((.t 40),false),((.t 41),false)]),
 un (.asg 39 (.t 42)),
 un (.ext 43 (.t 39) 0),
 un (.ext 44 (.t 39) 1),
 un (.asg 5 (.t 43)),
 un (.asg 6 (.t 44))])
 (.drop [40,41,42,39,43,44] (.seq (.cut Qz)
 (.drop [46,47,48,45,49,50,7,8,51,52,53,54,55,56,57,58] (.seq (.reg [un (.ld 60 2 true (.t 3)),
 un (.ld 61 2 true (.t 4)),
 un (.call 62 H4 [((.t 60),false),((.t 61),false)]),
 un (.asg 59 (.t 62)),
 un (.ext 63 (.t 59) 0),
 un (.ext 64 (.t 59) 1),
 un (.asg 9 (.t 63)),
 un (.asg 10 (.t 64))])
 (.drop [60,61,62,59,63,64] (.seq (.cut Rc)
 (.drop [66,67,68,65,69,70,11,12,71,72,73,74,75,76,77,78,79,80,81,82,83,84,85,86,87,88] (.seq (.cut Qp)
 (.drop [89,91,92,93,94,95,90,96,97,13,14,99,100,101,102,103,98,104,105,15,16,106,107,108,109,110,111,112,113,114,115,116] (.seq (.reg [un (.ld 118 2 true (.t 3)),
 un (.fadr 119 0 (.t 4)),
 un (.ld 120 1 false (.t 119)),
 un (.call 121 K3 [((.t 118),false),((.t 120),false),((.c (.int .i64 3)),false)]),
 un (.asg 117 (.t 121)),
 un (.ext 122 (.t 117) 0),
 un (.ext 123 (.t 117) 1),
 un (.alc 17 (.agg [.int .i64 0,.nilsl 1])),
 un (.st 2 (.t 17) (.t 122)),
 un (.asg 18 (.t 123))])
 (.drop [118,119,120,121,117,122,123] (.seq (.reg [un (.ld 125 2 true (.t 3)),
 un (.fadr 126 1 (.t 4)),
 un (.ld 127 1 false (.t 126)),
 un (.call 128 K3 [((.t 125),false),((.t 127),false),((.c (.int .i64 3)),false)]),
 un (.asg 124 (.t 128)),
 un (.ext 129 (.t 124) 0),
 un (.ext 130 (.t 124) 1),
 un (.alc 19 (.agg [.int .i64 0,.nilsl 1])),
 un (.st 2 (.t 19) (.t 129)),
 un (.asg 20 (.t 130))])
 (.drop [125,126,127,128,124,129,130] (.seq (.cut Ri)
 (.drop [132,133,134,135,131,136,137,21,22,138,139,140,141,142,143,144,145,146] (.seq (.cut Qk)
 (.drop [147,148,149,150,151,152,153,154,155,156,157,158,159,160] (.seq (.reg [un (.mov 162 (.t 0)),
 un (.call 163 Fx [((.t 162),false)]),
 un (.asg 161 (.t 163)),
 un (.ext 164 (.t 161) 0),
 un (.ext 165 (.t 161) 1),
 un (.alc 23 (.agg [.int .i64 0,.nilsl 2])),
 un (.st 2 (.t 23) (.t 164)),
 un (.asg 24 (.t 165))])
 (.drop [162,163,161,164,165] (.seq (.reg [un (.ld 167 2 true (.t 23)),
 un (.mov 168 (.t 24)),
 un (.call 169 Iq [((.t 167),false),((.t 168),false)]),
 un (.asg 166 (.t 169)),
 un (.ext 170 (.t 166) 0),
 un (.ext 171 (.t 166) 1),
 un (.asg 25 (.t 170)),
 un (.asg 26 (.t 171))])
 (.drop [167,168,169,166,170,171] (.seq (.cut Qs)
 (.drop [173,174,175,172,176,177,27,28,178,179,180,181,182,183,184,185] (.seq (.seq (.reg [un (.asg 29 (.c (.int .i64 0)))])
 (.block 0 (.loop I9)))
 (.drop [29,186,187,188,189,190,191,192,196,197,198,199,200,201,195,202,203,30,31,204,205,206,207,208,209,210,211,212,213,214,215,216,217,218,219,220,221,222,223,224,225,226,193,194] (.seq (.reg [un (.asg 2 (.c (.bool true)))])
 .ret))))))))))))))))))))))))))))))))
abbrev Uh:List RS:=[.t 2]
theorem Uc:Bl Try.prog L5 227 Ua Uh=true:=by kernel_rfl
end Go.Proofs.Ytmcbocbcpijgeaa.Ax
