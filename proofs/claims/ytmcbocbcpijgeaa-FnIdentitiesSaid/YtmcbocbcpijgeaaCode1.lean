/-
  The small code of the functions, written by program; that the program's code is this one, the kernel looks at.
-/
import Derived.Test.YtmcbocbcpijgeaaAx3
import Derived.Test.YtmcbocbcpijgeaaProg
import Derived.KernelRfl
import Derived.Test.YtmcbocbcpijgeaaNum
namespace Go.Proofs.Ytmcbocbcpijgeaa.Ax
open Go
set_option maxRecDepth 100000
def Ajh:ACode:=
 (.seq (.reg [un (.asg 2 (.c (.bool false)))])
 (.seq (.reg [un (.mov 3 (.t 0)),
 un (.len 4 (.t 3)),
 un (.bin 5 .gtr (.t 4) (.c (.int .i64 65536))),
 un (.asg 2 (.t 5))])
 (.drop [3,4,5] .ret)))
abbrev Aj9:List RS:=[.t 2]
theorem Ajn:Bl Try.prog Sp 6 Ajh Aj9=true:=by kernel_rfl
def R1:ACode:=
 (.seq (.seq (.reg [un (.mov 11 (.t 5)),
 un (.mov 12 (.t 0)),
 un (.len 13 (.t 12)),
 un (.bin 14 .lss (.t 11) (.t 13))])
 (.drop [11,12,13] (.cond (.t 14) .skip
 (.exit 0))))
 (.drop [11,12,13,14] (.seq (.block 1 (.seq (.dreg [(un (.mov 17 (.t 0)),[]),
 (un (.mov 18 (.t 5)),[17]),
 (un (.iad 19 1 (.t 17) (.t 18)),[]),
 (un (.ld 20 1 false (.t 19)),[]),
 (un (.mov 21 (.t 1)),[17,18,19,20]),
 (un (.mov 22 (.t 5)),[17,18,19,20,21]),
 (un (.iad 23 1 (.t 21) (.t 22)),[17,18,19,20]),
 (un (.ld 24 1 false (.t 23)),[17,18,19,20])]
 [un (.bin 25 .neq (.t 20) (.t 24))])
 (.drop [17,18,19,20,21,22,23,24] (.cond (.t 25) (.seq (.reg [un (.asg 4 (.c (.bool false)))])
 .ret)
 .skip))))
 (.drop [17,18,19,20,21,22,23,24,25] (.reg [un (.mov 15 (.t 5)),
 un (.bin 16 .add (.t 15) (.c (.int .i64 1))),
 un (.asg 5 (.t 16))])))))
def Aht:ACode:=
 (.seq (.reg [un (.asg 4 (.c (.bool false)))])
 (.seq (.seq (.reg [un (.mov 6 (.t 0)),
 un (.len 7 (.t 6)),
 un (.mov 8 (.t 1)),
 un (.len 9 (.t 8)),
 un (.bin 10 .neq (.t 7) (.t 9))])
 (.drop [6,7,8,9] (.cond (.t 10) (.seq (.reg [un (.asg 4 (.c (.bool false)))])
 .ret)
 .skip)))
 (.drop [6,7,8,9,10] (.seq (.seq (.reg [un (.asg 5 (.c (.int .i64 0)))])
 (.block 0 (.loop R1)))
 (.drop [5,11,12,13,14,17,18,19,20,21,22,23,24,25,15,16] (.seq (.reg [un (.asg 4 (.c (.bool true)))])
 .ret))))))
abbrev Agi:List RS:=[.t 4]
theorem Agv:Bl Try.prog Mq 26 Aht Agi=true:=by kernel_rfl
def Px:ACode:=
 (.seq (.reg [un (.bin 10 .lss (.t 9) (.t 8))])
 (.seq (.cond (.t 10) .skip
 (.exit 0))
 (.seq (.block 1 (.seq (.reg [un (.iad 11 1 (.t 7) (.t 9)),
 un (.ld 12 1 false (.t 11)),
 un (.asg 6 (.t 12))])
 (.drop [11,12] (.seq (.reg [un (.mov 13 (.t 6)),
 un (.bin 14 .lss (.t 13) (.c (.int .i64 0))),
 un (.asg 15 (.t 14)),
 ⟨some (15,false),.mov 16 (.t 6)⟩,
 ⟨some (15,false),.mov 17 (.t 1)⟩,
 ⟨some (15,false),.bin 18 .geq (.t 16) (.t 17)⟩,
 un (.pick 19 (.t 15) (.c (.bool true)) (.t 18))])
 (.drop [13,14,15,16,17,18] (.cond (.t 19) (.seq (.reg [un (.asg 4 (.c (.bool false)))])
 .ret)
 .skip))))))
 (.drop [11,12,6,13,14,15,16,17,18,19] (.reg [un (.bin 20 .add (.t 9) (.c (.int .i64 1))),
 un (.asg 9 (.t 20))])))))
def Aeh:ACode:=
 (.seq (.reg [un (.asg 4 (.c (.bool false)))])
 (.seq (.seq (.reg [un (.mov 7 (.t 0)),
 un (.len 8 (.t 7)),
 un (.mov 9 (.c (.int .i64 0)))])
 (.block 0 (.loop Px)))
 (.drop [7,8,9,10,11,12,6,13,14,15,16,17,18,19,20] (.seq (.reg [un (.asg 4 (.c (.bool true)))])
 .ret))))
abbrev Ad8:List RS:=[.t 4]
theorem Adt:Bl Try.prog K0 21 Aeh Ad8=true:=by kernel_rfl
def Mh:ACode:=
 (.seq (.reg [un (.bin 10 .lss (.t 9) (.t 8))])
 (.seq (.cond (.t 10) .skip
 (.exit 0))
 (.seq (.block 1 (.seq (.reg [un (.iad 11 1 (.t 7) (.t 9)),
 un (.ld 12 1 false (.t 11)),
 un (.asg 6 (.t 12))])
 (.drop [11,12] (.seq (.reg [un (.mov 13 (.t 6)),
 un (.mov 14 (.t 1)),
 un (.bin 15 .geq (.t 13) (.t 14))])
 (.drop [13,14] (.cond (.t 15) (.seq (.reg [un (.asg 4 (.c (.bool false)))])
 .ret)
 .skip))))))
 (.drop [11,12,6,13,14,15] (.reg [un (.bin 16 .add (.t 9) (.c (.int .i64 1))),
 un (.asg 9 (.t 16))])))))
def X0:ACode:=
 (.seq (.reg [un (.asg 4 (.c (.bool false)))])
 (.seq (.seq (.reg [un (.mov 7 (.t 0)),
 un (.len 8 (.t 7)),
 un (.mov 9 (.c (.int .i64 0)))])
 (.block 0 (.loop Mh)))
 (.drop [7,8,9,10,11,12,6,13,14,15,16] (.seq (.reg [un (.asg 4 (.c (.bool true)))])
 .ret))))
abbrev Yp:List RS:=[.t 4]
theorem Yl:Bl Try.prog Hl 17 X0 Yp=true:=by kernel_rfl
def Sn:ACode:=
 (.seq (.seq (.reg [un (.mov 42 (.t 12)),
 un (.fadr 43 0 (.t 10)),
 un (.ld 44 1 false (.t 43)),
 un (.bin 45 .lss (.t 42) (.t 44))])
 (.drop [42,43,44] (.cond (.t 45) .skip
 (.exit 2))))
 (.drop [42,43,44,45] (.seq (.block 3 (.dreg [(un (.mov 48 (.t 11)),[]),
 (un (.fadr 49 0 (.t 3)),[48]),
 (un (.ld 50 1 false (.t 49)),[48]),
 (un (.bin 51 .mul (.t 48) (.t 50)),[]),
 (un (.mov 52 (.t 7)),[48,49,50,51]),
 (un (.mov 53 (.t 7)),[48,49,50,51,52]),
 (un (.len 54 (.t 53)),[48,49,50,51,52]),
 (un (.bin 55 .sub (.t 54) (.c (.int .i64 1))),[48,49,50,51,52]),
 (un (.mov 56 (.t 12)),[48,49,50,51,52,53,54,55]),
 (un (.bin 57 .sub (.t 55) (.t 56)),[48,49,50,51,52]),
 (un (.iad 58 1 (.t 52) (.t 57)),[48,49,50,51]),
 (un (.ld 59 1 false (.t 58)),[48,49,50,51])]
 [un (.bin 60 .add (.t 51) (.t 59)),
 un (.asg 11 (.t 60))]))
 (.drop [48,49,50,51,52,53,54,55,56,57,58,59,60] (.reg [un (.mov 46 (.t 12)),
 un (.bin 47 .add (.t 46) (.c (.int .i64 1))),
 un (.asg 12 (.t 47))])))))
def Tf:ACode:=
 (.seq (.seq (.reg [un (.mov 19 (.t 8)),
 un (.bin 20 .geq (.t 19) (.c (.int .i64 0)))])
 (.drop [19] (.cond (.t 20) .skip
 (.exit 0))))
 (.drop [19,20] (.seq (.block 1 (.seq (.reg [un (.mov 23 (.t 1)),
 un (.mov 24 (.t 8)),
 un (.iad 25 1 (.t 23) (.t 24)),
 un (.ld 26 1 false (.t 25)),
 un (.asg 9 (.t 26))])
 (.drop [23,24,25,26] (.seq (.seq (.reg [un (.mov 27 (.t 9)),
 un (.bin 28 .geq (.t 27) (.c (.int .i64 0)))])
 (.drop [27] (.cond (.t 28) (.seq (.reg [un (.mov 29 (.t 7)),
 un (.mov 30 (.t 2)),
 un (.mov 31 (.t 9)),
 un (.iad 32 1 (.t 30) (.t 31)),
 un (.ld 33 1 false (.t 32)),
 un (.bsl 34 1 [(.t 33)]),
 un (.app 35 1 (.t 29) (.t 34)),
 un (.asg 7 (.t 35))])
 (.drop [29,30,31,32,33,34,35] (.exit 1)))
 .skip)))
 (.drop [27,28,29,30,31,32,33,34,35] (.seq (.reg [un (.fadr 36 1 (.t 3)),
 un (.ld 37 1 false (.t 36)),
 un (.mov 38 (.t 9)),
 un (.bin 39 .sub (.c (.int .i64 (-1))) (.t 38)),
 un (.iad 40 2 (.t 37) (.t 39)),
 un (.ld 41 2 true (.t 40)),
 un (.alc 10 (.agg [.int .i64 0,.nilsl 1])),
 un (.st 2 (.t 10) (.t 41))])
 (.drop [36,37,38,39,40,41] (.seq (.reg [un (.asg 11 (.c (.int .i64 0)))])
 (.seq (.seq (.reg [un (.asg 12 (.c (.int .i64 0)))])
 (.block 2 (.loop Sn)))
 (.drop [12,42,43,44,45,48,49,50,51,52,53,54,55,56,57,58,59,60,46,47] (.dregl [(0,.mov 61 (.t 7)),
 (1,.mov 62 (.t 7)),
 (3,.fadr 64 0 (.t 10)),
 (4,.ld 65 1 false (.t 64)),
 (7,.fadr 68 1 (.t 10)),
 (8,.ld 69 1 false (.t 68)),
 (9,.mov 70 (.t 11)),
 (10,.iad 71 1 (.t 69) (.t 70)),
 (11,.ld 72 1 false (.t 71))]
 (.alt 2 (.len 63 (.t 62)) [0,1,3,4,7,8,9,10,11] [] (.alt 5 (.bin 66 .sub (.t 63) (.t 65)) [0,3,4,7,8,9,10,11] [] (.alt 6 (.slt 67 1 (.t 61) (.t 66)) [0,7,8,9,10,11] [61] (.alt 12 (.bsl 73 1 [(.t 72)]) [7,8,9,10,11] [] (.alt 13 (.app 74 1 (.t 67) (.t 73)) [] [] (.alt 14 (.asg 7 (.t 74)) [] [] .nil .nil) .nil) .nil) (.alt 12 (.bsl 73 1 [(.t 72)]) [0,7,8,9,10,11] [] (.alt 6 (.slt 67 1 (.t 61) (.t 66)) [0] [61] (.alt 13 (.app 74 1 (.t 67) (.t 73)) [] [] (.alt 14 (.asg 7 (.t 74)) [] [] .nil .nil) .nil) .nil) .nil)) (.alt 12 (.bsl 73 1 [(.t 72)]) [0,3,4,7,8,9,10,11] [] (.alt 5 (.bin 66 .sub (.t 63) (.t 65)) [0,3,4] [] (.alt 6 (.slt 67 1 (.t 61) (.t 66)) [0] [61] (.alt 13 (.app 74 1 (.t 67) (.t 73)) [] [] (.alt 14 (.asg 7 (.t 74)) [] [] .nil .nil) .nil) .nil) .nil) .nil)) (.alt 12 (.bsl 73 1 [(.t 72)]) [0,1,3,4,7,8,9,10,11] [] (.alt 2 (.len 63 (.t 62)) [0,1,3,4] [] (.alt 5 (.bin 66 .sub (.t 63) (.t 65)) [0,3,4] [] (.alt 6 (.slt 67 1 (.t 61) (.t 66)) [0] [61] (.alt 13 (.app 74 1 (.t 67) (.t 73)) [] [] (.alt 14 (.asg 7 (.t 74)) [] [] .nil .nil) .nil) .nil) .nil) .nil) .nil)))))))))))))
 (.drop [23,24,25,26,9,27,28,29,30,31,32,33,34,35,36,37,38,39,40,41,10,11,12,42,43,44,45,48,49,50,51,52,53,54,55,56,57,58,59,60,46,47,61,62,63,64,65,66,67,68,69,70,71,72,73,74] (.reg [un (.mov 21 (.t 8)),
 un (.bin 22 .sub (.t 21) (.c (.int .i64 1))),
 un (.asg 8 (.t 22))])))))
def Ai9:ACode:=
 (.seq (.reg [un (.box 3 (.t 0)),
 un (.asg 6 (.c (.int .i64 0)))])
 (.seq (.reg [un (.mov 13 (.t 1)),
 un (.len 14 (.t 13)),
 un (.mkc 15 1 (.int .i64 0) (.t 14)),
 un (.asg 7 (.t 15))])
 (.drop [13,14,15] (.seq (.seq (.reg [un (.mov 16 (.t 1)),
 un (.len 17 (.t 16)),
 un (.bin 18 .sub (.t 17) (.c (.int .i64 1))),
 un (.asg 8 (.t 18))])
 (.drop [16,17,18] (.block 0 (.loop Tf))))
 (.drop [16,17,18,8,19,20,23,24,25,26,9,27,28,29,30,31,32,33,34,35,36,37,38,39,40,41,10,11,12,42,43,44,45,48,49,50,51,52,53,54,55,56,57,58,59,60,46,47,61,62,63,64,65,66,67,68,69,70,71,72,73,74,21,22] (.seq (.reg [un (.mov 75 (.t 7)),
 un (.iad 76 1 (.t 75) (.c (.int .i64 0))),
 un (.ld 77 1 false (.t 76)),
 un (.asg 6 (.t 77))])
 (.drop [75,76,77] .ret)))))))
abbrev Ajv:List RS:=[.t 6]
theorem Aj3:Bl Try.prog I4 78 Ai9 Ajv=true:=by kernel_rfl
def Ai8:ACode:=
 (.seq (.reg [un (.asg 6 (.c (.bool false)))])
 (.seq (.reg [un (.mov 7 (.t 0)),
 un (.mov 8 (.t 1)),
 un (.bin 9 .geq (.t 7) (.t 8)),
 un (.asg 10 (.t 9)),
 ⟨some (10,true),.mov 11 (.t 0)⟩,
 ⟨some (10,true),.mov 12 (.t 2)⟩,
 ⟨some (10,true),.bin 13 .leq (.t 11) (.t 12)⟩,
 un (.pick 14 (.t 10) (.t 13) (.c (.bool false))),
 un (.asg 6 (.t 14))])
 (.drop [7,8,9,10,11,12,13,14] .ret)))
abbrev Aiz:List RS:=[.t 6]
theorem Aj5:Bl Try.prog Gv 15 Ai8 Aiz=true:=by kernel_rfl
def Pp:ACode:=
 (.seq (.seq (.reg [un (.mov 6 (.t 5)),
 un (.mov 7 (.t 0)),
 un (.len 8 (.t 7)),
 un (.bin 9 .lss (.t 6) (.t 8))])
 (.drop [6,7,8] (.cond (.t 9) .skip
 (.exit 0))))
 (.drop [6,7,8,9] (.seq (.block 1 (.seq (.reg [un (.mov 12 (.t 0)),
 un (.mov 13 (.t 5)),
 un (.iad 14 1 (.t 12) (.t 13)),
 un (.ld 15 1 false (.t 14)),
 un (.mov 16 (.t 1)),
 un (.bin 17 .geq (.t 15) (.t 16))])
 (.drop [12,13,14,15,16] (.cond (.t 17) (.seq (.reg [un (.asg 4 (.c (.bool false)))])
 .ret)
 .skip))))
 (.drop [12,13,14,15,16,17] (.reg [un (.mov 10 (.t 5)),
 un (.bin 11 .add (.t 10) (.c (.int .i64 1))),
 un (.asg 5 (.t 11))])))))
def Adx:ACode:=
 (.seq (.reg [un (.asg 4 (.c (.bool false)))])
 (.seq (.seq (.reg [un (.asg 5 (.c (.int .i64 0)))])
 (.block 0 (.loop Pp)))
 (.drop [5,6,7,8,9,12,13,14,15,16,17,10,11] (.seq (.reg [un (.asg 4 (.c (.bool true)))])
 .ret))))
abbrev Adq:List RS:=[.t 4]
theorem Ad1:Bl Try.prog Ov 18 Adx Adq=true:=by kernel_rfl
def Ry:ACode:=
 (.seq (.seq (.reg [un (.mov 6 (.t 1)),
 un (.bin 7 .gtr (.t 6) (.c (.int .i64 0)))])
 (.drop [6] (.cond (.t 7) .skip
 (.exit 0))))
 (.drop [6,7] (.seq (.block 1 (.reg [un (.mov 10 (.t 5)),
 un (.mov 11 (.t 0)),
 un (.bin 12 .mul (.t 10) (.t 11)),
 un (.asg 5 (.t 12))]))
 (.drop [10,11,12] (.reg [un (.mov 8 (.t 1)),
 un (.bin 9 .sub (.t 8) (.c (.int .i64 1))),
 un (.asg 1 (.t 9))])))))
def Ahb:ACode:=
 (.seq (.reg [un (.asg 4 (.c (.int .i64 0)))])
 (.seq (.reg [un (.asg 5 (.c (.int .i64 1)))])
 (.seq (.block 0 (.loop Ry))
 (.drop [6,7,10,11,12,8,9] (.seq (.reg [un (.mov 13 (.t 5)),
 un (.asg 4 (.t 13))])
 (.drop [13] .ret))))))
abbrev Ahr:List RS:=[.t 4]
theorem Agd:Bl Try.prog Jm 14 Ahb Ahr=true:=by kernel_rfl
def Pv:ACode:=
 (.seq (.seq (.reg [un (.mov 13 (.t 8)),
 un (.bin 14 .geq (.t 13) (.c (.int .i64 0)))])
 (.drop [13] (.cond (.t 14) .skip
 (.exit 0))))
 (.drop [13,14] (.seq (.block 1 (.seq (.reg [un (.mov 17 (.t 7)),
 un (.mov 18 (.t 8)),
 un (.mov 19 (.t 0)),
 un (.mov 20 (.t 2)),
 un (.bin 21 .rem (.t 19) (.t 20)),
 un (.iad 22 1 (.t 17) (.t 18)),
 un (.st 1 (.t 22) (.t 21))])
 (.drop [17,18,19,20,21,22] (.reg [un (.mov 23 (.t 0)),
 un (.mov 24 (.t 2)),
 un (.bin 25 .quo (.t 23) (.t 24)),
 un (.asg 0 (.t 25))]))))
 (.drop [17,18,19,20,21,22,23,24,25] (.reg [un (.mov 15 (.t 8)),
 un (.bin 16 .sub (.t 15) (.c (.int .i64 1))),
 un (.asg 8 (.t 16))])))))
def Ae1:ACode:=
 (.seq (.reg [un (.asg 6 (.c (.nilsl 1)))])
 (.seq (.reg [un (.mov 9 (.t 1)),
 un (.mk 10 1 (.int .i64 0) (.t 9)),
 un (.asg 7 (.t 10))])
 (.drop [9,10] (.seq (.seq (.reg [un (.mov 11 (.t 1)),
 un (.bin 12 .sub (.t 11) (.c (.int .i64 1))),
 un (.asg 8 (.t 12))])
 (.drop [11,12] (.block 0 (.loop Pv))))
 (.drop [11,12,8,13,14,17,18,19,20,21,22,23,24,25,15,16] (.seq (.reg [un (.mov 26 (.t 7)),
 un (.asg 6 (.t 26))])
 (.drop [26] .ret)))))))
abbrev Ae3:List RS:=[.t 6]
theorem Aew:Bl Try.prog K7 27 Ae1 Ae3=true:=by kernel_rfl
def Py:ACode:=
 (.seq (.reg [un (.bin 10 .lss (.t 9) (.t 8))])
 (.seq (.cond (.t 10) .skip
 (.exit 0))
 (.seq (.block 1 (.seq (.reg [un (.mov 11 (.t 9)),
 un (.iad 12 1 (.t 7) (.t 9)),
 un (.ld 13 1 false (.t 12)),
 un (.asg 4 (.t 11)),
 un (.asg 5 (.t 13))])
 (.drop [11,12,13] (.seq (.reg [un (.mov 14 (.t 5))])
 (.cond (.t 14) (.reg [un (.mov 15 (.t 3)),
 un (.mov 16 (.t 4)),
 un (.bsl 17 1 [(.t 16)]),
 un (.app 18 1 (.t 15) (.t 17)),
 un (.asg 3 (.t 18))])
 .skip)))))
 (.drop [11,12,13,4,5,14,15,16,17,18] (.reg [un (.bin 19 .add (.t 9) (.c (.int .i64 1))),
 un (.asg 9 (.t 19))])))))
def Ael:ACode:=
 (.seq (.reg [un (.asg 2 (.c (.nilsl 1)))])
 (.seq (.reg [un (.bsl 6 1 []),
 un (.asg 3 (.t 6))])
 (.drop [6] (.seq (.seq (.reg [un (.mov 7 (.t 0)),
 un (.len 8 (.t 7)),
 un (.mov 9 (.c (.int .i64 0)))])
 (.block 0 (.loop Py)))
 (.drop [7,8,9,10,11,12,13,4,5,14,15,16,17,18,19] (.seq (.reg [un (.mov 20 (.t 3)),
 un (.asg 2 (.t 20))])
 (.drop [20] .ret)))))))
abbrev Aeb:List RS:=[.t 2]
theorem Aem:Bl Try.prog O9 21 Ael Aeb=true:=by kernel_rfl
def Rt:ACode:=
 (.seq (.seq (.reg [un (.mov 6 (.t 5)),
 un (.mov 7 (.t 0)),
 un (.len 8 (.t 7)),
 un (.bin 9 .lss (.t 6) (.t 8)),
 un (.asg 10 (.t 9)),
 ⟨some (10,true),.mov 11 (.t 0)⟩,
 ⟨some (10,true),.mov 12 (.t 5)⟩,
 ⟨some (10,true),.iad 13 1 (.t 11) (.t 12)⟩,
 ⟨some (10,true),.ld 14 1 false (.t 13)⟩,
 ⟨some (10,true),.mov 15 (.t 1)⟩,
 ⟨some (10,true),.bin 16 .lss (.t 14) (.t 15)⟩,
 un (.pick 17 (.t 10) (.t 16) (.c (.bool false)))])
 (.drop [6,7,8,9,10,11,12,13,14,15,16] (.cond (.t 17) .skip
 (.exit 0))))
 (.drop [6,7,8,9,10,11,12,13,14,15,16,17] (.block 1 (.reg [un (.mov 18 (.t 5)),
 un (.bin 19 .add (.t 18) (.c (.int .i64 1))),
 un (.asg 5 (.t 19))]))))
def Aaq:ACode:=
 (.seq (.reg [un (.mov 20 (.t 5)),
 un (.mov 21 (.t 0)),
 un (.len 22 (.t 21)),
 un (.bin 23 .lss (.t 20) (.t 22)),
 un (.asg 24 (.t 23)),
 ⟨some (24,true),.mov 25 (.t 0)⟩,
 ⟨some (24,true),.mov 26 (.t 5)⟩,
 ⟨some (24,true),.iad 27 1 (.t 25) (.t 26)⟩,
 ⟨some (24,true),.ld 28 1 false (.t 27)⟩,
 ⟨some (24,true),.mov 29 (.t 1)⟩,
 ⟨some (24,true),.bin 30 .eql (.t 28) (.t 29)⟩,
 un (.pick 31 (.t 24) (.t 30) (.c (.bool false)))])
 (.drop [20,21,22,23,24,25,26,27,28,29,30] (.cond (.t 31) (.seq (.reg [un (.mov 32 (.t 0)),
 un (.asg 4 (.t 32))])
 (.drop [32] .ret))
 .skip)))
def Af8:ACode:=
 (.seq (.reg [un (.asg 4 (.c (.nilsl 1)))])
 (.seq (.reg [un (.asg 5 (.c (.int .i64 0)))])
 (.seq (.block 0 (.loop Rt))
 (.drop [6,7,8,9,10,11,12,13,14,15,16,17,18,19] (.seq (.cut Aaq)
 (.drop [20,21,22,23,24,25,26,27,28,29,30,31,32] (.seq (.dreg [(un (.bsl 33 1 []),[38]),
 (un (.mov 34 (.t 0)),[33,38]),
 (un (.mov 35 (.t 5)),[33,34,38]),
 (un (.slc 36 1 (.t 34) none (some (.t 35))),[33,38]),
 (un (.app 37 1 (.t 33) (.t 36)),[38]),
 (un (.mov 38 (.t 1)),[33,34,35,36,37,33]),
 (un (.bsl 39 1 [(.t 38)]),[33,34,35,36,37,33]),
 (un (.app 40 1 (.t 37) (.t 39)),[33,38]),
 (un (.mov 41 (.t 0)),[33,34,35,36,37,38,39,40,33,38,37]),
 (un (.mov 42 (.t 5)),[33,34,35,36,37,38,39,40,41,33,38,37]),
 (un (.slc 43 1 (.t 41) (some (.t 42)) none),[33,34,35,36,37,38,39,40,33,38,37])]
 [un (.app 44 1 (.t 40) (.t 43)),
 un (.asg 4 (.t 44))])
 (.drop [33,34,35,36,37,38,39,40,41,42,43,44] .ret))))))))
abbrev Ahd:List RS:=[.t 4]
theorem Ahs:Bl Try.prog Rp 45 Af8 Ahd=true:=by kernel_rfl
def Rw:ACode:=
 (.seq (.seq (.reg [un (.mov 6 (.t 1)),
 un (.bin 7 .gtr (.t 6) (.c (.int .i64 0)))])
 (.drop [6] (.cond (.t 7) .skip
 (.exit 0))))
 (.drop [6,7] (.seq (.block 1 (.reg [un (.mov 10 (.t 5)),
 un (.mov 11 (.t 0)),
 un (.bin 12 .mul (.t 10) (.t 11)),
 un (.asg 5 (.t 12))]))
 (.drop [10,11,12] (.reg [un (.mov 8 (.t 1)),
 un (.bin 9 .sub (.t 8) (.c (.int .i64 1))),
 un (.asg 1 (.t 9))])))))
def Ahm:ACode:=
 (.seq (.reg [un (.asg 4 (.c (.int .i64 0)))])
 (.seq (.reg [un (.asg 5 (.c (.int .i64 1)))])
 (.seq (.block 0 (.loop Rw))
 (.drop [6,7,10,11,12,8,9] (.seq (.reg [un (.mov 13 (.t 5)),
 un (.asg 4 (.t 13))])
 (.drop [13] .ret))))))
abbrev Ag7:List RS:=[.t 4]
theorem Agm:Bl Try.prog Hh 14 Ahm Ag7=true:=by kernel_rfl
def Aec:ACode:=
 (.seq (.reg [un (.asg 4 (.c (.int .i64 0)))])
 (.seq (.seq (.reg [un (.mov 5 (.t 0)),
 un (.mov 6 (.t 1)),
 un (.bin 7 .gtr (.t 5) (.t 6))])
 (.drop [5,6] (.cond (.t 7) (.seq (.reg [un (.mov 8 (.t 0)),
 un (.asg 4 (.t 8))])
 (.drop [8] .ret))
 .skip)))
 (.drop [5,6,7,8] (.seq (.reg [un (.mov 9 (.t 1)),
 un (.asg 4 (.t 9))])
 (.drop [9] .ret)))))
abbrev Ae5:List RS:=[.t 4]
theorem Adz:Bl Try.prog Pb 10 Aec Ae5=true:=by kernel_rfl
def Agu:ACode:=
 (.seq (.reg [un (.asg 2 (.c (.nilsl 1)))])
 (.seq (.reg [un (.bsl 3 1 []),
 un (.mov 4 (.t 0)),
 un (.app 5 1 (.t 3) (.t 4)),
 un (.asg 2 (.t 5))])
 (.drop [3,4,5] .ret)))
abbrev Ahu:List RS:=[.t 2]
theorem Ahi:Bl Try.prog Jj 6 Agu Ahu=true:=by kernel_rfl
def Pi:ACode:=
 (.seq (.seq (.reg [un (.mov 13 (.t 8)),
 un (.bin 14 .geq (.t 13) (.c (.int .i64 0)))])
 (.drop [13] (.cond (.t 14) .skip
 (.exit 0))))
 (.drop [13,14] (.seq (.block 1 (.seq (.reg [un (.mov 17 (.t 7)),
 un (.mov 18 (.t 8)),
 un (.mov 19 (.t 2)),
 un (.mov 20 (.t 0)),
 un (.bin 21 .rem (.t 19) (.t 20)),
 un (.iad 22 1 (.t 17) (.t 18)),
 un (.st 1 (.t 22) (.t 21))])
 (.drop [17,18,19,20,21,22] (.reg [un (.mov 23 (.t 2)),
 un (.mov 24 (.t 0)),
 un (.bin 25 .quo (.t 23) (.t 24)),
 un (.asg 2 (.t 25))]))))
 (.drop [17,18,19,20,21,22,23,24,25] (.reg [un (.mov 15 (.t 8)),
 un (.bin 16 .sub (.t 15) (.c (.int .i64 1))),
 un (.asg 8 (.t 16))])))))
def Adr:ACode:=
 (.seq (.reg [un (.asg 6 (.c (.nilsl 1)))])
 (.seq (.reg [un (.mov 9 (.t 1)),
 un (.mk 10 1 (.int .i64 0) (.t 9)),
 un (.asg 7 (.t 10))])
 (.drop [9,10] (.seq (.seq (.reg [un (.mov 11 (.t 1)),
 un (.bin 12 .sub (.t 11) (.c (.int .i64 1))),
 un (.asg 8 (.t 12))])
 (.drop [11,12] (.block 0 (.loop Pi))))
 (.drop [11,12,8,13,14,17,18,19,20,21,22,23,24,25,15,16] (.seq (.reg [un (.mov 26 (.t 7)),
 un (.asg 6 (.t 26))])
 (.drop [26] .ret)))))))
abbrev Adu:List RS:=[.t 6]
theorem Aej:Bl Try.prog K8 27 Adr Adu=true:=by kernel_rfl
def S6:ACode:=
 (.seq (.dreg [(un (.mov 4 (.t 0)),[]),
 (un (.nck 5 (.t 4)),[]),
 (un (.fadr 6 1 (.t 5)),[]),
 (un (.ld 7 1 false (.t 6)),[]),
 (un (.mov 8 (.t 0)),[4,5,6,7]),
 (un (.nck 9 (.t 8)),[4,5,6,7]),
 (un (.fadr 10 0 (.t 9)),[4,5,6,7]),
 (un (.ld 11 1 false (.t 10)),[4,5,6,7]),
 (un (.len 12 (.t 11)),[4,5,6,7])]
 [un (.bin 13 .lss (.t 7) (.t 12))])
 (.drop [4,5,6,7,8,9,10,11,12] (.cond (.t 13) (.dreg [(un (.mov 14 (.t 0)),[]),
 (un (.nck 15 (.t 14)),[]),
 (un (.fadr 16 0 (.t 15)),[]),
 (un (.ld 17 1 false (.t 16)),[]),
 (un (.mov 18 (.t 0)),[14,15,16,17]),
 (un (.nck 19 (.t 18)),[14,15,16,17]),
 (un (.fadr 20 1 (.t 19)),[14,15,16,17]),
 (un (.ld 21 1 false (.t 20)),[14,15,16,17])]
 [un (.iad 22 1 (.t 17) (.t 21)),
 un (.ld 23 1 false (.t 22)),
 un (.cnv 24 .i64 (.t 23)),
 un (.asg 3 (.t 24))])
 .skip)))
def W2:ACode:=
 (.seq (.reg [un (.asg 2 (.c (.int .i64 0)))])
 (.seq (.reg [un (.asg 3 (.c (.int .i64 0)))])
 (.seq (.cut S6)
 (.drop [4,5,6,7,8,9,10,11,12,13,14,15,16,17,18,19,20,21,22,23,24] (.seq (.reg [un (.mov 25 (.t 0)),
 un (.nck 26 (.t 25)),
 un (.fadr 27 1 (.t 26)),
 un (.ld 28 1 false (.t 27)),
 un (.bin 29 .add (.t 28) (.c (.int .i64 1))),
 un (.nck 30 (.t 25)),
 un (.fadr 31 1 (.t 30)),
 un (.st 1 (.t 31) (.t 29))])
 (.drop [25,26,27,28,29,30,31] (.seq (.reg [un (.mov 32 (.t 0)),
 un (.mov 33 (.t 0)),
 un (.nck 34 (.t 33)),
 un (.fadr 35 2 (.t 34)),
 un (.ld 36 1 false (.t 35)),
 un (.bin 37 .mul (.t 36) (.c (.int .u64 6364136223846793005))),
 un (.mov 38 (.t 3)),
 un (.cnv 39 .u64 (.t 38)),
 un (.bin 40 .add (.t 37) (.t 39)),
 un (.bin 41 .add (.t 40) (.c (.int .u64 550289))),
 un (.nck 42 (.t 32)),
 un (.fadr 43 2 (.t 42)),
 un (.st 1 (.t 43) (.t 41))])
 (.drop [32,33,34,35,36,37,38,39,40,41,42,43] (.seq (.seq (.dreg [(un (.mov 44 (.t 0)),[]),
 (un (.nck 45 (.t 44)),[]),
 (un (.fadr 46 1 (.t 45)),[]),
 (un (.ld 47 1 false (.t 46)),[]),
 (un (.mov 48 (.t 0)),[44,45,46,47]),
 (un (.nck 49 (.t 48)),[44,45,46,47]),
 (un (.fadr 50 0 (.t 49)),[44,45,46,47]),
 (un (.ld 51 1 false (.t 50)),[44,45,46,47]),
 (un (.len 52 (.t 51)),[44,45,46,47])]
 [un (.bin 53 .leq (.t 47) (.t 52))])
 (.drop [44,45,46,47,48,49,50,51,52] (.cond (.t 53) (.seq (.reg [un (.mov 54 (.t 3)),
 un (.asg 2 (.t 54))])
 (.drop [54] .ret))
 .skip)))
 (.drop [44,45,46,47,48,49,50,51,52,53,54] (.seq (.reg [un (.mov 55 (.t 0)),
 un (.nck 56 (.t 55)),
 un (.fadr 57 2 (.t 56)),
 un (.ld 58 1 false (.t 57)),
 un (.bin 59 .shr (.t 58) (.c (.int .u64 40))),
 un (.bin 60 .and (.t 59) (.c (.int .u64 255))),
 un (.cnv 61 .i64 (.t 60)),
 un (.asg 2 (.t 61))])
 (.drop [55,56,57,58,59,60,61] .ret))))))))))))
abbrev Xg:List RS:=[.t 2]
theorem W6:Bl Try.prog Gr 62 W2 Xg=true:=by kernel_rfl
def Nl:ACode:=
 (.seq (.seq (.reg [un (.mov 6 (.t 4)),
 un (.mov 7 (.t 0)),
 un (.slen 8 (.t 7)),
 un (.bin 9 .lss (.t 6) (.t 8))])
 (.drop [6,7,8] (.cond (.t 9) .skip
 (.exit 0))))
 (.drop [6,7,8,9] (.seq (.block 1 (.dreg [(un (.fadr 12 1 (.t 3)),[18]),
 (un (.ld 13 1 false (.t 12)),[18]),
 (un (.mov 14 (.t 0)),[12,13]),
 (un (.mov 15 (.t 4)),[12,13,14]),
 (un (.sidx 16 (.t 14) (.t 15)),[12,13]),
 (un (.bin 17 .sub (.t 16) (.c (.int .u8 48))),[12,13]),
 (un (.cnv 18 .i64 (.t 17)),[12,13]),
 (un (.bsl 19 1 [(.t 18)]),[12,13])]
 [un (.app 20 1 (.t 13) (.t 19)),
 un (.fadr 21 1 (.t 3)),
 un (.st 1 (.t 21) (.t 20))]))
 (.drop [12,13,14,15,16,17,18,19,20,21] (.reg [un (.mov 10 (.t 4)),
 un (.bin 11 .add (.t 10) (.c (.int .i64 1))),
 un (.asg 4 (.t 11))])))))
def Aah:ACode:=
 (.seq (.reg [un (.alc 2 (.agg [.int .i64 0,.nilsl 1]))])
 (.seq (.reg [un (.bld 5 [.int .i64 0,.nilsl 1] [(0,1,(.c (.int .i64 2)))]),
 un (.alc 3 (.agg [.int .i64 0,.nilsl 1])),
 un (.st 2 (.t 3) (.t 5))])
 (.drop [5] (.seq (.seq (.reg [un (.asg 4 (.c (.int .i64 0)))])
 (.block 0 (.loop Nl)))
 (.drop [4,6,7,8,9,12,13,14,15,16,17,18,19,20,21,10,11] (.seq (.reg [un (.ld 22 2 true (.t 3)),
 un (.st 2 (.t 2) (.t 22))])
 (.drop [22] .ret)))))))
abbrev Aac:List RS:=[.c 2 2 true]
theorem Aaj:Bl Try.prog Bg 23 Aah Aac=true:=by kernel_rfl
def Na:ACode:=
 (.seq (.seq (.reg [un (.mov 6 (.t 4)),
 un (.mov 7 (.t 0)),
 un (.mov 8 (.t 0)),
 un (.bin 9 .mul (.t 7) (.t 8)),
 un (.mov 10 (.t 0)),
 un (.bin 11 .mul (.t 9) (.t 10)),
 un (.bin 12 .lss (.t 6) (.t 11))])
 (.drop [6,7,8,9,10,11] (.cond (.t 12) .skip
 (.exit 0))))
 (.drop [6,7,8,9,10,11,12] (.seq (.block 1 (.dreg [(un (.fadr 15 1 (.t 3)),[35]),
 (un (.ld 16 1 false (.t 15)),[35]),
 (un (.mov 17 (.t 4)),[15,16]),
 (un (.mov 18 (.t 0)),[15,16,17]),
 (un (.mov 19 (.t 0)),[15,16,17,18]),
 (un (.bin 20 .mul (.t 18) (.t 19)),[15,16,17]),
 (un (.bin 21 .quo (.t 17) (.t 20)),[15,16]),
 (un (.mov 22 (.t 0)),[15,16,17,18,19,20,21]),
 (un (.bin 23 .add (.t 21) (.t 22)),[15,16]),
 (un (.mov 24 (.t 4)),[15,16,17,18,19,20,21,22,23]),
 (un (.mov 25 (.t 0)),[15,16,17,18,19,20,21,22,23,24]),
 (un (.bin 26 .quo (.t 24) (.t 25)),[15,16,17,18,19,20,21,22,23]),
 (un (.mov 27 (.t 0)),[15,16,17,18,19,20,21,22,23,24,25,26]),
 (un (.bin 28 .rem (.t 26) (.t 27)),[15,16,17,18,19,20,21,22,23]),
 (un (.bin 29 .sub (.t 23) (.t 28)),[15,16]),
 (un (.mov 30 (.t 4)),[15,16,17,18,19,20,21,22,23,24,25,26,27,28,29]),
 (un (.mov 31 (.t 0)),[15,16,17,18,19,20,21,22,23,24,25,26,27,28,29,30]),
 (un (.bin 32 .rem (.t 30) (.t 31)),[15,16,17,18,19,20,21,22,23,24,25,26,27,28,29]),
 (un (.bin 33 .add (.t 29) (.t 32)),[15,16]),
 (un (.mov 34 (.t 0)),[15,16,17,18,19,20,21,22,23,24,25,26,27,28,29,30,31,32,33]),
 (un (.bin 35 .rem (.t 33) (.t 34)),[15,16]),
 (un (.bsl 36 1 [(.t 35)]),[15,16])]
 [un (.app 37 1 (.t 16) (.t 36)),
 un (.fadr 38 1 (.t 3)),
 un (.st 1 (.t 38) (.t 37))]))
 (.drop [15,16,17,18,19,20,21,22,23,24,25,26,27,28,29,30,31,32,33,34,35,36,37,38] (.reg [un (.mov 13 (.t 4)),
 un (.bin 14 .add (.t 13) (.c (.int .i64 1))),
 un (.asg 4 (.t 14))])))))
def Z4:ACode:=
 (.seq (.reg [un (.alc 2 (.agg [.int .i64 0,.nilsl 1]))])
 (.seq (.reg [un (.bld 5 [.int .i64 0,.nilsl 1] [(0,1,(.c (.int .i64 3)))]),
 un (.alc 3 (.agg [.int .i64 0,.nilsl 1])),
 un (.st 2 (.t 3) (.t 5))])
 (.drop [5] (.seq (.seq (.reg [un (.asg 4 (.c (.int .i64 0)))])
 (.block 0 (.loop Na)))
 (.drop [4,6,7,8,9,10,11,12,15,16,17,18,19,20,21,22,23,24,25,26,27,28,29,30,31,32,33,34,35,36,37,38,13,14] (.seq (.reg [un (.ld 39 2 true (.t 3)),
 un (.st 2 (.t 2) (.t 39))])
 (.drop [39] .ret)))))))
abbrev Z9:List RS:=[.c 2 2 true]
theorem Aae:Bl Try.prog Im 40 Z4 Z9=true:=by kernel_rfl
def Aat:ACode:=
 (.reg [un (.mov 30 (.t 8)),
 un (.bin 31 .geq (.t 30) (.c (.int .i64 6))),
 un (.asg 32 (.t 31)),
 ⟨some (32,false),.mov 33 (.t 8)⟩,
 ⟨some (32,false),.fadr 34 1 (.t 3)⟩,
 ⟨some (32,false),.ld 35 1 false (.t 34)⟩,
 ⟨some (32,false),.len 36 (.t 35)⟩,
 ⟨some (32,false),.un 37 .neg (.t 36)⟩,
 ⟨some (32,false),.bin 38 .lss (.t 33) (.t 37)⟩,
 un (.pick 39 (.t 32) (.c (.bool true)) (.t 38)),
 un (.asg 29 (.t 39))])
def R4:ACode:=
 (.seq (.seq (.reg [un (.mov 9 (.t 7)),
 un (.bin 10 .gtr (.t 9) (.c (.int .i64 0)))])
 (.drop [9] (.cond (.t 10) .skip
 (.exit 0))))
 (.drop [9,10] (.block 1 (.seq (.seq (.reg [un (.mov 11 (.t 2)),
 un (.mov 12 (.t 1)),
 un (.len 13 (.t 12)),
 un (.bin 14 .geq (.t 11) (.t 13))])
 (.drop [11,12,13] (.cond (.t 14) (.seq (.reg [un (.asg 6 (.c (.int .i64 (-1))))])
 .ret)
 .skip)))
 (.drop [11,12,13,14] (.seq (.reg [un (.mov 15 (.t 1)),
 un (.mov 16 (.t 2)),
 un (.iad 17 1 (.t 15) (.t 16)),
 un (.ld 18 1 false (.t 17)),
 un (.asg 8 (.t 18))])
 (.drop [15,16,17,18] (.seq (.block 2 (.seq (.cut Aat)
 (.drop [30,31,32,33,34,35,36,37,38,39] (.cond (.t 29) (.seq (.reg [un (.asg 6 (.c (.int .i64 (-1))))])
 .ret)
 (.seq (.reg [un (.mov 41 (.t 8)),
 un (.bin 42 .geq (.t 41) (.c (.int .i64 0))),
 un (.asg 40 (.t 42))])
 (.drop [41,42] (.cond (.t 40) (.reg [un (.mov 43 (.t 7)),
 un (.bin 44 .sub (.t 43) (.c (.int .i64 1))),
 un (.asg 7 (.t 44))])
 (.reg [un (.mov 19 (.t 7)),
 un (.fadr 20 1 (.t 3)),
 un (.ld 21 1 false (.t 20)),
 un (.mov 22 (.t 8)),
 un (.bin 23 .sub (.c (.int .i64 (-1))) (.t 22)),
 un (.iad 24 2 (.t 21) (.t 23)),
 un (.fadr 25 0 (.t 24)),
 un (.ld 26 1 false (.t 25)),
 un (.bin 27 .sub (.t 26) (.c (.int .i64 1))),
 un (.bin 28 .add (.t 19) (.t 27)),
 un (.asg 7 (.t 28))]))))))))
 (.drop [30,31,32,33,34,35,36,37,38,39,29,41,42,40,43,44,19,20,21,22,23,24,25,26,27,28] (.reg [un (.mov 45 (.t 2)),
 un (.bin 46 .add (.t 45) (.c (.int .i64 1))),
 un (.asg 2 (.t 46))]))))))))))
def Ag5:ACode:=
 (.seq (.reg [un (.box 3 (.t 0)),
 un (.asg 6 (.c (.int .i64 0)))])
 (.seq (.reg [un (.asg 7 (.c (.int .i64 1)))])
 (.seq (.block 0 (.loop R4))
 (.drop [9,10,11,12,13,14,15,16,17,18,8,30,31,32,33,34,35,36,37,38,39,29,41,42,40,43,44,19,20,21,22,23,24,25,26,27,28,45,46] (.seq (.reg [un (.mov 47 (.t 2)),
 un (.asg 6 (.t 47))])
 (.drop [47] .ret))))))
abbrev Ahv:List RS:=[.t 6]
theorem Ahw:Bl Try.prog Ra 48 Ag5 Ahv=true:=by kernel_rfl
def Ny:ACode:=
 (.seq (.seq (.reg [un (.mov 9 (.t 8)),
 un (.mov 10 (.t 2)),
 un (.len 11 (.t 10)),
 un (.bin 12 .lss (.t 9) (.t 11))])
 (.drop [9,10,11] (.cond (.t 12) .skip
 (.exit 0))))
 (.drop [9,10,11,12] (.seq (.block 1 (.dreg [(un (.mov 15 (.t 7)),[]),
 (un (.fadr 16 0 (.t 3)),[15]),
 (un (.ld 17 1 false (.t 16)),[15]),
 (un (.bin 18 .mul (.t 15) (.t 17)),[]),
 (un (.mov 19 (.t 2)),[15,16,17,18]),
 (un (.mov 20 (.t 8)),[15,16,17,18,19]),
 (un (.iad 21 1 (.t 19) (.t 20)),[15,16,17,18]),
 (un (.ld 22 1 false (.t 21)),[15,16,17,18])]
 [un (.bin 23 .add (.t 18) (.t 22)),
 un (.asg 7 (.t 23))]))
 (.drop [15,16,17,18,19,20,21,22,23] (.reg [un (.mov 13 (.t 8)),
 un (.bin 14 .add (.t 13) (.c (.int .i64 1))),
 un (.asg 8 (.t 14))])))))
def Acq:ACode:=
 (.seq (.reg [un (.box 3 (.t 0)),
 un (.asg 6 (.c (.int .i64 0)))])
 (.seq (.reg [un (.asg 7 (.c (.int .i64 0)))])
 (.seq (.seq (.reg [un (.asg 8 (.c (.int .i64 0)))])
 (.block 0 (.loop Ny)))
 (.drop [8,9,10,11,12,15,16,17,18,19,20,21,22,23,13,14] (.seq (.reg [un (.fadr 24 1 (.t 3)),
 un (.ld 25 1 false (.t 24)),
 un (.mov 26 (.t 1)),
 un (.iad 27 2 (.t 25) (.t 26)),
 un (.fadr 28 1 (.t 27)),
 un (.ld 29 1 false (.t 28)),
 un (.mov 30 (.t 7)),
 un (.iad 31 1 (.t 29) (.t 30)),
 un (.ld 32 1 false (.t 31)),
 un (.asg 6 (.t 32))])
 (.drop [24,25,26,27,28,29,30,31,32] .ret))))))
abbrev Adm:List RS:=[.t 6]
theorem Ac0:Bl Try.prog M3 33 Acq Adm=true:=by kernel_rfl
def Ak1:ACode:=
 (.seq (.reg [un (.box 2 (.t 0)),
 un (.box 3 (.t 1)),
 un (.asg 4 (.c (.bool false)))])
 (.seq (.reg [un (.fadr 5 0 (.t 2)),
 un (.ld 6 1 false (.t 5)),
 un (.fadr 7 0 (.t 3)),
 un (.ld 8 1 false (.t 7)),
 un (.bin 9 .eql (.t 6) (.t 8)),
 un (.asg 10 (.t 9)),
 ⟨some (10,true),.fadr 11 1 (.t 2)⟩,
 ⟨some (10,true),.ld 12 1 false (.t 11)⟩,
 ⟨some (10,true),.fadr 13 1 (.t 3)⟩,
 ⟨some (10,true),.ld 14 1 false (.t 13)⟩,
 ⟨some (10,true),.call 15 Mq [((.t 12),false),((.t 14),false)]⟩,
 un (.pick 16 (.t 10) (.t 15) (.c (.bool false))),
 un (.asg 4 (.t 16))])
 (.drop [5,6,7,8,9,10,11,12,13,14,15,16] .ret)))
abbrev Ak4:List RS:=[.t 4]
theorem Ak7:Bl Try.prog Q3 17 Ak1 Ak4=true:=by kernel_rfl
def L7:ACode:=
 (.seq (.seq (.reg [un (.mov 10 (.t 8)),
 un (.fadr 11 0 (.t 3)),
 un (.ld 12 1 false (.t 11)),
 un (.mov 13 (.t 2)),
 un (.call 14 Jm [((.t 12),false),((.t 13),false)]),
 un (.bin 15 .lss (.t 10) (.t 14))])
 (.drop [10,11,12,13,14] (.cond (.t 15) .skip
 (.exit 0))))
 (.drop [10,11,12,13,14,15] (.seq (.block 1 (.dreg [(un (.mov 18 (.t 7)),[26]),
 (un (.ld 19 2 true (.t 3)),[18]),
 (un (.mov 20 (.t 1)),[18,19]),
 (un (.mov 21 (.t 8)),[18,19,20]),
 (un (.mov 22 (.t 2)),[18,19,20,21]),
 (un (.fadr 23 0 (.t 3)),[18,19,20,21,22]),
 (un (.ld 24 1 false (.t 23)),[18,19,20,21,22]),
 (un (.call 25 K7 [((.t 21),false),((.t 22),false),((.t 24),false)]),[18,19,20]),
 (un (.call 26 I4 [((.t 19),false),((.t 20),false),((.t 25),false)]),[18]),
 (un (.bsl 27 1 [(.t 26)]),[18])]
 [un (.app 28 1 (.t 18) (.t 27)),
 un (.asg 7 (.t 28))]))
 (.drop [18,19,20,21,22,23,24,25,26,27,28] (.reg [un (.mov 16 (.t 8)),
 un (.bin 17 .add (.t 16) (.c (.int .i64 1))),
 un (.asg 8 (.t 17))])))))
def Y1:ACode:=
 (.seq (.reg [un (.box 3 (.t 0)),
 un (.asg 6 (.c (.nilsl 1)))])
 (.seq (.reg [un (.bsl 9 1 []),
 un (.asg 7 (.t 9))])
 (.drop [9] (.seq (.seq (.reg [un (.asg 8 (.c (.int .i64 0)))])
 (.block 0 (.loop L7)))
 (.drop [8,10,11,12,13,14,15,18,19,20,21,22,23,24,25,26,27,28,16,17] (.seq (.reg [un (.mov 29 (.t 7)),
 un (.asg 6 (.t 29))])
 (.drop [29] .ret)))))))
abbrev Yy:List RS:=[.t 6]
theorem Xy:Bl Try.prog Kt 30 Y1 Yy=true:=by kernel_rfl
def Wt:ACode:=
 (.seq (.reg [un (.asg 4 (.c (.int .i64 0)))])
 (.seq (.seq (.reg [un (.mov 6 (.t 1)),
 un (.bin 7 .leq (.t 6) (.c (.int .i64 1)))])
 (.drop [6] (.cond (.t 7) (.seq (.reg [un (.asg 4 (.c (.int .i64 0)))])
 .ret)
 .skip)))
 (.drop [6,7] (.seq (.reg [un (.mov 8 (.t 0)),
 un (.call 9 Gr [((.t 8),true)]),
 un (.asg 5 (.t 9))])
 (.drop [8,9] (.seq (.seq (.reg [un (.mov 10 (.t 1)),
 un (.bin 11 .gtr (.t 10) (.c (.int .i64 200)))])
 (.drop [10] (.cond (.t 11) (.reg [un (.mov 12 (.t 5)),
 un (.bin 13 .mul (.t 12) (.c (.int .i64 256))),
 un (.mov 14 (.t 0)),
 un (.call 15 Gr [((.t 14),true)]),
 un (.bin 16 .add (.t 13) (.t 15)),
 un (.asg 5 (.t 16))])
 .skip)))
 (.drop [10,11,12,13,14,15,16] (.seq (.reg [un (.mov 17 (.t 5)),
 un (.mov 18 (.t 1)),
 un (.bin 19 .rem (.t 17) (.t 18)),
 un (.asg 4 (.t 19))])
 (.drop [17,18,19] .ret)))))))))
abbrev Wz:List RS:=[.t 4]
theorem Xn:Bl Try.prog Ap 20 Wt Wz=true:=by kernel_rfl
def Acw:ACode:=
 (.seq (.reg [un (.alc 2 (.agg [.int .i64 0,.nilsl 2]))])
 (.seq (.seq (.reg [un (.mov 3 (.t 0))])
 (.block 0 (.seq (.reg [un (.bin 5 .eql (.t 3) (.c (.int .i64 0))),
 un (.asg 4 (.t 5))])
 (.drop [5] (.cond (.t 4) (.seq (.reg [⟨none,.call 6 Bg [((.c (.str ⟨#[48,48,48,49]⟩)),false)]⟩,
 un (.bsl 7 2 [(.t 6)]),
 un (.bld 8 [.int .i64 0,.nilsl 2] [(0,1,(.c (.int .i64 2))),(1,1,(.t 7))]),
 un (.st 2 (.t 2) (.t 8))])
 (.drop [6,7,8] .ret))
 (.seq (.reg [un (.bin 10 .eql (.t 3) (.c (.int .i64 1))),
 un (.asg 9 (.t 10))])
 (.drop [10] (.cond (.t 9) (.seq (.reg [⟨none,.call 11 Bg [((.c (.str ⟨#[48,48,48,49]⟩)),false)]⟩,
 ⟨none,.call 12 Bg [((.c (.str ⟨#[48,49,49,49]⟩)),false)]⟩,
 un (.bsl 13 2 [(.t 11),(.t 12)]),
 un (.bld 14 [.int .i64 0,.nilsl 2] [(0,1,(.c (.int .i64 2))),(1,1,(.t 13))]),
 un (.st 2 (.t 2) (.t 14))])
 (.drop [11,12,13,14] .ret))
 (.seq (.reg [un (.bin 16 .eql (.t 3) (.c (.int .i64 2))),
 un (.asg 15 (.t 16))])
 (.drop [16] (.cond (.t 15) (.seq (.reg [⟨none,.call 17 Bg [((.c (.str ⟨#[48,48,48,49]⟩)),false)]⟩,
 ⟨none,.call 18 Bg [((.c (.str ⟨#[48,49,49,49]⟩)),false)]⟩,
 un (.bsl 19 1 [(.c (.int .i64 1)),(.c (.int .i64 0))]),
 un (.bld 20 [.int .i64 0,.nilsl 1] [(0,1,(.c (.int .i64 1))),(1,1,(.t 19))]),
 un (.bsl 21 2 [(.t 17),(.t 18),(.t 20)]),
 un (.bld 22 [.int .i64 0,.nilsl 2] [(0,1,(.c (.int .i64 2))),(1,1,(.t 21))]),
 un (.st 2 (.t 2) (.t 22))])
 (.drop [17,18,19,20,21,22] .ret))
 (.seq (.reg [un (.bin 24 .eql (.t 3) (.c (.int .i64 3))),
 un (.asg 23 (.t 24))])
 (.drop [24] (.cond (.t 23) (.seq (.reg [un (.call 25 Im [((.c (.int .i64 2)),false)]),
 un (.bsl 26 2 [(.t 25)]),
 un (.bld 27 [.int .i64 0,.nilsl 2] [(0,1,(.c (.int .i64 2))),(1,1,(.t 26))]),
 un (.st 2 (.t 2) (.t 27))])
 (.drop [25,26,27] .ret))
 (.seq (.reg [un (.bin 29 .eql (.t 3) (.c (.int .i64 4))),
 un (.asg 28 (.t 29))])
 (.drop [29] (.cond (.t 28) (.seq (.reg [⟨none,.call 30 Bg [((.c (.str ⟨#[48,49,50,49,50,48,50,48,49]⟩)),false)]⟩,
 un (.bsl 31 2 [(.t 30)]),
 un (.bld 32 [.int .i64 0,.nilsl 2] [(0,1,(.c (.int .i64 3))),(1,1,(.t 31))]),
 un (.st 2 (.t 2) (.t 32))])
 (.drop [30,31,32] .ret))
 (.seq (.reg [un (.bin 34 .eql (.t 3) (.c (.int .i64 5))),
 un (.asg 33 (.t 34))])
 (.drop [34] (.cond (.t 33) (.seq (.reg [⟨none,.call 35 Bg [((.c (.str ⟨#[48,49,48,49,49,50,48,50,50]⟩)),false)]⟩,
 un (.bsl 36 2 [(.t 35)]),
 un (.bld 37 [.int .i64 0,.nilsl 2] [(0,1,(.c (.int .i64 3))),(1,1,(.t 36))]),
 un (.st 2 (.t 2) (.t 37))])
 (.drop [35,36,37] .ret))
 (.seq (.reg [un (.bin 39 .eql (.t 3) (.c (.int .i64 6))),
 un (.asg 38 (.t 39))])
 (.drop [39] (.cond (.t 38) (.seq (.reg [⟨none,.call 40 Bg [((.c (.str ⟨#[48,49,50,51,49,48,51,50,50,51,48,49,51,50,49,48]⟩)),false)]⟩,
 un (.bsl 41 2 [(.t 40)]),
 un (.bld 42 [.int .i64 0,.nilsl 2] [(0,1,(.c (.int .i64 4))),(1,1,(.t 41))]),
 un (.st 2 (.t 2) (.t 42))])
 (.drop [40,41,42] .ret))
 (.seq (.reg [un (.bin 44 .eql (.t 3) (.c (.int .i64 7))),
 un (.asg 43 (.t 44))])
 (.drop [44] (.cond (.t 43) (.seq (.reg [⟨none,.call 45 Bg [((.c (.str ⟨#[48,48,48,48,49,49,48,49,50]⟩)),false)]⟩,
 ⟨none,.call 46 Bg [((.c (.str ⟨#[48,49,50,49,49,50,50,50,50]⟩)),false)]⟩,
 un (.bsl 47 2 [(.t 45),(.t 46)]),
 un (.bld 48 [.int .i64 0,.nilsl 2] [(0,1,(.c (.int .i64 3))),(1,1,(.t 47))]),
 un (.st 2 (.t 2) (.t 48))])
 (.drop [45,46,47,48] .ret))
 (.seq (.reg [un (.bin 50 .eql (.t 3) (.c (.int .i64 8))),
 un (.asg 49 (.t 50))])
 (.drop [50] (.cond (.t 49) (.seq (.reg [un (.bsl 51 1 [(.c (.int .i64 1)),(.c (.int .i64 2)),(.c (.int .i64 3)),(.c (.int .i64 0))]),
 un (.bld 52 [.int .i64 0,.nilsl 1] [(0,1,(.c (.int .i64 1))),(1,1,(.t 51))]),
 un (.bsl 53 2 [(.t 52)]),
 un (.bld 54 [.int .i64 0,.nilsl 2] [(0,1,(.c (.int .i64 4))),(1,1,(.t 53))]),
 un (.st 2 (.t 2) (.t 54))])
 (.drop [51,52,53,54] .ret))
 (.seq (.reg [un (.bin 56 .eql (.t 3) (.c (.int .i64 9))),
 un (.asg 55 (.t 56))])
 (.drop [56] (.cond (.t 55) (.seq (.reg [un (.bsl 57 1 [(.c (.int .i64 0)),(.c (.int .i64 0)),(.c (.int .i64 0)),(.c (.int .i64 1)),(.c (.int .i64 0)),(.c (.int .i64 1)),(.c (.int .i64 1)),(.c (.int .i64 1))]),
 un (.bld 58 [.int .i64 0,.nilsl 1] [(0,1,(.c (.int .i64 3))),(1,1,(.t 57))]),
 un (.bsl 59 2 [(.t 58)]),
 un (.bld 60 [.int .i64 0,.nilsl 2] [(0,1,(.c (.int .i64 2))),(1,1,(.t 59))]),
 un (.st 2 (.t 2) (.t 60))])
 (.drop [57,58,59,60] .ret))
 (.seq (.reg [un (.bin 62 .eql (.t 3) (.c (.int .i64 10))),
 un (.asg 61 (.t 62))])
 (.drop [62] (.cond (.t 61) (.seq (.reg [⟨none,.call 63 Bg [((.c (.str ⟨#[48,48,48,49,49,49,50,50,50]⟩)),false)]⟩,
 un (.bsl 64 2 [(.t 63)]),
 un (.bld 65 [.int .i64 0,.nilsl 2] [(0,1,(.c (.int .i64 3))),(1,1,(.t 64))]),
 un (.st 2 (.t 2) (.t 65))])
 (.drop [63,64,65] .ret))
 (.seq (.reg [un (.bin 67 .eql (.t 3) (.c (.int .i64 11))),
 un (.asg 66 (.t 67))])
 (.drop [67] (.cond (.t 66) (.seq (.reg [⟨none,.call 68 Bg [((.c (.str ⟨#[48,48,48,48,48,48,49,48,48,49,48,48,50,48,50,48,48,48,51,51,48,49,50,51,52]⟩)),false)]⟩,
 ⟨none,.call 69 Bg [((.c (.str ⟨#[48,49,50,51,52,49,49,52,52,52,50,52,50,52,52,51,52,52,51,52,52,52,52,52,52]⟩)),false)]⟩,
 un (.bsl 70 2 [(.t 68),(.t 69)]),
 un (.bld 71 [.int .i64 0,.nilsl 2] [(0,1,(.c (.int .i64 5))),(1,1,(.t 70))]),
 un (.st 2 (.t 2) (.t 71))])
 (.drop [68,69,70,71] .ret))
 (.seq (.reg [un (.bin 73 .eql (.t 3) (.c (.int .i64 12))),
 un (.asg 72 (.t 73))])
 (.drop [73] (.cond (.t 72) (.seq (.reg [⟨none,.call 74 Bg [((.c (.str ⟨#[48,49,50,51,49,50,51,48,50,51,48,49,51,48,49,50]⟩)),false)]⟩,
 un (.bsl 75 2 [(.t 74)]),
 un (.bld 76 [.int .i64 0,.nilsl 2] [(0,1,(.c (.int .i64 4))),(1,1,(.t 75))]),
 un (.st 2 (.t 2) (.t 76))])
 (.drop [74,75,76] .ret))
 (.seq (.reg [un (.bin 78 .eql (.t 3) (.c (.int .i64 13))),
 un (.asg 77 (.t 78))])
 (.drop [78] (.cond (.t 77) (.seq (.reg [un (.bsl 79 1 [(.c (.int .i64 0)),(.c (.int .i64 0)),(.c (.int .i64 1))]),
 un (.bld 80 [.int .i64 0,.nilsl 1] [(0,1,(.c (.int .i64 1))),(1,1,(.t 79))]),
 un (.bsl 81 1 [(.c (.int .i64 2))]),
 un (.bld 82 [.int .i64 0,.nilsl 1] [(0,1,(.c (.int .i64 0))),(1,1,(.t 81))]),
 un (.bsl 83 2 [(.t 80),(.t 82)]),
 un (.bld 84 [.int .i64 0,.nilsl 2] [(0,1,(.c (.int .i64 3))),(1,1,(.t 83))]),
 un (.st 2 (.t 2) (.t 84))])
 (.drop [79,80,81,82,83,84] .ret))
 (.seq (.reg [un (.bin 86 .eql (.t 3) (.c (.int .i64 14))),
 un (.asg 85 (.t 86))])
 (.drop [86] (.cond (.t 85) (.seq (.reg [⟨none,.call 87 Bg [((.c (.str ⟨#[48]⟩)),false)]⟩,
 un (.bsl 88 2 [(.t 87)]),
 un (.bld 89 [.int .i64 0,.nilsl 2] [(0,1,(.c (.int .i64 1))),(1,1,(.t 88))]),
 un (.st 2 (.t 2) (.t 89))])
 (.drop [87,88,89] .ret))
 (.seq (.reg [un (.bin 91 .eql (.t 3) (.c (.int .i64 15))),
 un (.asg 90 (.t 91))])
 (.drop [91] (.cond (.t 90) (.seq (.reg [un (.call 92 Im [((.c (.int .i64 3)),false)]),
 un (.bsl 93 2 [(.t 92)]),
 un (.bld 94 [.int .i64 0,.nilsl 2] [(0,1,(.c (.int .i64 3))),(1,1,(.t 93))]),
 un (.st 2 (.t 2) (.t 94))])
 (.drop [92,93,94] .ret))
 .skip))))))))))))))))))))))))))))))))))))))))))))))))))
 (.drop [3,5,4,6,7,8,10,9,11,12,13,14,16,15,17,18,19,20,21,22,24,23,25,26,27,29,28,30,31,32,34,33,35,36,37,39,38,40,41,42,44,43,45,46,47,48,50,49,51,52,53,54,56,55,57,58,59,60,62,61,63,64,65,67,66,68,69,70,71,73,72,74,75,76,78,77,79,80,81,82,83,84,86,85,87,88,89,91,90,92,93,94] (.seq (.reg [un (.bld 95 [.int .i64 0,.nilsl 2] [(0,1,(.c (.int .i64 2)))]),
 un (.st 2 (.t 2) (.t 95))])
 (.drop [95] .ret)))))
abbrev Abc:List RS:=[.c 2 2 true]
theorem Adk:Bl Try.prog Nf 96 Acw Abc=true:=by kernel_rfl
def Air:ACode:=
 (.seq (.reg [un (.box 2 (.t 0)),
 un (.asg 4 (.c (.bool false)))])
 (.seq (.dreg [(un (.fadr 5 0 (.t 2)),[]),
 (un (.ld 6 1 false (.t 5)),[]),
 (un (.bin 7 .geq (.t 6) (.c (.int .i64 0))),[]),
 (un (.asg 8 (.t 7)),[]),
 (⟨some (8,true),.fadr 9 0 (.t 2)⟩,[7]),
 (⟨some (8,true),.ld 10 1 false (.t 9)⟩,[7]),
 (⟨some (8,true),.bin 11 .leq (.t 10) (.c (.int .i64 3))⟩,[7]),
 (un (.pick 12 (.t 8) (.t 11) (.c (.bool false))),[7]),
 (un (.asg 13 (.t 12)),[7]),
 (⟨some (13,true),.fadr 14 1 (.t 2)⟩,[7,12]),
 (⟨some (13,true),.ld 15 1 false (.t 14)⟩,[7,12]),
 (⟨some (13,true),.len 16 (.t 15)⟩,[7,12]),
 (⟨some (13,true),.mov 17 (.t 1)⟩,[14,15,16,7,12]),
 (⟨some (13,true),.fadr 18 0 (.t 2)⟩,[14,15,16,17,7,12]),
 (⟨some (13,true),.ld 19 1 false (.t 18)⟩,[14,15,16,17,7,12]),
 (⟨some (13,true),.call 20 Jm [((.t 17),false),((.t 19),false)]⟩,[14,15,16,7,12]),
 (⟨some (13,true),.bin 21 .eql (.t 16) (.t 20)⟩,[7,12]),
 (un (.pick 22 (.t 13) (.t 21) (.c (.bool false))),[7,12]),
 (un (.asg 23 (.t 22)),[7,12]),
 (⟨some (23,true),.fadr 24 1 (.t 2)⟩,[7,12,22]),
 (⟨some (23,true),.ld 25 1 false (.t 24)⟩,[7,12,22]),
 (⟨some (23,true),.mov 26 (.t 1)⟩,[24,25,7,12,22])]
 [⟨some (23,true),.call 27 K0 [((.t 25),false),((.t 26),false)]⟩,
 un (.pick 28 (.t 23) (.t 27) (.c (.bool false))),
 un (.asg 4 (.t 28))])
 (.drop [5,6,7,8,9,10,11,12,13,14,15,16,17,18,19,20,21,22,23,24,25,26,27,28] .ret)))
abbrev Aik:List RS:=[.t 4]
theorem Aia:Bl Try.prog S8 29 Air Aik=true:=by kernel_rfl
def Adw:ACode:=
 (.seq (.reg [un (.box 2 (.t 0)),
 un (.asg 4 (.c (.bool false)))])
 (.seq (.reg [un (.mov 5 (.t 1)),
 un (.len 6 (.t 5)),
 un (.bin 7 .leq (.t 6) (.c (.int .i64 60))),
 un (.asg 8 (.t 7)),
 ⟨some (8,true),.ld 9 2 true (.t 2)⟩,
 ⟨some (8,true),.mov 10 (.t 1)⟩,
 ⟨some (8,true),.call 11 Ra [((.t 9),false),((.t 10),false),((.c (.int .i64 0)),false)]⟩,
 ⟨some (8,true),.mov 12 (.t 1)⟩,
 ⟨some (8,true),.len 13 (.t 12)⟩,
 ⟨some (8,true),.bin 14 .eql (.t 11) (.t 13)⟩,
 un (.pick 15 (.t 8) (.t 14) (.c (.bool false))),
 un (.asg 4 (.t 15))])
 (.drop [5,6,7,8,9,10,11,12,13,14,15] .ret)))
abbrev Ad6:List RS:=[.t 4]
theorem Aeu:Bl Try.prog Ik 16 Adw Ad6=true:=by kernel_rfl
def P8:ACode:=
 (.seq (.reg [un (.bin 18 .lss (.t 17) (.t 16))])
 (.seq (.cond (.t 18) .skip
 (.exit 2))
 (.seq (.block 3 (.seq (.reg [un (.iad 19 1 (.t 15) (.t 17)),
 un (.ld 20 1 false (.t 19)),
 un (.asg 7 (.t 20))])
 (.drop [19,20] (.seq (.reg [un (.mov 21 (.t 7)),
 un (.bin 22 .geq (.t 21) (.c (.int .i64 0)))])
 (.drop [21] (.cond (.t 22) (.reg [un (.mov 23 (.t 3)),
 un (.mov 24 (.t 7)),
 un (.iad 25 1 (.t 23) (.t 24)),
 un (.st 1 (.t 25) (.c (.bool true)))])
 .skip))))))
 (.drop [19,20,7,21,22,23,24,25] (.reg [un (.bin 26 .add (.t 17) (.c (.int .i64 1))),
 un (.asg 17 (.t 26))])))))
def Qc:ACode:=
 (.seq (.reg [un (.bin 12 .lss (.t 11) (.t 10))])
 (.seq (.cond (.t 12) .skip
 (.exit 0))
 (.seq (.block 1 (.seq (.reg [un (.iad 13 1 (.t 9) (.t 11)),
 un (.ld 14 1 false (.t 13)),
 un (.asg 5 (.t 14))])
 (.drop [13,14] (.seq (.reg [un (.mov 15 (.t 5)),
 un (.len 16 (.t 15)),
 un (.mov 17 (.c (.int .i64 0)))])
 (.block 2 (.loop P8))))))
 (.drop [13,14,5,15,16,17,18,19,20,7,21,22,23,24,25,26] (.reg [un (.bin 27 .add (.t 11) (.c (.int .i64 1))),
 un (.asg 11 (.t 27))])))))
def Ad3:ACode:=
 (.seq (.reg [un (.asg 2 (.c (.nilsl 1)))])
 (.seq (.reg [un (.mk 8 1 (.bool false) (.c (.int .i64 6))),
 un (.asg 3 (.t 8))])
 (.drop [8] (.seq (.seq (.reg [un (.mov 9 (.t 0)),
 un (.len 10 (.t 9)),
 un (.mov 11 (.c (.int .i64 0)))])
 (.block 0 (.loop Qc)))
 (.drop [9,10,11,12,13,14,5,15,16,17,18,19,20,7,21,22,23,24,25,26,27] (.seq (.reg [un (.mov 28 (.t 3)),
 un (.call 29 O9 [((.t 28),false)]),
 un (.asg 2 (.t 29))])
 (.drop [28,29] .ret)))))))
abbrev Aen:List RS:=[.t 2]
theorem Aeg:Bl Try.prog O7 30 Ad3 Aen=true:=by kernel_rfl
def Ac3:ACode:=
 (.seq (.dreg [(un (.fadr 6 0 (.t 3)),[]),
 (un (.ld 7 1 false (.t 6)),[]),
 (un (.call 8 Gv [((.t 7),false),((.c (.int .i64 0)),false),((.c (.int .i64 3)),false)]),[]),
 (un (.un 9 .not (.t 8)),[]),
 (un (.asg 10 (.t 9)),[]),
 (⟨some (10,false),.fadr 11 1 (.t 3)⟩,[9]),
 (⟨some (10,false),.ld 12 1 false (.t 11)⟩,[9]),
 (⟨some (10,false),.len 13 (.t 12)⟩,[9]),
 (⟨some (10,false),.mov 14 (.t 0)⟩,[11,12,13,9]),
 (⟨some (10,false),.fadr 15 0 (.t 3)⟩,[11,12,13,14,9]),
 (⟨some (10,false),.ld 16 1 false (.t 15)⟩,[11,12,13,14,9]),
 (⟨some (10,false),.call 17 Hh [((.t 14),false),((.t 16),false)]⟩,[11,12,13,9])]
 [⟨some (10,false),.bin 18 .neq (.t 13) (.t 17)⟩,
 un (.pick 19 (.t 10) (.c (.bool true)) (.t 18))])
 (.drop [6,7,8,9,10,11,12,13,14,15,16,17,18] (.cond (.t 19) (.seq (.reg [un (.asg 4 (.c (.bool false)))])
 .ret)
 .skip)))
def Sk:ACode:=
 (.seq (.seq (.reg [un (.mov 20 (.t 5)),
 un (.fadr 21 1 (.t 3)),
 un (.ld 22 1 false (.t 21)),
 un (.len 23 (.t 22)),
 un (.bin 24 .lss (.t 20) (.t 23))])
 (.drop [20,21,22,23] (.cond (.t 24) .skip
 (.exit 0))))
 (.drop [20,21,22,23,24] (.seq (.block 1 (.seq (.reg [un (.fadr 27 1 (.t 3)),
 un (.ld 28 1 false (.t 27)),
 un (.mov 29 (.t 5)),
 un (.iad 30 1 (.t 28) (.t 29)),
 un (.ld 31 1 false (.t 30)),
 un (.mov 32 (.t 0)),
 un (.bin 33 .sub (.t 32) (.c (.int .i64 1))),
 un (.call 34 Gv [((.t 31),false),((.c (.int .i64 0)),false),((.t 33),false)]),
 un (.un 35 .not (.t 34))])
 (.drop [27,28,29,30,31,32,33,34] (.cond (.t 35) (.seq (.reg [un (.asg 4 (.c (.bool false)))])
 .ret)
 .skip))))
 (.drop [27,28,29,30,31,32,33,34,35] (.reg [un (.mov 25 (.t 5)),
 un (.bin 26 .add (.t 25) (.c (.int .i64 1))),
 un (.asg 5 (.t 26))])))))
def Ajj:ACode:=
 (.seq (.reg [un (.box 3 (.t 1)),
 un (.asg 4 (.c (.bool false)))])
 (.seq (.cut Ac3)
 (.drop [6,7,8,9,10,11,12,13,14,15,16,17,18,19] (.seq (.seq (.reg [un (.asg 5 (.c (.int .i64 0)))])
 (.block 0 (.loop Sk)))
 (.drop [5,20,21,22,23,24,27,28,29,30,31,32,33,34,35,25,26] (.seq (.reg [un (.asg 4 (.c (.bool true)))])
 .ret))))))
abbrev Ajs:List RS:=[.t 4]
theorem Ah8:Bl Try.prog Sz 36 Ajj Ajs=true:=by kernel_rfl
def Kq:ACode:=
 (.seq (.seq (.reg [un (.mov 6 (.t 4)),
 un (.mov 7 (.t 0)),
 un (.len 8 (.t 7)),
 un (.bin 9 .lss (.t 6) (.t 8))])
 (.drop [6,7,8] (.cond (.t 9) .skip
 (.exit 0))))
 (.drop [6,7,8,9] (.seq (.block 1 (.seq (.reg [un (.mov 12 (.t 0)),
 un (.mov 13 (.t 4)),
 un (.iad 14 1 (.t 12) (.t 13)),
 un (.ld 15 1 false (.t 14)),
 un (.bin 16 .geq (.t 15) (.c (.int .i64 0)))])
 (.drop [12,13,14,15] (.cond (.t 16) (.reg [un (.mov 17 (.t 3)),
 un (.mov 18 (.t 0)),
 un (.mov 19 (.t 4)),
 un (.iad 20 1 (.t 18) (.t 19)),
 un (.ld 21 1 false (.t 20)),
 un (.call 22 Rp [((.t 17),false),((.t 21),false)]),
 un (.asgf 3 (.t 22))])
 .skip))))
 (.drop [12,13,14,15,16,17,18,19,20,21,22] (.reg [un (.mov 10 (.t 4)),
 un (.bin 11 .add (.t 10) (.c (.int .i64 1))),
 un (.asg 4 (.t 11))])))))
def Vd:ACode:=
 (.seq (.reg [un (.asg 2 (.c (.nilsl 1)))])
 (.seq (.reg [un (.bsl 5 1 []),
 un (.asgf 3 (.t 5))])
 (.drop [5] (.seq (.seq (.reg [un (.asg 4 (.c (.int .i64 0)))])
 (.block 0 (.loop Kq)))
 (.drop [4,6,7,8,9,12,13,14,15,16,17,18,19,20,21,22,10,11] (.seq (.reg [un (.mov 23 (.t 3)),
 un (.asg 2 (.t 23))])
 (.drop [23] .ret)))))))
abbrev U0:List RS:=[.t 2]
theorem U4:Bl Try.prog Ic 24 Vd U0=true:=by kernel_rfl
abbrev Tg:Nat:=Ic
abbrev Aco:ACode:=Vd
abbrev Ach:List RS:=U0
theorem Acm:Bl Try.prog Tg 24 Aco Ach=true:=U4
def Od:ACode:=
 (.seq (.seq (.reg [un (.mov 41 (.t 11)),
 un (.fadr 42 1 (.t 3)),
 un (.ld 43 1 false (.t 42)),
 un (.mov 44 (.t 9)),
 un (.iad 45 2 (.t 43) (.t 44)),
 un (.fadr 46 0 (.t 45)),
 un (.ld 47 1 false (.t 46)),
 un (.bin 48 .lss (.t 41) (.t 47))])
 (.drop [41,42,43,44,45,46,47] (.cond (.t 48) .skip
 (.exit 2))))
 (.drop [41,42,43,44,45,46,47,48] (.seq (.block 3 (.reg [un (.mov 51 (.t 10)),
 un (.mov 52 (.t 7)),
 un (.mov 53 (.t 7)),
 un (.len 54 (.t 53)),
 un (.bin 55 .sub (.t 54) (.c (.int .i64 1))),
 un (.mov 56 (.t 11)),
 un (.bin 57 .sub (.t 55) (.t 56)),
 un (.iad 58 1 (.t 52) (.t 57)),
 un (.ld 59 1 false (.t 58)),
 un (.bsl 60 1 [(.t 59)]),
 un (.app 61 1 (.t 51) (.t 60)),
 un (.asg 10 (.t 61))]))
 (.drop [51,52,53,54,55,56,57,58,59,60,61] (.reg [un (.mov 49 (.t 11)),
 un (.bin 50 .add (.t 49) (.c (.int .i64 1))),
 un (.asg 11 (.t 50))])))))
def N6:ACode:=
 (.seq (.seq (.reg [un (.mov 16 (.t 8)),
 un (.bin 17 .geq (.t 16) (.c (.int .i64 0)))])
 (.drop [16] (.cond (.t 17) .skip
 (.exit 0))))
 (.drop [16,17] (.seq (.block 1 (.seq (.seq (.reg [un (.mov 20 (.t 1)),
 un (.mov 21 (.t 8)),
 un (.iad 22 1 (.t 20) (.t 21)),
 un (.ld 23 1 false (.t 22)),
 un (.bin 24 .geq (.t 23) (.c (.int .i64 0)))])
 (.drop [20,21,22,23] (.cond (.t 24) (.seq (.reg [un (.mov 25 (.t 7)),
 un (.mov 26 (.t 2)),
 un (.mov 27 (.t 1)),
 un (.mov 28 (.t 8)),
 un (.iad 29 1 (.t 27) (.t 28)),
 un (.ld 30 1 false (.t 29)),
 un (.iad 31 1 (.t 26) (.t 30)),
 un (.ld 32 1 false (.t 31)),
 un (.bsl 33 1 [(.t 32)]),
 un (.app 34 1 (.t 25) (.t 33)),
 un (.asg 7 (.t 34))])
 (.drop [25,26,27,28,29,30,31,32,33,34] (.exit 1)))
 .skip)))
 (.drop [20,21,22,23,24,25,26,27,28,29,30,31,32,33,34] (.seq (.reg [un (.mov 35 (.t 1)),
 un (.mov 36 (.t 8)),
 un (.iad 37 1 (.t 35) (.t 36)),
 un (.ld 38 1 false (.t 37)),
 un (.bin 39 .sub (.c (.int .i64 (-1))) (.t 38)),
 un (.bsl 40 1 []),
 un (.asg 9 (.t 39)),
 un (.asg 10 (.t 40))])
 (.drop [35,36,37,38,39,40] (.seq (.seq (.reg [un (.asg 11 (.c (.int .i64 0)))])
 (.block 2 (.loop Od)))
 (.drop [11,41,42,43,44,45,46,47,48,51,52,53,54,55,56,57,58,59,60,61,49,50] (.frz [7] (.dreg [(un (.mov 62 (.t 7)),[]),
 (un (.mov 63 (.t 7)),[62]),
 (un (.len 64 (.t 63)),[62]),
 (un (.mov 65 (.t 10)),[62,63,64]),
 (un (.len 66 (.t 65)),[62,63,64]),
 (un (.bin 67 .sub (.t 64) (.t 66)),[62]),
 (un (.slc 68 1 (.t 62) none (some (.t 67))),[]),
 (un (.call 69 Jj [((.t 68),false)]),[]),
 (un (.ld 70 2 true (.t 3)),[62,63,64,65,66,67,68,69]),
 (un (.mov 71 (.t 9)),[62,63,64,65,66,67,68,69,70]),
 (un (.mov 72 (.t 10)),[62,63,64,65,66,67,68,69,70,71])]
 [un (.call 73 M3 [((.t 70),false),((.t 71),false),((.t 72),false)]),
 un (.bsl 74 1 [(.t 73)]),
 un (.app 75 1 (.t 69) (.t 74)),
 un (.asg 7 (.t 75))])))))))))
 (.drop [20,21,22,23,24,25,26,27,28,29,30,31,32,33,34,35,36,37,38,39,40,9,10,11,41,42,43,44,45,46,47,48,51,52,53,54,55,56,57,58,59,60,61,49,50,62,63,64,65,66,67,68,69,70,71,72,73,74,75] (.reg [un (.mov 18 (.t 8)),
 un (.bin 19 .sub (.t 18) (.c (.int .i64 1))),
 un (.asg 8 (.t 19))])))))
def Adi:ACode:=
 (.seq (.reg [un (.box 3 (.t 0)),
 un (.asg 6 (.c (.int .i64 0)))])
 (.seq (.reg [un (.bsl 12 1 []),
 un (.asg 7 (.t 12))])
 (.drop [12] (.seq (.seq (.reg [un (.mov 13 (.t 1)),
 un (.len 14 (.t 13)),
 un (.bin 15 .sub (.t 14) (.c (.int .i64 1))),
 un (.asg 8 (.t 15))])
 (.drop [13,14,15] (.block 0 (.loop N6))))
 (.drop [13,14,15,8,16,17,20,21,22,23,24,25,26,27,28,29,30,31,32,33,34,35,36,37,38,39,40,9,10,11,41,42,43,44,45,46,47,48,51,52,53,54,55,56,57,58,59,60,61,49,50,62,63,64,65,66,67,68,69,70,71,72,73,74,75,18,19] (.seq (.reg [un (.mov 76 (.t 7)),
 un (.iad 77 1 (.t 76) (.c (.int .i64 0))),
 un (.ld 78 1 false (.t 77)),
 un (.asg 6 (.t 78))])
 (.drop [76,77,78] .ret)))))))
abbrev Aa4:List RS:=[.t 6]
theorem Ac9:Bl Try.prog Gx 79 Adi Aa4=true:=by kernel_rfl
def Rq:ACode:=
 (.seq (.seq (.reg [un (.mov 10 (.t 8)),
 un (.mov 11 (.t 1)),
 un (.len 12 (.t 11)),
 un (.bin 13 .lss (.t 10) (.t 12))])
 (.drop [10,11,12] (.cond (.t 13) .skip
 (.exit 0))))
 (.drop [10,11,12,13] (.seq (.block 1 (.seq (.reg [un (.mov 16 (.t 7)),
 un (.bin 17 .sub (.t 16) (.c (.int .i64 1))),
 un (.asg 7 (.t 17))])
 (.drop [16,17] (.seq (.seq (.reg [un (.mov 18 (.t 1)),
 un (.mov 19 (.t 8)),
 un (.iad 20 1 (.t 18) (.t 19)),
 un (.ld 21 1 false (.t 20)),
 un (.bin 22 .lss (.t 21) (.c (.int .i64 0)))])
 (.drop [18,19,20,21] (.cond (.t 22) (.seq (.seq (.dreg [(un (.mov 23 (.t 1)),[]),
 (un (.mov 24 (.t 8)),[23]),
 (un (.iad 25 1 (.t 23) (.t 24)),[]),
 (un (.ld 26 1 false (.t 25)),[]),
 (un (.fadr 27 1 (.t 3)),[23,24,25,26]),
 (un (.ld 28 1 false (.t 27)),[23,24,25,26]),
 (un (.len 29 (.t 28)),[23,24,25,26]),
 (un (.un 30 .neg (.t 29)),[23,24,25,26])]
 [un (.call 31 Gv [((.t 26),false),((.t 30),false),((.c (.int .i64 (-1))),false)]),
 un (.un 32 .not (.t 31))])
 (.drop [23,24,25,26,27,28,29,30,31] (.cond (.t 32) (.seq (.reg [un (.asg 6 (.c (.int .i64 (-1))))])
 .ret)
 .skip)))
 (.drop [23,24,25,26,27,28,29,30,31,32] (.dreg [(un (.mov 33 (.t 7)),[]),
 (un (.fadr 34 1 (.t 3)),[33]),
 (un (.ld 35 1 false (.t 34)),[33]),
 (un (.mov 36 (.t 1)),[33,34,35]),
 (un (.mov 37 (.t 8)),[33,34,35,36]),
 (un (.iad 38 1 (.t 36) (.t 37)),[33,34,35]),
 (un (.ld 39 1 false (.t 38)),[33,34,35]),
 (un (.bin 40 .sub (.c (.int .i64 (-1))) (.t 39)),[33,34,35]),
 (un (.iad 41 2 (.t 35) (.t 40)),[33]),
 (un (.fadr 42 0 (.t 41)),[33]),
 (un (.ld 43 1 false (.t 42)),[33])]
 [un (.bin 44 .add (.t 33) (.t 43)),
 un (.asg 7 (.t 44))])))
 (.seq (.reg [un (.mov 45 (.t 1)),
 un (.mov 46 (.t 8)),
 un (.iad 47 1 (.t 45) (.t 46)),
 un (.ld 48 1 false (.t 47)),
 un (.bin 49 .geq (.t 48) (.c (.int .i64 6)))])
 (.drop [45,46,47,48] (.cond (.t 49) (.seq (.reg [un (.asg 6 (.c (.int .i64 (-1))))])
 .ret)
 .skip))))))
 (.drop [18,19,20,21,22,23,24,25,26,27,28,29,30,31,32,33,34,35,36,37,38,39,40,41,42,43,44,45,46,47,48,49] (.seq (.reg [un (.mov 50 (.t 7)),
 un (.bin 51 .eql (.t 50) (.c (.int .i64 0)))])
 (.drop [50] (.cond (.t 51) (.seq (.reg [un (.mov 52 (.t 8)),
 un (.bin 53 .add (.t 52) (.c (.int .i64 1))),
 un (.asg 6 (.t 53))])
 (.drop [52,53] .ret))
 .skip))))))))
 (.drop [16,17,18,19,20,21,22,23,24,25,26,27,28,29,30,31,32,33,34,35,36,37,38,39,40,41,42,43,44,45,46,47,48,49,50,51,52,53] (.reg [un (.mov 14 (.t 8)),
 un (.bin 15 .add (.t 14) (.c (.int .i64 1))),
 un (.asg 8 (.t 15))])))))
def Ahf:ACode:=
 (.seq (.reg [un (.box 3 (.t 0)),
 un (.asg 6 (.c (.int .i64 0)))])
 (.seq (.reg [un (.asg 7 (.c (.int .i64 1)))])
 (.seq (.seq (.reg [un (.mov 9 (.t 2)),
 un (.asg 8 (.t 9))])
 (.drop [9] (.block 0 (.loop Rq))))
 (.drop [9,8,10,11,12,13,16,17,18,19,20,21,22,23,24,25,26,27,28,29,30,31,32,33,34,35,36,37,38,39,40,41,42,43,44,45,46,47,48,49,50,51,52,53,14,15] (.seq (.reg [un (.asg 6 (.c (.int .i64 (-1))))])
 .ret)))))
abbrev Ag9:List RS:=[.t 6]
theorem Agw:Bl Try.prog Qy 54 Ahf Ag9=true:=by kernel_rfl
def Um:ACode:=
 (.seq (.reg [un (.fadr 5 0 (.t 1)),
 un (.ld 6 1 false (.t 5)),
 un (.bin 7 .lss (.t 6) (.c (.int .i64 1))),
 un (.asg 8 (.t 7)),
 ⟨some (8,false),.fadr 9 0 (.t 1)⟩,
 ⟨some (8,false),.ld 10 1 false (.t 9)⟩,
 ⟨some (8,false),.bin 11 .gtr (.t 10) (.c (.int .i64 8))⟩,
 un (.pick 12 (.t 8) (.c (.bool true)) (.t 11)),
 un (.asg 13 (.t 12)),
 ⟨some (13,false),.fadr 14 1 (.t 1)⟩,
 ⟨some (13,false),.ld 15 1 false (.t 14)⟩,
 ⟨some (13,false),.len 16 (.t 15)⟩,
 ⟨some (13,false),.bin 17 .gtr (.t 16) (.c (.int .i64 4))⟩,
 un (.pick 18 (.t 13) (.c (.bool true)) (.t 17))])
 (.drop [5,6,7,8,9,10,11,12,13,14,15,16,17] (.cond (.t 18) (.seq (.reg [un (.asg 2 (.c (.bool false)))])
 .ret)
 .skip)))
def Ma:ACode:=
 (.seq (.reg [un (.bin 23 .lss (.t 22) (.t 21))])
 (.seq (.cond (.t 23) .skip
 (.exit 0))
 (.seq (.block 1 (.seq (.reg [un (.iad 24 2 (.t 20) (.t 22)),
 un (.ld 25 2 true (.t 24)),
 un (.alc 4 (.agg [.int .i64 0,.nilsl 1])),
 un (.st 2 (.t 4) (.t 25))])
 (.drop [24,25] (.seq (.reg [un (.ld 26 2 true (.t 4)),
 un (.fadr 27 0 (.t 1)),
 un (.ld 28 1 false (.t 27)),
 un (.call 29 S8 [((.t 26),false),((.t 28),false)]),
 un (.un 30 .not (.t 29))])
 (.drop [26,27,28,29] (.cond (.t 30) (.seq (.reg [un (.asg 2 (.c (.bool false)))])
 .ret)
 .skip))))))
 (.drop [24,25,4,26,27,28,29,30] (.reg [un (.bin 31 .add (.t 22) (.c (.int .i64 1))),
 un (.asg 22 (.t 31))])))))
def Zd:ACode:=
 (.seq (.reg [un (.box 1 (.t 0)),
 un (.asg 2 (.c (.bool false)))])
 (.seq (.cut Um)
 (.drop [5,6,7,8,9,10,11,12,13,14,15,16,17,18] (.seq (.seq (.reg [un (.fadr 19 1 (.t 1)),
 un (.ld 20 1 false (.t 19)),
 un (.len 21 (.t 20)),
 un (.mov 22 (.c (.int .i64 0)))])
 (.drop [19] (.block 0 (.loop Ma))))
 (.drop [19,20,21,22,23,24,25,4,26,27,28,29,30,31] (.seq (.reg [un (.asg 2 (.c (.bool true)))])
 .ret))))))
abbrev Za:List RS:=[.t 2]
theorem Yj:Bl Try.prog Ew 32 Zd Za=true:=by kernel_rfl
def We:ACode:=
 (.seq (.reg [un (.box 2 (.t 0)),
 un (.box 3 (.t 1)),
 un (.asg 4 (.c (.bool false)))])
 (.seq (.reg [un (.ld 5 2 true (.t 2)),
 un (.fadr 6 0 (.t 3)),
 un (.ld 7 1 false (.t 6)),
 un (.call 8 Ik [((.t 5),false),((.t 7),false)]),
 un (.asg 9 (.t 8)),
 ⟨some (9,true),.ld 10 2 true (.t 2)⟩,
 ⟨some (9,true),.fadr 11 1 (.t 3)⟩,
 ⟨some (9,true),.ld 12 1 false (.t 11)⟩,
 ⟨some (9,true),.call 13 Ik [((.t 10),false),((.t 12),false)]⟩,
 un (.pick 14 (.t 9) (.t 13) (.c (.bool false))),
 un (.asg 4 (.t 14))])
 (.drop [5,6,7,8,9,10,11,12,13,14] .ret)))
abbrev Xp:List RS:=[.t 4]
theorem Ww:Bl Try.prog Gn 15 We Xp=true:=by kernel_rfl
def Hw:ACode:=
 (.seq (.reg [un (.bin 50 .lss (.t 49) (.t 48))])
 (.seq (.cond (.t 50) .skip
 (.exit 2))
 (.seq (.block 3 (.seq (.reg [un (.mov 51 (.t 49)),
 un (.iad 52 1 (.t 47) (.t 49)),
 un (.ld 53 1 false (.t 52)),
 un (.asg 10 (.t 51)),
 un (.asg 11 (.t 53))])
 (.drop [51,52,53] (.reg [un (.mov 54 (.t 8)),
 un (.mov 55 (.t 6)),
 un (.mov 56 (.t 10)),
 un (.iad 57 1 (.t 55) (.t 56)),
 un (.ld 58 1 false (.t 57)),
 un (.mov 59 (.t 11)),
 un (.iad 60 1 (.t 54) (.t 58)),
 un (.st 1 (.t 60) (.t 59))]))))
 (.drop [51,52,53,10,11,54,55,56,57,58,59,60] (.reg [un (.bin 61 .add (.t 49) (.c (.int .i64 1))),
 un (.asg 49 (.t 61))])))))
def Hx:ACode:=
 (.seq (.seq (.reg [un (.mov 37 (.t 9)),
 un (.mov 38 (.t 7)),
 un (.bin 39 .lss (.t 37) (.t 38))])
 (.drop [37,38] (.cond (.t 39) .skip
 (.exit 0))))
 (.drop [37,38,39] (.seq (.block 1 (.seq (.seq (.reg [un (.mov 42 (.t 9)),
 un (.mov 43 (.t 6)),
 un (.len 44 (.t 43)),
 un (.fadr 45 0 (.t 2)),
 un (.ld 46 1 false (.t 45)),
 un (.call 47 K7 [((.t 42),false),((.t 44),false),((.t 46),false)]),
 un (.len 48 (.t 47)),
 un (.mov 49 (.c (.int .i64 0)))])
 (.drop [42,43,44,45,46] (.block 2 (.loop Hw))))
 (.drop [42,43,44,45,46,47,48,49,50,51,52,53,10,11,54,55,56,57,58,59,60,61] (.seq (.dreg [(un (.ld 62 2 true (.t 2)),[]),
 (un (.fadr 63 0 (.t 3)),[62]),
 (un (.ld 64 1 false (.t 63)),[62]),
 (un (.mov 65 (.t 8)),[62,63,64]),
 (un (.call 66 I4 [((.t 62),false),((.t 64),false),((.t 65),false)]),[]),
 (un (.ld 67 2 true (.t 2)),[62,63,64,65,66]),
 (un (.fadr 68 1 (.t 3)),[62,63,64,65,66,67]),
 (un (.ld 69 1 false (.t 68)),[62,63,64,65,66,67]),
 (un (.mov 70 (.t 8)),[62,63,64,65,66,67,68,69])]
 [un (.call 71 I4 [((.t 67),false),((.t 69),false),((.t 70),false)]),
 un (.bin 72 .neq (.t 66) (.t 71))])
 (.drop [62,63,64,65,66,67,68,69,70,71] (.cond (.t 72) (.seq (.frz [8] (.reg [un (.mov 73 (.t 8)),
 un (.asg 4 (.t 73)),
 un (.asg 5 (.c (.bool true)))]))
 (.drop [73] .ret))
 .skip))))))
 (.drop [42,43,44,45,46,47,48,49,50,51,52,53,10,11,54,55,56,57,58,59,60,61,62,63,64,65,66,67,68,69,70,71,72,73] (.reg [un (.mov 40 (.t 9)),
 un (.bin 41 .add (.t 40) (.c (.int .i64 1))),
 un (.asg 9 (.t 41))])))))
def Zc:ACode:=
 (.seq (.reg [un (.box 2 (.t 0)),
 un (.box 3 (.t 1)),
 un (.asg 4 (.c (.nl 1))),
 un (.asg 5 (.c (.bool false)))])
 (.seq (.reg [un (.fadr 12 0 (.t 3)),
 un (.ld 13 1 false (.t 12)),
 un (.fadr 14 1 (.t 3)),
 un (.ld 15 1 false (.t 14)),
 un (.bsl 16 1 [(.t 13),(.t 15)]),
 un (.call 17 O7 [((.t 16),false)]),
 un (.asg 6 (.t 17))])
 (.drop [12,13,14,15,16,17] (.seq (.reg [un (.fadr 18 0 (.t 2)),
 un (.ld 19 1 false (.t 18)),
 un (.mov 20 (.t 6)),
 un (.len 21 (.t 20)),
 un (.call 22 Jm [((.t 19),false),((.t 21),false)]),
 un (.asg 7 (.t 22))])
 (.drop [18,19,20,21,22] (.seq (.seq (.reg [un (.mov 23 (.t 7)),
 un (.bin 24 .gtr (.t 23) (.c (.int .i64 5000)))])
 (.drop [23] (.cond (.t 24) (.seq (.reg [un (.asg 4 (.c (.nl 1))),
 un (.asg 5 (.c (.bool false)))])
 .ret)
 .skip)))
 (.drop [23,24] (.seq (.reg [un (.bse 25 1),
 un (.asg 8 (.t 25))])
 (.drop [25] (.seq (.seq (.reg [un (.mov 26 (.t 6)),
 un (.len 27 (.t 26)),
 un (.bin 28 .gtr (.t 27) (.c (.int .i64 0)))])
 (.drop [26,27] (.cond (.t 28) (.reg [un (.mov 29 (.t 6)),
 un (.mov 30 (.t 6)),
 un (.len 31 (.t 30)),
 un (.bin 32 .sub (.t 31) (.c (.int .i64 1))),
 un (.iad 33 1 (.t 29) (.t 32)),
 un (.ld 34 1 false (.t 33)),
 un (.bin 35 .add (.t 34) (.c (.int .i64 1))),
 un (.mk 36 1 (.int .i64 0) (.t 35)),
 un (.asg 8 (.t 36))])
 .skip)))
 (.drop [26,27,28,29,30,31,32,33,34,35,36] (.seq (.seq (.reg [un (.asg 9 (.c (.int .i64 0)))])
 (.block 0 (.loop Hx)))
 (.drop [9,37,38,39,42,43,44,45,46,47,48,49,50,51,52,53,10,11,54,55,56,57,58,59,60,61,62,63,64,65,66,67,68,69,70,71,72,73,40,41] (.seq (.reg [un (.asg 4 (.c (.nl 1))),
 un (.asg 5 (.c (.bool true)))])
 .ret))))))))))))))
abbrev Y0:List RS:=[.t 4,.t 5]
theorem X5:Bl Try.prog Hk 74 Zc Y0=true:=by kernel_rfl
def Yv:ACode:=
 (.seq (.reg [un (.fadr 4 0 (.t 1)),
 un (.ld 5 1 false (.t 4)),
 un (.call 6 Gv [((.t 5),false),((.c (.int .i64 1)),false),((.c (.int .i64 8)),false)]),
 un (.un 7 .not (.t 6)),
 un (.asg 8 (.t 7)),
 ⟨some (8,false),.fadr 9 1 (.t 1)⟩,
 ⟨some (8,false),.ld 10 1 false (.t 9)⟩,
 ⟨some (8,false),.len 11 (.t 10)⟩,
 ⟨some (8,false),.bin 12 .gtr (.t 11) (.c (.int .i64 4))⟩,
 un (.pick 13 (.t 8) (.c (.bool true)) (.t 12))])
 (.drop [4,5,6,7,8,9,10,11,12] (.cond (.t 13) (.seq (.reg [un (.asg 2 (.c (.bool false)))])
 .ret)
 .skip)))
def P4:ACode:=
 (.seq (.seq (.reg [un (.mov 14 (.t 3)),
 un (.fadr 15 1 (.t 1)),
 un (.ld 16 1 false (.t 15)),
 un (.len 17 (.t 16)),
 un (.bin 18 .lss (.t 14) (.t 17))])
 (.drop [14,15,16,17] (.cond (.t 18) .skip
 (.exit 0))))
 (.drop [14,15,16,17,18] (.seq (.block 1 (.seq (.dreg [(un (.fadr 21 0 (.t 1)),[]),
 (un (.ld 22 1 false (.t 21)),[]),
 (un (.fadr 23 1 (.t 1)),[21,22]),
 (un (.ld 24 1 false (.t 23)),[21,22]),
 (un (.mov 25 (.t 3)),[21,22,23,24]),
 (un (.iad 26 2 (.t 24) (.t 25)),[21,22]),
 (un (.ld 27 2 true (.t 26)),[21,22])]
 [un (.call 28 Sz [((.t 22),false),((.t 27),false)]),
 un (.un 29 .not (.t 28))])
 (.drop [21,22,23,24,25,26,27,28] (.cond (.t 29) (.seq (.reg [un (.asg 2 (.c (.bool false)))])
 .ret)
 .skip))))
 (.drop [21,22,23,24,25,26,27,28,29] (.reg [un (.mov 19 (.t 3)),
 un (.bin 20 .add (.t 19) (.c (.int .i64 1))),
 un (.asg 3 (.t 20))])))))
def Ae2:ACode:=
 (.seq (.reg [un (.box 1 (.t 0)),
 un (.asg 2 (.c (.bool false)))])
 (.seq (.cut Yv)
 (.drop [4,5,6,7,8,9,10,11,12,13] (.seq (.seq (.reg [un (.asg 3 (.c (.int .i64 0)))])
 (.block 0 (.loop P4)))
 (.drop [3,14,15,16,17,18,21,22,23,24,25,26,27,28,29,19,20] (.seq (.reg [un (.asg 2 (.c (.bool true)))])
 .ret))))))
abbrev Aeq:List RS:=[.t 2]
theorem Aeo:Bl Try.prog Es 30 Ae2 Aeq=true:=by kernel_rfl
def Mb:ACode:=
 (.seq (.seq (.reg [un (.mov 19 (.t 6)),
 un (.len 20 (.t 19)),
 un (.bin 21 .gtr (.t 20) (.c (.int .i64 0))),
 un (.asg 22 (.t 21)),
 ⟨some (22,true),.mov 23 (.t 7)⟩,
 ⟨some (22,true),.len 24 (.t 23)⟩,
 ⟨some (22,true),.mov 25 (.t 6)⟩,
 ⟨some (22,true),.mov 26 (.t 6)⟩,
 ⟨some (22,true),.len 27 (.t 26)⟩,
 ⟨some (22,true),.bin 28 .sub (.t 27) (.c (.int .i64 1))⟩,
 ⟨some (22,true),.iad 29 1 (.t 25) (.t 28)⟩,
 ⟨some (22,true),.ld 30 1 false (.t 29)⟩,
 ⟨some (22,true),.bin 31 .leq (.t 24) (.t 30)⟩,
 un (.pick 32 (.t 22) (.t 31) (.c (.bool false)))])
 (.drop [19,20,21,22,23,24,25,26,27,28,29,30,31] (.cond (.t 32) .skip
 (.exit 0))))
 (.drop [19,20,21,22,23,24,25,26,27,28,29,30,31,32] (.block 1 (.reg [un (.mov 33 (.t 7)),
 un (.bsl 34 1 [(.c (.int .i64 0))]),
 un (.app 35 1 (.t 33) (.t 34)),
 un (.asg 7 (.t 35))]))))
def Mf:ACode:=
 (.seq (.seq (.reg [un (.mov 51 (.t 10)),
 un (.mov 52 (.t 6)),
 un (.len 53 (.t 52)),
 un (.bin 54 .lss (.t 51) (.t 53))])
 (.drop [51,52,53] (.cond (.t 54) .skip
 (.exit 4))))
 (.drop [51,52,53,54] (.seq (.block 5 (.dreg [(un (.mov 57 (.t 7)),[]),
 (un (.mov 58 (.t 6)),[57]),
 (un (.mov 59 (.t 10)),[57,58]),
 (un (.iad 60 1 (.t 58) (.t 59)),[57]),
 (un (.ld 61 1 false (.t 60)),[57]),
 (un (.mov 62 (.t 9)),[57,58,59,60,61]),
 (un (.mov 63 (.t 10)),[57,58,59,60,61,62]),
 (un (.iad 64 1 (.t 62) (.t 63)),[57,58,59,60,61]),
 (un (.ld 65 1 false (.t 64)),[57,58,59,60,61])]
 [un (.iad 66 1 (.t 57) (.t 61)),
 un (.st 1 (.t 66) (.t 65))]))
 (.drop [57,58,59,60,61,62,63,64,65,66] (.reg [un (.mov 55 (.t 10)),
 un (.bin 56 .add (.t 55) (.c (.int .i64 1))),
 un (.asg 10 (.t 56))])))))
def L4:ACode:=
 (.seq (.seq (.reg [un (.mov 36 (.t 8)),
 un (.fadr 37 0 (.t 2)),
 un (.ld 38 1 false (.t 37)),
 un (.mov 39 (.t 6)),
 un (.len 40 (.t 39)),
 un (.call 41 Hh [((.t 38),false),((.t 40),false)]),
 un (.bin 42 .lss (.t 36) (.t 41))])
 (.drop [36,37,38,39,40,41] (.cond (.t 42) .skip
 (.exit 2))))
 (.drop [36,37,38,39,40,41,42] (.seq (.block 3 (.seq (.reg [un (.fadr 45 0 (.t 2)),
 un (.ld 46 1 false (.t 45)),
 un (.mov 47 (.t 6)),
 un (.len 48 (.t 47)),
 un (.mov 49 (.t 8)),
 un (.call 50 K8 [((.t 46),false),((.t 48),false),((.t 49),false)]),
 un (.asg 9 (.t 50))])
 (.drop [45,46,47,48,49,50] (.seq (.seq (.reg [un (.asg 10 (.c (.int .i64 0)))])
 (.block 4 (.loop Mf)))
 (.drop [10,51,52,53,54,57,58,59,60,61,62,63,64,65,66,55,56] (.seq (.dreg [(un (.ld 67 2 true (.t 2)),[]),
 (un (.fadr 68 0 (.t 3)),[67]),
 (un (.ld 69 1 false (.t 68)),[67]),
 (un (.mov 70 (.t 7)),[67,68,69]),
 (un (.call 71 Gx [((.t 67),false),((.t 69),false),((.t 70),false)]),[]),
 (un (.ld 72 2 true (.t 2)),[67,68,69,70,71]),
 (un (.fadr 73 1 (.t 3)),[67,68,69,70,71,72]),
 (un (.ld 74 1 false (.t 73)),[67,68,69,70,71,72]),
 (un (.mov 75 (.t 7)),[67,68,69,70,71,72,73,74])]
 [un (.call 76 Gx [((.t 72),false),((.t 74),false),((.t 75),false)]),
 un (.bin 77 .neq (.t 71) (.t 76))])
 (.drop [67,68,69,70,71,72,73,74,75,76] (.cond (.t 77) (.seq (.reg [un (.mov 78 (.t 7)),
 un (.asg 4 (.t 78)),
 un (.asg 5 (.c (.bool true)))])
 (.drop [78] .ret))
 .skip))))))))
 (.drop [45,46,47,48,49,50,9,10,51,52,53,54,57,58,59,60,61,62,63,64,65,66,55,56,67,68,69,70,71,72,73,74,75,76,77,78] (.reg [un (.mov 43 (.t 8)),
 un (.bin 44 .add (.t 43) (.c (.int .i64 1))),
 un (.asg 8 (.t 44))])))))
def Yi:ACode:=
 (.seq (.reg [un (.box 2 (.t 0)),
 un (.box 3 (.t 1)),
 un (.asg 4 (.c (.nilsl 1))),
 un (.asg 5 (.c (.bool false)))])
 (.seq (.dreg [(un (.fadr 11 0 (.t 3)),[]),
 (un (.ld 12 1 false (.t 11)),[]),
 (un (.call 13 Jj [((.t 12),false)]),[]),
 (un (.fadr 14 1 (.t 3)),[11,12,13]),
 (un (.ld 15 1 false (.t 14)),[11,12,13])]
 [un (.app 16 1 (.t 13) (.t 15)),
 un (.call 17 Ic [((.t 16),true)]),
 un (.asg 6 (.t 17))])
 (.drop [11,12,13,14,15,16,17] (.seq (.reg [un (.bsl 18 1 []),
 un (.asg 7 (.t 18))])
 (.drop [18] (.seq (.block 0 (.loop Mb))
 (.drop [19,20,21,22,23,24,25,26,27,28,29,30,31,32,33,34,35] (.seq (.seq (.reg [un (.asg 8 (.c (.int .i64 0)))])
 (.block 2 (.loop L4)))
 (.drop [8,36,37,38,39,40,41,42,45,46,47,48,49,50,9,10,51,52,53,54,57,58,59,60,61,62,63,64,65,66,55,56,67,68,69,70,71,72,73,74,75,76,77,78,43,44] (.seq (.reg [un (.bsl 79 1 []),
 un (.asg 4 (.t 79)),
 un (.asg 5 (.c (.bool false)))])
 (.drop [79] .ret)))))))))))
abbrev Zg:List RS:=[.t 4,.t 5]
theorem Y3:Bl Try.prog Hd 80 Yi Zg=true:=by kernel_rfl
def Su:ACode:=
 (.seq (.seq (.reg [un (.mov 12 (.t 8)),
 un (.fadr 13 0 (.t 3)),
 un (.ld 14 1 false (.t 13)),
 un (.mov 15 (.t 2)),
 un (.call 16 Hh [((.t 14),false),((.t 15),false)]),
 un (.bin 17 .lss (.t 12) (.t 16))])
 (.drop [12,13,14,15,16] (.cond (.t 17) .skip
 (.exit 0))))
 (.drop [12,13,14,15,16,17] (.seq (.block 1 (.dreg [(un (.fadr 20 1 (.t 7)),[29]),
 (un (.ld 21 1 false (.t 20)),[29]),
 (un (.ld 22 2 true (.t 3)),[20,21]),
 (un (.mov 23 (.t 1)),[20,21,22]),
 (un (.fadr 24 0 (.t 3)),[20,21,22,23]),
 (un (.ld 25 1 false (.t 24)),[20,21,22,23]),
 (un (.mov 26 (.t 2)),[20,21,22,23,24,25]),
 (un (.mov 27 (.t 8)),[20,21,22,23,24,25,26]),
 (un (.call 28 K8 [((.t 25),false),((.t 26),false),((.t 27),false)]),[20,21,22,23]),
 (un (.call 29 Gx [((.t 22),false),((.t 23),false),((.t 28),false)]),[20,21]),
 (un (.bsl 30 1 [(.t 29)]),[20,21])]
 [un (.app 31 1 (.t 21) (.t 30)),
 un (.fadr 32 1 (.t 7)),
 un (.st 1 (.t 32) (.t 31))]))
 (.drop [20,21,22,23,24,25,26,27,28,29,30,31,32] (.reg [un (.mov 18 (.t 8)),
 un (.bin 19 .add (.t 18) (.c (.int .i64 1))),
 un (.asg 8 (.t 19))])))))
def Aio:ACode:=
 (.seq (.reg [un (.box 3 (.t 0)),
 un (.alc 6 (.agg [.int .i64 0,.nilsl 1]))])
 (.seq (.reg [un (.mov 9 (.t 2)),
 un (.bsl 10 1 []),
 un (.bld 11 [.int .i64 0,.nilsl 1] [(0,1,(.t 9)),(1,1,(.t 10))]),
 un (.alc 7 (.agg [.int .i64 0,.nilsl 1])),
 un (.st 2 (.t 7) (.t 11))])
 (.drop [9,10,11] (.seq (.seq (.reg [un (.asg 8 (.c (.int .i64 0)))])
 (.block 0 (.loop Su)))
 (.drop [8,12,13,14,15,16,17,20,21,22,23,24,25,26,27,28,29,30,31,32,18,19] (.seq (.reg [un (.ld 33 2 true (.t 7)),
 un (.st 2 (.t 6) (.t 33))])
 (.drop [33] .ret)))))))
abbrev Ahz:List RS:=[.c 6 2 true]
theorem Ai2:Bl Try.prog Sm 34 Aio Ahz=true:=by kernel_rfl
def Ze:ACode:=
 (.seq (.reg [un (.asg 4 (.c (.bool false)))])
 (.seq (.reg [un (.mov 5 (.t 0)),
 un (.mov 6 (.t 1)),
 un (.call 7 Ap [((.t 5),true),((.t 6),false)]),
 un (.bin 8 .eql (.t 7) (.c (.int .i64 0))),
 un (.asg 4 (.t 8))])
 (.drop [5,6,7,8] .ret)))
abbrev Yg:List RS:=[.t 4]
theorem X3:Bl Try.prog D3 9 Ze Yg=true:=by kernel_rfl
def V8:ACode:=
 (.seq (.reg [un (.asg 4 (.c (.int .i64 0)))])
 (.seq (.reg [un (.mov 5 (.t 1)),
 un (.mov 6 (.t 0)),
 un (.mov 7 (.t 1)),
 un (.len 8 (.t 7)),
 un (.call 9 Ap [((.t 6),true),((.t 8),false)]),
 un (.iad 10 1 (.t 5) (.t 9)),
 un (.ld 11 1 false (.t 10)),
 un (.asg 4 (.t 11))])
 (.drop [5,6,7,8,9,10,11] .ret)))
abbrev Wc:List RS:=[.t 4]
theorem Ve:Bl Try.prog Ar 12 V8 Wc=true:=by kernel_rfl
def Aek:ACode:=
 (.seq (.reg [un (.box 2 (.t 0)),
 un (.asg 4 (.c (.bool false)))])
 (.seq (.reg [un (.mov 5 (.t 1)),
 un (.len 6 (.t 5)),
 un (.bin 7 .gtr (.t 6) (.c (.int .i64 0))),
 un (.asg 8 (.t 7)),
 ⟨some (8,true),.mov 9 (.t 1)⟩,
 ⟨some (8,true),.len 10 (.t 9)⟩,
 ⟨some (8,true),.bin 11 .leq (.t 10) (.c (.int .i64 60))⟩,
 un (.pick 12 (.t 8) (.t 11) (.c (.bool false))),
 un (.asg 13 (.t 12)),
 ⟨some (13,true),.ld 14 2 true (.t 2)⟩,
 ⟨some (13,true),.mov 15 (.t 1)⟩,
 ⟨some (13,true),.call 16 Qy [((.t 14),false),((.t 15),false),((.c (.int .i64 0)),false)]⟩,
 ⟨some (13,true),.mov 17 (.t 1)⟩,
 ⟨some (13,true),.len 18 (.t 17)⟩,
 ⟨some (13,true),.bin 19 .eql (.t 16) (.t 18)⟩,
 un (.pick 20 (.t 13) (.t 19) (.c (.bool false))),
 un (.asg 4 (.t 20))])
 (.drop [5,6,7,8,9,10,11,12,13,14,15,16,17,18,19,20] .ret)))
abbrev Adp:List RS:=[.t 4]
theorem Aer:Bl Try.prog Id 21 Aek Adp=true:=by kernel_rfl
def Vk:ACode:=
 (.seq (.reg [un (.ld 8 2 true (.t 2)),
 un (.call 9 Ew [((.t 8),false)]),
 un (.un 10 .not (.t 9)),
 un (.asg 11 (.t 10)),
 ⟨some (11,false),.ld 12 2 true (.t 2)⟩,
 ⟨some (11,false),.ld 13 2 true (.t 3)⟩,
 ⟨some (11,false),.call 14 Gn [((.t 12),false),((.t 13),false)]⟩,
 ⟨some (11,false),.un 15 .not (.t 14)⟩,
 un (.pick 16 (.t 11) (.c (.bool true)) (.t 15))])
 (.drop [8,9,10,11,12,13,14,15] (.cond (.t 16) (.seq (.reg [un (.asg 4 (.c (.bool false))),
 un (.asg 5 (.c (.bool false)))])
 .ret)
 .skip)))
def Aar:ACode:=
 (.seq (.reg [un (.box 2 (.t 0)),
 un (.box 3 (.t 1)),
 un (.asg 4 (.c (.bool false))),
 un (.asg 5 (.c (.bool false)))])
 (.seq (.cut Vk)
 (.drop [8,9,10,11,12,13,14,15,16] (.seq (.reg [un (.ld 18 2 true (.t 2)),
 un (.ld 19 2 true (.t 3)),
 un (.call 20 Hk [((.t 18),false),((.t 19),false)]),
 un (.asg 17 (.t 20)),
 un (.ext 21 (.t 17) 0),
 un (.ext 22 (.t 17) 1),
 un (.asg 6 (.t 21)),
 un (.asg 7 (.t 22))])
 (.drop [18,19,20,17,21,22] (.seq (.reg [un (.mov 23 (.t 7)),
 un (.asg 24 (.t 23)),
 ⟨some (24,true),.mov 25 (.t 6)⟩,
 ⟨some (24,true),.nilq 26 false (.t 25)⟩,
 un (.pick 27 (.t 24) (.t 26) (.c (.bool false))),
 un (.mov 28 (.t 7)),
 un (.asg 4 (.t 27)),
 un (.asg 5 (.t 28))])
 (.drop [23,24,25,26,27,28] .ret)))))))
abbrev Z6:List RS:=[.t 4,.t 5]
theorem Z8:Bl Try.prog F7 29 Aar Z6=true:=by kernel_rfl
def Q7:ACode:=
 (.seq (.reg [un (.ld 8 2 true (.t 2)),
 un (.call 9 Ew [((.t 8),false)]),
 un (.un 10 .not (.t 9)),
 un (.asg 11 (.t 10)),
 ⟨some (11,false),.ld 12 2 true (.t 2)⟩,
 ⟨some (11,false),.ld 13 2 true (.t 3)⟩,
 ⟨some (11,false),.call 14 Gn [((.t 12),false),((.t 13),false)]⟩,
 ⟨some (11,false),.un 15 .not (.t 14)⟩,
 un (.pick 16 (.t 11) (.c (.bool true)) (.t 15))])
 (.drop [8,9,10,11,12,13,14,15] (.cond (.t 16) (.seq (.reg [un (.bsl 17 1 []),
 un (.asg 4 (.t 17)),
 un (.asg 5 (.c (.bool false)))])
 (.drop [17] .ret))
 .skip)))
def Ub:ACode:=
 (.seq (.reg [un (.box 2 (.t 0)),
 un (.box 3 (.t 1)),
 un (.asg 4 (.c (.nilsl 1))),
 un (.asg 5 (.c (.bool false)))])
 (.seq (.cut Q7)
 (.drop [8,9,10,11,12,13,14,15,16,17] (.seq (.reg [un (.ld 19 2 true (.t 2)),
 un (.ld 20 2 true (.t 3)),
 un (.call 21 Hk [((.t 19),false),((.t 20),false)]),
 un (.asg 18 (.t 21)),
 un (.ext 22 (.t 18) 0),
 un (.ext 23 (.t 18) 1),
 un (.asg 6 (.t 22)),
 un (.asg 7 (.t 23))])
 (.drop [19,20,21,18,22,23] (.seq (.seq (.reg [un (.mov 24 (.t 7)),
 un (.un 25 .not (.t 24)),
 un (.asg 26 (.t 25)),
 ⟨some (26,false),.mov 27 (.t 6)⟩,
 ⟨some (26,false),.nilq 28 false (.t 27)⟩,
 un (.pick 29 (.t 26) (.c (.bool true)) (.t 28))])
 (.drop [24,25,26,27,28] (.cond (.t 29) (.seq (.reg [un (.bsl 30 1 []),
 un (.asg 4 (.t 30)),
 un (.asg 5 (.c (.bool false)))])
 (.drop [30] .ret))
 .skip)))
 (.drop [24,25,26,27,28,29,30] (.seq (.reg [un (.mov 31 (.t 6)),
 un (.asg 4 (.t 31)),
 un (.asg 5 (.c (.bool true)))])
 (.drop [31] .ret)))))))))
abbrev T4:List RS:=[.t 4,.t 5]
theorem T8:Bl Try.prog H4 32 Ub T4=true:=by kernel_rfl
def P6:ACode:=
 (.seq (.reg [un (.mov 32 (.t 4)),
 un (.bin 33 .eql (.t 32) (.c (.int .i64 4))),
 un (.asg 34 (.t 33)),
 ⟨some (34,true),.fadr 35 0 (.t 7)⟩,
 ⟨some (34,true),.ld 36 1 false (.t 35)⟩,
 ⟨some (34,true),.bin 37 .eql (.t 36) (.c (.int .i64 3))⟩,
 un (.pick 38 (.t 34) (.t 37) (.c (.bool false)))])
 (.drop [32,33,34,35,36,37] (.cond (.t 38) (.reg [un (.fadr 39 0 (.t 7)),
 un (.st 1 (.t 39) (.c (.int .i64 2)))])
 .skip)))
def I5:ACode:=
 (.seq (.seq (.reg [un (.mov 44 (.t 8)),
 un (.bin 45 .gtr (.t 44) (.c (.int .i64 0)))])
 (.drop [44] (.cond (.t 45) .skip
 (.exit 2))))
 (.drop [44,45] (.seq (.block 3 (.dreg [(un (.fadr 48 1 (.t 7)),[132,52]),
 (un (.ld 49 1 false (.t 48)),[132,52]),
 (un (.mov 50 (.t 0)),[48,49]),
 (un (.mov 51 (.t 4)),[48,49,50]),
 (un (.call 52 Ap [((.t 50),true),((.t 51),false)]),[132,48,49]),
 (un (.bsl 53 1 [(.t 52)]),[48,49])]
 [un (.app 54 1 (.t 49) (.t 53)),
 un (.fadr 55 1 (.t 7)),
 un (.st 1 (.t 55) (.t 54))]))
 (.drop [48,49,50,51,52,53,54,55] (.reg [un (.mov 46 (.t 8)),
 un (.bin 47 .sub (.t 46) (.c (.int .i64 1))),
 un (.asg 8 (.t 47))])))))
def Iw:ACode:=
 (.seq (.seq (.reg [un (.mov 24 (.t 6)),
 un (.bin 25 .gtr (.t 24) (.c (.int .i64 0)))])
 (.drop [24] (.cond (.t 25) .skip
 (.exit 0))))
 (.drop [24,25] (.seq (.block 1 (.seq (.reg [un (.mov 28 (.t 0)),
 un (.bsl 29 1 [(.c (.int .i64 0)),(.c (.int .i64 1)),(.c (.int .i64 2)),(.c (.int .i64 2)),(.c (.int .i64 3))]),
 un (.call 30 Ar [((.t 28),true),((.t 29),false)]),
 un (.bld 31 [.int .i64 0,.nilsl 1] [(0,1,(.t 30))]),
 un (.alc 7 (.agg [.int .i64 0,.nilsl 1])),
 un (.st 2 (.t 7) (.t 31))])
 (.drop [28,29,30,31] (.seq (.cut P6)
 (.drop [32,33,34,35,36,37,38,39] (.seq (.seq (.reg [un (.mov 40 (.t 4)),
 un (.fadr 41 0 (.t 7)),
 un (.ld 42 1 false (.t 41)),
 un (.call 43 Hh [((.t 40),false),((.t 42),false)]),
 un (.asg 8 (.t 43))])
 (.drop [40,41,42,43] (.block 2 (.loop I5))))
 (.drop [40,41,42,43,8,44,45,48,49,50,51,52,53,54,55,46,47] (.reg [un (.fadr 56 1 (.t 5)),
 un (.ld 57 1 false (.t 56)),
 un (.ld 58 2 true (.t 7)),
 un (.bsl 59 2 [(.t 58)]),
 un (.app 60 2 (.t 57) (.t 59)),
 un (.fadr 61 1 (.t 5)),
 un (.st 1 (.t 61) (.t 60))]))))))))
 (.drop [28,29,30,31,7,32,33,34,35,36,37,38,39,40,41,42,43,8,44,45,48,49,50,51,52,53,54,55,46,47,56,57,58,59,60,61] (.reg [un (.mov 26 (.t 6)),
 un (.bin 27 .sub (.t 26) (.c (.int .i64 1))),
 un (.asg 6 (.t 27))])))))
def I0:ACode:=
 (.seq (.seq (.dreg [(un (.fadr 116 1 (.t 5)),[132]),
 (un (.ld 117 1 false (.t 116)),[132]),
 (un (.len 118 (.t 117)),[132]),
 (un (.mov 119 (.t 0)),[116,117,118]),
 (un (.call 120 Ap [((.t 119),true),((.c (.int .i64 2)),false)]),[132,116,117,118]),
 (un (.bin 121 .add (.c (.int .i64 4)) (.t 120)),[116,117,118])]
 [un (.bin 122 .lss (.t 118) (.t 121))])
 (.drop [116,117,118,119,120,121] (.cond (.t 122) .skip
 (.exit 5))))
 (.drop [116,117,118,119,120,121,122] (.block 6 (.dregl [(0,.fadr 123 1 (.t 5)),
 (1,.ld 124 1 false (.t 123)),
 (2,.mov 125 (.t 4))]
 (.alt 3 (.mk 126 1 (.int .i64 0) (.t 125)) [0,1,2] [] (.alt 4 (.bld 127 [.int .i64 0,.nilsl 1] [(0,1,(.c (.int .i64 1))),(1,1,(.t 126))]) [0,1] [] (.alt 5 (.bsl 128 2 [(.t 127)]) [0,1] [] (.alt 6 (.app 129 2 (.t 124) (.t 128)) [0,1] [124] (.alt 7 (.fadr 130 1 (.t 5)) [] [] (.alt 8 (.st 1 (.t 130) (.t 129)) [] [] .nil .nil) .nil) .nil) .nil) .nil) .nil)))))
def S5:ACode:=
 (.seq (.reg [un (.alc 2 (.agg [.int .i64 0,.nilsl 2]))])
 (.seq (.seq (.reg [un (.mov 9 (.t 0)),
 un (.call 10 D3 [((.t 9),true),((.c (.int .i64 4)),false)]),
 un (.un 11 .not (.t 10))])
 (.drop [9,10] (.cond (.t 11) (.seq (.reg [un (.mov 12 (.t 0)),
 un (.call 13 Ap [((.t 12),true),((.c (.int .i64 17)),false)]),
 un (.call 14 Nf [((.t 13),false)]),
 un (.alc 3 (.agg [.int .i64 0,.nilsl 2])),
 un (.st 2 (.t 3) (.t 14))])
 (.drop [12,13,14] (.seq (.reg [un (.ld 15 2 true (.t 3)),
 un (.st 2 (.t 2) (.t 15))])
 (.drop [15] .ret))))
 .skip)))
 (.drop [9,10,11,12,13,14,3,15] (.seq (.reg [un (.mov 16 (.t 0)),
 un (.bsl 17 1 [(.c (.int .i64 2)),(.c (.int .i64 2)),(.c (.int .i64 3)),(.c (.int .i64 3)),(.c (.int .i64 4))]),
 un (.call 18 Ar [((.t 16),true),((.t 17),false)]),
 un (.asg 4 (.t 18))])
 (.drop [16,17,18] (.seq (.reg [un (.mov 19 (.t 4)),
 un (.bld 20 [.int .i64 0,.nilsl 2] [(0,1,(.t 19))]),
 un (.alc 5 (.agg [.int .i64 0,.nilsl 2])),
 un (.st 2 (.t 5) (.t 20))])
 (.drop [19,20] (.seq (.seq (.reg [un (.mov 21 (.t 0)),
 un (.bsl 22 1 [(.c (.int .i64 1)),(.c (.int .i64 1)),(.c (.int .i64 2))]),
 un (.call 23 Ar [((.t 21),true),((.t 22),false)]),
 un (.asg 6 (.t 23))])
 (.drop [21,22,23] (.block 0 (.loop Iw))))
 (.drop [21,22,23,6,24,25,28,29,30,31,7,32,33,34,35,36,37,38,39,40,41,42,43,8,44,45,48,49,50,51,52,53,54,55,46,47,56,57,58,59,60,61,26,27] (.seq (.seq (.reg [un (.mov 62 (.t 0)),
 un (.call 63 Ap [((.t 62),true),((.c (.int .i64 16)),false)])])
 (.drop [62] (.block 4 (.seq (.reg [un (.bin 65 .eql (.t 63) (.c (.int .i64 0))),
 un (.asg 64 (.t 65))])
 (.drop [65] (.cond (.t 64) (.reg [un (.mov 66 (.t 0)),
 un (.mov 67 (.t 4)),
 un (.bin 68 .add (.t 67) (.c (.int .i64 1))),
 un (.bsl 69 1 [(.c (.int .i64 0)),(.c (.int .i64 9)),(.t 68)]),
 un (.call 70 Ar [((.t 66),true),((.t 69),false)]),
 un (.fadr 71 0 (.t 5)),
 un (.st 1 (.t 71) (.t 70))])
 (.seq (.reg [un (.bin 73 .eql (.t 63) (.c (.int .i64 1))),
 un (.asg 72 (.t 73))])
 (.drop [73] (.cond (.t 72) (.dregl [(0,.fadr 74 1 (.t 5)),
 (1,.ld 75 1 false (.t 74)),
 (2,.fadr 76 1 (.t 5)),
 (3,.ld 77 1 false (.t 76)),
 (4,.iad 78 2 (.t 77) (.c (.int .i64 0))),
 (5,.fadr 79 1 (.t 78)),
 (6,.ld 80 1 false (.t 79))]
 (.alt 7 (.bsl 81 1 [(.c (.int .i64 0))]) [0,1,2,3,4,5,6] [] (.alt 8 (.app 82 1 (.t 80) (.t 81)) [0,1,2,3,4,5,6] [80] (.alt 9 (.iad 83 2 (.t 75) (.c (.int .i64 0))) [0,1] [] (.alt 10 (.fadr 84 1 (.t 83)) [] [] (.alt 11 (.st 1 (.t 84) (.t 82)) [] [] .nil .nil) .nil) .nil) .nil) .nil))
 (.seq (.reg [un (.bin 86 .eql (.t 63) (.c (.int .i64 2))),
 un (.asg 85 (.t 86))])
 (.drop [86] (.cond (.t 85) (.dregl [(0,.fadr 87 1 (.t 5)),
 (1,.ld 88 1 false (.t 87)),
 (2,.iad 89 2 (.t 88) (.c (.int .i64 0))),
 (3,.fadr 90 1 (.t 89)),
 (4,.ld 91 1 false (.t 90)),
 (5,.mov 92 (.t 0)),
 (6,.fadr 93 1 (.t 5)),
 (7,.ld 94 1 false (.t 93)),
 (8,.iad 95 2 (.t 94) (.c (.int .i64 0))),
 (9,.fadr 96 1 (.t 95)),
 (10,.ld 97 1 false (.t 96)),
 (13,.mov 100 (.t 0)),
 (14,.mov 101 (.t 4))]
 (.alt 11 (.len 98 (.t 97)) [0,1,2,3,4,5,6,7,8,9,10,13,14] [] (.alt 12 (.call 99 Ap [((.t 92),true),((.t 98),false)]) [0,1,2,3,4,5,13,14] [] (.alt 15 (.bsl 102 1 [(.c (.int .i64 (-1))),(.t 101)]) [0,1,2,3,4,13,14] [] (.alt 16 (.call 103 Ar [((.t 100),true),((.t 102),false)]) [0,1,2,3,4,13] [] (.alt 17 (.iad 104 1 (.t 91) (.t 99)) [0,1,2,3,4] [] (.alt 18 (.st 1 (.t 104) (.t 103)) [] [] .nil .nil) .nil) .nil) .nil) (.alt 15 (.bsl 102 1 [(.c (.int .i64 (-1))),(.t 101)]) [0,1,2,3,4,5,13,14] [] (.alt 12 (.call 99 Ap [((.t 92),true),((.t 98),false)]) [0,1,2,3,4,5,13] [] (.alt 16 (.call 103 Ar [((.t 100),true),((.t 102),false)]) [0,1,2,3,4,13] [] (.alt 17 (.iad 104 1 (.t 91) (.t 99)) [0,1,2,3,4] [] (.alt 18 (.st 1 (.t 104) (.t 103)) [] [] .nil .nil) .nil) .nil) .nil) .nil)) (.alt 15 (.bsl 102 1 [(.c (.int .i64 (-1))),(.t 101)]) [0,1,2,3,4,5,6,7,8,9,10,13,14] [] (.alt 11 (.len 98 (.t 97)) [0,1,2,3,4,5,6,7,8,9,10,13] [] (.alt 12 (.call 99 Ap [((.t 92),true),((.t 98),false)]) [0,1,2,3,4,5,13] [] (.alt 16 (.call 103 Ar [((.t 100),true),((.t 102),false)]) [0,1,2,3,4,13] [] (.alt 17 (.iad 104 1 (.t 91) (.t 99)) [0,1,2,3,4] [] (.alt 18 (.st 1 (.t 104) (.t 103)) [] [] .nil .nil) .nil) .nil) .nil) .nil) .nil)))
 (.seq (.reg [un (.bin 106 .eql (.t 63) (.c (.int .i64 3))),
 un (.asg 105 (.t 106))])
 (.drop [106] (.cond (.t 105) (.dregl [(0,.fadr 107 1 (.t 5)),
 (1,.ld 108 1 false (.t 107)),
 (2,.mov 109 (.t 0))]
 (.alt 3 (.bsl 110 1 [(.c (.int .i64 (-1))),(.c (.int .i64 4))]) [0,1,2] [] (.alt 4 (.call 111 Ar [((.t 109),true),((.t 110),false)]) [0,1,2] [] (.alt 5 (.iad 112 2 (.t 108) (.c (.int .i64 0))) [0,1] [] (.alt 6 (.fadr 113 0 (.t 112)) [] [] (.alt 7 (.st 1 (.t 113) (.t 111)) [] [] .nil .nil) .nil) .nil) .nil) .nil))
 (.seq (.reg [un (.bin 115 .eql (.t 63) (.c (.int .i64 4))),
 un (.asg 114 (.t 115))])
 (.drop [115] (.cond (.t 114) (.block 5 (.loop I0))
 .skip))))))))))))))))))
 (.drop [62,63,65,64,66,67,68,69,70,71,73,72,74,75,76,77,78,79,80,81,82,83,84,86,85,87,88,89,90,91,92,93,94,95,96,97,98,99,100,101,102,103,104,106,105,107,108,109,110,111,112,113,115,114,116,117,118,119,120,121,122,123,124,125,126,127,128,129,130] (.seq (.reg [un (.ld 131 2 true (.t 5)),
 un (.st 2 (.t 2) (.t 131))])
 (.drop [131] .ret)))))))))))))
abbrev Tj:List RS:=[.c 2 2 true]
theorem Tc:Bl Try.prog Fh 132 S5 Tj=true:=by kernel_rfl
def W0:ACode:=
 (.seq (.reg [un (.ld 8 2 true (.t 2)),
 un (.fadr 9 0 (.t 3)),
 un (.ld 10 1 false (.t 9)),
 un (.call 11 Id [((.t 8),false),((.t 10),false)]),
 un (.un 12 .not (.t 11)),
 un (.asg 13 (.t 12)),
 ⟨some (13,false),.ld 14 2 true (.t 2)⟩,
 ⟨some (13,false),.fadr 15 1 (.t 3)⟩,
 ⟨some (13,false),.ld 16 1 false (.t 15)⟩,
 ⟨some (13,false),.call 17 Id [((.t 14),false),((.t 16),false)]⟩,
 ⟨some (13,false),.un 18 .not (.t 17)⟩,
 un (.pick 19 (.t 13) (.c (.bool true)) (.t 18))])
 (.drop [8,9,10,11,12,13,14,15,16,17,18] (.cond (.t 19) (.seq (.reg [un (.asg 4 (.c (.bool false)))])
 .ret)
 .skip)))
def On:ACode:=
 (.seq (.seq (.reg [un (.mov 27 (.t 7)),
 un (.mov 28 (.t 5)),
 un (.len 29 (.t 28)),
 un (.bin 30 .lss (.t 27) (.t 29))])
 (.drop [27,28,29] (.cond (.t 30) .skip
 (.exit 0))))
 (.drop [27,28,29,30] (.seq (.block 1 (.reg [un (.mov 33 (.t 6)),
 un (.fadr 34 0 (.t 2)),
 un (.ld 35 1 false (.t 34)),
 un (.bin 36 .mul (.t 33) (.t 35)),
 un (.asg 6 (.t 36))]))
 (.drop [33,34,35,36] (.reg [un (.mov 31 (.t 7)),
 un (.bin 32 .add (.t 31) (.c (.int .i64 1))),
 un (.asg 7 (.t 32))])))))
def Aa9:ACode:=
 (.seq (.reg [un (.box 2 (.t 0)),
 un (.box 3 (.t 1)),
 un (.asg 4 (.c (.bool false)))])
 (.seq (.cut W0)
 (.drop [8,9,10,11,12,13,14,15,16,17,18,19] (.seq (.dreg [(un (.fadr 20 0 (.t 3)),[]),
 (un (.ld 21 1 false (.t 20)),[]),
 (un (.call 22 Jj [((.t 21),false)]),[]),
 (un (.fadr 23 1 (.t 3)),[20,21,22]),
 (un (.ld 24 1 false (.t 23)),[20,21,22])]
 [un (.app 25 1 (.t 22) (.t 24)),
 un (.call 26 Ic [((.t 25),true)]),
 un (.asg 5 (.t 26)),
 un (.asg 6 (.c (.int .i64 1)))])
 (.drop [20,21,22,23,24,25,26] (.seq (.seq (.reg [un (.asg 7 (.c (.int .i64 0)))])
 (.block 0 (.loop On)))
 (.drop [7,27,28,29,30,33,34,35,36,31,32] (.seq (.reg [un (.mov 37 (.t 6)),
 un (.bin 38 .leq (.t 37) (.c (.int .i64 5000))),
 un (.asg 4 (.t 38))])
 (.drop [37,38] .ret)))))))))
abbrev Abi:List RS:=[.t 4]
theorem Abn:Bl Try.prog Gy 39 Aa9 Abi=true:=by kernel_rfl
def Abo:ACode:=
 (.seq (.reg [un (.box 2 (.t 0)),
 un (.box 3 (.t 1)),
 un (.asg 4 (.c (.bool false)))])
 (.seq (.reg [un (.ld 8 2 true (.t 2)),
 un (.ld 9 2 true (.t 3)),
 un (.call 10 Hd [((.t 8),false),((.t 9),false)]),
 un (.asg 7 (.t 10)),
 un (.ext 11 (.t 7) 0),
 un (.ext 12 (.t 7) 1),
 un (.asg 5 (.t 11)),
 un (.asg 6 (.t 12))])
 (.drop [8,9,10,7,11,12,5] (.seq (.reg [un (.mov 13 (.t 6)),
 un (.un 14 .not (.t 13)),
 un (.asg 4 (.t 14))])
 (.drop [13,14] .ret)))))
abbrev Ac5:List RS:=[.t 4]
theorem Abs:Bl Try.prog Jk 15 Abo Ac5=true:=by kernel_rfl
def Ae4:ACode:=
 (.seq (.reg [un (.box 2 (.t 0)),
 un (.asg 4 (.c (.bool false)))])
 (.seq (.reg [un (.ld 5 2 true (.t 2)),
 un (.call 6 Ew [((.t 5),false)]),
 un (.asg 7 (.t 6)),
 ⟨some (7,true),.ld 8 2 true (.t 2)⟩,
 ⟨some (7,true),.mov 9 (.t 1)⟩,
 ⟨some (7,true),.call 10 Ik [((.t 8),false),((.t 9),false)]⟩,
 un (.pick 11 (.t 7) (.t 10) (.c (.bool false))),
 un (.asg 4 (.t 11))])
 (.drop [5,6,7,8,9,10,11] .ret)))
abbrev Aei:List RS:=[.t 4]
theorem Ae0:Bl Try.prog K4 12 Ae4 Aei=true:=by kernel_rfl
def Abf:ACode:=
 (.seq (.reg [un (.box 2 (.t 0)),
 un (.asg 4 (.c (.bool false)))])
 (.seq (.reg [un (.ld 5 2 true (.t 2)),
 un (.call 6 Es [((.t 5),false)]),
 un (.asg 7 (.t 6)),
 ⟨some (7,true),.ld 8 2 true (.t 2)⟩,
 ⟨some (7,true),.mov 9 (.t 1)⟩,
 ⟨some (7,true),.call 10 Id [((.t 8),false),((.t 9),false)]⟩,
 un (.pick 11 (.t 7) (.t 10) (.c (.bool false))),
 un (.asg 4 (.t 11))])
 (.drop [5,6,7,8,9,10,11] .ret)))
abbrev Ac7:List RS:=[.t 4]
theorem Abw:Bl Try.prog My 12 Abf Ac7=true:=by kernel_rfl
def Jv:ACode:=
 (.seq (.seq (.reg [un (.mov 15 (.t 10)),
 un (.fadr 16 1 (.t 5)),
 un (.ld 17 1 false (.t 16)),
 un (.len 18 (.t 17)),
 un (.bin 19 .lss (.t 15) (.t 18))])
 (.drop [15,16,17,18] (.cond (.t 19) .skip
 (.exit 0))))
 (.drop [15,16,17,18,19] (.seq (.block 1 (.seq (.reg [un (.fadr 22 1 (.t 5)),
 un (.ld 23 1 false (.t 22)),
 un (.mov 24 (.t 10)),
 un (.iad 25 2 (.t 23) (.t 24)),
 un (.fadr 26 0 (.t 25)),
 un (.ld 27 1 false (.t 26)),
 un (.bin 28 .eql (.t 27) (.c (.int .i64 0)))])
 (.drop [22,23,24,25,26,27] (.cond (.t 28) (.reg [un (.mov 29 (.t 9)),
 un (.mov 30 (.t 10)),
 un (.bin 31 .sub (.c (.int .i64 (-1))) (.t 30)),
 un (.bsl 32 1 [(.t 31)]),
 un (.app 33 1 (.t 29) (.t 32)),
 un (.asg 9 (.t 33))])
 .skip))))
 (.drop [22,23,24,25,26,27,28,29,30,31,32,33] (.reg [un (.mov 20 (.t 10)),
 un (.bin 21 .add (.t 20) (.c (.int .i64 1))),
 un (.asg 10 (.t 21))])))))
def Rj:ACode:=
 (.reg [un (.mov 34 (.t 2)),
 un (.bin 35 .eql (.t 34) (.c (.int .i64 0))),
 un (.asg 36 (.t 35)),
 ⟨some (36,false),.fadr 37 1 (.t 5)⟩,
 ⟨some (36,false),.ld 38 1 false (.t 37)⟩,
 ⟨some (36,false),.len 39 (.t 38)⟩,
 ⟨some (36,false),.bin 40 .eql (.t 39) (.c (.int .i64 0))⟩,
 un (.pick 41 (.t 36) (.c (.bool true)) (.t 40)),
 un (.asg 42 (.t 41)),
 ⟨some (42,false),.mov 43 (.t 0)⟩,
 ⟨some (42,false),.call 44 D3 [((.t 43),true),((.c (.int .i64 4)),false)]⟩,
 un (.pick 45 (.t 42) (.c (.bool true)) (.t 44))])
def Q6:ACode:=
 (.reg [un (.mov 46 (.t 3)),
 un (.bin 47 .eql (.t 46) (.c (.int .i64 0))),
 un (.asg 48 (.t 47)),
 ⟨some (48,false),.mov 49 (.t 9)⟩,
 ⟨some (48,false),.len 50 (.t 49)⟩,
 ⟨some (48,false),.bin 51 .gtr (.t 50) (.c (.int .i64 0))⟩,
 ⟨some (48,false),.asg 52 (.t 51)⟩,
 ⟨some (52,true),.mov 53 (.t 0)⟩,
 ⟨some (52,true),.call 54 D3 [((.t 53),true),((.c (.int .i64 4)),false)]⟩,
 ⟨some (48,false),.pick 55 (.t 52) (.t 54) (.c (.bool false))⟩,
 un (.pick 56 (.t 48) (.c (.bool true)) (.t 55))])
def Ro:ACode:=
 (.seq (.cut Rj)
 (.drop [34,35,36,37,38,39,40,41,42,43,44] (.cond (.t 45) (.seq (.seq (.cut Q6)
 (.drop [46,47,48,49,50,51,52,53,54,55] (.cond (.t 56) (.seq (.seq (.reg [un (.mov 57 (.t 9)),
 un (.len 58 (.t 57)),
 un (.bin 59 .eql (.t 58) (.c (.int .i64 0)))])
 (.drop [57,58] (.cond (.t 59) (.seq (.reg [un (.bsl 60 1 [(.c (.int .i64 0))]),
 un (.asg 8 (.t 60))])
 (.drop [60] .ret))
 .skip)))
 (.drop [57,58,59,60] (.seq (.frz [9] (.reg [un (.mov 61 (.t 0)),
 un (.mov 62 (.t 9)),
 un (.call 63 Ar [((.t 61),true),((.t 62),false)]),
 un (.bsl 64 1 [(.t 63)]),
 un (.asg 8 (.t 64))]))
 (.drop [61,62,63,64] .ret))))
 .skip)))
 (.drop [46,47,48,49,50,51,52,53,54,55,56,57,58,59,60,61,62,63,64] (.seq (.reg [un (.mov 65 (.t 0)),
 un (.mov 66 (.t 3)),
 un (.call 67 Ap [((.t 65),true),((.t 66),false)]),
 un (.bsl 68 1 [(.t 67)]),
 un (.asg 8 (.t 68))])
 (.drop [65,66,67,68] .ret))))
 .skip)))
def Jh:ACode:=
 (.seq (.seq (.reg [un (.mov 77 (.t 13)),
 un (.fadr 78 1 (.t 5)),
 un (.ld 79 1 false (.t 78)),
 un (.mov 80 (.t 11)),
 un (.iad 81 2 (.t 79) (.t 80)),
 un (.fadr 82 0 (.t 81)),
 un (.ld 83 1 false (.t 82)),
 un (.bin 84 .lss (.t 77) (.t 83))])
 (.drop [77,78,79,80,81,82,83] (.cond (.t 84) .skip
 (.exit 2))))
 (.drop [77,78,79,80,81,82,83,84] (.seq (.block 3 (.reg [un (.mov 87 (.t 12)),
 un (.mov 88 (.t 0)),
 un (.ld 89 2 true (.t 5)),
 un (.mov 90 (.t 2)),
 un (.bin 91 .sub (.t 90) (.c (.int .i64 1))),
 un (.mov 92 (.t 3)),
 un (.call 93 Bj [((.t 88),true),((.t 89),false),((.t 91),false),((.t 92),false)]),
 un (.app 94 1 (.t 87) (.t 93)),
 un (.asg 12 (.t 94))]))
 (.drop [87,88,89,90,91,92,93,94] (.reg [un (.mov 85 (.t 13)),
 un (.bin 86 .add (.t 85) (.c (.int .i64 1))),
 un (.asg 13 (.t 86))])))))
def Un:ACode:=
 (.seq (.reg [un (.box 5 (.t 1)),
 un (.asg 8 (.c (.nilsl 1)))])
 (.seq (.reg [un (.bsl 14 1 []),
 un (.asg 9 (.t 14))])
 (.drop [14] (.seq (.seq (.reg [un (.asg 10 (.c (.int .i64 0)))])
 (.block 0 (.loop Jv)))
 (.drop [10,15,16,17,18,19,22,23,24,25,26,27,28,29,30,31,32,33,20,21] (.seq (.cut Ro)
 (.drop [34,35,36,37,38,39,40,41,42,43,44,45,46,47,48,49,50,51,52,53,54,55,56,57,58,59,60,61,62,63,64,65,66,67,68] (.seq (.reg [un (.mov 69 (.t 0)),
 un (.fadr 70 1 (.t 5)),
 un (.ld 71 1 false (.t 70)),
 un (.len 72 (.t 71)),
 un (.call 73 Ap [((.t 69),true),((.t 72),false)]),
 un (.asg 11 (.t 73))])
 (.drop [69,70,71,72,73] (.seq (.reg [un (.mov 74 (.t 11)),
 un (.bin 75 .sub (.c (.int .i64 (-1))) (.t 74)),
 un (.bsl 76 1 [(.t 75)]),
 un (.asg 12 (.t 76))])
 (.drop [74,75,76] (.seq (.seq (.reg [un (.asg 13 (.c (.int .i64 0)))])
 (.block 2 (.loop Jh)))
 (.drop [13,77,78,79,80,81,82,83,84,87,88,89,90,91,92,93,94,85,86] (.seq (.reg [un (.mov 95 (.t 12)),
 un (.asg 8 (.t 95))])
 (.drop [95] .ret)))))))))))))))
abbrev Uv:List RS:=[.t 8]
theorem T5:Bl Try.prog Bj 96 Un Uv=true:=by kernel_rfl
def Aab:ACode:=
 (.seq (.reg [un (.box 2 (.t 0)),
 un (.box 3 (.t 1)),
 un (.asg 4 (.c (.bool false))),
 un (.asg 5 (.c (.bool false)))])
 (.seq (.seq (.reg [un (.ld 6 2 true (.t 2)),
 un (.call 7 Es [((.t 6),false)]),
 un (.un 8 .not (.t 7)),
 un (.asg 9 (.t 8)),
 ⟨some (9,false),.ld 10 2 true (.t 2)⟩,
 ⟨some (9,false),.ld 11 2 true (.t 3)⟩,
 ⟨some (9,false),.call 12 Gy [((.t 10),false),((.t 11),false)]⟩,
 ⟨some (9,false),.un 13 .not (.t 12)⟩,
 un (.pick 14 (.t 9) (.c (.bool true)) (.t 13))])
 (.drop [6,7,8,9,10,11,12,13] (.cond (.t 14) (.seq (.reg [un (.asg 4 (.c (.bool false))),
 un (.asg 5 (.c (.bool false)))])
 .ret)
 .skip)))
 (.drop [6,7,8,9,10,11,12,13,14] (.seq (.reg [un (.ld 15 2 true (.t 2)),
 un (.ld 16 2 true (.t 3)),
 un (.call 17 Jk [((.t 15),false),((.t 16),false)]),
 un (.asg 4 (.t 17)),
 un (.asg 5 (.c (.bool true)))])
 (.drop [15,16,17] .ret)))))
abbrev Z5:List RS:=[.t 4,.t 5]
theorem Aau:Bl Try.prog Lu 18 Aab Z5=true:=by kernel_rfl
def Ur:ACode:=
 (.seq (.reg [un (.box 2 (.t 0)),
 un (.box 3 (.t 1)),
 un (.asg 4 (.c (.nilsl 1))),
 un (.asg 5 (.c (.bool false)))])
 (.seq (.seq (.reg [un (.ld 6 2 true (.t 2)),
 un (.call 7 Es [((.t 6),false)]),
 un (.un 8 .not (.t 7)),
 un (.asg 9 (.t 8)),
 ⟨some (9,false),.ld 10 2 true (.t 2)⟩,
 ⟨some (9,false),.ld 11 2 true (.t 3)⟩,
 ⟨some (9,false),.call 12 Gy [((.t 10),false),((.t 11),false)]⟩,
 ⟨some (9,false),.un 13 .not (.t 12)⟩,
 un (.pick 14 (.t 9) (.c (.bool true)) (.t 13))])
 (.drop [6,7,8,9,10,11,12,13] (.cond (.t 14) (.seq (.reg [un (.bsl 15 1 []),
 un (.asg 4 (.t 15)),
 un (.asg 5 (.c (.bool false)))])
 (.drop [15] .ret))
 .skip)))
 (.drop [6,7,8,9,10,11,12,13,14,15] (.seq (.reg [un (.ld 16 2 true (.t 2)),
 un (.ld 17 2 true (.t 3)),
 un (.call 18 Hd [((.t 16),false),((.t 17),false)]),
 un (.ext 19 (.t 18) 0),
 un (.ext 20 (.t 18) 1),
 un (.asg 4 (.t 19)),
 un (.asg 5 (.t 20))])
 (.drop [16,17,18,19,20] .ret)))))
abbrev Ul:List RS:=[.t 4,.t 5]
theorem Ui:Bl Try.prog Hs 21 Ur Ul=true:=by kernel_rfl
def Aam:ACode:=
 (.seq (.reg [un (.box 3 (.t 0)),
 un (.asg 6 (.c (.int .i64 0))),
 un (.asg 7 (.c (.bool false)))])
 (.seq (.seq (.reg [un (.ld 8 2 true (.t 3)),
 un (.mov 9 (.t 1)),
 un (.call 10 K4 [((.t 8),false),((.t 9),false)]),
 un (.un 11 .not (.t 10)),
 un (.asg 12 (.t 11)),
 ⟨some (12,false),.mov 13 (.t 2)⟩,
 ⟨some (12,false),.len 14 (.t 13)⟩,
 ⟨some (12,false),.bin 15 .gtr (.t 14) (.c (.int .i64 6))⟩,
 un (.pick 16 (.t 12) (.c (.bool true)) (.t 15)),
 un (.asg 17 (.t 16)),
 ⟨some (17,false),.mov 18 (.t 2)⟩,
 ⟨some (17,false),.fadr 19 0 (.t 3)⟩,
 ⟨some (17,false),.ld 20 1 false (.t 19)⟩,
 ⟨some (17,false),.call 21 K0 [((.t 18),false),((.t 20),false)]⟩,
 ⟨some (17,false),.un 22 .not (.t 21)⟩,
 un (.pick 23 (.t 17) (.c (.bool true)) (.t 22)),
 un (.asg 24 (.t 23)),
 ⟨some (24,false),.mov 25 (.t 1)⟩,
 ⟨some (24,false),.mov 26 (.t 2)⟩,
 ⟨some (24,false),.len 27 (.t 26)⟩,
 ⟨some (24,false),.call 28 Hl [((.t 25),false),((.t 27),false)]⟩,
 ⟨some (24,false),.un 29 .not (.t 28)⟩,
 un (.pick 30 (.t 24) (.c (.bool true)) (.t 29))])
 (.drop [8,9,10,11,12,13,14,15,16,17,18,19,20,21,22,23,24,25,26,27,28,29] (.cond (.t 30) (.seq (.reg [un (.asg 6 (.c (.int .i64 0))),
 un (.asg 7 (.c (.bool false)))])
 .ret)
 .skip)))
 (.drop [8,9,10,11,12,13,14,15,16,17,18,19,20,21,22,23,24,25,26,27,28,29,30] (.seq (.reg [un (.ld 31 2 true (.t 3)),
 un (.mov 32 (.t 1)),
 un (.mov 33 (.t 2)),
 un (.call 34 I4 [((.t 31),false),((.t 32),false),((.t 33),false)]),
 un (.asg 6 (.t 34)),
 un (.asg 7 (.c (.bool true)))])
 (.drop [31,32,33,34] .ret)))))
abbrev Z3:List RS:=[.t 6,.t 7]
theorem Aao:Bl Try.prog Il 35 Aam Z3=true:=by kernel_rfl
def X4:ACode:=
 (.seq (.reg [un (.ld 8 2 true (.t 3)),
 un (.mov 9 (.t 1)),
 un (.call 10 K4 [((.t 8),false),((.t 9),false)]),
 un (.un 11 .not (.t 10)),
 un (.asg 12 (.t 11)),
 ⟨some (12,false),.mov 13 (.t 2)⟩,
 ⟨some (12,false),.bin 14 .lss (.t 13) (.c (.int .i64 0))⟩,
 un (.pick 15 (.t 12) (.c (.bool true)) (.t 14)),
 un (.asg 16 (.t 15)),
 ⟨some (16,false),.mov 17 (.t 2)⟩,
 ⟨some (16,false),.bin 18 .gtr (.t 17) (.c (.int .i64 3))⟩,
 un (.pick 19 (.t 16) (.c (.bool true)) (.t 18)),
 un (.asg 20 (.t 19)),
 ⟨some (20,false),.mov 21 (.t 1)⟩,
 ⟨some (20,false),.mov 22 (.t 2)⟩,
 ⟨some (20,false),.call 23 Hl [((.t 21),false),((.t 22),false)]⟩,
 ⟨some (20,false),.un 24 .not (.t 23)⟩,
 un (.pick 25 (.t 20) (.c (.bool true)) (.t 24))])
 (.drop [8,9,10,11,12,13,14,15,16,17,18,19,20,21,22,23,24] (.cond (.t 25) (.seq (.reg [un (.bld 26 [.int .i64 0,.nilsl 1] []),
 un (.st 2 (.t 6) (.t 26)),
 un (.asg 7 (.c (.bool false)))])
 (.drop [26] .ret))
 .skip)))
def Aet:ACode:=
 (.seq (.reg [un (.box 3 (.t 0)),
 un (.alc 6 (.agg [.int .i64 0,.nilsl 1])),
 un (.asg 7 (.c (.bool false)))])
 (.seq (.cut X4)
 (.drop [8,9,10,11,12,13,14,15,16,17,18,19,20,21,22,23,24,25,26] (.seq (.reg [un (.mov 27 (.t 2)),
 un (.ld 28 2 true (.t 3)),
 un (.mov 29 (.t 1)),
 un (.mov 30 (.t 2)),
 un (.call 31 Kt [((.t 28),false),((.t 29),false),((.t 30),false)]),
 un (.bld 32 [.int .i64 0,.nilsl 1] [(0,1,(.t 27)),(1,1,(.t 31))]),
 un (.st 2 (.t 6) (.t 32)),
 un (.asg 7 (.c (.bool true)))])
 (.drop [27,28,29,30,31,32] .ret)))))
abbrev Aez:List RS:=[.c 6 2 true,.t 7]
theorem Ad7:Bl Try.prog K3 33 Aet Aez=true:=by kernel_rfl
end Go.Proofs.Ytmcbocbcpijgeaa.Ax
