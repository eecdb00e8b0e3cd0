/-
  The small code of the functions, written by program; that the program's code is this one, the kernel looks at.
-/
import Derived.Test.YtmkgjnphianalaaAx3
import Derived.Test.YtmkgjnphianalaaProg
import Derived.KernelRfl
import Derived.Test.YtmkgjnphianalaaNum
namespace Go.Proofs.Ytmkgjnphianalaa.Ax
open Go
set_option maxRecDepth 100000
def L3:ACode:=
 (.seq (.seq (.reg [un (.mov 9 (.t 4)),
 un (.mov 10 (.t 1)),
 un (.len 11 (.t 10)),
 un (.bin 12 .lss (.t 9) (.t 11)),
 un (.asg 13 (.t 12)),
 ⟨some (13,true),.mov 14 (.t 1)⟩,
 ⟨some (13,true),.mov 15 (.t 4)⟩,
 ⟨some (13,true),.iad 16 1 (.t 14) (.t 15)⟩,
 ⟨some (13,true),.ld 17 1 false (.t 16)⟩,
 ⟨some (13,true),.bin 18 .geq (.t 17) (.c (.int .i64 0))⟩,
 un (.pick 19 (.t 13) (.t 18) (.c (.bool false)))])
 (.drop [9,10,11,12,13,14,15,16,17,18] (.cond (.t 19) .skip
 (.exit 0))))
 (.drop [9,10,11,12,13,14,15,16,17,18,19] (.block 1 (.reg [un (.mov 20 (.t 4)),
 un (.bin 21 .add (.t 20) (.c (.int .i64 1))),
 un (.asg 4 (.t 21))]))))
def Wf:ACode:=
 (.reg [un (.mov 26 (.t 0)),
 un (.nck 27 (.t 26)),
 un (.fadr 28 5 (.t 27)),
 un (.ld 29 1 false (.t 28)),
 un (.un 30 .not (.t 29)),
 un (.asg 31 (.t 30)),
 ⟨some (31,false),.mov 32 (.t 0)⟩,
 ⟨some (31,false),.nck 33 (.t 32)⟩,
 ⟨some (31,false),.fadr 34 2 (.t 33)⟩,
 ⟨some (31,false),.fadr 35 0 (.t 34)⟩,
 ⟨some (31,false),.ld 36 1 false (.t 35)⟩,
 ⟨some (31,false),.mov 37 (.t 1)⟩,
 ⟨some (31,false),.call 38 Uw [((.t 36),false),((.t 37),false)]⟩,
 un (.pick 39 (.t 31) (.c (.bool true)) (.t 38))])
def Wy:ACode:=
 (.seq (.dreg [(un (.mov 50 (.t 5)),[]),
 (un (.mov 51 (.t 0)),[50]),
 (un (.nck 52 (.t 51)),[50]),
 (un (.fadr 53 2 (.t 52)),[50]),
 (un (.fadr 54 0 (.t 53)),[50]),
 (un (.ld 55 1 false (.t 54)),[50]),
 (un (.bin 56 .lss (.t 50) (.t 55)),[]),
 (un (.asg 57 (.t 56)),[]),
 (⟨some (57,true),.mov 58 (.t 0)⟩,[56]),
 (⟨some (57,true),.nck 59 (.t 58)⟩,[56]),
 (⟨some (57,true),.fadr 60 8 (.t 59)⟩,[56]),
 (⟨some (57,true),.ld 61 1 false (.t 60)⟩,[56]),
 (⟨some (57,true),.len 62 (.t 61)⟩,[56]),
 (⟨some (57,true),.mov 63 (.t 0)⟩,[58,59,60,61,62,56]),
 (⟨some (57,true),.nck 64 (.t 63)⟩,[58,59,60,61,62,56]),
 (⟨some (57,true),.fadr 65 6 (.t 64)⟩,[58,59,60,61,62,56]),
 (⟨some (57,true),.ld 66 1 false (.t 65)⟩,[58,59,60,61,62,56])]
 [⟨some (57,true),.bin 67 .lss (.t 62) (.t 66)⟩,
 un (.pick 68 (.t 57) (.t 67) (.c (.bool false))),
 un (.asg 69 (.t 68)),
 ⟨some (69,true),.mov 70 (.t 0)⟩,
 ⟨some (69,true),.nck 71 (.t 70)⟩,
 ⟨some (69,true),.fadr 72 7 (.t 71)⟩,
 ⟨some (69,true),.ld 73 1 false (.t 72)⟩,
 ⟨some (69,true),.bin 74 .leq (.t 73) (.c (.int .i64 5000))⟩,
 un (.pick 75 (.t 69) (.t 74) (.c (.bool false)))])
 (.drop [50,51,52,53,54,55,56,57,58,59,60,61,62,63,64,65,66,67,68,69,70,71,72,73,74] (.cond (.t 75) .skip
 (.exit 2))))
def L9:ACode:=
 (.seq (.cut Wy)
 (.drop [50,51,52,53,54,55,56,57,58,59,60,61,62,63,64,65,66,67,68,69,70,71,72,73,74,75] (.seq (.block 3 (.seq (.reg [un (.mov 78 (.t 0)),
 un (.nck 79 (.t 78)),
 un (.fadr 80 7 (.t 79)),
 un (.ld 81 1 false (.t 80)),
 un (.bin 82 .add (.t 81) (.c (.int .i64 1))),
 un (.nck 83 (.t 78)),
 un (.fadr 84 7 (.t 83)),
 un (.st 1 (.t 84) (.t 82))])
 (.drop [78,79,80,81,82,83,84] (.seq (.seq (.reg [un (.mov 85 (.t 0)),
 un (.nck 86 (.t 85)),
 un (.fadr 87 7 (.t 86)),
 un (.ld 88 1 false (.t 87)),
 un (.bin 89 .gtr (.t 88) (.c (.int .i64 5000)))])
 (.drop [85,86,87,88] (.cond (.t 89) .ret
 .skip)))
 (.drop [85,86,87,88,89] (.seq (.reg [un (.mov 90 (.t 1)),
 un (.call 91 Kk [((.t 90),false)]),
 un (.asg 6 (.t 91))])
 (.drop [90,91] (.seq (.reg [un (.mov 92 (.t 6)),
 un (.mov 93 (.t 4)),
 un (.mov 94 (.t 5)),
 un (.iad 95 1 (.t 92) (.t 93)),
 un (.st 1 (.t 95) (.t 94))])
 (.drop [92,93,94,95] (.seq (.dreg [(un (.mov 97 (.t 0)),[]),
 (un (.nck 98 (.t 97)),[]),
 (un (.fadr 99 0 (.t 98)),[]),
 (un (.ld 100 2 true (.t 99)),[]),
 (un (.mov 101 (.t 0)),[97,98,99,100]),
 (un (.nck 102 (.t 101)),[97,98,99,100]),
 (un (.fadr 103 2 (.t 102)),[97,98,99,100]),
 (un (.ld 104 2 true (.t 103)),[97,98,99,100]),
 (un (.mov 105 (.t 6)),[97,98,99,100,101,102,103,104]),
 (un (.call 106 Jo [((.t 100),false),((.t 104),false),((.t 105),false)]),[]),
 (un (.asg 96 (.t 106)),[]),
 (un (.ext 107 (.t 96) 0),[106]),
 (un (.ext 108 (.t 96) 1),[107,106,107])]
 [un (.asg 7 (.t 107)),
 un (.asg 8 (.t 108))])
 (.drop [97,98,99,100,101,102,103,104,105,106,96,107,108] (.seq (.frz [7] (.reg [un (.mov 109 (.t 8)),
 un (.asg 110 (.t 109)),
 ⟨some (110,true),.mov 111 (.t 0)⟩,
 ⟨some (110,true),.nck 112 (.t 111)⟩,
 ⟨some (110,true),.fadr 113 4 (.t 112)⟩,
 ⟨some (110,true),.ld 114 1 false (.t 113)⟩,
 ⟨some (110,true),.un 115 .not (.t 114)⟩,
 ⟨some (110,true),.asg 116 (.t 115)⟩,
 ⟨some (116,false),.mov 117 (.t 7)⟩,
 ⟨some (116,false),.call 118 O4 [((.t 117),false)]⟩,
 ⟨some (110,true),.pick 119 (.t 116) (.c (.bool true)) (.t 118)⟩,
 un (.pick 120 (.t 110) (.t 119) (.c (.bool false)))]))
 (.drop [109,110,111,112,113,114,115,116,117,118,119] (.cond (.t 120) (.reg [un (.mov 121 (.t 0)),
 un (.mov 122 (.t 7)),
 un (.call 123 Cr [((.t 121),true),((.t 122),false)])])
 .skip))))))))))))))
 (.drop [78,79,80,81,82,83,84,85,86,87,88,89,90,91,6,92,93,94,95,97,98,99,100,101,102,103,104,105,106,96,107,108,7,8,109,110,111,112,113,114,115,116,117,118,119,120,121,122,123] (.reg [un (.mov 76 (.t 5)),
 un (.bin 77 .add (.t 76) (.c (.int .i64 1))),
 un (.asg 5 (.t 77))])))))
def Zq:ACode:=
 (.seq (.reg [un (.asg 4 (.c (.int .i64 0)))])
 (.seq (.block 0 (.loop L3))
 (.drop [9,10,11,12,13,14,15,16,17,18,19,20,21] (.seq (.seq (.reg [un (.mov 22 (.t 4)),
 un (.mov 23 (.t 1)),
 un (.len 24 (.t 23)),
 un (.bin 25 .eql (.t 22) (.t 24))])
 (.drop [22,23,24] (.cond (.t 25) (.seq (.seq (.cut Wf)
 (.drop [26,27,28,29,30,31,32,33,34,35,36,37,38] (.cond (.t 39) (.reg [un (.mov 40 (.t 0)),
 un (.mov 41 (.t 0)),
 un (.nck 42 (.t 41)),
 un (.fadr 43 8 (.t 42)),
 un (.ld 44 1 false (.t 43)),
 un (.mov 45 (.t 1)),
 un (.bsl 46 1 [(.t 45)]),
 un (.app 47 1 (.t 44) (.t 46)),
 un (.nck 48 (.t 40)),
 un (.fadr 49 8 (.t 48)),
 un (.st 1 (.t 49) (.t 47))])
 .skip)))
 (.drop [26,27,28,29,30,31,32,33,34,35,36,37,38,39,40,41,42,43,44,45,46,47,48,49] .ret))
 .skip)))
 (.drop [22,23,24,25,26,27,28,29,30,31,32,33,34,35,36,37,38,39,40,41,42,43,44,45,46,47,48,49] (.seq (.reg [un (.asg 5 (.c (.int .i64 0)))])
 (.block 2 (.loop L9))))))))
abbrev Aam:List RS:=[]
theorem Zw:A8 Try.prog Cr 124 Zq Aam=true:=by kernel_rfl
def Ab0:ACode:=
 (.seq (.reg [un (.asg 4 (.c (.int .i64 0)))])
 (.seq (.reg [un (.mov 5 (.t 1)),
 un (.mov 6 (.t 0)),
 un (.mov 7 (.t 1)),
 un (.len 8 (.t 7)),
 un (.call 9 Au [((.t 6),true),((.t 8),false)]),
 un (.iad 10 1 (.t 5) (.t 9)),
 un (.ld 11 1 false (.t 10)),
 un (.asg 4 (.t 11))])
 (.drop [5,6,7,8,9,10,11] .ret)))
abbrev Acb:List RS:=[.t 4]
theorem Acx:A8 Try.prog Bn 12 Ab0 Acb=true:=by kernel_rfl
def K3:ACode:=
 (.seq (.reg [un (.bin 33 .lss (.t 32) (.t 31))])
 (.seq (.cond (.t 33) .skip
 (.exit 0))
 (.seq (.block 1 (.seq (.reg [un (.iad 34 1 (.t 30) (.t 32)),
 un (.ld 35 1 false (.t 34)),
 un (.asg 7 (.t 35))])
 (.drop [34,35] (.seq (.seq (.reg [un (.mov 36 (.t 7)),
 un (.bin 37 .geq (.t 36) (.c (.int .i64 0))),
 un (.asg 38 (.t 37)),
 ⟨some (38,true),.mov 39 (.t 5)⟩,
 ⟨some (38,true),.mov 40 (.t 7)⟩,
 ⟨some (38,true),.iad 41 1 (.t 39) (.t 40)⟩,
 ⟨some (38,true),.ld 42 1 false (.t 41)⟩,
 un (.pick 43 (.t 38) (.t 42) (.c (.bool false)))])
 (.drop [36,37,38,39,40,41,42] (.cond (.t 43) (.seq (.reg [un (.asg 4 (.c (.bool false)))])
 .ret)
 .skip)))
 (.drop [36,37,38,39,40,41,42,43] (.seq (.reg [un (.mov 44 (.t 7)),
 un (.bin 45 .geq (.t 44) (.c (.int .i64 0)))])
 (.drop [44] (.cond (.t 45) (.reg [un (.mov 46 (.t 5)),
 un (.mov 47 (.t 7)),
 un (.iad 48 1 (.t 46) (.t 47)),
 un (.st 1 (.t 48) (.c (.bool true)))])
 .skip))))))))
 (.drop [34,35,7,36,37,38,39,40,41,42,43,44,45,46,47,48] (.reg [un (.bin 49 .add (.t 32) (.c (.int .i64 1))),
 un (.asg 32 (.t 49))])))))
def Yp:ACode:=
 (.seq (.reg [un (.asg 4 (.c (.bool false)))])
 (.seq (.seq (.dreg [(un (.mov 8 (.t 0)),[]),
 (un (.nck 9 (.t 8)),[]),
 (un (.fadr 10 0 (.t 9)),[]),
 (un (.ld 11 2 true (.t 10)),[]),
 (un (.mov 12 (.t 0)),[8,9,10,11]),
 (un (.nck 13 (.t 12)),[8,9,10,11]),
 (un (.fadr 14 2 (.t 13)),[8,9,10,11]),
 (un (.ld 15 2 true (.t 14)),[8,9,10,11]),
 (un (.mov 16 (.t 1)),[8,9,10,11,12,13,14,15])]
 [un (.call 17 Li [((.t 11),false),((.t 15),false),((.t 16),true)]),
 un (.un 18 .not (.t 17))])
 (.drop [8,9,10,11,12,13,14,15,16,17] (.cond (.t 18) (.seq (.reg [un (.asg 4 (.c (.bool false)))])
 .ret)
 .skip)))
 (.drop [8,9,10,11,12,13,14,15,16,17,18] (.seq (.seq (.reg [un (.mov 19 (.t 0)),
 un (.nck 20 (.t 19)),
 un (.fadr 21 4 (.t 20)),
 un (.ld 22 1 false (.t 21)),
 un (.un 23 .not (.t 22))])
 (.drop [19,20,21,22] (.cond (.t 23) (.seq (.reg [un (.asg 4 (.c (.bool true)))])
 .ret)
 .skip)))
 (.drop [19,20,21,22,23] (.seq (.reg [un (.mov 24 (.t 0)),
 un (.nck 25 (.t 24)),
 un (.fadr 26 2 (.t 25)),
 un (.fadr 27 0 (.t 26)),
 un (.ld 28 1 false (.t 27)),
 un (.mk 29 1 (.bool false) (.t 28)),
 un (.asg 5 (.t 29))])
 (.drop [24,25,26,27,28,29] (.seq (.seq (.reg [un (.mov 30 (.t 1)),
 un (.len 31 (.t 30)),
 un (.mov 32 (.c (.int .i64 0)))])
 (.block 0 (.loop K3)))
 (.drop [30,31,32,33,34,35,7,36,37,38,39,40,41,42,43,44,45,46,47,48,49] (.seq (.reg [un (.asg 4 (.c (.bool true)))])
 .ret))))))))))
abbrev Y4:List RS:=[.t 4]
theorem Yu:A8 Try.prog Gg 50 Yp Y4=true:=by kernel_rfl
def Tx:ACode:=
 (.seq (.seq (.reg [un (.mov 11 (.t 6)),
 un (.fadr 12 0 (.t 2)),
 un (.ld 13 1 false (.t 12)),
 un (.bin 14 .leq (.t 11) (.t 13))])
 (.drop [11,12,13] (.cond (.t 14) .skip
 (.exit 0))))
 (.drop [11,12,13,14] (.seq (.block 1 (.reg [un (.ld 17 2 true (.t 2)),
 un (.mov 18 (.t 5)),
 un (.call 19 Uv [((.t 17),false),((.t 18),false)]),
 un (.asg 5 (.t 19))]))
 (.drop [17,18,19] (.reg [un (.mov 15 (.t 6)),
 un (.bin 16 .add (.t 15) (.c (.int .i64 1))),
 un (.asg 6 (.t 16))])))))
def Akw:ACode:=
 (.seq (.reg [un (.box 2 (.t 0)),
 un (.asg 4 (.c (.nilsl 1)))])
 (.seq (.reg [un (.fadr 7 0 (.t 2)),
 un (.ld 8 1 false (.t 7)),
 un (.mov 9 (.t 1)),
 un (.call 10 Aaf [((.t 8),false),((.t 9),false)]),
 un (.asg 5 (.t 10))])
 (.drop [7,8,9,10] (.seq (.seq (.reg [un (.asg 6 (.c (.int .i64 0)))])
 (.block 0 (.loop Tx)))
 (.drop [6,11,12,13,14,17,18,19,15,16] (.seq (.reg [un (.mov 20 (.t 5)),
 un (.call 21 Uo [((.t 20),false)]),
 un (.asg 4 (.t 21))])
 (.drop [20,21] .ret)))))))
abbrev Ak7:List RS:=[.t 4]
theorem Alb:A8 Try.prog Sc 22 Akw Ak7=true:=by kernel_rfl
def Asu:ACode:=
 (.seq (.reg [un (.box 2 (.t 0)),
 un (.box 3 (.t 1)),
 un (.asg 4 (.c (.bool false)))])
 (.seq (.reg [un (.ld 5 2 true (.t 2)),
 un (.call 6 Fu [((.t 5),false)]),
 un (.asg 7 (.t 6)),
 ⟨some (7,true),.ld 8 2 true (.t 3)⟩,
 ⟨some (7,true),.call 9 Fu [((.t 8),false)]⟩,
 un (.pick 10 (.t 7) (.t 9) (.c (.bool false))),
 un (.asg 11 (.t 10)),
 ⟨some (11,true),.ld 12 2 true (.t 2)⟩,
 ⟨some (11,true),.ld 13 2 true (.t 3)⟩,
 ⟨some (11,true),.call 14 K8 [((.t 12),false),((.t 13),false)]⟩,
 un (.pick 15 (.t 11) (.t 14) (.c (.bool false))),
 un (.asg 4 (.t 15))])
 (.drop [5,6,7,8,9,10,11,12,13,14,15] .ret)))
abbrev Aqt:List RS:=[.t 4]
theorem Aq2:A8 Try.prog Kh 16 Asu Aqt=true:=by kernel_rfl
def Wl:ACode:=
 (.seq (.seq (.reg [un (.mov 26 (.t 14)),
 un (.fadr 27 0 (.t 5)),
 un (.ld 28 1 false (.t 27)),
 un (.bin 29 .lss (.t 26) (.t 28))])
 (.drop [26,27,28] (.cond (.t 29) .skip
 (.exit 0))))
 (.drop [26,27,28,29] (.seq (.block 1 (.reg [un (.mov 32 (.t 13)),
 un (.bsl 33 1 [(.c (.int .i64 (-1)))]),
 un (.app 34 1 (.t 32) (.t 33)),
 un (.asg 13 (.t 34))]))
 (.drop [32,33,34] (.reg [un (.mov 30 (.t 14)),
 un (.bin 31 .add (.t 30) (.c (.int .i64 1))),
 un (.asg 14 (.t 31))])))))
def Af8:ACode:=
 (.seq (.frz [15] (.reg [un (.mov 42 (.t 16)),
 un (.asg 43 (.t 42)),
 ⟨some (43,true),.mov 44 (.t 2)⟩,
 ⟨some (43,true),.un 45 .not (.t 44)⟩,
 ⟨some (43,true),.asg 46 (.t 45)⟩,
 ⟨some (46,false),.mov 47 (.t 15)⟩,
 ⟨some (46,false),.call 48 O4 [((.t 47),false)]⟩,
 ⟨some (43,true),.pick 49 (.t 46) (.c (.bool true)) (.t 48)⟩,
 un (.pick 50 (.t 43) (.t 49) (.c (.bool false)))]))
 (.drop [42,43,44,45,46,47,48,49] (.cond (.t 50) (.reg [un (.mov 51 (.t 12)),
 un (.mov 52 (.t 15)),
 un (.call 53 Cr [((.t 51),true),((.t 52),false)])])
 .skip)))
def Amv:ACode:=
 (.seq (.reg [un (.box 5 (.t 0)),
 un (.box 6 (.t 1)),
 un (.asg 10 (.c (.nilsl 1))),
 un (.asg 11 (.c (.bool false)))])
 (.seq (.reg [un (.ld 17 2 true (.t 5)),
 un (.ld 18 2 true (.t 6)),
 un (.mov 19 (.t 2)),
 un (.mov 20 (.t 3)),
 un (.mov 21 (.t 4)),
 un (.bsl 22 1 []),
 un (.bld 23 [.int .i64 0,.nilsl 2,.int .i64 0,.nilsl 2,.bool false,.bool false,.int .i64 0,.int .i64 0,.nilsl 1] [(0,2,(.t 17)),(2,2,(.t 18)),(4,1,(.t 19)),(5,1,(.t 20)),(6,1,(.t 21)),(8,1,(.t 22))]),
 un (.box 24 (.t 23)),
 un (.asg 12 (.t 24))])
 (.drop [17,18,19,20,21,22,23,24] (.seq (.reg [un (.bsl 25 1 []),
 un (.asg 13 (.t 25))])
 (.drop [25] (.seq (.seq (.reg [un (.asg 14 (.c (.int .i64 0)))])
 (.block 0 (.loop Wl)))
 (.drop [14,26,27,28,29,32,33,34,30,31] (.seq (.reg [un (.ld 36 2 true (.t 5)),
 un (.ld 37 2 true (.t 6)),
 un (.mov 38 (.t 13)),
 un (.call 39 Jo [((.t 36),false),((.t 37),false),((.t 38),false)]),
 un (.asg 35 (.t 39)),
 un (.ext 40 (.t 35) 0),
 un (.ext 41 (.t 35) 1),
 un (.asg 15 (.t 40)),
 un (.asg 16 (.t 41))])
 (.drop [36,37,38,39,35,40,41] (.seq (.cut Af8)
 (.drop [42,43,44,45,46,47,48,49,50,51,52,53] (.seq (.frz [12] (.dreg [(un (.mov 54 (.t 12)),[]),
 (un (.nck 55 (.t 54)),[]),
 (un (.fadr 56 8 (.t 55)),[]),
 (un (.ld 57 1 false (.t 56)),[]),
 (un (.mov 58 (.t 12)),[54,55,56,57,57]),
 (un (.nck 59 (.t 58)),[54,55,56,57,57]),
 (un (.fadr 60 7 (.t 59)),[54,55,56,57,57]),
 (un (.ld 61 1 false (.t 60)),[54,55,56,57,57]),
 (un (.bin 62 .leq (.t 61) (.c (.int .i64 5000))),[54,55,56,57,57]),
 (un (.asg 10 (.t 57)),[58,59,60,61,62])]
 [un (.asg 11 (.t 62))]))
 (.drop [54,55,56,57,58,59,60,61,62] .ret)))))))))))))
abbrev Am8:List RS:=[.t 10,.t 11]
theorem Aoh:A8 Try.prog Ku 63 Amv Am8=true:=by kernel_rfl
def Vi:ACode:=
 (.seq (.reg [un (.mov 32 (.t 4)),
 un (.bin 33 .eql (.t 32) (.c (.int .i64 4))),
 un (.asg 34 (.t 33)),
 ⟨some (34,true),.fadr 35 0 (.t 7)⟩,
 ⟨some (34,true),.ld 36 1 false (.t 35)⟩,
 ⟨some (34,true),.bin 37 .eql (.t 36) (.c (.int .i64 3))⟩,
 un (.pick 38 (.t 34) (.t 37) (.c (.bool false)))])
 (.drop [32,33,34,35,36,37] (.cond (.t 38) (.reg [un (.fadr 39 0 (.t 7)),
 un (.st 1 (.t 39) (.c (.int .i64 2)))])
 .skip)))
def L7:ACode:=
 (.seq (.seq (.reg [un (.mov 44 (.t 8)),
 un (.bin 45 .gtr (.t 44) (.c (.int .i64 0)))])
 (.drop [44] (.cond (.t 45) .skip
 (.exit 2))))
 (.drop [44,45] (.seq (.block 3 (.dreg [(un (.fadr 48 1 (.t 7)),[132,52]),
 (un (.ld 49 1 false (.t 48)),[132,52]),
 (un (.mov 50 (.t 0)),[48,49]),
 (un (.mov 51 (.t 4)),[48,49,50]),
 (un (.call 52 Au [((.t 50),true),((.t 51),false)]),[132,48,49]),
 (un (.bsl 53 1 [(.t 52)]),[48,49])]
 [un (.app 54 1 (.t 49) (.t 53)),
 un (.fadr 55 1 (.t 7)),
 un (.st 1 (.t 55) (.t 54))]))
 (.drop [48,49,50,51,52,53,54,55] (.reg [un (.mov 46 (.t 8)),
 un (.bin 47 .sub (.t 46) (.c (.int .i64 1))),
 un (.asg 8 (.t 47))])))))
def Mc:ACode:=
 (.seq (.seq (.reg [un (.mov 24 (.t 6)),
 un (.bin 25 .gtr (.t 24) (.c (.int .i64 0)))])
 (.drop [24] (.cond (.t 25) .skip
 (.exit 0))))
 (.drop [24,25] (.seq (.block 1 (.seq (.reg [un (.mov 28 (.t 0)),
 un (.bsl 29 1 [(.c (.int .i64 0)),(.c (.int .i64 1)),(.c (.int .i64 2)),(.c (.int .i64 2)),(.c (.int .i64 3))]),
 un (.call 30 Bn [((.t 28),true),((.t 29),false)]),
 un (.bld 31 [.int .i64 0,.nilsl 1] [(0,1,(.t 30))]),
 un (.alc 7 (.agg [.int .i64 0,.nilsl 1])),
 un (.st 2 (.t 7) (.t 31))])
 (.drop [28,29,30,31] (.seq (.cut Vi)
 (.drop [32,33,34,35,36,37,38,39] (.seq (.seq (.reg [un (.mov 40 (.t 4)),
 un (.fadr 41 0 (.t 7)),
 un (.ld 42 1 false (.t 41)),
 un (.call 43 Ms [((.t 40),false),((.t 42),false)]),
 un (.asg 8 (.t 43))])
 (.drop [40,41,42,43] (.block 2 (.loop L7))))
 (.drop [40,41,42,43,8,44,45,48,49,50,51,52,53,54,55,46,47] (.reg [un (.fadr 56 1 (.t 5)),
 un (.ld 57 1 false (.t 56)),
 un (.ld 58 2 true (.t 7)),
 un (.bsl 59 2 [(.t 58)]),
 un (.app 60 2 (.t 57) (.t 59)),
 un (.fadr 61 1 (.t 5)),
 un (.st 1 (.t 61) (.t 60))]))))))))
 (.drop [28,29,30,31,7,32,33,34,35,36,37,38,39,40,41,42,43,8,44,45,48,49,50,51,52,53,54,55,46,47,56,57,58,59,60,61] (.reg [un (.mov 26 (.t 6)),
 un (.bin 27 .sub (.t 26) (.c (.int .i64 1))),
 un (.asg 6 (.t 27))])))))
def L4:ACode:=
 (.seq (.seq (.dreg [(un (.fadr 116 1 (.t 5)),[132]),
 (un (.ld 117 1 false (.t 116)),[132]),
 (un (.len 118 (.t 117)),[132]),
 (un (.mov 119 (.t 0)),[116,117,118]),
 (un (.call 120 Au [((.t 119),true),((.c (.int .i64 2)),false)]),[132,116,117,118]),
 (un (.bin 121 .add (.c (.int .i64 4)) (.t 120)),[116,117,118])]
 [un (.bin 122 .lss (.t 118) (.t 121))])
 (.drop [116,117,118,119,120,121] (.cond (.t 122) .skip
 (.exit 5))))
 (.drop [116,117,118,119,120,121,122] (.block 6 (.dregl [(0,.fadr 123 1 (.t 5)),
 (1,.ld 124 1 false (.t 123)),
 (2,.mov 125 (.t 4))]
 (.alt 3 (.mk 126 1 (.int .i64 0) (.t 125)) [0,1,2] [] (.alt 4 (.bld 127 [.int .i64 0,.nilsl 1] [(0,1,(.c (.int .i64 1))),(1,1,(.t 126))]) [0,1] [] (.alt 5 (.bsl 128 2 [(.t 127)]) [0,1] [] (.alt 6 (.app 129 2 (.t 124) (.t 128)) [0,1] [124] (.alt 7 (.fadr 130 1 (.t 5)) [] [] (.alt 8 (.st 1 (.t 130) (.t 129)) [] [] .nil .nil) .nil) .nil) .nil) .nil) .nil)))))
def Zt:ACode:=
 (.seq (.reg [un (.alc 2 (.agg [.int .i64 0,.nilsl 2]))])
 (.seq (.seq (.reg [un (.mov 9 (.t 0)),
 un (.call 10 F1 [((.t 9),true),((.c (.int .i64 4)),false)]),
 un (.un 11 .not (.t 10))])
 (.drop [9,10] (.cond (.t 11) (.seq (.reg [un (.mov 12 (.t 0)),
 un (.call 13 Au [((.t 12),true),((.c (.int .i64 17)),false)]),
 un (.call 14 R2 [((.t 13),false)]),
 un (.alc 3 (.agg [.int .i64 0,.nilsl 2])),
 un (.st 2 (.t 3) (.t 14))])
 (.drop [12,13,14] (.seq (.reg [un (.ld 15 2 true (.t 3)),
 un (.st 2 (.t 2) (.t 15))])
 (.drop [15] .ret))))
 .skip)))
 (.drop [9,10,11,12,13,14,3,15] (.seq (.reg [un (.mov 16 (.t 0)),
 un (.bsl 17 1 [(.c (.int .i64 2)),(.c (.int .i64 2)),(.c (.int .i64 3)),(.c (.int .i64 3)),(.c (.int .i64 4))]),
 un (.call 18 Bn [((.t 16),true),((.t 17),false)]),
 un (.asg 4 (.t 18))])
 (.drop [16,17,18] (.seq (.reg [un (.mov 19 (.t 4)),
 un (.bld 20 [.int .i64 0,.nilsl 2] [(0,1,(.t 19))]),
 un (.alc 5 (.agg [.int .i64 0,.nilsl 2])),
 un (.st 2 (.t 5) (.t 20))])
 (.drop [19,20] (.seq (.seq (.reg [un (.mov 21 (.t 0)),
 un (.bsl 22 1 [(.c (.int .i64 1)),(.c (.int .i64 1)),(.c (.int .i64 2))]),
 un (.call 23 Bn [((.t 21),true),((.t 22),false)]),
 un (.asg 6 (.t 23))])
 (.drop [21,22,23] (.block 0 (.loop Mc))))
 (.drop [21,22,23,6,24,25,28,29,30,31,7,32,33,34,35,36,37,38,39,40,41,42,43,8,44,45,48,49,50,51,52,53,54,55,46,47,56,57,58,59,60,61,26,27] (.seq (.seq (.reg [un (.mov 62 (.t 0)),
 un (.call 63 Au [((.t 62),true),((.c (.int .i64 16)),false)])])
 (.drop [62] (.block 4 (.seq (.reg [un (.bin 65 .eql (.t 63) (.c (.int .i64 0))),
 un (.asg 64 (.t 65))])
 (.drop [65] (.cond (.t 64) (.reg [un (.mov 66 (.t 0)),
 un (.mov 67 (.t 4)),
 un (.bin 68 .add (.t 67) (.c (.int .i64 1))),
 un (.bsl 69 1 [(.c (.int .i64 0)),(.c (.int .i64 9)),(.t 68)]),
 un (.call 70 Bn [((.t 66),true),((.t 69),false)]),
 un (.fadr 71 0 (.t 5)),
 un (.st 1 (.t 71) (.t 70))])
 (.seq (.reg [un (.bin 73 .eql (.t 63) (.c (.int .i64 1))),
 un (.asg 72 (.t 73))])
 (.drop [73] (.cond (.t 72) (.dregl [(0,.fadr 74 1 (.t 5)),
 (1,.ld 75 1 false (.t 74)),
 (2,.fadr 76 1 (.t 5)),
 (3,.ld 77 1 false (.t 76)),
 (4,.iad 78 2 (.t 77) (.c (.int .i64 0))),
 (5,.fadr 79 1 (.t 78)),
 (6,.ld 80 1 false (.t 79))]
 (.alt 7 (.bsl 81 1 [(.c (.int .i64 0))]) [0,1,2,3,4,5,6] [] (.alt 8 (.app 82 1 (.t 80) (.t 81)) [0,1,2,3,4,5,6] [80] (.alt 9 (.iad 83 2 (.t 75) (.c (.int .i64 0))) [0,1] [] (.alt 10 (.fadr 84 1 (.t 83)) [] [] (.alt 11 (.st 1 (.t 84) (.t 82)) [] [] .nil .nil) .nil) .nil) .nil) .nil))
 (.seq (.reg [un (.bin 86 .eql (.t 63) (.c (.int .i64 2))),
 un (.asg 85 (.t 86))])
 (.drop [86] (.cond (.t 85) (.dregl [(0,.fadr 87 1 (.t 5)),
 (1,.ld 88 1 false (.t 87)),
 (2,.iad 89 2 (.t 88) (.c (.int .i64 0))),
 (3,.fadr 90 1 (.t 89)),
 (4,.ld 91 1 false (.t 90)),
 (5,.mov 92 (.t 0)),
 (6,.fadr 93 1 (.t 5)),
 (7,.ld 94 1 false (.t 93)),
 (8,.iad 95 2 (.t 94) (.c (.int .i64 0))),
 (9,.fadr 96 1 (.t 95)),
 (10,.ld 97 1 false (.t 96)),
 (13,.mov 100 (.t 0)),
 (14,.mov 101 (.t 4))]
 (.alt 11 (.len 98 (.t 97)) [0,1,2,3,4,5,6,7,8,9,10,13,14] [] (.alt 12 (.call 99 Au [((.t 92),true),((.t 98),false)]) [0,1,2,3,4,5,13,14] [] (.alt 15 (.bsl 102 1 [(.c (.int .i64 (-1))),(.t 101)]) [0,1,2,3,4,13,14] [] (.alt 16 (.call 103 Bn [((.t 100),true),((.t 102),false)]) [0,1,2,3,4,13] [] (.alt 17 (.iad 104 1 (.t 91) (.t 99)) [0,1,2,3,4] [] (.alt 18 (.st 1 (.t 104) (.t 103)) [] [] .nil .nil) .nil) .nil) .nil) (.alt 15 (.bsl 102 1 [(.c (.int .i64 (-1))),(.t 101)]) [0,1,2,3,4,5,13,14] [] (.alt 12 (.call 99 Au [((.t 92),true),((.t 98),false)]) [0,1,2,3,4,5,13] [] (.alt 16 (.call 103 Bn [((.t 100),true),((.t 102),false)]) [0,1,2,3,4,13] [] (.alt 17 (.iad 104 1 (.t 91) (.t 99)) [0,1,2,3,4] [] (.alt 18 (.st 1 (.t 104) (.t 103)) [] [] .nil .nil) .nil) .nil) .nil) .nil)) (.alt 15 (.bsl 102 1 [(.c (.int .i64 (-1))),(.t 101)]) [0,1,2,3,4,5,6,7,8,9,10,13,14] [] (.alt 11 (.len 98 (.t 97)) [0,1,2,3,4,5,6,7,8,9,10,13] [] (.alt 12 (.call 99 Au [((.t 92),true),((.t 98),false)]) [0,1,2,3,4,5,13] [] (.alt 16 (.call 103 Bn [((.t 100),true),((.t 102),false)]) [0,1,2,3,4,13] [] (.alt 17 (.iad 104 1 (.t 91) (.t 99)) [0,1,2,3,4] [] (.alt 18 (.st 1 (.t 104) (.t 103)) [] [] .nil .nil) .nil) .nil) .nil) .nil) .nil)))
 (.seq (.reg [un (.bin 106 .eql (.t 63) (.c (.int .i64 3))),
 un (.asg 105 (.t 106))])
 (.drop [106] (.cond (.t 105) (.dregl [(0,.fadr 107 1 (.t 5)),
 (1,.ld 108 1 false (.t 107)),
 (2,.mov 109 (.t 0))]
 (.alt 3 (.bsl 110 1 [(.c (.int .i64 (-1))),(.c (.int .i64 4))]) [0,1,2] [] (.alt 4 (.call 111 Bn [((.t 109),true),((.t 110),false)]) [0,1,2] [] (.alt 5 (.iad 112 2 (.t 108) (.c (.int .i64 0))) [0,1] [] (.alt 6 (.fadr 113 0 (.t 112)) [] [] (.alt 7 (.st 1 (.t 113) (.t 111)) [] [] .nil .nil) .nil) .nil) .nil) .nil))
 (.seq (.reg [un (.bin 115 .eql (.t 63) (.c (.int .i64 4))),
 un (.asg 114 (.t 115))])
 (.drop [115] (.cond (.t 114) (.block 5 (.loop L4))
 .skip))))))))))))))))))
 (.drop [62,63,65,64,66,67,68,69,70,71,73,72,74,75,76,77,78,79,80,81,82,83,84,86,85,87,88,89,90,91,92,93,94,95,96,97,98,99,100,101,102,103,104,106,105,107,108,109,110,111,112,113,115,114,116,117,118,119,120,121,122,123,124,125,126,127,128,129,130] (.seq (.reg [un (.ld 131 2 true (.t 5)),
 un (.st 2 (.t 2) (.t 131))])
 (.drop [131] .ret)))))))))))))
abbrev Zi:List RS:=[.c 2 2 true]
theorem Aaj:A8 Try.prog E9 132 Zt Zi=true:=by kernel_rfl
def Mp:ACode:=
 (.seq (.seq (.reg [un (.mov 9 (.t 6)),
 un (.mov 10 (.t 1)),
 un (.bin 11 .lss (.t 9) (.t 10))])
 (.drop [9,10] (.cond (.t 11) .skip
 (.exit 0))))
 (.drop [9,10,11] (.seq (.block 1 (.seq (.reg [un (.mov 14 (.t 0)),
 un (.mov 15 (.t 5)),
 un (.len 16 (.t 15)),
 un (.bin 17 .add (.t 16) (.c (.int .i64 1))),
 un (.call 18 Au [((.t 14),true),((.t 17),false)]),
 un (.asg 7 (.t 18))])
 (.drop [14,15,16,17,18] (.frz [5] (.dreg [(un (.bsl 19 1 []),[24]),
 (un (.mov 20 (.t 5)),[19,24]),
 (un (.mov 21 (.t 7)),[19,20,24]),
 (un (.slc 22 1 (.t 20) none (some (.t 21))),[19,24]),
 (un (.app 23 1 (.t 19) (.t 22)),[24]),
 (un (.mov 24 (.t 6)),[19,20,21,22,23,19]),
 (un (.bsl 25 1 [(.t 24)]),[19,20,21,22,23,19]),
 (un (.app 26 1 (.t 23) (.t 25)),[19,24]),
 (un (.mov 27 (.t 5)),[19,20,21,22,23,24,25,26,19,24,23]),
 (un (.mov 28 (.t 7)),[19,20,21,22,23,24,25,26,27,19,24,23]),
 (un (.slc 29 1 (.t 27) (some (.t 28)) none),[19,20,21,22,23,24,25,26,19,24,23])]
 [un (.app 30 1 (.t 26) (.t 29)),
 un (.asg 5 (.t 30))])))))
 (.drop [14,15,16,17,18,7,19,20,21,22,23,24,25,26,27,28,29,30] (.reg [un (.mov 12 (.t 6)),
 un (.bin 13 .add (.t 12) (.c (.int .i64 1))),
 un (.asg 6 (.t 13))])))))
def Aa9:ACode:=
 (.seq (.reg [un (.asg 4 (.c (.nilsl 1)))])
 (.seq (.reg [un (.bsl 8 1 []),
 un (.asg 5 (.t 8))])
 (.drop [8] (.seq (.seq (.reg [un (.asg 6 (.c (.int .i64 0)))])
 (.block 0 (.loop Mp)))
 (.drop [6,9,10,11,14,15,16,17,18,7,19,20,21,22,23,24,25,26,27,28,29,30,12,13] (.seq (.seq (.reg [un (.mov 31 (.t 0)),
 un (.call 32 Au [((.t 31),true),((.c (.int .i64 24)),false)])])
 (.drop [31] (.block 2 (.seq (.reg [un (.bin 34 .eql (.t 32) (.c (.int .i64 0))),
 un (.asg 33 (.t 34))])
 (.drop [34] (.cond (.t 33) (.reg [un (.mov 35 (.t 5)),
 un (.mov 36 (.t 1)),
 un (.bsl 37 1 [(.t 36)]),
 un (.app 38 1 (.t 35) (.t 37)),
 un (.asg 5 (.t 38))])
 (.seq (.reg [un (.bin 40 .eql (.t 32) (.c (.int .i64 1))),
 un (.asg 39 (.t 40))])
 (.drop [40] (.cond (.t 39) (.seq (.reg [un (.mov 41 (.t 1)),
 un (.bin 42 .gtr (.t 41) (.c (.int .i64 0)))])
 (.drop [41] (.cond (.t 42) (.reg [un (.mov 43 (.t 5)),
 un (.mov 44 (.t 0)),
 un (.mov 45 (.t 1)),
 un (.call 46 Au [((.t 44),true),((.t 45),false)]),
 un (.mov 47 (.t 0)),
 un (.mov 48 (.t 1)),
 un (.bsl 49 1 [(.c (.int .i64 0)),(.c (.int .i64 (-1))),(.t 48)]),
 un (.call 50 Bn [((.t 47),true),((.t 49),false)]),
 un (.iad 51 1 (.t 43) (.t 46)),
 un (.st 1 (.t 51) (.t 50))])
 .skip)))
 .skip)))))))))
 (.drop [31,32,34,33,35,36,37,38,40,39,41,42,43,44,45,46,47,48,49,50,51] (.seq (.reg [un (.mov 52 (.t 5)),
 un (.asg 4 (.t 52))])
 (.drop [52] .ret)))))))))
abbrev Abf:List RS:=[.t 4]
theorem Aa8:A8 Try.prog Kq 53 Aa9 Abf=true:=by kernel_rfl
def Aep:ACode:=
 (.seq (.reg [un (.asg 4 (.c (.bool false)))])
 (.seq (.seq (.reg [un (.ld 5 1 false (.t 1)),
 un (.mov 6 (.t 0)),
 un (.cally 7 (.t 5) [(.t 6)] [])])
 (.drop [5,6] (.cond (.t 7) (.seq (.reg [un (.mov 8 (.t 0)),
 un (.call 9 Kd [((.t 8),false)]),
 un (.st 1 (.t 2) (.t 9))])
 (.drop [8,9] (.seq (.reg [un (.asg 4 (.c (.bool false)))])
 .ret)))
 .skip)))
 (.drop [5,6,7,8,9] (.seq (.reg [un (.asg 4 (.c (.bool true)))])
 .ret))))
abbrev Ad6:List RS:=[.t 4]
theorem Adl:A8 Try.prog Gw 10 Aep Ad6=true:=by kernel_rfl
def Atv:ACode:=
 (.seq (.reg [un (.box 2 (.t 0)),
 un (.asg 4 (.c (.bool false)))])
 (.seq (.reg [un (.mov 5 (.t 1)),
 un (.fadr 6 0 (.t 2)),
 un (.ld 7 1 false (.t 6)),
 un (.bin 8 .sub (.t 7) (.c (.int .i64 1))),
 un (.call 9 Qv [((.t 5),false),((.c (.int .i64 0)),false),((.t 8),false)]),
 un (.asg 10 (.t 9)),
 ⟨some (10,true),.ld 11 2 true (.t 2)⟩,
 ⟨some (10,true),.mov 12 (.t 1)⟩,
 ⟨some (10,true),.call 13 Sc [((.t 11),false),((.t 12),false)]⟩,
 ⟨some (10,true),.mov 14 (.t 1)⟩,
 ⟨some (10,true),.call 15 O9 [((.t 13),false),((.t 14),false)]⟩,
 un (.pick 16 (.t 10) (.t 15) (.c (.bool false))),
 un (.asg 4 (.t 16))])
 (.drop [5,6,7,8,9,10,11,12,13,14,15,16] .ret)))
abbrev Atp:List RS:=[.t 4]
theorem Aty:A8 Try.prog Zx 17 Atv Atp=true:=by kernel_rfl
def Ah1:ACode:=
 (.seq (.reg [un (.box 2 (.t 0)),
 un (.box 3 (.t 1)),
 un (.asg 4 (.c (.bool false))),
 un (.asg 5 (.c (.bool false)))])
 (.seq (.seq (.reg [un (.ld 6 2 true (.t 2)),
 un (.call 7 F0 [((.t 6),false)]),
 un (.un 8 .not (.t 7)),
 un (.asg 9 (.t 8)),
 ⟨some (9,false),.ld 10 2 true (.t 3)⟩,
 ⟨some (9,false),.call 11 F0 [((.t 10),false)]⟩,
 ⟨some (9,false),.un 12 .not (.t 11)⟩,
 un (.pick 13 (.t 9) (.c (.bool true)) (.t 12))])
 (.drop [6,7,8,9,10,11,12] (.cond (.t 13) (.seq (.reg [un (.asg 4 (.c (.bool false))),
 un (.asg 5 (.c (.bool false)))])
 .ret)
 .skip)))
 (.drop [6,7,8,9,10,11,12,13] (.seq (.dreg [(un (.ld 14 2 true (.t 2)),[]),
 (un (.call 15 O7 [((.t 14),false)]),[]),
 (un (.ld 16 2 true (.t 3)),[14,15])]
 [un (.call 17 O7 [((.t 16),false)]),
 un (.call 18 Qh [((.t 15),false),((.t 17),false)]),
 un (.asg 4 (.t 18)),
 un (.asg 5 (.c (.bool true)))])
 (.drop [14,15,16,17,18] .ret)))))
abbrev Aiz:List RS:=[.t 4,.t 5]
theorem Aik:A8 Try.prog Qm 19 Ah1 Aiz=true:=by kernel_rfl
def Al4:ACode:=
 (.seq (.reg [un (.box 2 (.t 0)),
 un (.box 3 (.t 1)),
 un (.asg 4 (.c (.nilsl 1))),
 un (.asg 5 (.c (.bool false)))])
 (.seq (.seq (.reg [un (.ld 8 2 true (.t 2)),
 un (.ld 9 2 true (.t 3)),
 un (.call 10 Kh [((.t 8),false),((.t 9),false)]),
 un (.un 11 .not (.t 10))])
 (.drop [8,9,10] (.cond (.t 11) (.seq (.reg [un (.bsl 12 1 []),
 un (.asg 4 (.t 12)),
 un (.asg 5 (.c (.bool false)))])
 (.drop [12] .ret))
 .skip)))
 (.drop [8,9,10,11,12] (.seq (.reg [un (.ld 14 2 true (.t 2)),
 un (.ld 15 2 true (.t 3)),
 un (.call 16 Ku [((.t 14),false),((.t 15),false),((.c (.bool false)),false),((.c (.bool false)),false),((.c (.int .i64 301)),false)]),
 un (.asg 13 (.t 16)),
 un (.ext 17 (.t 13) 0),
 un (.ext 18 (.t 13) 1),
 un (.asg 6 (.t 17)),
 un (.asg 7 (.t 18))])
 (.drop [14,15,16,13,17,18] (.seq (.seq (.reg [un (.mov 19 (.t 7)),
 un (.un 20 .not (.t 19)),
 un (.asg 21 (.t 20)),
 ⟨some (21,false),.mov 22 (.t 6)⟩,
 ⟨some (21,false),.len 23 (.t 22)⟩,
 ⟨some (21,false),.bin 24 .gtr (.t 23) (.c (.int .i64 300))⟩,
 un (.pick 25 (.t 21) (.c (.bool true)) (.t 24))])
 (.drop [19,20,21,22,23,24] (.cond (.t 25) (.seq (.reg [un (.bsl 26 1 []),
 un (.asg 4 (.t 26)),
 un (.asg 5 (.c (.bool false)))])
 (.drop [26] .ret))
 .skip)))
 (.drop [19,20,21,22,23,24,25,26] (.seq (.reg [un (.mov 27 (.t 6)),
 un (.asg 4 (.t 27)),
 un (.asg 5 (.c (.bool true)))])
 (.drop [27] .ret)))))))))
abbrev Aku:List RS:=[.t 4,.t 5]
theorem Akc:A8 Try.prog Ry 28 Al4 Aku=true:=by kernel_rfl
def W9:ACode:=
 (.seq (.reg [un (.ld 9 2 true (.t 3)),
 un (.ld 10 2 true (.t 4)),
 un (.call 11 Kh [((.t 9),false),((.t 10),false)]),
 un (.un 12 .not (.t 11)),
 un (.asg 13 (.t 12)),
 ⟨some (13,false),.mov 14 (.t 2)⟩,
 ⟨some (13,false),.len 15 (.t 14)⟩,
 ⟨some (13,false),.fadr 16 0 (.t 3)⟩,
 ⟨some (13,false),.ld 17 1 false (.t 16)⟩,
 ⟨some (13,false),.bin 18 .neq (.t 15) (.t 17)⟩,
 un (.pick 19 (.t 13) (.c (.bool true)) (.t 18))])
 (.drop [9,10,11,12,13,14,15,16,17,18] (.cond (.t 19) (.seq (.reg [un (.bsl 20 1 []),
 un (.asg 6 (.t 20)),
 un (.asg 7 (.c (.bool false)))])
 (.drop [20] .ret))
 .skip)))
def Ml:ACode:=
 (.seq (.seq (.reg [un (.mov 21 (.t 8)),
 un (.mov 22 (.t 2)),
 un (.len 23 (.t 22)),
 un (.bin 24 .lss (.t 21) (.t 23))])
 (.drop [21,22,23] (.cond (.t 24) .skip
 (.exit 0))))
 (.drop [21,22,23,24] (.seq (.block 1 (.seq (.dreg [(un (.mov 27 (.t 2)),[]),
 (un (.mov 28 (.t 8)),[27]),
 (un (.iad 29 1 (.t 27) (.t 28)),[]),
 (un (.ld 30 1 false (.t 29)),[]),
 (un (.fadr 31 0 (.t 4)),[27,28,29,30]),
 (un (.ld 32 1 false (.t 31)),[27,28,29,30]),
 (un (.bin 33 .sub (.t 32) (.c (.int .i64 1))),[27,28,29,30])]
 [un (.call 34 Hs [((.t 30),false),((.c (.int .i64 (-1))),false),((.t 33),false)]),
 un (.un 35 .not (.t 34))])
 (.drop [27,28,29,30,31,32,33,34] (.cond (.t 35) (.seq (.reg [un (.bsl 36 1 []),
 un (.asg 6 (.t 36)),
 un (.asg 7 (.c (.bool false)))])
 (.drop [36] .ret))
 .skip))))
 (.drop [27,28,29,30,31,32,33,34,35,36] (.reg [un (.mov 25 (.t 8)),
 un (.bin 26 .add (.t 25) (.c (.int .i64 1))),
 un (.asg 8 (.t 26))])))))
def Aa7:ACode:=
 (.seq (.reg [un (.box 3 (.t 0)),
 un (.box 4 (.t 1)),
 un (.asg 6 (.c (.nilsl 1))),
 un (.asg 7 (.c (.bool false)))])
 (.seq (.cut W9)
 (.drop [9,10,11,12,13,14,15,16,17,18,19,20] (.seq (.seq (.reg [un (.asg 8 (.c (.int .i64 0)))])
 (.block 0 (.loop Ml)))
 (.drop [8,21,22,23,24,27,28,29,30,31,32,33,34,35,36,25,26] (.seq (.reg [un (.ld 37 2 true (.t 3)),
 un (.ld 38 2 true (.t 4)),
 un (.mov 39 (.t 2)),
 un (.call 40 Jo [((.t 37),false),((.t 38),false),((.t 39),false)]),
 un (.ext 41 (.t 40) 0),
 un (.ext 42 (.t 40) 1),
 un (.asg 6 (.t 41)),
 un (.asg 7 (.t 42))])
 (.drop [37,38,39,40,41,42] .ret)))))))
abbrev Abi:List RS:=[.t 6,.t 7]
theorem Abb:A8 Try.prog Kr 43 Aa7 Abi=true:=by kernel_rfl
def Ap3:ACode:=
 (.seq (.reg [un (.box 4 (.t 0)),
 un (.box 5 (.t 1)),
 un (.asg 8 (.c (.nilsl 1))),
 un (.asg 9 (.c (.bool false)))])
 (.seq (.reg [un (.ld 13 2 true (.t 4)),
 un (.ld 14 2 true (.t 5)),
 un (.mov 15 (.t 2)),
 un (.mov 16 (.t 3)),
 un (.call 17 Ku [((.t 13),false),((.t 14),false),((.t 15),false),((.t 16),false),((.c (.int .i64 1)),false)]),
 un (.asg 12 (.t 17)),
 un (.ext 18 (.t 12) 0),
 un (.ext 19 (.t 12) 1),
 un (.asg 10 (.t 18)),
 un (.asg 11 (.t 19))])
 (.drop [13,14,15,16,17,12,18,19] (.seq (.seq (.reg [un (.mov 20 (.t 11)),
 un (.un 21 .not (.t 20)),
 un (.asg 22 (.t 21)),
 ⟨some (22,false),.mov 23 (.t 10)⟩,
 ⟨some (22,false),.len 24 (.t 23)⟩,
 ⟨some (22,false),.bin 25 .eql (.t 24) (.c (.int .i64 0))⟩,
 un (.pick 26 (.t 22) (.c (.bool true)) (.t 25))])
 (.drop [20,21,22,23,24,25] (.cond (.t 26) (.seq (.reg [un (.bsl 27 1 []),
 un (.asg 8 (.t 27)),
 un (.asg 9 (.c (.bool false)))])
 (.drop [27] .ret))
 .skip)))
 (.drop [20,21,22,23,24,25,26,27] (.seq (.reg [un (.mov 28 (.t 10)),
 un (.iad 29 1 (.t 28) (.c (.int .i64 0))),
 un (.ld 30 1 false (.t 29)),
 un (.asg 8 (.t 30)),
 un (.asg 9 (.c (.bool true)))])
 (.drop [28,29,30] .ret)))))))
abbrev Aqu:List RS:=[.t 8,.t 9]
theorem Asm:A8 Try.prog Rb 31 Ap3 Aqu=true:=by kernel_rfl
def Aah:ACode:=
 (.seq (.reg [un (.ld 12 2 true (.t 4)),
 un (.call 13 Fu [((.t 12),false)]),
 un (.un 14 .not (.t 13)),
 un (.asg 15 (.t 14)),
 ⟨some (15,false),.ld 16 2 true (.t 5)⟩,
 ⟨some (15,false),.call 17 Fu [((.t 16),false)]⟩,
 ⟨some (15,false),.un 18 .not (.t 17)⟩,
 un (.pick 19 (.t 15) (.c (.bool true)) (.t 18))])
 (.drop [12,13,14,15,16,17,18] (.cond (.t 19) (.seq (.reg [un (.mov 20 (.t 7)),
 un (.asg 6 (.t 20))])
 (.drop [20] .ret))
 .skip)))
def Pl:ACode:=
 (.seq (.seq (.reg [un (.mov 21 (.t 8)),
 un (.fadr 22 0 (.t 4)),
 un (.ld 23 1 false (.t 22)),
 un (.bin 24 .lss (.t 21) (.t 23))])
 (.drop [21,22,23] (.cond (.t 24) .skip
 (.exit 0))))
 (.drop [21,22,23,24] (.seq (.block 1 (.reg [un (.mov 27 (.t 7)),
 un (.mov 28 (.t 0)),
 un (.fadr 29 0 (.t 5)),
 un (.ld 30 1 false (.t 29)),
 un (.call 31 Au [((.t 28),true),((.t 30),false)]),
 un (.bsl 32 1 [(.t 31)]),
 un (.app 33 1 (.t 27) (.t 32)),
 un (.asg 7 (.t 33))]))
 (.drop [27,28,29,30,31,32,33] (.reg [un (.mov 25 (.t 8)),
 un (.bin 26 .add (.t 25) (.c (.int .i64 1))),
 un (.asg 8 (.t 26))])))))
def Zc:ACode:=
 (.reg [un (.ld 34 2 true (.t 4)),
 un (.ld 35 2 true (.t 5)),
 un (.call 36 K8 [((.t 34),false),((.t 35),false)]),
 un (.asg 37 (.t 36)),
 ⟨some (37,true),.mov 38 (.t 0)⟩,
 ⟨some (37,true),.call 39 F1 [((.t 38),true),((.c (.int .i64 3)),false)]⟩,
 ⟨some (37,true),.un 40 .not (.t 39)⟩,
 un (.pick 41 (.t 37) (.t 40) (.c (.bool false)))])
def Z9:ACode:=
 (.seq (.cut Zc)
 (.drop [34,35,36,37,38,39,40] (.cond (.t 41) (.seq (.reg [un (.ld 43 2 true (.t 4)),
 un (.ld 44 2 true (.t 5)),
 un (.call 45 Ku [((.t 43),false),((.t 44),false),((.c (.bool false)),false),((.c (.bool false)),false),((.c (.int .i64 8)),false)]),
 un (.asg 42 (.t 45)),
 un (.ext 46 (.t 42) 0),
 un (.ext 47 (.t 42) 1),
 un (.asg 9 (.t 46)),
 un (.asg 10 (.t 47))])
 (.drop [43,44,45,42,46,47,10] (.seq (.reg [un (.mov 48 (.t 9)),
 un (.len 49 (.t 48)),
 un (.bin 50 .gtr (.t 49) (.c (.int .i64 0)))])
 (.drop [48,49] (.cond (.t 50) (.reg [un (.mov 51 (.t 9)),
 un (.mov 52 (.t 0)),
 un (.mov 53 (.t 9)),
 un (.len 54 (.t 53)),
 un (.call 55 Au [((.t 52),true),((.t 54),false)]),
 un (.iad 56 1 (.t 51) (.t 55)),
 un (.ld 57 1 false (.t 56)),
 un (.call 58 Kk [((.t 57),false)]),
 un (.asg 7 (.t 58))])
 .skip)))))
 .skip)))
def Ae5:ACode:=
 (.seq (.reg [un (.box 4 (.t 1)),
 un (.box 5 (.t 2)),
 un (.asg 6 (.c (.nilsl 1)))])
 (.seq (.reg [un (.bsl 11 1 []),
 un (.asg 7 (.t 11))])
 (.drop [11] (.seq (.cut Aah)
 (.drop [12,13,14,15,16,17,18,19,20] (.seq (.seq (.reg [un (.asg 8 (.c (.int .i64 0)))])
 (.block 0 (.loop Pl)))
 (.drop [8,21,22,23,24,27,28,29,30,31,32,33,25,26] (.seq (.cut Z9)
 (.drop [34,35,36,37,38,39,40,41,43,44,45,42,46,47,9,10,48,49,50,51,52,53,54,55,56,57,58] (.seq (.seq (.reg [un (.mov 59 (.t 0)),
 un (.call 60 Au [((.t 59),true),((.c (.int .i64 24)),false)])])
 (.drop [59] (.block 2 (.seq (.reg [un (.bin 62 .eql (.t 60) (.c (.int .i64 0))),
 un (.asg 61 (.t 62))])
 (.drop [62] (.cond (.t 61) (.reg [un (.mov 63 (.t 7)),
 un (.bsl 64 1 [(.c (.int .i64 0))]),
 un (.app 65 1 (.t 63) (.t 64)),
 un (.asg 7 (.t 65))])
 (.seq (.reg [un (.bin 67 .eql (.t 60) (.c (.int .i64 1))),
 un (.asg 66 (.t 67))])
 (.drop [67] (.cond (.t 66) (.dregl [(0,.mov 68 (.t 7)),
 (1,.mov 69 (.t 0)),
 (2,.mov 70 (.t 7)),
 (5,.mov 73 (.t 0)),
 (6,.fadr 74 0 (.t 5)),
 (7,.ld 75 1 false (.t 74))]
 (.alt 3 (.len 71 (.t 70)) [0,1,2,5,6,7] [] (.alt 4 (.call 72 Au [((.t 69),true),((.t 71),false)]) [0,1,5,6,7] [] (.alt 8 (.bsl 76 1 [(.c (.int .i64 (-1))),(.t 75),(.c (.int .i64 1099511627776))]) [0,5,6,7] [] (.alt 9 (.call 77 Bn [((.t 73),true),((.t 76),false)]) [0,5] [] (.alt 10 (.iad 78 1 (.t 68) (.t 72)) [0] [] (.alt 11 (.st 1 (.t 78) (.t 77)) [] [] .nil .nil) .nil) .nil) .nil) (.alt 8 (.bsl 76 1 [(.c (.int .i64 (-1))),(.t 75),(.c (.int .i64 1099511627776))]) [0,1,5,6,7] [] (.alt 4 (.call 72 Au [((.t 69),true),((.t 71),false)]) [0,1,5] [] (.alt 9 (.call 77 Bn [((.t 73),true),((.t 76),false)]) [0,5] [] (.alt 10 (.iad 78 1 (.t 68) (.t 72)) [0] [] (.alt 11 (.st 1 (.t 78) (.t 77)) [] [] .nil .nil) .nil) .nil) .nil) .nil)) (.alt 8 (.bsl 76 1 [(.c (.int .i64 (-1))),(.t 75),(.c (.int .i64 1099511627776))]) [0,1,2,5,6,7] [] (.alt 3 (.len 71 (.t 70)) [0,1,2,5] [] (.alt 4 (.call 72 Au [((.t 69),true),((.t 71),false)]) [0,1,5] [] (.alt 9 (.call 77 Bn [((.t 73),true),((.t 76),false)]) [0,5] [] (.alt 10 (.iad 78 1 (.t 68) (.t 72)) [0] [] (.alt 11 (.st 1 (.t 78) (.t 77)) [] [] .nil .nil) .nil) .nil) .nil) .nil) .nil)))
 .skip)))))))))
 (.drop [59,60,62,61,63,64,65,67,66,68,69,70,71,72,73,74,75,76,77,78] (.seq (.reg [un (.mov 79 (.t 7)),
 un (.asg 6 (.t 79))])
 (.drop [79] .ret)))))))))))))
abbrev Aej:List RS:=[.t 6]
theorem Aen:A8 Try.prog Mq 80 Ae5 Aej=true:=by kernel_rfl
def X6:ACode:=
 (.seq (.seq (.reg [un (.mov 7 (.t 4)),
 un (.fadr 8 0 (.t 1)),
 un (.ld 9 1 false (.t 8)),
 un (.bin 10 .shl (.c (.int .i64 1)) (.t 9)),
 un (.bin 11 .lss (.t 7) (.t 10))])
 (.drop [7,8,9,10] (.cond (.t 11) .skip
 (.exit 0))))
 (.drop [7,8,9,10,11] (.seq (.block 1 (.seq (.reg [un (.mov 14 (.t 4)),
 un (.call 15 Up [((.t 14),false)]),
 un (.asg 5 (.t 15))])
 (.drop [14,15] (.seq (.reg [un (.ld 16 2 true (.t 1)),
 un (.mov 17 (.t 5)),
 un (.call 18 Zx [((.t 16),false),((.t 17),false)])])
 (.drop [16,17] (.cond (.t 18) (.frz [3,5] (.reg [un (.mov 19 (.t 3)),
 un (.mov 20 (.t 5)),
 un (.call 21 Ul [((.t 19),false),((.t 20),false)]),
 un (.asg 3 (.t 21))]))
 .skip))))))
 (.drop [14,15,5,16,17,18,19,20,21] (.reg [un (.mov 12 (.t 4)),
 un (.bin 13 .add (.t 12) (.c (.int .i64 1))),
 un (.asg 4 (.t 13))])))))
def Ari:ACode:=
 (.seq (.reg [un (.box 1 (.t 0)),
 un (.asg 2 (.c (.nilsl 1)))])
 (.seq (.reg [un (.bsl 6 1 []),
 un (.asg 3 (.t 6))])
 (.drop [6] (.seq (.seq (.reg [un (.asg 4 (.c (.int .i64 0)))])
 (.block 0 (.loop X6)))
 (.drop [4,7,8,9,10,11,14,15,5,16,17,18,19,20,21,12,13] (.seq (.reg [un (.mov 22 (.t 3)),
 un (.asg 2 (.t 22))])
 (.drop [22] .ret)))))))
abbrev Ar7:List RS:=[.t 2]
theorem Aqk:A8 Try.prog Xk 23 Ari Ar7=true:=by kernel_rfl
def Arl:ACode:=
 (.seq (.reg [un (.box 2 (.t 0)),
 un (.box 3 (.t 1)),
 un (.asg 4 (.c (.bool false)))])
 (.seq (.reg [un (.ld 8 2 true (.t 2)),
 un (.ld 9 2 true (.t 3)),
 un (.call 10 Qm [((.t 8),false),((.t 9),false)]),
 un (.asg 7 (.t 10)),
 un (.ext 11 (.t 7) 0),
 un (.ext 12 (.t 7) 1),
 un (.asg 5 (.t 11)),
 un (.asg 6 (.t 12))])
 (.drop [8,9,10,7,11,12] (.seq (.reg [un (.mov 13 (.t 6)),
 un (.asg 14 (.t 13)),
 ⟨some (14,true),.mov 15 (.t 5)⟩,
 un (.pick 16 (.t 14) (.t 15) (.c (.bool false))),
 un (.asg 4 (.t 16))])
 (.drop [13,14,15,16] .ret)))))
abbrev Arh:List RS:=[.t 4]
theorem Aqg:A8 Try.prog Xs 17 Arl Arh=true:=by kernel_rfl
def J6:ACode:=
 (.seq (.seq (.reg [un (.mov 8 (.t 5)),
 un (.mov 9 (.t 1)),
 un (.len 10 (.t 9)),
 un (.bin 11 .lss (.t 8) (.t 10)),
 un (.asg 12 (.t 11)),
 ⟨some (12,true),.mov 13 (.t 1)⟩,
 ⟨some (12,true),.mov 14 (.t 5)⟩,
 ⟨some (12,true),.iad 15 1 (.t 13) (.t 14)⟩,
 ⟨some (12,true),.ld 16 1 false (.t 15)⟩,
 ⟨some (12,true),.bin 17 .geq (.t 16) (.c (.int .i64 0))⟩,
 un (.pick 18 (.t 12) (.t 17) (.c (.bool false)))])
 (.drop [8,9,10,11,12,13,14,15,16,17] (.cond (.t 18) .skip
 (.exit 0))))
 (.drop [8,9,10,11,12,13,14,15,16,17,18] (.block 1 (.reg [un (.mov 19 (.t 5)),
 un (.bin 20 .add (.t 19) (.c (.int .i64 1))),
 un (.asg 5 (.t 20))]))))
def Jh:ACode:=
 (.seq (.seq (.reg [un (.mov 31 (.t 6)),
 un (.mov 32 (.t 0)),
 un (.nck 33 (.t 32)),
 un (.fadr 34 2 (.t 33)),
 un (.fadr 35 0 (.t 34)),
 un (.ld 36 1 false (.t 35)),
 un (.bin 37 .lss (.t 31) (.t 36))])
 (.drop [31,32,33,34,35,36] (.cond (.t 37) .skip
 (.exit 2))))
 (.drop [31,32,33,34,35,36,37] (.seq (.block 3 (.seq (.seq (.reg [un (.mov 40 (.t 0)),
 un (.nck 41 (.t 40)),
 un (.fadr 42 5 (.t 41)),
 un (.ld 43 1 false (.t 42)),
 un (.bin 44 .add (.t 43) (.c (.int .i64 1))),
 un (.nck 45 (.t 40)),
 un (.fadr 46 5 (.t 45)),
 un (.st 1 (.t 46) (.t 44))])
 (.drop [40,41,42,43,44,45,46] (.seq (.reg [un (.mov 47 (.t 0)),
 un (.nck 48 (.t 47)),
 un (.fadr 49 5 (.t 48)),
 un (.ld 50 1 false (.t 49)),
 un (.bin 51 .gtr (.t 50) (.c (.int .i64 5000)))])
 (.drop [47,48,49,50] (.cond (.t 51) (.seq (.reg [un (.asg 4 (.c (.bool false)))])
 .ret)
 .skip)))))
 (.drop [40,41,42,43,44,45,46,47,48,49,50,51] (.seq (.reg [un (.mov 52 (.t 1)),
 un (.call 53 Kd [((.t 52),false)]),
 un (.asg 7 (.t 53))])
 (.drop [52,53] (.seq (.reg [un (.mov 54 (.t 7)),
 un (.mov 55 (.t 5)),
 un (.mov 56 (.t 6)),
 un (.iad 57 1 (.t 54) (.t 55)),
 un (.st 1 (.t 57) (.t 56))])
 (.drop [54,55,56,57] (.seq (.reg [un (.mov 58 (.t 0)),
 un (.mov 59 (.t 7)),
 un (.call 60 Gg [((.t 58),false),((.t 59),true)]),
 un (.asg 61 (.t 60)),
 ⟨some (61,true),.mov 62 (.t 0)⟩,
 ⟨some (61,true),.asgf 63 (.t 7)⟩,
 ⟨some (61,true),.call 64 Cb [((.t 62),true),((.t 63),false)]⟩,
 ⟨some (61,true),.un 65 .not (.t 64)⟩,
 un (.pick 66 (.t 61) (.t 65) (.c (.bool false)))])
 (.drop [58,59,60,61,62,63,64,65] (.cond (.t 66) (.seq (.reg [un (.asg 4 (.c (.bool false)))])
 .ret)
 .skip))))))))))
 (.drop [40,41,42,43,44,45,46,47,48,49,50,51,52,53,7,54,55,56,57,58,59,60,61,62,63,64,65,66] (.reg [un (.mov 38 (.t 6)),
 un (.bin 39 .add (.t 38) (.c (.int .i64 1))),
 un (.asg 6 (.t 39))])))))
def U8:ACode:=
 (.seq (.reg [un (.asg 4 (.c (.bool false)))])
 (.seq (.reg [un (.asg 5 (.c (.int .i64 0)))])
 (.seq (.block 0 (.loop J6))
 (.drop [8,9,10,11,12,13,14,15,16,17,18,19,20] (.seq (.seq (.reg [un (.mov 21 (.t 5)),
 un (.mov 22 (.t 1)),
 un (.len 23 (.t 22)),
 un (.bin 24 .eql (.t 21) (.t 23))])
 (.drop [21,22,23] (.cond (.t 24) (.seq (.reg [un (.mov 25 (.t 0)),
 un (.nck 26 (.t 25)),
 un (.fadr 27 6 (.t 26)),
 un (.ld 28 1 false (.t 27)),
 un (.mov 29 (.t 1)),
 un (.cally 30 (.t 28) [(.t 29)] [true,true,true,true,true,true,true,true,true]),
 un (.asg 4 (.t 30))])
 (.drop [25,26,27,28,29,30] .ret))
 .skip)))
 (.drop [21,22,23,24,25,26,27,28,29,30] (.seq (.seq (.reg [un (.asg 6 (.c (.int .i64 0)))])
 (.block 2 (.loop Jh)))
 (.drop [6,31,32,33,34,35,36,37,40,41,42,43,44,45,46,47,48,49,50,51,52,53,7,54,55,56,57,58,59,60,61,62,63,64,65,66,38,39] (.seq (.reg [un (.asg 4 (.c (.bool true)))])
 .ret)))))))))
abbrev U3:List RS:=[.t 4]
theorem U9:A8 Try.prog Cb 67 U8 U3=true:=by kernel_rfl
def Y2:ACode:=
 (.seq (.reg [un (.box 2 (.t 0)),
 un (.box 3 (.t 1)),
 un (.asg 4 (.c (.nilsl 1))),
 un (.asg 5 (.c (.bool false)))])
 (.seq (.seq (.reg [un (.ld 6 2 true (.t 2)),
 un (.ld 7 2 true (.t 3)),
 un (.call 8 Kh [((.t 6),false),((.t 7),false)]),
 un (.un 9 .not (.t 8))])
 (.drop [6,7,8] (.cond (.t 9) (.seq (.reg [un (.bsl 10 1 []),
 un (.asg 4 (.t 10)),
 un (.asg 5 (.c (.bool false)))])
 (.drop [10] .ret))
 .skip)))
 (.drop [6,7,8,9,10] (.seq (.reg [un (.ld 11 2 true (.t 2)),
 un (.ld 12 2 true (.t 3)),
 un (.call 13 Rb [((.t 11),false),((.t 12),false),((.c (.bool true)),false),((.c (.bool false)),false)]),
 un (.ext 14 (.t 13) 0),
 un (.ext 15 (.t 13) 1),
 un (.asg 4 (.t 14)),
 un (.asg 5 (.t 15))])
 (.drop [11,12,13,14,15] .ret)))))
abbrev Yn:List RS:=[.t 4,.t 5]
theorem Yx:A8 Try.prog I3 16 Y2 Yn=true:=by kernel_rfl
def Afs:ACode:=
 (.seq (.reg [un (.box 2 (.t 0)),
 un (.box 3 (.t 1)),
 un (.asg 4 (.c (.nilsl 1))),
 un (.asg 5 (.c (.bool false)))])
 (.seq (.seq (.reg [un (.ld 6 2 true (.t 2)),
 un (.ld 7 2 true (.t 3)),
 un (.call 8 Kh [((.t 6),false),((.t 7),false)]),
 un (.un 9 .not (.t 8))])
 (.drop [6,7,8] (.cond (.t 9) (.seq (.reg [un (.bsl 10 1 []),
 un (.asg 4 (.t 10)),
 un (.asg 5 (.c (.bool false)))])
 (.drop [10] .ret))
 .skip)))
 (.drop [6,7,8,9,10] (.seq (.reg [un (.ld 11 2 true (.t 2)),
 un (.ld 12 2 true (.t 3)),
 un (.call 13 Rb [((.t 11),false),((.t 12),false),((.c (.bool false)),false),((.c (.bool true)),false)]),
 un (.ext 14 (.t 13) 0),
 un (.ext 15 (.t 13) 1),
 un (.asg 4 (.t 14)),
 un (.asg 5 (.t 15))])
 (.drop [11,12,13,14,15] .ret)))))
abbrev Agm:List RS:=[.t 4,.t 5]
theorem Aff:A8 Try.prog Nx 16 Afs Agm=true:=by kernel_rfl
def Aab:ACode:=
 (.seq (.frz [4] (.reg [un (.ld 14 2 true (.t 4)),
 un (.call 15 Fu [((.t 14),false)]),
 un (.un 16 .not (.t 15)),
 un (.asg 17 (.t 16)),
 ⟨some (17,false),.mov 18 (.t 0)⟩,
 ⟨some (17,false),.call 19 F1 [((.t 18),true),((.c (.int .i64 8)),false)]⟩,
 un (.pick 20 (.t 17) (.c (.bool true)) (.t 19))]))
 (.drop [14,15,16,17,18,19] (.cond (.t 20) (.seq (.dreg [(un (.ld 21 2 true (.t 4)),[119]),
 (un (.mov 22 (.t 0)),[21]),
 (un (.call 23 E9 [((.t 22),true)]),[119,21])]
 [un (.st 2 (.t 2) (.t 21)),
 un (.st 2 (.t 3) (.t 23))])
 (.drop [21,22,23] (.frz [2,3] .ret)))
 .skip)))
def Pz:ACode:=
 (.seq (.seq (.reg [un (.mov 73 (.t 8)),
 un (.bin 74 .lss (.t 73) (.c (.int .i64 12)))])
 (.drop [73] (.cond (.t 74) .skip
 (.exit 1))))
 (.drop [73,74] (.seq (.block 2 (.seq (.reg [un (.mov 77 (.t 0)),
 un (.call 78 E9 [((.t 77),true)]),
 un (.alc 9 (.agg [.int .i64 0,.nilsl 2])),
 un (.st 2 (.t 9) (.t 78))])
 (.drop [77,78] (.seq (.frz [9] (.reg [un (.ld 79 2 true (.t 9)),
 un (.call 80 Fu [((.t 79),false)]),
 un (.asg 81 (.t 80)),
 ⟨some (81,true),.ld 82 2 true (.t 4)⟩,
 ⟨some (81,true),.ld 83 2 true (.t 9)⟩,
 ⟨some (81,true),.call 84 K8 [((.t 82),false),((.t 83),false)]⟩,
 un (.pick 85 (.t 81) (.t 84) (.c (.bool false)))]))
 (.drop [79,80,81,82,83,84] (.cond (.t 85) (.seq (.dregl [(0,.ld 86 2 true (.t 4)),
 (1,.ld 87 2 true (.t 9))]
 (.alt 2 (.st 2 (.t 2) (.t 86)) [0,1] [] (.alt 3 (.st 2 (.t 3) (.t 87)) [1] [] .nil .nil) .nil))
 (.drop [86,87] (.frz [2,3] .ret)))
 .skip))))))
 (.drop [77,78,9,79,80,81,82,83,84,85,86,87] (.reg [un (.mov 75 (.t 8)),
 un (.bin 76 .add (.t 75) (.c (.int .i64 1))),
 un (.asg 8 (.t 76))])))))
def Zo:ACode:=
 (.seq (.reg [un (.mov 24 (.t 0)),
 un (.call 25 Au [((.t 24),true),((.c (.int .i64 5)),false)])])
 (.drop [24] (.block 0 (.seq (.reg [un (.bin 27 .eql (.t 25) (.c (.int .i64 0))),
 un (.asg 26 (.t 27))])
 (.drop [27] (.cond (.t 26) (.seq (.dreg [(un (.ld 28 2 true (.t 4)),[]),
 (un (.ld 29 2 true (.t 4)),[28]),
 (un (.call 30 Rc [((.t 29),false)]),[28])]
 [un (.st 2 (.t 2) (.t 28)),
 un (.st 2 (.t 3) (.t 30))])
 (.drop [28,29,30] (.frz [2,3] .ret)))
 (.seq (.reg [un (.bin 32 .eql (.t 25) (.c (.int .i64 1))),
 un (.asg 31 (.t 32))])
 (.drop [32] (.cond (.t 31) (.seq (.reg [un (.mov 33 (.t 0)),
 un (.fadr 34 0 (.t 4)),
 un (.ld 35 1 false (.t 34)),
 un (.call 36 Kq [((.t 33),true),((.t 35),false)]),
 un (.asg 5 (.t 36))])
 (.drop [33,34,35,36] (.seq (.frz [5] (.reg [un (.mov 37 (.t 5)),
 un (.fadr 38 0 (.t 4)),
 un (.ld 39 1 false (.t 38)),
 un (.call 40 Un [((.t 37),false),((.t 39),false)])]))
 (.drop [37,38,39] (.cond (.t 40) (.seq (.dreg [(un (.ld 41 2 true (.t 4)),[]),
 (un (.ld 42 2 true (.t 4)),[41]),
 (un (.mov 43 (.t 5)),[41,42]),
 (un (.call 44 Qf [((.t 42),false),((.t 43),false)]),[41])]
 [un (.st 2 (.t 2) (.t 41)),
 un (.st 2 (.t 3) (.t 44))])
 (.drop [41,42,43,44] (.frz [2,3] .ret)))
 .skip)))))
 (.seq (.reg [un (.bin 46 .eql (.t 25) (.c (.int .i64 2))),
 un (.asg 45 (.t 46))])
 (.drop [46] (.cond (.t 45) (.seq (.reg [un (.ld 47 2 true (.t 4)),
 un (.call 48 Xk [((.t 47),false)]),
 un (.asg 6 (.t 48))])
 (.drop [47,48] (.seq (.frz [6] (.reg [un (.mov 49 (.t 6)),
 un (.mov 50 (.t 6)),
 un (.len 51 (.t 50)),
 un (.bin 52 .sub (.t 51) (.c (.int .i64 1))),
 un (.iad 53 1 (.t 49) (.t 52)),
 un (.ld 54 1 false (.t 53)),
 un (.len 55 (.t 54)),
 un (.bin 56 .gtr (.t 55) (.c (.int .i64 0)))]))
 (.drop [49,50,51,52,53,54,55] (.cond (.t 56) (.seq (.reg [un (.mov 57 (.t 6)),
 un (.mov 58 (.t 0)),
 un (.mov 59 (.t 6)),
 un (.len 60 (.t 59)),
 un (.call 61 Au [((.t 58),true),((.t 60),false)]),
 un (.iad 62 1 (.t 57) (.t 61)),
 un (.ld 63 1 false (.t 62)),
 un (.asg 7 (.t 63))])
 (.drop [57,58,59,60,61,62,63] (.seq (.reg [un (.mov 64 (.t 7)),
 un (.len 65 (.t 64)),
 un (.bin 66 .gtr (.t 65) (.c (.int .i64 0)))])
 (.drop [64,65] (.cond (.t 66) (.seq (.dregl [(0,.ld 67 2 true (.t 4)),
 (1,.mov 68 (.t 7)),
 (3,.ld 70 2 true (.t 4))]
 (.alt 2 (.call 69 Xh [((.t 67),false),((.t 68),false)]) [0,1,3] [] (.alt 4 (.st 2 (.t 2) (.t 69)) [3] [] (.alt 5 (.st 2 (.t 3) (.t 70)) [3] [] .nil .nil) .nil) .nil))
 (.drop [67,68,69,70] (.frz [2,3] .ret)))
 .skip)))))
 .skip)))))
 (.seq (.reg [un (.bin 72 .eql (.t 25) (.c (.int .i64 3))),
 un (.asg 71 (.t 72))])
 (.drop [72] (.cond (.t 71) (.seq (.reg [un (.asg 8 (.c (.int .i64 0)))])
 (.block 1 (.loop Pz)))
 .skip)))))))))))))))
def Ps:ACode:=
 (.seq (.seq (.reg [un (.mov 90 (.t 11)),
 un (.fadr 91 1 (.t 10)),
 un (.ld 92 1 false (.t 91)),
 un (.len 93 (.t 92)),
 un (.bin 94 .lss (.t 90) (.t 93))])
 (.drop [90,91,92,93] (.cond (.t 94) .skip
 (.exit 3))))
 (.drop [90,91,92,93,94] (.seq (.block 4 (.dregl [(0,.fadr 97 1 (.t 10)),
 (1,.ld 98 1 false (.t 97)),
 (2,.mov 99 (.t 11)),
 (3,.iad 100 2 (.t 98) (.t 99)),
 (4,.fadr 101 1 (.t 100)),
 (5,.ld 102 1 false (.t 101)),
 (6,.mov 103 (.t 0)),
 (7,.fadr 104 1 (.t 10)),
 (8,.ld 105 1 false (.t 104)),
 (9,.mov 106 (.t 11)),
 (10,.iad 107 2 (.t 105) (.t 106)),
 (11,.fadr 108 1 (.t 107)),
 (12,.ld 109 1 false (.t 108)),
 (15,.mov 112 (.t 0)),
 (16,.fadr 113 0 (.t 10)),
 (17,.ld 114 1 false (.t 113))]
 (.alt 13 (.len 110 (.t 109)) [0,1,2,3,4,5,6,7,8,9,10,11,12,15,16,17] [] (.alt 14 (.call 111 Au [((.t 103),true),((.t 110),false)]) [0,1,2,3,4,5,6,15,16,17] [] (.alt 18 (.call 115 Au [((.t 112),true),((.t 114),false)]) [0,1,2,3,4,5,15,16,17] [] (.alt 19 (.iad 116 1 (.t 102) (.t 111)) [0,1,2,3,4,5] [] (.alt 20 (.st 1 (.t 116) (.t 115)) [] [] .nil .nil) .nil) .nil) .nil) .nil)))
 (.drop [97,98,99,100,101,102,103,104,105,106,107,108,109,110,111,112,113,114,115,116] (.reg [un (.mov 95 (.t 11)),
 un (.bin 96 .add (.t 95) (.c (.int .i64 1))),
 un (.asg 11 (.t 96))])))))
def Adq:ACode:=
 (.seq (.reg [un (.alc 2 (.agg [.int .i64 0,.nilsl 2])),
 un (.alc 3 (.agg [.int .i64 0,.nilsl 2]))])
 (.seq (.reg [un (.mov 12 (.t 0)),
 un (.call 13 E9 [((.t 12),true)]),
 un (.alc 4 (.agg [.int .i64 0,.nilsl 2])),
 un (.st 2 (.t 4) (.t 13))])
 (.drop [12,13] (.seq (.cut Aab)
 (.drop [14,15,16,17,18,19,20,21,22,23] (.seq (.cut Zo)
 (.drop [24,25,27,26,28,29,30,32,31,33,34,35,36,5,37,38,39,40,41,42,43,44,46,45,47,48,6,49,50,51,52,53,54,55,56,57,58,59,60,61,62,63,7,64,65,66,67,68,69,70,72,71,8,73,74,77,78,9,79,80,81,82,83,84,85,86,87,75,76] (.seq (.reg [un (.ld 88 2 true (.t 4)),
 un (.call 89 Rc [((.t 88),false)]),
 un (.alc 10 (.agg [.int .i64 0,.nilsl 2])),
 un (.st 2 (.t 10) (.t 89))])
 (.drop [88,89] (.seq (.seq (.reg [un (.asg 11 (.c (.int .i64 0)))])
 (.block 3 (.loop Ps)))
 (.drop [11,90,91,92,93,94,97,98,99,100,101,102,103,104,105,106,107,108,109,110,111,112,113,114,115,116,95,96] (.seq (.frz [10] (.dregl [(0,.ld 117 2 true (.t 4)),
 (1,.ld 118 2 true (.t 10))]
 (.alt 2 (.st 2 (.t 2) (.t 117)) [0,1] [] (.alt 3 (.st 2 (.t 3) (.t 118)) [1] [] .nil .nil) .nil)))
 (.drop [117,118] (.frz [2,3] .ret))))))))))))))
abbrev Adj:List RS:=[.c 2 2 true,.c 3 2 true]
theorem Aee:A8 Try.prog I5 119 Adq Adj=true:=by kernel_rfl
def Aij:ACode:=
 (.seq (.reg [un (.box 2 (.t 0)),
 un (.box 3 (.t 1)),
 un (.asg 4 (.c (.bool false)))])
 (.seq (.reg [un (.ld 5 2 true (.t 2)),
 un (.call 6 F0 [((.t 5),false)]),
 un (.asg 7 (.t 6)),
 ⟨some (7,true),.ld 8 2 true (.t 3)⟩,
 ⟨some (7,true),.call 9 F0 [((.t 8),false)]⟩,
 un (.pick 10 (.t 7) (.t 9) (.c (.bool false))),
 un (.asg 11 (.t 10)),
 ⟨some (11,true),.ld 12 2 true (.t 2)⟩,
 ⟨some (11,true),.ld 13 2 true (.t 3)⟩,
 ⟨some (11,true),.call 14 Xs [((.t 12),false),((.t 13),false)]⟩,
 un (.pick 15 (.t 11) (.t 14) (.c (.bool false))),
 un (.asg 4 (.t 15))])
 (.drop [5,6,7,8,9,10,11,12,13,14,15] .ret)))
abbrev Ah8:List RS:=[.t 4]
theorem Ai0:A8 Try.prog Fn 16 Aij Ah8=true:=by kernel_rfl
def J3:ACode:=
 (.seq (.reg [un (.bin 24 .lss (.t 23) (.t 22))])
 (.seq (.cond (.t 24) .skip
 (.exit 0))
 (.seq (.block 1 (.seq (.reg [un (.mov 25 (.t 23)),
 un (.asg 11 (.t 25))])
 (.drop [25] (.reg [un (.mov 26 (.t 10)),
 un (.mov 27 (.t 11)),
 un (.iad 28 1 (.t 26) (.t 27)),
 un (.st 1 (.t 28) (.c (.int .i64 (-1))))]))))
 (.drop [25,11,26,27,28] (.reg [un (.bin 29 .add (.t 23) (.c (.int .i64 1))),
 un (.asg 23 (.t 29))])))))
def Aeq:ACode:=
 (.seq (.reg [un (.box 4 (.t 0)),
 un (.box 5 (.t 1)),
 un (.asg 8 (.c (.bool false)))])
 (.seq (.reg [un (.ld 12 2 true (.t 4)),
 un (.ld 13 2 true (.t 5)),
 un (.mov 14 (.t 2)),
 un (.mov 15 (.t 3)),
 un (.bld 16 [.int .i64 0,.nilsl 2,.int .i64 0,.nilsl 2,.bool false,.int .i64 0,.dead] [(0,2,(.t 12)),(2,2,(.t 13)),(4,1,(.t 14)),(6,1,(.t 15))]),
 un (.boxk 17 6 (.t 16)),
 un (.asg 9 (.t 17))])
 (.drop [12,13,14,15,16,17] (.seq (.reg [un (.fadr 18 0 (.t 4)),
 un (.ld 19 1 false (.t 18)),
 un (.mk 20 1 (.int .i64 0) (.t 19)),
 un (.asg 10 (.t 20))])
 (.drop [18,19,20] (.seq (.seq (.reg [un (.mov 21 (.t 10)),
 un (.len 22 (.t 21)),
 un (.mov 23 (.c (.int .i64 0)))])
 (.drop [21] (.block 0 (.loop J3))))
 (.drop [21,22,23,24,25,11,26,27,28,29] (.seq (.seq (.reg [un (.mov 30 (.t 9)),
 un (.mov 31 (.t 10)),
 un (.call 32 Gg [((.t 30),false),((.t 31),true)])])
 (.drop [30,31] (.cond (.t 32) (.reg [un (.mov 33 (.t 9)),
 un (.asgf 34 (.t 10)),
 un (.call 35 Cb [((.t 33),true),((.t 34),false)])])
 .skip)))
 (.drop [30,31,32,33,34,35] (.seq (.reg [un (.mov 36 (.t 9)),
 un (.nck 37 (.t 36)),
 un (.fadr 38 5 (.t 37)),
 un (.ld 39 1 false (.t 38)),
 un (.bin 40 .leq (.t 39) (.c (.int .i64 5000))),
 un (.asg 8 (.t 40))])
 (.drop [36,37,38,39,40] (.frz [190600044] .ret))))))))))))
abbrev Ae8:List RS:=[.t 8]
theorem Adm:A8 Try.prog I8 41 Aeq Ae8=true:=by kernel_rfl
def Ab5:ACode:=
 (.seq (.reg [un (.alc 2 (.agg [.int .i64 0,.nilsl 2])),
 un (.alc 3 (.agg [.int .i64 0,.nilsl 2]))])
 (.seq (.reg [un (.mov 5 (.t 0)),
 un (.bld 6 [.nilsl 1,.int .i64 0,.int .u64 0] [(0,1,(.t 5))]),
 un (.box 7 (.t 6)),
 un (.asg 4 (.t 7))])
 (.drop [5,6,7] (.seq (.reg [un (.mov 8 (.t 4)),
 un (.call 9 I5 [((.t 8),true)]),
 un (.ext 10 (.t 9) 0),
 un (.ext 11 (.t 9) 1),
 un (.st 2 (.t 2) (.t 10)),
 un (.st 2 (.t 3) (.t 11))])
 (.drop [8,9,10,11] .ret)))))
abbrev Acy:List RS:=[.c 2 2 true,.c 3 2 true]
theorem Ach:A8 Try.prog Lw 12 Ab5 Acy=true:=by kernel_rfl
def Arg:ACode:=
 (.seq (.reg [un (.box 3 (.t 0)),
 un (.box 4 (.t 1)),
 un (.asg 6 (.c (.bool false))),
 un (.asg 7 (.c (.bool false)))])
 (.seq (.seq (.reg [un (.ld 8 2 true (.t 3)),
 un (.ld 9 2 true (.t 4)),
 un (.call 10 Fn [((.t 8),false),((.t 9),false)]),
 un (.un 11 .not (.t 10))])
 (.drop [8,9,10] (.cond (.t 11) (.seq (.reg [un (.asg 6 (.c (.bool false))),
 un (.asg 7 (.c (.bool false)))])
 .ret)
 .skip)))
 (.drop [8,9,10,11] (.seq (.reg [un (.ld 12 2 true (.t 3)),
 un (.ld 13 2 true (.t 4)),
 un (.mov 14 (.t 2)),
 un (.call 15 W1 [((.t 12),false),((.t 13),false),((.t 14),false)]),
 un (.asg 6 (.t 15)),
 un (.asg 7 (.c (.bool true)))])
 (.drop [12,13,14,15] .ret)))))
abbrev Aq4:List RS:=[.t 6,.t 7]
theorem Asd:A8 Try.prog Xg 16 Arg Aq4=true:=by kernel_rfl
def Xd:ACode:=
 (.seq (.reg [un (.ld 11 2 true (.t 3)),
 un (.ld 12 2 true (.t 4)),
 un (.call 13 Fn [((.t 11),false),((.t 12),false)]),
 un (.un 14 .not (.t 13)),
 un (.asg 15 (.t 14)),
 ⟨some (15,false),.mov 16 (.t 2)⟩,
 ⟨some (15,false),.len 17 (.t 16)⟩,
 ⟨some (15,false),.fadr 18 0 (.t 3)⟩,
 ⟨some (15,false),.ld 19 1 false (.t 18)⟩,
 ⟨some (15,false),.bin 20 .neq (.t 17) (.t 19)⟩,
 un (.pick 21 (.t 15) (.c (.bool true)) (.t 20))])
 (.drop [11,12,13,14,15,16,17,18,19,20] (.cond (.t 21) (.seq (.reg [un (.bsl 22 1 []),
 un (.asg 6 (.t 22)),
 un (.asg 7 (.c (.bool false)))])
 (.drop [22] .ret))
 .skip)))
def Mu:ACode:=
 (.seq (.reg [un (.bin 26 .lss (.t 25) (.t 24))])
 (.seq (.cond (.t 26) .skip
 (.exit 0))
 (.seq (.block 1 (.seq (.reg [un (.iad 27 1 (.t 23) (.t 25)),
 un (.ld 28 1 false (.t 27)),
 un (.asg 9 (.t 28))])
 (.drop [27,28] (.seq (.reg [un (.mov 29 (.t 9)),
 un (.bin 30 .lss (.t 29) (.c (.int .i64 (-1)))),
 un (.asg 31 (.t 30)),
 ⟨some (31,false),.mov 32 (.t 9)⟩,
 ⟨some (31,false),.fadr 33 0 (.t 4)⟩,
 ⟨some (31,false),.ld 34 1 false (.t 33)⟩,
 ⟨some (31,false),.bin 35 .geq (.t 32) (.t 34)⟩,
 un (.pick 36 (.t 31) (.c (.bool true)) (.t 35))])
 (.drop [29,30,31,32,33,34,35] (.cond (.t 36) (.seq (.reg [un (.bsl 37 1 []),
 un (.asg 6 (.t 37)),
 un (.asg 7 (.c (.bool false)))])
 (.drop [37] .ret))
 .skip))))))
 (.drop [27,28,9,29,30,31,32,33,34,35,36,37] (.reg [un (.bin 38 .add (.t 25) (.c (.int .i64 1))),
 un (.asg 25 (.t 38))])))))
def Aba:ACode:=
 (.seq (.reg [un (.box 3 (.t 0)),
 un (.box 4 (.t 1)),
 un (.asg 6 (.c (.nilsl 1))),
 un (.asg 7 (.c (.bool false)))])
 (.seq (.cut Xd)
 (.drop [11,12,13,14,15,16,17,18,19,20,21,22] (.seq (.seq (.reg [un (.mov 23 (.t 2)),
 un (.len 24 (.t 23)),
 un (.mov 25 (.c (.int .i64 0)))])
 (.block 0 (.loop Mu)))
 (.drop [23,24,25,26,27,28,9,29,30,31,32,33,34,35,36,37,38] (.seq (.reg [un (.mov 39 (.t 2)),
 un (.call 40 Kd [((.t 39),false)]),
 un (.asg 10 (.t 40))])
 (.drop [39,40] (.seq (.seq (.reg [un (.ld 41 2 true (.t 3)),
 un (.ld 42 2 true (.t 4)),
 un (.mov 43 (.t 10)),
 un (.call 44 Li [((.t 41),false),((.t 42),false),((.t 43),true)]),
 un (.un 45 .not (.t 44))])
 (.drop [41,42,43,44] (.cond (.t 45) (.seq (.reg [un (.bsl 46 1 []),
 un (.asg 6 (.t 46)),
 un (.asg 7 (.c (.bool false)))])
 (.drop [46] .ret))
 .skip)))
 (.drop [41,42,43,44,45,46] (.seq (.reg [un (.mov 47 (.t 10)),
 un (.asg 6 (.t 47)),
 un (.asg 7 (.c (.bool true)))])
 (.drop [47] .ret)))))))))))
abbrev Aa5:List RS:=[.t 6,.t 7]
theorem Abh:A8 Try.prog G9 48 Aba Aa5=true:=by kernel_rfl
def J9:ACode:=
 (.seq (.seq (.reg [un (.mov 22 (.t 9)),
 un (.mov 23 (.t 8)),
 un (.len 24 (.t 23)),
 un (.bin 25 .lss (.t 22) (.t 24))])
 (.drop [22,23,24] (.cond (.t 25) .skip
 (.exit 0))))
 (.drop [22,23,24,25] (.seq (.block 1 (.seq (.reg [un (.mov 28 (.t 5)),
 un (.call 29 F1 [((.t 28),true),((.c (.int .i64 3)),false)]),
 un (.un 30 .not (.t 29))])
 (.drop [28,29] (.cond (.t 30) (.reg [un (.mov 31 (.t 8)),
 un (.mov 32 (.t 9)),
 un (.iad 33 1 (.t 31) (.t 32)),
 un (.st 1 (.t 33) (.c (.int .i64 (-1))))])
 .skip))))
 (.drop [28,29,30,31,32,33] (.reg [un (.mov 26 (.t 9)),
 un (.bin 27 .add (.t 26) (.c (.int .i64 1))),
 un (.asg 9 (.t 27))])))))
def Vw:ACode:=
 (.seq (.reg [un (.alc 2 (.agg [.int .i64 0,.nilsl 2])),
 un (.alc 3 (.agg [.int .i64 0,.nilsl 2])),
 un (.asg 4 (.c (.nilsl 1)))])
 (.seq (.reg [un (.mov 10 (.t 0)),
 un (.bld 11 [.nilsl 1,.int .i64 0,.int .u64 0] [(0,1,(.t 10))]),
 un (.box 12 (.t 11)),
 un (.asg 5 (.t 12))])
 (.drop [10,11,12] (.seq (.reg [un (.mov 14 (.t 5)),
 un (.call 15 I5 [((.t 14),true)]),
 un (.asg 13 (.t 15)),
 un (.ext 16 (.t 13) 0),
 un (.ext 17 (.t 13) 1),
 un (.alc 6 (.agg [.int .i64 0,.nilsl 2])),
 un (.alc 7 (.agg [.int .i64 0,.nilsl 2])),
 un (.st 2 (.t 6) (.t 16)),
 un (.st 2 (.t 7) (.t 17))])
 (.drop [14,15,13,16,17] (.seq (.reg [un (.mov 18 (.t 5)),
 un (.ld 19 2 true (.t 6)),
 un (.ld 20 2 true (.t 7)),
 un (.call 21 Mq [((.t 18),true),((.t 19),false),((.t 20),false)]),
 un (.asg 8 (.t 21))])
 (.drop [18,19,20,21] (.seq (.seq (.reg [un (.asg 9 (.c (.int .i64 0)))])
 (.block 0 (.loop J9)))
 (.drop [9,22,23,24,25,28,29,30,31,32,33,26,27] (.seq (.dregl [(0,.ld 34 2 true (.t 6)),
 (1,.ld 35 2 true (.t 7)),
 (2,.mov 36 (.t 8))]
 (.alt 3 (.st 2 (.t 2) (.t 34)) [0,1,2] [] (.alt 4 (.st 2 (.t 3) (.t 35)) [1,2] [] (.alt 5 (.asg 4 (.t 36)) [2] [] .nil .nil) .nil) .nil))
 (.drop [34,35,36] .ret)))))))))))
abbrev Wz:List RS:=[.c 2 2 true,.c 3 2 true,.t 4]
theorem Vl:A8 Try.prog Ho 37 Vw Wz=true:=by kernel_rfl
def Ai3:ACode:=
 (.seq (.reg [un (.box 3 (.t 0)),
 un (.box 4 (.t 1)),
 un (.asg 6 (.c (.nilsl 1))),
 un (.asg 7 (.c (.bool false)))])
 (.seq (.reg [un (.bsl 10 1 []),
 un (.alc 8 (.nilsl 1)),
 un (.st 1 (.t 8) (.t 10))])
 (.drop [10] (.seq (.reg [un (.ld 11 2 true (.t 3)),
 un (.ld 12 2 true (.t 4)),
 un (.mov 13 (.t 2)),
 un (.mkf 14 Gx [(.t 8)]),
 un (.call 15 I8 [((.t 11),false),((.t 12),false),((.t 13),false),((.t 14),true)]),
 un (.asg 9 (.t 15))])
 (.drop [11,12,13,14,15] (.seq (.seq (.reg [un (.mov 16 (.t 9)),
 un (.un 17 .not (.t 16)),
 un (.asg 18 (.t 17)),
 ⟨some (18,false),.ld 19 1 false (.t 8)⟩,
 ⟨some (18,false),.len 20 (.t 19)⟩,
 ⟨some (18,false),.bin 21 .gtr (.t 20) (.c (.int .i64 300))⟩,
 un (.pick 22 (.t 18) (.c (.bool true)) (.t 21))])
 (.drop [16,17,18,19,20,21] (.cond (.t 22) (.seq (.reg [un (.bsl 23 1 []),
 un (.asg 6 (.t 23)),
 un (.asg 7 (.c (.bool false)))])
 (.drop [23] .ret))
 .skip)))
 (.drop [16,17,18,19,20,21,22,23] (.seq (.reg [un (.ld 24 1 false (.t 8)),
 un (.asg 6 (.t 24)),
 un (.asg 7 (.c (.bool true)))])
 (.drop [24] .ret)))))))))
abbrev Aiq:List RS:=[.t 6,.t 7]
theorem Aif:A8 Try.prog Qd 25 Ai3 Aiq=true:=by kernel_rfl
def Aii:ACode:=
 (.seq (.reg [un (.box 4 (.t 0)),
 un (.box 5 (.t 1)),
 un (.box 7 (.t 3)),
 un (.asg 8 (.c (.nl 1))),
 un (.asg 9 (.c (.bool false)))])
 (.seq (.reg [un (.alc 10 (.nl 1))])
 (.seq (.frz [7] (.reg [un (.ld 12 2 true (.t 4)),
 un (.ld 13 2 true (.t 5)),
 un (.mov 14 (.t 2)),
 un (.mkf 15 Gw [(.t 7),(.t 10)]),
 un (.call 16 I8 [((.t 12),false),((.t 13),false),((.t 14),false),((.t 15),true)]),
 un (.asg 11 (.t 16))]))
 (.drop [12,13,14,15,16] (.seq (.reg [un (.ld 17 1 false (.t 10)),
 un (.mov 18 (.t 11)),
 un (.asg 8 (.t 17)),
 un (.asg 9 (.t 18))])
 (.drop [17,18] .ret))))))
abbrev Ajk:List RS:=[.t 8,.t 9]
theorem Ajg:A8 Try.prog Lc 19 Aii Ajk=true:=by kernel_rfl
def Ajr:ACode:=
 (.seq (.reg [un (.box 2 (.t 0)),
 un (.box 3 (.t 1)),
 un (.asg 4 (.c (.nilsl 1))),
 un (.asg 5 (.c (.bool false)))])
 (.seq (.seq (.reg [un (.ld 6 2 true (.t 2)),
 un (.ld 7 2 true (.t 3)),
 un (.call 8 Fn [((.t 6),false),((.t 7),false)]),
 un (.un 9 .not (.t 8))])
 (.drop [6,7,8] (.cond (.t 9) (.seq (.reg [un (.bsl 10 1 []),
 un (.asg 4 (.t 10)),
 un (.asg 5 (.c (.bool false)))])
 (.drop [10] .ret))
 .skip)))
 (.drop [6,7,8,9,10] (.seq (.reg [un (.ld 11 2 true (.t 2)),
 un (.ld 12 2 true (.t 3)),
 un (.call 13 Qd [((.t 11),false),((.t 12),false),((.c (.bool false)),false)]),
 un (.ext 14 (.t 13) 0),
 un (.ext 15 (.t 13) 1),
 un (.asg 4 (.t 14)),
 un (.asg 5 (.t 15))])
 (.drop [11,12,13,14,15] .ret)))))
abbrev Ak0:List RS:=[.t 4,.t 5]
theorem Alg:A8 Try.prog R6 16 Ajr Ak0=true:=by kernel_rfl
def Y0:ACode:=
 (.seq (.reg [un (.box 2 (.t 0)),
 un (.box 3 (.t 1)),
 un (.asg 4 (.c (.nilsl 1))),
 un (.asg 5 (.c (.bool false)))])
 (.seq (.seq (.reg [un (.ld 8 2 true (.t 2)),
 un (.ld 9 2 true (.t 3)),
 un (.call 10 Fn [((.t 8),false),((.t 9),false)]),
 un (.un 11 .not (.t 10))])
 (.drop [8,9,10] (.cond (.t 11) (.seq (.reg [un (.bsl 12 1 []),
 un (.asg 4 (.t 12)),
 un (.asg 5 (.c (.bool false)))])
 (.drop [12] .ret))
 .skip)))
 (.drop [8,9,10,11,12] (.seq (.reg [un (.ld 14 2 true (.t 2)),
 un (.ld 15 2 true (.t 3)),
 un (.call 16 Lc [((.t 14),false),((.t 15),false),((.c (.bool true)),false),((.c (.clo Oy [])),false)]),
 un (.asg 13 (.t 16)),
 un (.ext 17 (.t 13) 0),
 un (.ext 18 (.t 13) 1),
 un (.asg 6 (.t 17)),
 un (.asg 7 (.t 18))])
 (.drop [14,15,16,13,17,18] (.seq (.seq (.reg [un (.mov 19 (.t 7)),
 un (.un 20 .not (.t 19)),
 un (.asg 21 (.t 20)),
 ⟨some (21,false),.mov 22 (.t 6)⟩,
 ⟨some (21,false),.nilq 23 false (.t 22)⟩,
 un (.pick 24 (.t 21) (.c (.bool true)) (.t 23))])
 (.drop [19,20,21,22,23] (.cond (.t 24) (.seq (.reg [un (.bsl 25 1 []),
 un (.asg 4 (.t 25)),
 un (.asg 5 (.c (.bool false)))])
 (.drop [25] .ret))
 .skip)))
 (.drop [19,20,21,22,23,24,25] (.seq (.reg [un (.mov 26 (.t 6)),
 un (.asg 4 (.t 26)),
 un (.asg 5 (.c (.bool true)))])
 (.drop [26] .ret)))))))))
abbrev Yo:List RS:=[.t 4,.t 5]
theorem Yq:A8 Try.prog I1 27 Y0 Yo=true:=by kernel_rfl
def Agb:ACode:=
 (.seq (.reg [un (.box 2 (.t 0)),
 un (.box 3 (.t 1)),
 un (.asg 4 (.c (.nilsl 1))),
 un (.asg 5 (.c (.bool false)))])
 (.seq (.seq (.reg [un (.ld 8 2 true (.t 2)),
 un (.ld 9 2 true (.t 3)),
 un (.call 10 Fn [((.t 8),false),((.t 9),false)]),
 un (.un 11 .not (.t 10))])
 (.drop [8,9,10] (.cond (.t 11) (.seq (.reg [un (.bsl 12 1 []),
 un (.asg 4 (.t 12)),
 un (.asg 5 (.c (.bool false)))])
 (.drop [12] .ret))
 .skip)))
 (.drop [8,9,10,11,12] (.seq (.frz [3] (.reg [un (.ld 14 2 true (.t 2)),
 un (.ld 15 2 true (.t 3)),
 un (.mkf 16 H5 [(.t 3)]),
 un (.call 17 Lc [((.t 14),false),((.t 15),false),((.c (.bool false)),false),((.t 16),false)]),
 un (.asg 13 (.t 17)),
 un (.ext 18 (.t 13) 0),
 un (.ext 19 (.t 13) 1),
 un (.asg 6 (.t 18)),
 un (.asg 7 (.t 19))]))
 (.drop [14,15,16,17,13,18,19] (.seq (.seq (.reg [un (.mov 20 (.t 7)),
 un (.un 21 .not (.t 20)),
 un (.asg 22 (.t 21)),
 ⟨some (22,false),.mov 23 (.t 6)⟩,
 ⟨some (22,false),.nilq 24 false (.t 23)⟩,
 un (.pick 25 (.t 22) (.c (.bool true)) (.t 24))])
 (.drop [20,21,22,23,24] (.cond (.t 25) (.seq (.reg [un (.bsl 26 1 []),
 un (.asg 4 (.t 26)),
 un (.asg 5 (.c (.bool false)))])
 (.drop [26] .ret))
 .skip)))
 (.drop [20,21,22,23,24,25,26] (.seq (.reg [un (.mov 27 (.t 6)),
 un (.asg 4 (.t 27)),
 un (.asg 5 (.c (.bool true)))])
 (.drop [27] .ret)))))))))
abbrev Agq:List RS:=[.t 4,.t 5]
theorem Ag2:A8 Try.prog On 28 Agb Agq=true:=by kernel_rfl
def Yt:ACode:=
 (.seq (.reg [un (.ld 47 2 true (.t 3)),
 un (.ld 48 2 true (.t 4)),
 un (.call 49 Ry [((.t 47),false),((.t 48),false)]),
 un (.asg 46 (.t 49)),
 un (.ext 50 (.t 46) 0),
 un (.ext 51 (.t 46) 1),
 un (.asg 7 (.t 50)),
 un (.asg 8 (.t 51))])
 (.drop [47,48,49,46,50,51] (.seq (.reg [un (.mov 52 (.t 6)),
 un (.mov 53 (.t 8)),
 un (.binb 54 .neq (.t 52) (.t 53)),
 un (.asg 55 (.t 54)),
 ⟨some (55,false),.mov 56 (.t 5)⟩,
 ⟨some (55,false),.mov 57 (.t 7)⟩,
 ⟨some (55,false),.call 58 Ud [((.t 56),false),((.t 57),false)]⟩,
 ⟨some (55,false),.un 59 .not (.t 58)⟩,
 un (.pick 60 (.t 55) (.c (.bool true)) (.t 59))])
 (.drop [52,53,54,55,56,57,58,59] (.cond (.t 60) (.seq (.reg [un (.asg 2 (.c (.bool false)))])
 .ret)
 .skip)))))
def Y3:ACode:=
 (.seq (.reg [un (.ld 73 2 true (.t 3)),
 un (.ld 74 2 true (.t 4)),
 un (.mov 75 (.t 9)),
 un (.call 76 Xg [((.t 73),false),((.t 74),false),((.t 75),false)]),
 un (.asg 72 (.t 76)),
 un (.ext 77 (.t 72) 0),
 un (.ext 78 (.t 72) 1),
 un (.asg 10 (.t 77)),
 un (.asg 11 (.t 78))])
 (.drop [73,74,75,76,72,77,78] (.seq (.reg [un (.mov 79 (.t 11)),
 un (.un 80 .not (.t 79)),
 un (.asg 81 (.t 80)),
 ⟨some (81,false),.mov 82 (.t 10)⟩,
 ⟨some (81,false),.un 83 .not (.t 82)⟩,
 un (.pick 84 (.t 81) (.c (.bool true)) (.t 83))])
 (.drop [79,80,81,82,83] (.cond (.t 84) (.seq (.reg [un (.asg 2 (.c (.bool false)))])
 .ret)
 .skip)))))
def Nn:ACode:=
 (.seq (.seq (.reg [un (.mov 86 (.t 13)),
 un (.mov 87 (.t 9)),
 un (.len 88 (.t 87)),
 un (.bin 89 .lss (.t 86) (.t 88))])
 (.drop [86,87,88] (.cond (.t 89) .skip
 (.exit 0))))
 (.drop [86,87,88,89] (.seq (.block 1 (.reg [un (.mov 92 (.t 12)),
 un (.bsl 93 1 [(.c (.int .i64 (-1)))]),
 un (.app 94 1 (.t 92) (.t 93)),
 un (.asg 12 (.t 94))]))
 (.drop [92,93,94] (.reg [un (.mov 90 (.t 13)),
 un (.bin 91 .add (.t 90) (.c (.int .i64 1))),
 un (.asg 13 (.t 91))])))))
def Yz:ACode:=
 (.seq (.reg [un (.mov 114 (.t 16)),
 un (.un 115 .not (.t 114)),
 un (.asg 116 (.t 115)),
 ⟨some (116,false),.mov 117 (.t 15)⟩,
 ⟨some (116,false),.len 118 (.t 117)⟩,
 ⟨some (116,false),.mov 119 (.t 9)⟩,
 ⟨some (116,false),.len 120 (.t 119)⟩,
 ⟨some (116,false),.bin 121 .neq (.t 118) (.t 120)⟩,
 un (.pick 122 (.t 116) (.c (.bool true)) (.t 121))])
 (.drop [114,115,116,117,118,119,120,121] (.cond (.t 122) (.seq (.reg [un (.asg 2 (.c (.bool false)))])
 .ret)
 .skip)))
def Ns:ACode:=
 (.seq (.seq (.reg [un (.mov 123 (.t 17)),
 un (.mov 124 (.t 9)),
 un (.len 125 (.t 124)),
 un (.bin 126 .lss (.t 123) (.t 125))])
 (.drop [123,124,125] (.cond (.t 126) .skip
 (.exit 2))))
 (.drop [123,124,125,126] (.seq (.block 3 (.seq (.dreg [(un (.mov 129 (.t 15)),[]),
 (un (.mov 130 (.t 17)),[129]),
 (un (.iad 131 1 (.t 129) (.t 130)),[]),
 (un (.ld 132 1 false (.t 131)),[]),
 (un (.bin 133 .geq (.t 132) (.c (.int .i64 0))),[]),
 (un (.asg 134 (.t 133)),[]),
 (⟨some (134,true),.mov 135 (.t 15)⟩,[133]),
 (⟨some (134,true),.mov 136 (.t 17)⟩,[135,133]),
 (⟨some (134,true),.iad 137 1 (.t 135) (.t 136)⟩,[133]),
 (⟨some (134,true),.ld 138 1 false (.t 137)⟩,[133]),
 (⟨some (134,true),.mov 139 (.t 9)⟩,[135,136,137,138,133]),
 (⟨some (134,true),.mov 140 (.t 17)⟩,[135,136,137,138,139,133]),
 (⟨some (134,true),.iad 141 1 (.t 139) (.t 140)⟩,[135,136,137,138,133]),
 (⟨some (134,true),.ld 142 1 false (.t 141)⟩,[135,136,137,138,133])]
 [⟨some (134,true),.bin 143 .neq (.t 138) (.t 142)⟩,
 un (.pick 144 (.t 134) (.t 143) (.c (.bool false)))])
 (.drop [129,130,131,132,133,134,135,136,137,138,139,140,141,142,143] (.cond (.t 144) (.seq (.reg [un (.asg 2 (.c (.bool false)))])
 .ret)
 .skip))))
 (.drop [129,130,131,132,133,134,135,136,137,138,139,140,141,142,143,144] (.reg [un (.mov 127 (.t 17)),
 un (.bin 128 .add (.t 127) (.c (.int .i64 1))),
 un (.asg 17 (.t 128))])))))
def Yy:ACode:=
 (.seq (.reg [un (.mov 61 (.t 5)),
 un (.len 62 (.t 61)),
 un (.bin 63 .gtr (.t 62) (.c (.int .i64 0)))])
 (.drop [61,62] (.cond (.t 63) (.seq (.reg [un (.mov 64 (.t 5)),
 un (.mov 65 (.t 0)),
 un (.call 66 W7 [((.t 65),false),((.c (.int .i64 2)),false)]),
 un (.mov 67 (.t 5)),
 un (.len 68 (.t 67)),
 un (.bin 69 .rem (.t 66) (.t 68)),
 un (.iad 70 1 (.t 64) (.t 69)),
 un (.ld 71 1 false (.t 70)),
 un (.asg 9 (.t 71))])
 (.drop [64,65,66,67,68,69,70,71] (.seq (.cut Y3)
 (.drop [73,74,75,76,72,77,78,10,11,79,80,81,82,83,84] (.seq (.reg [un (.bsl 85 1 []),
 un (.asg 12 (.t 85))])
 (.drop [85] (.seq (.seq (.reg [un (.asg 13 (.c (.int .i64 0)))])
 (.block 0 (.loop Nn)))
 (.drop [13,86,87,88,89,92,93,94,90,91] (.seq (.reg [un (.mov 95 (.t 0)),
 un (.call 96 W7 [((.t 95),false),((.c (.int .i64 3)),false)]),
 un (.mov 97 (.t 9)),
 un (.len 98 (.t 97)),
 un (.bin 99 .rem (.t 96) (.t 98)),
 un (.asg 14 (.t 99))])
 (.drop [95,96,97,98,99] (.seq (.reg [un (.mov 100 (.t 12)),
 un (.mov 101 (.t 14)),
 un (.mov 102 (.t 9)),
 un (.mov 103 (.t 14)),
 un (.iad 104 1 (.t 102) (.t 103)),
 un (.ld 105 1 false (.t 104)),
 un (.iad 106 1 (.t 100) (.t 101)),
 un (.st 1 (.t 106) (.t 105))])
 (.drop [100,101,102,103,104,105,106] (.seq (.reg [un (.ld 108 2 true (.t 3)),
 un (.ld 109 2 true (.t 4)),
 un (.mov 110 (.t 12)),
 un (.call 111 G9 [((.t 108),false),((.t 109),false),((.t 110),false)]),
 un (.asg 107 (.t 111)),
 un (.ext 112 (.t 107) 0),
 un (.ext 113 (.t 107) 1),
 un (.asg 15 (.t 112)),
 un (.asg 16 (.t 113))])
 (.drop [108,109,110,111,107,112,113] (.seq (.cut Yz)
 (.drop [114,115,116,117,118,119,120,121,122] (.seq (.reg [un (.asg 17 (.c (.int .i64 0)))])
 (.block 2 (.loop Ns)))))))))))))))))))
 .skip)))
def Yv:ACode:=
 (.seq (.reg [un (.ld 152 2 true (.t 3)),
 un (.ld 153 2 true (.t 4)),
 un (.call 154 I3 [((.t 152),false),((.t 153),false)]),
 un (.asg 151 (.t 154)),
 un (.ext 155 (.t 151) 0),
 un (.ext 156 (.t 151) 1),
 un (.asg 20 (.t 155)),
 un (.asg 21 (.t 156))])
 (.drop [152,153,154,151,155,156] (.seq (.reg [un (.mov 157 (.t 19)),
 un (.mov 158 (.t 21)),
 un (.binb 159 .neq (.t 157) (.t 158)),
 un (.asg 160 (.t 159)),
 ⟨some (160,false),.mov 161 (.t 18)⟩,
 ⟨some (160,false),.mov 162 (.t 20)⟩,
 ⟨some (160,false),.call 163 Ia [((.t 161),false),((.t 162),false)]⟩,
 ⟨some (160,false),.un 164 .not (.t 163)⟩,
 un (.pick 165 (.t 160) (.c (.bool true)) (.t 164)),
 un (.asg 166 (.t 165)),
 ⟨some (166,false),.mov 167 (.t 6)⟩,
 ⟨some (166,false),.asg 168 (.t 167)⟩,
 ⟨some (168,true),.mov 169 (.t 19)⟩,
 ⟨some (166,false),.pick 170 (.t 168) (.t 169) (.c (.bool false))⟩,
 ⟨some (166,false),.asg 171 (.t 170)⟩,
 ⟨some (171,true),.mov 172 (.t 5)⟩,
 ⟨some (171,true),.mov 173 (.t 18)⟩,
 ⟨some (171,true),.call 174 W4 [((.t 172),false),((.t 173),false)]⟩,
 ⟨some (171,true),.un 175 .not (.t 174)⟩,
 ⟨some (166,false),.pick 176 (.t 171) (.t 175) (.c (.bool false))⟩,
 un (.pick 177 (.t 166) (.c (.bool true)) (.t 176))])
 (.drop [157,158,159,160,161,162,163,164,165,166,167,168,169,170,171,172,173,174,175,176] (.cond (.t 177) (.seq (.reg [un (.asg 2 (.c (.bool false)))])
 .ret)
 .skip)))))
def Y5:ACode:=
 (.seq (.reg [un (.ld 185 2 true (.t 3)),
 un (.ld 186 2 true (.t 4)),
 un (.call 187 Nx [((.t 185),false),((.t 186),false)]),
 un (.asg 184 (.t 187)),
 un (.ext 188 (.t 184) 0),
 un (.ext 189 (.t 184) 1),
 un (.asg 24 (.t 188)),
 un (.asg 25 (.t 189))])
 (.drop [185,186,187,184,188,189] (.seq (.reg [un (.mov 190 (.t 23)),
 un (.mov 191 (.t 25)),
 un (.binb 192 .neq (.t 190) (.t 191)),
 un (.asg 193 (.t 192)),
 ⟨some (193,false),.mov 194 (.t 22)⟩,
 ⟨some (193,false),.mov 195 (.t 24)⟩,
 ⟨some (193,false),.call 196 Ia [((.t 194),false),((.t 195),false)]⟩,
 ⟨some (193,false),.un 197 .not (.t 196)⟩,
 un (.pick 198 (.t 193) (.c (.bool true)) (.t 197)),
 un (.asg 199 (.t 198)),
 ⟨some (199,false),.mov 200 (.t 6)⟩,
 ⟨some (199,false),.asg 201 (.t 200)⟩,
 ⟨some (201,true),.mov 202 (.t 23)⟩,
 ⟨some (199,false),.pick 203 (.t 201) (.t 202) (.c (.bool false))⟩,
 ⟨some (199,false),.asg 204 (.t 203)⟩,
 ⟨some (204,true),.mov 205 (.t 5)⟩,
 ⟨some (204,true),.mov 206 (.t 22)⟩,
 ⟨some (204,true),.call 207 W4 [((.t 205),false),((.t 206),false)]⟩,
 ⟨some (204,true),.un 208 .not (.t 207)⟩,
 ⟨some (199,false),.pick 209 (.t 204) (.t 208) (.c (.bool false))⟩,
 un (.pick 210 (.t 199) (.c (.bool true)) (.t 209))])
 (.drop [190,191,192,193,194,195,196,197,198,199,200,201,202,203,204,205,206,207,208,209] (.cond (.t 210) (.seq (.reg [un (.asg 2 (.c (.bool false)))])
 .ret)
 .skip)))))
def Acv:ACode:=
 (.seq (.reg [un (.asg 2 (.c (.bool false)))])
 (.seq (.seq (.reg [un (.mov 33 (.t 0)),
 un (.call 34 Zg [((.t 33),false)])])
 (.drop [33] (.cond (.t 34) (.seq (.reg [un (.asg 2 (.c (.bool true)))])
 .ret)
 .skip)))
 (.drop [33,34] (.seq (.reg [un (.mov 36 (.t 0)),
 un (.call 37 Lw [((.t 36),false)]),
 un (.asg 35 (.t 37)),
 un (.ext 38 (.t 35) 0),
 un (.ext 39 (.t 35) 1),
 un (.alc 3 (.agg [.int .i64 0,.nilsl 2])),
 un (.alc 4 (.agg [.int .i64 0,.nilsl 2])),
 un (.st 2 (.t 3) (.t 38)),
 un (.st 2 (.t 4) (.t 39))])
 (.drop [36,37,35,38,39] (.seq (.reg [un (.ld 41 2 true (.t 3)),
 un (.ld 42 2 true (.t 4)),
 un (.call 43 R6 [((.t 41),false),((.t 42),false)]),
 un (.asg 40 (.t 43)),
 un (.ext 44 (.t 40) 0),
 un (.ext 45 (.t 40) 1),
 un (.asg 5 (.t 44)),
 un (.asg 6 (.t 45))])
 (.drop [41,42,43,40,44,45] (.seq (.cut Yt)
 (.drop [47,48,49,46,50,51,7,8,52,53,54,55,56,57,58,59,60] (.seq (.cut Yy)
 (.drop [61,62,63,64,65,66,67,68,69,70,71,9,73,74,75,76,72,77,78,10,11,79,80,81,82,83,84,85,12,13,86,87,88,89,92,93,94,90,91,95,96,97,98,99,14,100,101,102,103,104,105,106,108,109,110,111,107,112,113,15,16,114,115,116,117,118,119,120,121,122,17,123,124,125,126,129,130,131,132,133,134,135,136,137,138,139,140,141,142,143,144,127,128] (.seq (.reg [un (.ld 146 2 true (.t 3)),
 un (.ld 147 2 true (.t 4)),
 un (.call 148 I1 [((.t 146),false),((.t 147),false)]),
 un (.asg 145 (.t 148)),
 un (.ext 149 (.t 145) 0),
 un (.ext 150 (.t 145) 1),
 un (.asg 18 (.t 149)),
 un (.asg 19 (.t 150))])
 (.drop [146,147,148,145,149,150] (.seq (.cut Yv)
 (.drop [152,153,154,151,155,156,20,21,157,158,159,160,161,162,163,164,165,166,167,168,169,170,171,172,173,174,175,176,177] (.seq (.reg [un (.ld 179 2 true (.t 3)),
 un (.ld 180 2 true (.t 4)),
 un (.call 181 On [((.t 179),false),((.t 180),false)]),
 un (.asg 178 (.t 181)),
 un (.ext 182 (.t 178) 0),
 un (.ext 183 (.t 178) 1),
 un (.asg 22 (.t 182)),
 un (.asg 23 (.t 183))])
 (.drop [179,180,181,178,182,183] (.seq (.cut Y5)
 (.drop [185,186,187,184,188,189,24,25,190,191,192,193,194,195,196,197,198,199,200,201,202,203,204,205,206,207,208,209,210] (.seq (.reg [un (.mov 212 (.t 0)),
 un (.call 213 Ho [((.t 212),false)]),
 un (.asg 211 (.t 213)),
 un (.ext 214 (.t 211) 0),
 un (.ext 215 (.t 211) 1),
 un (.ext 216 (.t 211) 2),
 un (.alc 26 (.agg [.int .i64 0,.nilsl 2])),
 un (.alc 27 (.agg [.int .i64 0,.nilsl 2])),
 un (.st 2 (.t 26) (.t 214)),
 un (.st 2 (.t 27) (.t 215)),
 un (.asg 28 (.t 216))])
 (.drop [212,213,211,214,215,216] (.seq (.reg [un (.ld 218 2 true (.t 26)),
 un (.ld 219 2 true (.t 27)),
 un (.mov 220 (.t 28)),
 un (.call 221 G9 [((.t 218),false),((.t 219),false),((.t 220),false)]),
 un (.asg 217 (.t 221)),
 un (.ext 222 (.t 217) 0),
 un (.ext 223 (.t 217) 1),
 un (.asg 29 (.t 222)),
 un (.asg 30 (.t 223))])
 (.drop [218,219,220,221,217,222,223] (.seq (.reg [un (.ld 225 2 true (.t 26)),
 un (.ld 226 2 true (.t 27)),
 un (.mov 227 (.t 28)),
 un (.call 228 Kr [((.t 225),false),((.t 226),false),((.t 227),false)]),
 un (.asg 224 (.t 228)),
 un (.ext 229 (.t 224) 0),
 un (.ext 230 (.t 224) 1),
 un (.asg 31 (.t 229)),
 un (.asg 32 (.t 230))])
 (.drop [225,226,227,228,224,229,230] (.seq (.reg [un (.mov 231 (.t 30)),
 un (.mov 232 (.t 32)),
 un (.binb 233 .eql (.t 231) (.t 232)),
 un (.asg 234 (.t 233)),
 ⟨some (234,true),.mov 235 (.t 29)⟩,
 ⟨some (234,true),.mov 236 (.t 31)⟩,
 ⟨some (234,true),.call 237 Ia [((.t 235),false),((.t 236),false)]⟩,
 un (.pick 238 (.t 234) (.t 237) (.c (.bool false))),
 un (.asg 2 (.t 238))])
 (.drop [231,232,233,234,235,236,237,238] .ret)))))))))))))))))))))))))))
abbrev Acn:List RS:=[.t 2]
theorem Ac6:A8 Try.prog R8 239 Acv Acn=true:=by kernel_rfl
end Go.Proofs.Ytmkgjnphianalaa.Ax
