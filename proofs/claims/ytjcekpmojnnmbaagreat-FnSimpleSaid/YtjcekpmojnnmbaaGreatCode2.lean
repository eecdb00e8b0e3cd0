/-
  The small code of the functions, written by program; that the program's code is this one, the kernel looks at.
-/
import Derived.Test.YtjcekpmojnnmbaaGreatAx3
import Derived.Test.YtjcekpmojnnmbaaGreatProg
import Derived.KernelRfl
import Derived.Test.YtjcekpmojnnmbaaGreatNum
namespace Go.Proofs.YtjcekpmojnnmbaaGreat.Ax
open Go
set_option maxRecDepth 100000
def T0:ACode:=
 (.seq (.seq (.reg [un (.mov 41 (.t 9)),
 un (.mov 42 (.t 8)),
 un (.len 43 (.t 42)),
 un (.bin 44 .lss (.t 41) (.t 43))])
 (.drop [41,42,43] (.cond (.t 44) .skip
 (.exit 4))))
 (.drop [41,42,43,44] (.seq (.block 5 (.seq (.reg [un (.mov 47 (.t 8)),
 un (.call 48 Lw [((.t 47),false)]),
 un (.asg 10 (.t 48))])
 (.drop [47,48] (.seq (.reg [un (.mov 49 (.t 10)),
 un (.mov 50 (.t 9)),
 un (.mov 51 (.t 1)),
 un (.mov 52 (.t 8)),
 un (.mov 53 (.t 9)),
 un (.iad 54 1 (.t 52) (.t 53)),
 un (.ld 55 1 false (.t 54)),
 un (.iad 56 1 (.t 51) (.t 55)),
 un (.ld 57 1 false (.t 56)),
 un (.iad 58 1 (.t 49) (.t 50)),
 un (.st 1 (.t 58) (.t 57))])
 (.drop [49,50,51,52,53,54,55,56,57,58] (.dreg [(un (.mov 59 (.t 5)),[]),
 (un (.fadr 60 1 (.t 2)),[59]),
 (un (.ld 61 1 false (.t 60)),[59]),
 (un (.mov 62 (.t 6)),[59,60,61]),
 (un (.iad 63 2 (.t 61) (.t 62)),[59]),
 (un (.fadr 64 1 (.t 63)),[59]),
 (un (.ld 65 1 false (.t 64)),[59]),
 (un (.mov 66 (.t 7)),[59,60,61,62,63,64,65]),
 (un (.iad 67 1 (.t 65) (.t 66)),[59]),
 (un (.ld 68 1 false (.t 67)),[59]),
 (un (.ld 69 2 true (.t 2)),[59,60,61,62,63,64,65,66,67,68]),
 (un (.mov 70 (.t 6)),[59,60,61,62,63,64,65,66,67,68,69]),
 (un (.mov 71 (.t 10)),[59,60,61,62,63,64,65,66,67,68,69,70]),
 (un (.call 72 Q4 [((.t 69),false),((.t 70),false),((.t 71),false)]),[59,60,61,62,63,64,65,66,67,68])]
 [un (.call 73 Is [((.t 59),false),((.t 68),false),((.t 72),false)]),
 un (.asg 5 (.t 73))]))))))
 (.drop [47,48,10,49,50,51,52,53,54,55,56,57,58,59,60,61,62,63,64,65,66,67,68,69,70,71,72,73] (.reg [un (.mov 45 (.t 9)),
 un (.bin 46 .add (.t 45) (.c (.int .i64 1))),
 un (.asg 9 (.t 46))])))))
def Ut:ACode:=
 (.seq (.seq (.reg [un (.mov 20 (.t 7)),
 un (.fadr 21 1 (.t 2)),
 un (.ld 22 1 false (.t 21)),
 un (.mov 23 (.t 6)),
 un (.iad 24 2 (.t 22) (.t 23)),
 un (.fadr 25 1 (.t 24)),
 un (.ld 26 1 false (.t 25)),
 un (.len 27 (.t 26)),
 un (.bin 28 .lss (.t 20) (.t 27))])
 (.drop [20,21,22,23,24,25,26,27] (.cond (.t 28) .skip
 (.exit 2))))
 (.drop [20,21,22,23,24,25,26,27,28] (.seq (.block 3 (.seq (.dreg [(un (.fadr 31 0 (.t 2)),[]),
 (un (.ld 32 1 false (.t 31)),[]),
 (un (.fadr 33 1 (.t 2)),[31,32]),
 (un (.ld 34 1 false (.t 33)),[31,32]),
 (un (.mov 35 (.t 6)),[31,32,33,34]),
 (un (.iad 36 2 (.t 34) (.t 35)),[31,32]),
 (un (.fadr 37 0 (.t 36)),[31,32]),
 (un (.ld 38 1 false (.t 37)),[31,32]),
 (un (.mov 39 (.t 7)),[31,32,33,34,35,36,37,38])]
 [un (.call 40 Tf [((.t 32),false),((.t 38),false),((.t 39),false)]),
 un (.asg 8 (.t 40))])
 (.drop [31,32,33,34,35,36,37,38,39,40] (.seq (.reg [un (.asg 9 (.c (.int .i64 0)))])
 (.block 4 (.loop T0))))))
 (.drop [31,32,33,34,35,36,37,38,39,40,8,9,41,42,43,44,47,48,10,49,50,51,52,53,54,55,56,57,58,59,60,61,62,63,64,65,66,67,68,69,70,71,72,73,45,46] (.reg [un (.mov 29 (.t 7)),
 un (.bin 30 .add (.t 29) (.c (.int .i64 1))),
 un (.asg 7 (.t 30))])))))
def U5:ACode:=
 (.seq (.seq (.reg [un (.mov 13 (.t 6)),
 un (.fadr 14 1 (.t 2)),
 un (.ld 15 1 false (.t 14)),
 un (.len 16 (.t 15)),
 un (.bin 17 .lss (.t 13) (.t 16))])
 (.drop [13,14,15,16] (.cond (.t 17) .skip
 (.exit 0))))
 (.drop [13,14,15,16,17] (.seq (.block 1 (.seq (.reg [un (.asg 7 (.c (.int .i64 0)))])
 (.block 2 (.loop Ut))))
 (.drop [7,20,21,22,23,24,25,26,27,28,31,32,33,34,35,36,37,38,39,40,8,9,41,42,43,44,47,48,10,49,50,51,52,53,54,55,56,57,58,59,60,61,62,63,64,65,66,67,68,69,70,71,72,73,45,46,29,30] (.reg [un (.mov 18 (.t 6)),
 un (.bin 19 .add (.t 18) (.c (.int .i64 1))),
 un (.asg 6 (.t 19))])))))
def Ali:ACode:=
 (.seq (.reg [un (.box 2 (.t 0)),
 un (.asg 4 (.c (.nilsl 1)))])
 (.seq (.reg [un (.mov 11 (.t 1)),
 un (.call 12 Lw [((.t 11),false)]),
 un (.asg 5 (.t 12))])
 (.drop [11,12] (.seq (.seq (.reg [un (.asg 6 (.c (.int .i64 0)))])
 (.block 0 (.loop U5)))
 (.drop [6,13,14,15,16,17,7,20,21,22,23,24,25,26,27,28,31,32,33,34,35,36,37,38,39,40,8,9,41,42,43,44,47,48,10,49,50,51,52,53,54,55,56,57,58,59,60,61,62,63,64,65,66,67,68,69,70,71,72,73,45,46,29,30,18,19] (.seq (.reg [un (.mov 74 (.t 5)),
 un (.asg 4 (.t 74))])
 (.drop [74] .ret)))))))
abbrev Aly:List RS:=[.t 4]
theorem Amf:Ay Tryz.prog Tu 75 Ali Aly=true:=by kernel_rfl
def T6:ACode:=
 (.seq (.reg [un (.mov 32 (.t 4)),
 un (.bin 33 .eql (.t 32) (.c (.int .i64 4))),
 un (.asg 34 (.t 33)),
 ⟨some (34,true),.fadr 35 0 (.t 7)⟩,
 ⟨some (34,true),.ld 36 1 false (.t 35)⟩,
 ⟨some (34,true),.bin 37 .eql (.t 36) (.c (.int .i64 3))⟩,
 un (.pick 38 (.t 34) (.t 37) (.c (.bool false)))])
 (.drop [32,33,34,35,36,37] (.cond (.t 38) (.reg [un (.fadr 39 0 (.t 7)),
 un (.st 1 (.t 39) (.c (.int .i64 2)))])
 .skip)))
def Lj:ACode:=
 (.seq (.seq (.reg [un (.mov 44 (.t 8)),
 un (.bin 45 .gtr (.t 44) (.c (.int .i64 0)))])
 (.drop [44] (.cond (.t 45) .skip
 (.exit 2))))
 (.drop [44,45] (.seq (.block 3 (.dreg [(un (.fadr 48 1 (.t 7)),[132,52]),
 (un (.ld 49 1 false (.t 48)),[132,52]),
 (un (.mov 50 (.t 0)),[48,49]),
 (un (.mov 51 (.t 4)),[48,49,50]),
 (un (.call 52 B5 [((.t 50),true),((.t 51),false)]),[132,48,49]),
 (un (.bsl 53 1 [(.t 52)]),[48,49])]
 [un (.app 54 1 (.t 49) (.t 53)),
 un (.fadr 55 1 (.t 7)),
 un (.st 1 (.t 55) (.t 54))]))
 (.drop [48,49,50,51,52,53,54,55] (.reg [un (.mov 46 (.t 8)),
 un (.bin 47 .sub (.t 46) (.c (.int .i64 1))),
 un (.asg 8 (.t 47))])))))
def K9:ACode:=
 (.seq (.seq (.reg [un (.mov 24 (.t 6)),
 un (.bin 25 .gtr (.t 24) (.c (.int .i64 0)))])
 (.drop [24] (.cond (.t 25) .skip
 (.exit 0))))
 (.drop [24,25] (.seq (.block 1 (.seq (.reg [un (.mov 28 (.t 0)),
 un (.bsl 29 1 [(.c (.int .i64 0)),(.c (.int .i64 1)),(.c (.int .i64 2)),(.c (.int .i64 2)),(.c (.int .i64 3))]),
 un (.call 30 B6 [((.t 28),true),((.t 29),false)]),
 un (.bld 31 [.int .i64 0,.nilsl 1] [(0,1,(.t 30))]),
 un (.alc 7 (.agg [.int .i64 0,.nilsl 1])),
 un (.st 2 (.t 7) (.t 31))])
 (.drop [28,29,30,31] (.seq (.cut T6)
 (.drop [32,33,34,35,36,37,38,39] (.seq (.seq (.reg [un (.mov 40 (.t 4)),
 un (.fadr 41 0 (.t 7)),
 un (.ld 42 1 false (.t 41)),
 un (.call 43 Ph [((.t 40),false),((.t 42),false)]),
 un (.asg 8 (.t 43))])
 (.drop [40,41,42,43] (.block 2 (.loop Lj))))
 (.drop [40,41,42,43,8,44,45,48,49,50,51,52,53,54,55,46,47] (.reg [un (.fadr 56 1 (.t 5)),
 un (.ld 57 1 false (.t 56)),
 un (.ld 58 2 true (.t 7)),
 un (.bsl 59 2 [(.t 58)]),
 un (.app 60 2 (.t 57) (.t 59)),
 un (.fadr 61 1 (.t 5)),
 un (.st 1 (.t 61) (.t 60))]))))))))
 (.drop [28,29,30,31,7,32,33,34,35,36,37,38,39,40,41,42,43,8,44,45,48,49,50,51,52,53,54,55,46,47,56,57,58,59,60,61] (.reg [un (.mov 26 (.t 6)),
 un (.bin 27 .sub (.t 26) (.c (.int .i64 1))),
 un (.asg 6 (.t 27))])))))
def Lb:ACode:=
 (.seq (.seq (.dreg [(un (.fadr 116 1 (.t 5)),[132]),
 (un (.ld 117 1 false (.t 116)),[132]),
 (un (.len 118 (.t 117)),[132]),
 (un (.mov 119 (.t 0)),[116,117,118]),
 (un (.call 120 B5 [((.t 119),true),((.c (.int .i64 2)),false)]),[132,116,117,118]),
 (un (.bin 121 .add (.c (.int .i64 4)) (.t 120)),[116,117,118])]
 [un (.bin 122 .lss (.t 118) (.t 121))])
 (.drop [116,117,118,119,120,121] (.cond (.t 122) .skip
 (.exit 5))))
 (.drop [116,117,118,119,120,121,122] (.block 6 (.dregl [(0,.fadr 123 1 (.t 5)),
 (1,.ld 124 1 false (.t 123)),
 (2,.mov 125 (.t 4))]
 (.alt 3 (.mk 126 1 (.int .i64 0) (.t 125)) [0,1,2] [] (.alt 4 (.bld 127 [.int .i64 0,.nilsl 1] [(0,1,(.c (.int .i64 1))),(1,1,(.t 126))]) [0,1] [] (.alt 5 (.bsl 128 2 [(.t 127)]) [0,1] [] (.alt 6 (.app 129 2 (.t 124) (.t 128)) [0,1] [124] (.alt 7 (.fadr 130 1 (.t 5)) [] [] (.alt 8 (.st 1 (.t 130) (.t 129)) [] [] .nil .nil) .nil) .nil) .nil) .nil) .nil)))))
def Xh:ACode:=
 (.seq (.reg [un (.alc 2 (.agg [.int .i64 0,.nilsl 2]))])
 (.seq (.seq (.reg [un (.mov 9 (.t 0)),
 un (.call 10 M1 [((.t 9),true),((.c (.int .i64 4)),false)]),
 un (.un 11 .not (.t 10))])
 (.drop [9,10] (.cond (.t 11) (.seq (.reg [un (.mov 12 (.t 0)),
 un (.call 13 B5 [((.t 12),true),((.c (.int .i64 17)),false)]),
 un (.call 14 Ra [((.t 13),false)]),
 un (.alc 3 (.agg [.int .i64 0,.nilsl 2])),
 un (.st 2 (.t 3) (.t 14))])
 (.drop [12,13,14] (.seq (.reg [un (.ld 15 2 true (.t 3)),
 un (.st 2 (.t 2) (.t 15))])
 (.drop [15] .ret))))
 .skip)))
 (.drop [9,10,11,12,13,14,3,15] (.seq (.reg [un (.mov 16 (.t 0)),
 un (.bsl 17 1 [(.c (.int .i64 2)),(.c (.int .i64 2)),(.c (.int .i64 3)),(.c (.int .i64 3)),(.c (.int .i64 4))]),
 un (.call 18 B6 [((.t 16),true),((.t 17),false)]),
 un (.asg 4 (.t 18))])
 (.drop [16,17,18] (.seq (.reg [un (.mov 19 (.t 4)),
 un (.bld 20 [.int .i64 0,.nilsl 2] [(0,1,(.t 19))]),
 un (.alc 5 (.agg [.int .i64 0,.nilsl 2])),
 un (.st 2 (.t 5) (.t 20))])
 (.drop [19,20] (.seq (.seq (.reg [un (.mov 21 (.t 0)),
 un (.bsl 22 1 [(.c (.int .i64 1)),(.c (.int .i64 1)),(.c (.int .i64 2))]),
 un (.call 23 B6 [((.t 21),true),((.t 22),false)]),
 un (.asg 6 (.t 23))])
 (.drop [21,22,23] (.block 0 (.loop K9))))
 (.drop [21,22,23,6,24,25,28,29,30,31,7,32,33,34,35,36,37,38,39,40,41,42,43,8,44,45,48,49,50,51,52,53,54,55,46,47,56,57,58,59,60,61,26,27] (.seq (.seq (.reg [un (.mov 62 (.t 0)),
 un (.call 63 B5 [((.t 62),true),((.c (.int .i64 16)),false)])])
 (.drop [62] (.block 4 (.seq (.reg [un (.bin 65 .eql (.t 63) (.c (.int .i64 0))),
 un (.asg 64 (.t 65))])
 (.drop [65] (.cond (.t 64) (.reg [un (.mov 66 (.t 0)),
 un (.mov 67 (.t 4)),
 un (.bin 68 .add (.t 67) (.c (.int .i64 1))),
 un (.bsl 69 1 [(.c (.int .i64 0)),(.c (.int .i64 9)),(.t 68)]),
 un (.call 70 B6 [((.t 66),true),((.t 69),false)]),
 un (.fadr 71 0 (.t 5)),
 un (.st 1 (.t 71) (.t 70))])
 (.seq (.reg [un (.bin 73 .eql (.t 63) (.c (.int .i64 1))),
 un (.asg 72 (.t 73))])
 (.drop [73] (.cond (.t 72) (.dregl [(0,.fadr 74 1 (.t 5)),
 (1,.ld 75 1 false (.t 74)),
 (2,.fadr 76 1 (.t 5)),
 (3,.ld 77 1 false (.t 76)),
 (4,.iad 78 2 (.t 77) (.c (.int .i64 0))),
 (5,.fadr 79 1 (.t 78)),
 (6,.ld 80 1 false (.t 79))]
 (.alt 7 (.bsl 81 1 [(.c (.int .i64 0))]) [0,1,2,3,4,5,6] [] (.alt 8 (.app 82 1 (.t 80) (.t 81)) [0,1,2,3,4,5,6] [80] (.alt 9 (.iad 83 2 (.t 75) (.c (.int .i64 0))) [0,1] [] (.alt 10 (.fadr 84 1 (.t 83)) [] [] (.alt 11 (.st 1 (.t 84) (.t 82)) [] [] .nil .nil) .nil) .nil) .nil) .nil))
 (.seq (.reg [un (.bin 86 .eql (.t 63) (.c (.int .i64 2))),
 un (.asg 85 (.t 86))])
 (.drop [86] (.cond (.t 85) (.dregl [(0,.fadr 87 1 (.t 5)),
 (1,.ld 88 1 false (.t 87)),
 (2,.iad 89 2 (.t 88) (.c (.int .i64 0))),
 (3,.fadr 90 1 (.t 89)),
 (4,.ld 91 1 false (.t 90)),
 (5,.mov 92 (.t 0)),
 (6,.fadr 93 1 (.t 5)),
 (7,.ld 94 1 false (.t 93)),
 (8,.iad 95 2 (.t 94) (.c (.int .i64 0))),
 (9,.fadr 96 1 (.t 95)),
 (10,.ld 97 1 false (.t 96)),
 (13,.mov 100 (.t 0)),
 (14,.mov 101 (.t 4))]
 (.alt 11 (.len 98 (.t 97)) [0,1,2,3,4,5,6,7,8,9,10,13,14] [] (.alt 12 (.call 99 B5 [((.t 92),true),((.t 98),false)]) [0,1,2,3,4,5,13,14] [] (.alt 15 (.bsl 102 1 [(.c (.int .i64 (-1))),(.t 101)]) [0,1,2,3,4,13,14] [] (.alt 16 (.call 103 B6 [((.t 100),true),((.t 102),false)]) [0,1,2,3,4,13] [] (.alt 17 (.iad 104 1 (.t 91) (.t 99)) [0,1,2,3,4] [] (.alt 18 (.st 1 (.t 104) (.t 103)) [] [] .nil .nil) .nil) .nil) .nil) (.alt 15 (.bsl 102 1 [(.c (.int .i64 (-1))),(.t 101)]) [0,1,2,3,4,5,13,14] [] (.alt 12 (.call 99 B5 [((.t 92),true),((.t 98),false)]) [0,1,2,3,4,5,13] [] (.alt 16 (.call 103 B6 [((.t 100),true),((.t 102),false)]) [0,1,2,3,4,13] [] (.alt 17 (.iad 104 1 (.t 91) (.t 99)) [0,1,2,3,4] [] (.alt 18 (.st 1 (.t 104) (.t 103)) [] [] .nil .nil) .nil) .nil) .nil) .nil)) (.alt 15 (.bsl 102 1 [(.c (.int .i64 (-1))),(.t 101)]) [0,1,2,3,4,5,6,7,8,9,10,13,14] [] (.alt 11 (.len 98 (.t 97)) [0,1,2,3,4,5,6,7,8,9,10,13] [] (.alt 12 (.call 99 B5 [((.t 92),true),((.t 98),false)]) [0,1,2,3,4,5,13] [] (.alt 16 (.call 103 B6 [((.t 100),true),((.t 102),false)]) [0,1,2,3,4,13] [] (.alt 17 (.iad 104 1 (.t 91) (.t 99)) [0,1,2,3,4] [] (.alt 18 (.st 1 (.t 104) (.t 103)) [] [] .nil .nil) .nil) .nil) .nil) .nil) .nil)))
 (.seq (.reg [un (.bin 106 .eql (.t 63) (.c (.int .i64 3))),
 un (.asg 105 (.t 106))])
 (.drop [106] (.cond (.t 105) (.dregl [(0,.fadr 107 1 (.t 5)),
 (1,.ld 108 1 false (.t 107)),
 (2,.mov 109 (.t 0))]
 (.alt 3 (.bsl 110 1 [(.c (.int .i64 (-1))),(.c (.int .i64 4))]) [0,1,2] [] (.alt 4 (.call 111 B6 [((.t 109),true),((.t 110),false)]) [0,1,2] [] (.alt 5 (.iad 112 2 (.t 108) (.c (.int .i64 0))) [0,1] [] (.alt 6 (.fadr 113 0 (.t 112)) [] [] (.alt 7 (.st 1 (.t 113) (.t 111)) [] [] .nil .nil) .nil) .nil) .nil) .nil))
 (.seq (.reg [un (.bin 115 .eql (.t 63) (.c (.int .i64 4))),
 un (.asg 114 (.t 115))])
 (.drop [115] (.cond (.t 114) (.block 5 (.loop Lb))
 .skip))))))))))))))))))
 (.drop [62,63,65,64,66,67,68,69,70,71,73,72,74,75,76,77,78,79,80,81,82,83,84,86,85,87,88,89,90,91,92,93,94,95,96,97,98,99,100,101,102,103,104,106,105,107,108,109,110,111,112,113,115,114,116,117,118,119,120,121,122,123,124,125,126,127,128,129,130] (.seq (.reg [un (.ld 131 2 true (.t 5)),
 un (.st 2 (.t 2) (.t 131))])
 (.drop [131] .ret)))))))))))))
abbrev Ym:List RS:=[.c 2 2 true]
theorem Yu:Ay Tryz.prog Iu 132 Xh Ym=true:=by kernel_rfl
def Jt:ACode:=
 (.seq (.seq (.reg [un (.mov 23 (.t 6)),
 un (.fadr 24 0 (.t 1)),
 un (.ld 25 1 false (.t 24)),
 un (.bin 26 .lss (.t 23) (.t 25))])
 (.drop [23,24,25] (.cond (.t 26) .skip
 (.exit 2))))
 (.drop [23,24,25,26] (.seq (.block 3 (.reg [un (.mov 29 (.t 4)),
 un (.ld 30 2 true (.t 1)),
 un (.mov 31 (.t 5)),
 un (.mov 32 (.t 6)),
 un (.bld 33 [.int .i64 0,.int .i64 0] [(0,1,(.t 31)),(1,1,(.t 32))]),
 un (.bsl 34 2 [(.t 33)]),
 un (.call 35 Jq [((.t 30),false),((.t 34),false)]),
 un (.bsl 36 1 [(.t 35)]),
 un (.app 37 1 (.t 29) (.t 36)),
 un (.asg 4 (.t 37))]))
 (.drop [29,30,31,32,33,34,35,36,37] (.reg [un (.mov 27 (.t 6)),
 un (.bin 28 .add (.t 27) (.c (.int .i64 1))),
 un (.asg 6 (.t 28))])))))
def J3:ACode:=
 (.seq (.seq (.reg [un (.mov 15 (.t 5)),
 un (.fadr 16 0 (.t 1)),
 un (.ld 17 1 false (.t 16)),
 un (.bin 18 .lss (.t 15) (.t 17))])
 (.drop [15,16,17] (.cond (.t 18) .skip
 (.exit 0))))
 (.drop [15,16,17,18] (.seq (.block 1 (.seq (.reg [un (.mov 21 (.t 5)),
 un (.bin 22 .add (.t 21) (.c (.int .i64 1))),
 un (.asg 6 (.t 22))])
 (.drop [21,22] (.block 2 (.loop Jt)))))
 (.drop [21,22,6,23,24,25,26,29,30,31,32,33,34,35,36,37,27,28] (.reg [un (.mov 19 (.t 5)),
 un (.bin 20 .add (.t 19) (.c (.int .i64 1))),
 un (.asg 5 (.t 20))])))))
def Kf:ACode:=
 (.seq (.reg [un (.bin 57 .lss (.t 56) (.t 55))])
 (.seq (.cond (.t 57) .skip
 (.exit 6))
 (.seq (.block 7 (.seq (.reg [un (.iad 58 1 (.t 54) (.t 56)),
 un (.ld 59 1 false (.t 58)),
 un (.asg 11 (.t 59))])
 (.drop [58,59] (.seq (.reg [un (.mov 60 (.t 7)),
 un (.mov 61 (.t 9)),
 un (.iad 62 1 (.t 60) (.t 61)),
 un (.ld 63 1 false (.t 62)),
 un (.mov 64 (.t 11)),
 un (.call 65 Yj [((.t 63),false),((.t 64),false)]),
 un (.asg 12 (.t 65))])
 (.drop [60,61,62,63,64,65] (.seq (.seq (.reg [un (.mov 66 (.t 12)),
 un (.call 67 Pk [((.t 66),false)]),
 un (.asg 13 (.t 67))])
 (.drop [66,67] (.seq (.reg [un (.mov 68 (.t 8)),
 un (.mov 69 (.t 13)),
 un (.mlk 70 (.t 68) (.t 69) (.bool false) false),
 un (.un 71 .not (.t 70))])
 (.drop [68,69,70] (.cond (.t 71) (.seq (.reg [un (.mov 72 (.t 8)),
 un (.mov 73 (.t 13)),
 un (.mup (.t 72) (.t 73) (.c (.bool true)))])
 (.drop [72,73] (.reg [un (.mov 74 (.t 7)),
 un (.mov 75 (.t 12)),
 un (.bsl 76 1 [(.t 75)]),
 un (.app 77 1 (.t 74) (.t 76)),
 un (.asg 7 (.t 77))])))
 .skip)))))
 (.drop [66,67,13,68,69,70,71,72,73,74,75,76,77] (.seq (.reg [un (.mov 78 (.t 7)),
 un (.len 79 (.t 78)),
 un (.bin 80 .gtr (.t 79) (.c (.int .i64 200)))])
 (.drop [78,79] (.cond (.t 80) (.seq (.reg [un (.asg 2 (.c (.nilsl 1))),
 un (.asg 3 (.c (.bool false)))])
 .ret)
 .skip))))))))))
 (.drop [58,59,11,60,61,62,63,64,65,12,66,67,13,68,69,70,71,72,73,74,75,76,77,78,79,80] (.reg [un (.bin 81 .add (.t 56) (.c (.int .i64 1))),
 un (.asg 56 (.t 81))])))))
def Ke:ACode:=
 (.seq (.seq (.reg [un (.mov 48 (.t 9)),
 un (.mov 49 (.t 7)),
 un (.len 50 (.t 49)),
 un (.bin 51 .lss (.t 48) (.t 50))])
 (.drop [48,49,50] (.cond (.t 51) .skip
 (.exit 4))))
 (.drop [48,49,50,51] (.seq (.block 5 (.seq (.reg [un (.mov 54 (.t 4)),
 un (.len 55 (.t 54)),
 un (.mov 56 (.c (.int .i64 0)))])
 (.block 6 (.loop Kf))))
 (.drop [54,55,56,57,58,59,11,60,61,62,63,64,65,12,66,67,13,68,69,70,71,72,73,74,75,76,77,78,79,80,81] (.reg [un (.mov 52 (.t 9)),
 un (.bin 53 .add (.t 52) (.c (.int .i64 1))),
 un (.asg 9 (.t 53))])))))
def W6:ACode:=
 (.seq (.reg [un (.box 1 (.t 0)),
 un (.asg 2 (.c (.nilsl 1))),
 un (.asg 3 (.c (.bool false)))])
 (.seq (.reg [un (.bsl 14 1 []),
 un (.asg 4 (.t 14))])
 (.drop [14] (.seq (.seq (.reg [un (.asg 5 (.c (.int .i64 0)))])
 (.block 0 (.loop J3)))
 (.drop [5,15,16,17,18,21,22,6,23,24,25,26,29,30,31,32,33,34,35,36,37,27,28,19,20] (.seq (.reg [un (.fadr 38 0 (.t 1)),
 un (.ld 39 1 false (.t 38)),
 un (.call 40 Ik [((.t 39),false)]),
 un (.bsl 41 1 [(.t 40)]),
 un (.asg 7 (.t 41))])
 (.drop [38,39,40,41] (.seq (.reg [un (.mkm 42),
 un (.mov 43 (.t 7)),
 un (.iad 44 1 (.t 43) (.c (.int .i64 0))),
 un (.ld 45 1 false (.t 44)),
 un (.call 46 Pk [((.t 45),false)]),
 un (.mup (.t 42) (.t 46) (.c (.bool true))),
 un (.asg 47 (.t 42)),
 un (.asg 8 (.t 47))])
 (.drop [42,43,44,45,46,47] (.seq (.seq (.reg [un (.asg 9 (.c (.int .i64 0)))])
 (.block 4 (.loop Ke)))
 (.drop [9,48,49,50,51,54,55,56,57,58,59,11,60,61,62,63,64,65,12,66,67,13,68,69,70,71,72,73,74,75,76,77,78,79,80,81,52,53] (.seq (.reg [un (.mov 82 (.t 7)),
 un (.call 83 Wy [((.t 82),true),((.c (.clo Ec [])),false)])])
 (.drop [82,83] (.seq (.reg [un (.mov 84 (.t 7)),
 un (.asg 2 (.t 84)),
 un (.asg 3 (.c (.bool true)))])
 (.drop [84] .ret)))))))))))))))
abbrev W4:List RS:=[.t 2,.t 3]
theorem Xc:Ay Tryz.prog Ig 85 W6 W4=true:=by kernel_rfl
def Ta:ACode:=
 (.seq (.seq (.reg [un (.mov 6 (.t 5)),
 un (.fadr 7 0 (.t 2)),
 un (.ld 8 1 false (.t 7)),
 un (.bin 9 .lss (.t 6) (.t 8))])
 (.drop [6,7,8] (.cond (.t 9) .skip
 (.exit 0))))
 (.drop [6,7,8,9] (.seq (.block 1 (.reg [un (.ld 12 2 true (.t 2)),
 un (.mov 13 (.t 1)),
 un (.call 14 Tu [((.t 12),false),((.t 13),false)]),
 un (.asg 1 (.t 14))]))
 (.drop [12,13,14] (.frz [1] (.reg [un (.mov 10 (.t 5)),
 un (.bin 11 .add (.t 10) (.c (.int .i64 1))),
 un (.asg 5 (.t 11))]))))))
def Akm:ACode:=
 (.seq (.reg [un (.box 2 (.t 0)),
 un (.asg 4 (.c (.nilsl 1)))])
 (.seq (.seq (.reg [un (.asg 5 (.c (.int .i64 0)))])
 (.block 0 (.loop Ta)))
 (.drop [5,6,7,8,9,12,13,14,10,11] (.seq (.reg [un (.mov 15 (.t 1)),
 un (.asg 4 (.t 15))])
 (.drop [15] .ret)))))
abbrev Akt:List RS:=[.t 4]
theorem Ajq:Ay Tryz.prog Qv 16 Akm Akt=true:=by kernel_rfl
def Xg:ACode:=
 (.seq (.reg [un (.alc 2 (.agg [.int .i64 0,.nilsl 2]))])
 (.seq (.reg [un (.mov 4 (.t 0)),
 un (.bld 5 [.nilsl 1,.int .i64 0,.int .u64 0] [(0,1,(.t 4))]),
 un (.box 6 (.t 5)),
 un (.asg 3 (.t 6))])
 (.drop [4,5,6] (.seq (.reg [un (.mov 7 (.t 3)),
 un (.call 8 Iu [((.t 7),true)]),
 un (.st 2 (.t 2) (.t 8))])
 (.drop [7,8] .ret)))))
abbrev X2:List RS:=[.c 2 2 true]
theorem X5:Ay Tryz.prog I4 9 Xg X2=true:=by kernel_rfl
def Abv:ACode:=
 (.seq (.reg [un (.box 1 (.t 0)),
 un (.asg 2 (.c (.nilsl 1))),
 un (.asg 3 (.c (.bool false)))])
 (.seq (.seq (.reg [un (.ld 4 2 true (.t 1)),
 un (.call 5 M9 [((.t 4),false)]),
 un (.un 6 .not (.t 5))])
 (.drop [4,5] (.cond (.t 6) (.seq (.reg [un (.asg 2 (.c (.nilsl 1))),
 un (.asg 3 (.c (.bool false)))])
 .ret)
 .skip)))
 (.drop [4,5,6] (.seq (.reg [un (.ld 7 2 true (.t 1)),
 un (.call 8 Ig [((.t 7),false)]),
 un (.ext 9 (.t 8) 0),
 un (.ext 10 (.t 8) 1),
 un (.asg 2 (.t 9)),
 un (.asg 3 (.t 10))])
 (.drop [7,8,9,10] .ret)))))
abbrev Aam:List RS:=[.t 2,.t 3]
theorem Aay:Ay Tryz.prog Cz 11 Abv Aam=true:=by kernel_rfl
def Abw:ACode:=
 (.seq (.reg [un (.box 3 (.t 0)),
 un (.asg 6 (.c (.nilsl 1)))])
 (.seq (.dreg [(un (.ld 7 2 true (.t 3)),[]),
 (un (.fadr 8 0 (.t 3)),[7]),
 (un (.ld 9 1 false (.t 8)),[7]),
 (un (.call 10 D7 [((.t 9),false)]),[7]),
 (un (.mov 11 (.t 1)),[7,8,9,10]),
 (un (.mov 12 (.t 2)),[7,8,9,10,11]),
 (un (.call 13 Is [((.t 10),false),((.t 11),false),((.t 12),false)]),[7])]
 [un (.call 14 Qv [((.t 7),false),((.t 13),false)]),
 un (.asg 6 (.t 14))])
 (.drop [7,8,9,10,11,12,13,14] .ret)))
abbrev Aa6:List RS:=[.t 6]
theorem Abb:Ay Tryz.prog K3 15 Abw Aa6=true:=by kernel_rfl
def Zk:ACode:=
 (.seq (.reg [un (.alc 2 (.agg [.int .i64 0,.nilsl 2]))])
 (.seq (.reg [un (.mov 3 (.t 0)),
 un (.call 4 I4 [((.t 3),false)]),
 un (.st 2 (.t 2) (.t 4))])
 (.drop [3,4] .ret)))
abbrev Zn:List RS:=[.c 2 2 true]
theorem Zl:Ay Tryz.prog Jp 5 Zk Zn=true:=by kernel_rfl
def Ahl:ACode:=
 (.seq (.reg [un (.box 1 (.t 0)),
 un (.asg 2 (.c (.bool false))),
 un (.asg 3 (.c (.bool false)))])
 (.seq (.reg [un (.ld 7 2 true (.t 1)),
 un (.call 8 Cz [((.t 7),false)]),
 un (.asg 6 (.t 8)),
 un (.ext 9 (.t 6) 0),
 un (.ext 10 (.t 6) 1),
 un (.asg 4 (.t 9)),
 un (.asg 5 (.t 10))])
 (.drop [7,8,6,9,10] (.seq (.reg [un (.mov 11 (.t 4)),
 un (.len 12 (.t 11)),
 un (.bin 13 .eql (.t 12) (.c (.int .i64 2))),
 un (.mov 14 (.t 5)),
 un (.asg 2 (.t 13)),
 un (.asg 3 (.t 14))])
 (.drop [11,12,13,14] .ret)))))
abbrev Agf:List RS:=[.t 2,.t 3]
theorem Ag3:Ay Tryz.prog Oh 15 Ahl Agf=true:=by kernel_rfl
def Adt:ACode:=
 (.seq (.reg [un (.box 1 (.t 0)),
 un (.asg 2 (.c (.nilsl 1))),
 un (.asg 3 (.c (.bool false)))])
 (.seq (.reg [un (.ld 8 2 true (.t 1)),
 un (.call 9 Cz [((.t 8),false)]),
 un (.asg 7 (.t 9)),
 un (.ext 10 (.t 7) 0),
 un (.ext 11 (.t 7) 1),
 un (.asg 4 (.t 10)),
 un (.asg 5 (.t 11))])
 (.drop [8,9,7,10,11] (.seq (.seq (.reg [un (.mov 12 (.t 5)),
 un (.un 13 .not (.t 12))])
 (.drop [12] (.cond (.t 13) (.seq (.reg [un (.bsl 14 1 []),
 un (.asg 2 (.t 14)),
 un (.asg 3 (.c (.bool false)))])
 (.drop [14] .ret))
 .skip)))
 (.drop [12,13,14] (.seq (.reg [un (.mov 15 (.t 4)),
 un (.call 16 Ih [((.t 15),false)]),
 un (.asg 6 (.t 16))])
 (.drop [15,16] (.seq (.seq (.reg [un (.mov 17 (.t 6)),
 un (.nilq 18 false (.t 17))])
 (.drop [17] (.cond (.t 18) (.seq (.reg [un (.bsl 19 1 []),
 un (.asg 2 (.t 19)),
 un (.asg 3 (.c (.bool false)))])
 (.drop [19] .ret))
 .skip)))
 (.drop [17,18,19] (.seq (.reg [un (.mov 20 (.t 6)),
 un (.asg 2 (.t 20)),
 un (.asg 3 (.c (.bool true)))])
 (.drop [20] .ret)))))))))))
abbrev Ab0:List RS:=[.t 2,.t 3]
theorem Abz:Ay Tryz.prog Mb 21 Adt Ab0=true:=by kernel_rfl
def Ry:ACode:=
 (.seq (.reg [un (.box 1 (.t 0)),
 un (.asg 2 (.c (.int .i64 0))),
 un (.asg 3 (.c (.bool false)))])
 (.seq (.reg [un (.ld 7 2 true (.t 1)),
 un (.call 8 Cz [((.t 7),false)]),
 un (.asg 6 (.t 8)),
 un (.ext 9 (.t 6) 0),
 un (.ext 10 (.t 6) 1),
 un (.alc 4 (.nilsl 1)),
 un (.st 1 (.t 4) (.t 9)),
 un (.asg 5 (.t 10))])
 (.drop [7,8,6,9,10] (.seq (.seq (.reg [un (.mov 11 (.t 5)),
 un (.un 12 .not (.t 11))])
 (.drop [11] (.cond (.t 12) (.seq (.reg [un (.asg 2 (.c (.int .i64 0))),
 un (.asg 3 (.c (.bool false)))])
 .ret)
 .skip)))
 (.drop [11,12] (.seq (.reg [un (.ld 13 1 false (.t 4)),
 un (.len 14 (.t 13)),
 un (.mkf 15 Dt [(.t 4)]),
 un (.call 16 Q5 [((.t 14),false),((.t 15),false)]),
 un (.asg 2 (.t 16)),
 un (.asg 3 (.c (.bool true)))])
 (.drop [13,14,15,16] .ret)))))))
abbrev Rz:List RS:=[.t 2,.t 3]
theorem Rp:Ay Tryz.prog Gg 17 Ry Rz=true:=by kernel_rfl
def Xb:ACode:=
 (.seq (.reg [un (.box 1 (.t 0)),
 un (.asg 2 (.c (.nilsl 1))),
 un (.asg 3 (.c (.bool false)))])
 (.seq (.reg [un (.ld 7 2 true (.t 1)),
 un (.call 8 Cz [((.t 7),false)]),
 un (.asg 6 (.t 8)),
 un (.ext 9 (.t 6) 0),
 un (.ext 10 (.t 6) 1),
 un (.asg 4 (.t 9)),
 un (.asg 5 (.t 10))])
 (.drop [7,8,6,9,10] (.seq (.seq (.reg [un (.mov 11 (.t 5)),
 un (.un 12 .not (.t 11))])
 (.drop [11] (.cond (.t 12) (.seq (.reg [un (.bsl 13 1 []),
 un (.asg 2 (.t 13)),
 un (.asg 3 (.c (.bool false)))])
 (.drop [13] .ret))
 .skip)))
 (.drop [11,12,13] (.seq (.reg [un (.mov 14 (.t 4)),
 un (.asg 2 (.t 14)),
 un (.asg 3 (.c (.bool true)))])
 (.drop [14] .ret)))))))
abbrev Xf:List RS:=[.t 2,.t 3]
theorem W9:Ay Tryz.prog H9 15 Xb Xf=true:=by kernel_rfl
def R4:ACode:=
 (.seq (.reg [un (.box 1 (.t 0)),
 un (.asg 2 (.c (.nilsl 1))),
 un (.asg 3 (.c (.bool false)))])
 (.seq (.reg [un (.ld 7 2 true (.t 1)),
 un (.call 8 Cz [((.t 7),false)]),
 un (.asg 6 (.t 8)),
 un (.ext 9 (.t 6) 0),
 un (.ext 10 (.t 6) 1),
 un (.asg 4 (.t 9)),
 un (.asg 5 (.t 10))])
 (.drop [7,8,6,9,10] (.seq (.seq (.reg [un (.mov 11 (.t 5)),
 un (.un 12 .not (.t 11))])
 (.drop [11] (.cond (.t 12) (.seq (.reg [un (.bsl 13 1 []),
 un (.asg 2 (.t 13)),
 un (.asg 3 (.c (.bool false)))])
 (.drop [13] .ret))
 .skip)))
 (.drop [11,12,13] (.seq (.frz [4] (.reg [un (.mov 14 (.t 4)),
 un (.slc 15 1 (.t 14) (some (.c (.int .i64 1))) none),
 un (.call 16 Od [((.t 15),false),((.c (.clo Du [])),false)]),
 un (.asg 2 (.t 16)),
 un (.asg 3 (.c (.bool true)))]))
 (.drop [14,15,16] .ret)))))))
abbrev Ru:List RS:=[.t 2,.t 3]
theorem Rv:Ay Tryz.prog Gf 17 R4 Ru=true:=by kernel_rfl
def Po:ACode:=
 (.seq (.reg [un (.box 1 (.t 0)),
 un (.asg 2 (.c (.bool false))),
 un (.asg 3 (.c (.bool false)))])
 (.seq (.reg [un (.ld 7 2 true (.t 1)),
 un (.call 8 Cz [((.t 7),false)]),
 un (.asg 6 (.t 8)),
 un (.ext 9 (.t 6) 0),
 un (.ext 10 (.t 6) 1),
 un (.asg 4 (.t 9)),
 un (.asg 5 (.t 10))])
 (.drop [7,8,6,9,10] (.seq (.reg [un (.mov 11 (.t 5)),
 un (.asg 12 (.t 11)),
 ⟨some (12,true),.mov 13 (.t 4)⟩,
 ⟨some (12,true),.call 14 Ih [((.t 13),false)]⟩,
 ⟨some (12,true),.nilq 15 true (.t 14)⟩,
 un (.pick 16 (.t 12) (.t 15) (.c (.bool false))),
 un (.mov 17 (.t 5)),
 un (.asg 2 (.t 16)),
 un (.asg 3 (.t 17))])
 (.drop [11,12,13,14,15,16,17] .ret)))))
abbrev Pm:List RS:=[.t 2,.t 3]
theorem Pp:Ay Tryz.prog Fq 18 Po Pm=true:=by kernel_rfl
def Uz:ACode:=
 (.seq (.seq (.reg [un (.mov 21 (.t 7)),
 un (.mov 22 (.t 6)),
 un (.bin 23 .lss (.t 21) (.t 22))])
 (.drop [21,22] (.cond (.t 23) .skip
 (.exit 2))))
 (.drop [21,22,23] (.seq (.block 3 (.reg [un (.mov 26 (.t 5)),
 un (.ld 27 2 true (.t 2)),
 un (.mov 28 (.t 6)),
 un (.mov 29 (.t 7)),
 un (.call 30 K3 [((.t 27),false),((.t 28),false),((.t 29),false)]),
 un (.call 31 Pg [((.t 26),false),((.t 30),false)]),
 un (.asg 5 (.t 31))]))
 (.drop [26,27,28,29,30,31] (.reg [un (.mov 24 (.t 7)),
 un (.bin 25 .add (.t 24) (.c (.int .i64 1))),
 un (.asg 7 (.t 25))])))))
def Ux:ACode:=
 (.seq (.seq (.reg [un (.mov 15 (.t 6)),
 un (.fadr 16 0 (.t 2)),
 un (.ld 17 1 false (.t 16)),
 un (.bin 18 .lss (.t 15) (.t 17))])
 (.drop [15,16,17] (.cond (.t 18) .skip
 (.exit 0))))
 (.drop [15,16,17,18] (.seq (.block 1 (.seq (.reg [un (.asg 7 (.c (.int .i64 0)))])
 (.block 2 (.loop Uz))))
 (.drop [7,21,22,23,26,27,28,29,30,31,24,25] (.reg [un (.mov 19 (.t 6)),
 un (.bin 20 .add (.t 19) (.c (.int .i64 1))),
 un (.asg 6 (.t 20))])))))
def Aeo:ACode:=
 (.seq (.reg [un (.mov 40 (.t 10)),
 un (.mov 41 (.t 9)),
 un (.len 42 (.t 41)),
 un (.bin 43 .lss (.t 40) (.t 42)),
 un (.asg 44 (.t 43)),
 ⟨some (44,true),.mov 45 (.t 8)⟩,
 ⟨some (44,true),.len 46 (.t 45)⟩,
 ⟨some (44,true),.mov 47 (.t 1)⟩,
 ⟨some (44,true),.bin 48 .leq (.t 46) (.t 47)⟩,
 un (.pick 49 (.t 44) (.t 48) (.c (.bool false)))])
 (.drop [40,41,42,43,44,45,46,47,48] (.cond (.t 49) .skip
 (.exit 4))))
def Aek:ACode:=
 (.seq (.reg [un (.mov 52 (.t 11)),
 un (.mov 53 (.t 5)),
 un (.len 54 (.t 53)),
 un (.bin 55 .lss (.t 52) (.t 54)),
 un (.asg 56 (.t 55)),
 ⟨some (56,true),.mov 57 (.t 8)⟩,
 ⟨some (56,true),.len 58 (.t 57)⟩,
 ⟨some (56,true),.mov 59 (.t 1)⟩,
 ⟨some (56,true),.bin 60 .leq (.t 58) (.t 59)⟩,
 un (.pick 61 (.t 56) (.t 60) (.c (.bool false)))])
 (.drop [52,53,54,55,56,57,58,59,60] (.cond (.t 61) .skip
 (.exit 6))))
def Ui:ACode:=
 (.seq (.cut Aek)
 (.drop [52,53,54,55,56,57,58,59,60,61] (.seq (.block 7 (.seq (.dreg [(un (.mov 64 (.t 9)),[]),
 (un (.mov 65 (.t 10)),[64]),
 (un (.iad 66 1 (.t 64) (.t 65)),[]),
 (un (.ld 67 1 false (.t 66)),[]),
 (un (.mov 68 (.t 5)),[64,65,66,67]),
 (un (.mov 69 (.t 11)),[64,65,66,67,68]),
 (un (.iad 70 1 (.t 68) (.t 69)),[64,65,66,67]),
 (un (.ld 71 1 false (.t 70)),[64,65,66,67])]
 [un (.call 72 Tl [((.t 67),false),((.t 71),false)]),
 un (.asg 12 (.t 72))])
 (.drop [64,65,66,67,68,69,70,71,72] (.seq (.frz [12] (.reg [un (.mov 73 (.t 8)),
 un (.mov 74 (.t 12)),
 un (.call 75 Pg [((.t 73),false),((.t 74),false)]),
 un (.asg 13 (.t 75))]))
 (.drop [73,74,75] (.seq (.reg [un (.mov 76 (.t 13)),
 un (.len 77 (.t 76)),
 un (.mov 78 (.t 8)),
 un (.len 79 (.t 78)),
 un (.bin 80 .gtr (.t 77) (.t 79))])
 (.drop [76,77,78,79] (.cond (.t 80) (.seq (.reg [un (.mov 81 (.t 13)),
 un (.asg 8 (.t 81))])
 (.drop [81] (.reg [un (.mov 82 (.t 9)),
 un (.mov 83 (.t 12)),
 un (.bsl 84 1 [(.t 83)]),
 un (.app 85 1 (.t 82) (.t 84)),
 un (.asg 9 (.t 85))])))
 .skip))))))))
 (.drop [64,65,66,67,68,69,70,71,72,12,73,74,75,13,76,77,78,79,80,81,82,83,84,85] (.reg [un (.mov 62 (.t 11)),
 un (.bin 63 .add (.t 62) (.c (.int .i64 1))),
 un (.asg 11 (.t 63))])))))
def Up:ACode:=
 (.seq (.cut Aeo)
 (.drop [40,41,42,43,44,45,46,47,48,49] (.seq (.block 5 (.seq (.reg [un (.asg 11 (.c (.int .i64 0)))])
 (.block 6 (.loop Ui))))
 (.drop [11,52,53,54,55,56,57,58,59,60,61,64,65,66,67,68,69,70,71,72,12,73,74,75,13,76,77,78,79,80,81,82,83,84,85,62,63] (.reg [un (.mov 50 (.t 10)),
 un (.bin 51 .add (.t 50) (.c (.int .i64 1))),
 un (.asg 10 (.t 51))])))))
def Alr:ACode:=
 (.seq (.reg [un (.box 2 (.t 0)),
 un (.asg 4 (.c (.nilsl 1)))])
 (.seq (.reg [un (.bsl 14 1 []),
 un (.asg 5 (.t 14))])
 (.drop [14] (.seq (.seq (.reg [un (.asg 6 (.c (.int .i64 0)))])
 (.frz [5] (.block 0 (.loop Ux))))
 (.drop [6,15,16,17,18,7,21,22,23,26,27,28,29,30,31,24,25,19,20] (.seq (.reg [un (.fadr 32 0 (.t 2)),
 un (.ld 33 1 false (.t 32)),
 un (.call 34 D7 [((.t 33),false)]),
 un (.bsl 35 1 [(.t 34)]),
 un (.asg 8 (.t 35))])
 (.drop [32,33,34,35] (.seq (.reg [un (.fadr 36 0 (.t 2)),
 un (.ld 37 1 false (.t 36)),
 un (.call 38 D7 [((.t 37),false)]),
 un (.bsl 39 1 [(.t 38)]),
 un (.asg 9 (.t 39))])
 (.drop [36,37,38,39] (.seq (.seq (.reg [un (.asg 10 (.c (.int .i64 0)))])
 (.frz [8,100009] (.block 4 (.loop Up))))
 (.drop [10,40,41,42,43,44,45,46,47,48,49,11,52,53,54,55,56,57,58,59,60,61,64,65,66,67,68,69,70,71,72,12,73,74,75,13,76,77,78,79,80,81,82,83,84,85,62,63,50,51] (.seq (.reg [un (.mov 86 (.t 8)),
 un (.asg 4 (.t 86))])
 (.drop [86] .ret)))))))))))))
abbrev Al1:List RS:=[.t 4]
theorem Ama:Ay Tryz.prog Nl 87 Alr Al1=true:=by kernel_rfl
def Ap2:ACode:=
 (.seq (.reg [un (.box 1 (.t 0)),
 un (.asg 2 (.c (.bool false)))])
 (.seq (.reg [un (.ld 3 2 true (.t 1)),
 un (.call 4 Ts [((.t 3),false)]),
 un (.asg 5 (.t 4)),
 ⟨some (5,true),.ld 6 2 true (.t 1)⟩,
 ⟨some (5,true),.call 7 Nl [((.t 6),false),((.c (.int .i64 200)),false)]⟩,
 ⟨some (5,true),.len 8 (.t 7)⟩,
 ⟨some (5,true),.bin 9 .leq (.t 8) (.c (.int .i64 200))⟩,
 un (.pick 10 (.t 5) (.t 9) (.c (.bool false))),
 un (.asg 2 (.t 10))])
 (.drop [3,4,5,6,7,8,9,10] .ret)))
abbrev Ao3:List RS:=[.t 2]
theorem Apn:Ay Tryz.prog Hl 11 Ap2 Ao3=true:=by kernel_rfl
def Apb:ACode:=
 (.seq (.reg [un (.box 1 (.t 0)),
 un (.asg 2 (.c (.nilsl 1)))])
 (.seq (.reg [un (.ld 3 2 true (.t 1)),
 un (.call 4 Nl [((.t 3),false),((.c (.int .i64 5000)),false)]),
 un (.asg 2 (.t 4))])
 (.drop [3,4] .ret)))
abbrev Ap8:List RS:=[.t 2]
theorem Ao6:Ay Tryz.prog Hm 5 Apb Ap8=true:=by kernel_rfl
def Ahr:ACode:=
 (.seq (.reg [un (.box 1 (.t 0)),
 un (.asg 2 (.c (.bool false))),
 un (.asg 3 (.c (.bool false)))])
 (.seq (.seq (.reg [un (.ld 4 2 true (.t 1)),
 un (.call 5 Hl [((.t 4),false)]),
 un (.un 6 .not (.t 5))])
 (.drop [4,5] (.cond (.t 6) (.seq (.reg [un (.asg 2 (.c (.bool false))),
 un (.asg 3 (.c (.bool false)))])
 .ret)
 .skip)))
 (.drop [4,5,6] (.seq (.reg [un (.ld 7 2 true (.t 1)),
 un (.call 8 Hm [((.t 7),false)]),
 un (.len 9 (.t 8)),
 un (.bin 10 .eql (.t 9) (.c (.int .i64 2))),
 un (.asg 2 (.t 10)),
 un (.asg 3 (.c (.bool true)))])
 (.drop [7,8,9,10] .ret)))))
abbrev Ahq:List RS:=[.t 2,.t 3]
theorem Ahj:Ay Tryz.prog Oz 11 Ahr Ahq=true:=by kernel_rfl
def Rw:ACode:=
 (.seq (.reg [un (.box 1 (.t 0)),
 un (.asg 2 (.c (.int .i64 0))),
 un (.asg 3 (.c (.bool false)))])
 (.seq (.seq (.reg [un (.ld 4 2 true (.t 1)),
 un (.call 5 Hl [((.t 4),false)]),
 un (.un 6 .not (.t 5))])
 (.drop [4,5] (.cond (.t 6) (.seq (.reg [un (.asg 2 (.c (.int .i64 0))),
 un (.asg 3 (.c (.bool false)))])
 .ret)
 .skip)))
 (.drop [4,5,6] (.seq (.reg [un (.ld 7 2 true (.t 1)),
 un (.call 8 Hm [((.t 7),false)]),
 un (.call 9 Ob [((.t 8),false)]),
 un (.asg 2 (.t 9)),
 un (.asg 3 (.c (.bool true)))])
 (.drop [7,8,9] .ret)))))
abbrev Rq:List RS:=[.t 2,.t 3]
theorem R7:Ay Tryz.prog Gh 10 Rw Rq=true:=by kernel_rfl
def W2:ACode:=
 (.seq (.reg [un (.box 1 (.t 0)),
 un (.asg 2 (.c (.nilsl 1))),
 un (.asg 3 (.c (.bool false)))])
 (.seq (.seq (.reg [un (.ld 4 2 true (.t 1)),
 un (.call 5 Hl [((.t 4),false)]),
 un (.un 6 .not (.t 5))])
 (.drop [4,5] (.cond (.t 6) (.seq (.reg [un (.bsl 7 1 []),
 un (.asg 2 (.t 7)),
 un (.asg 3 (.c (.bool false)))])
 (.drop [7] .ret))
 .skip)))
 (.drop [4,5,6,7] (.seq (.reg [un (.ld 8 2 true (.t 1)),
 un (.call 9 Hm [((.t 8),false)]),
 un (.asg 2 (.t 9)),
 un (.asg 3 (.c (.bool true)))])
 (.drop [8,9] .ret)))))
abbrev Xd:List RS:=[.t 2,.t 3]
theorem W0:Ay Tryz.prog Ib 10 W2 Xd=true:=by kernel_rfl
def Rx:ACode:=
 (.seq (.reg [un (.box 1 (.t 0)),
 un (.asg 2 (.c (.nilsl 1))),
 un (.asg 3 (.c (.bool false)))])
 (.seq (.seq (.reg [un (.ld 4 2 true (.t 1)),
 un (.call 5 Hl [((.t 4),false)]),
 un (.un 6 .not (.t 5))])
 (.drop [4,5] (.cond (.t 6) (.seq (.reg [un (.bsl 7 1 []),
 un (.asg 2 (.t 7)),
 un (.asg 3 (.c (.bool false)))])
 (.drop [7] .ret))
 .skip)))
 (.drop [4,5,6,7] (.seq (.dreg [(un (.ld 8 2 true (.t 1)),[]),
 (un (.call 9 Hm [((.t 8),false)]),[]),
 (un (.fadr 10 0 (.t 1)),[8,9]),
 (un (.ld 11 1 false (.t 10)),[8,9])]
 [un (.call 12 D7 [((.t 11),false)]),
 un (.call 13 Kp [((.t 9),false),((.t 12),false)]),
 un (.asg 2 (.t 13)),
 un (.asg 3 (.c (.bool true)))])
 (.drop [8,9,10,11,12,13] .ret)))))
abbrev Ro:List RS:=[.t 2,.t 3]
theorem Rl:Ay Tryz.prog Gi 14 Rx Ro=true:=by kernel_rfl
def Aa0:ACode:=
 (.seq (.reg [un (.box 1 (.t 0)),
 un (.asg 2 (.c (.nilsl 1)))])
 (.seq (.reg [un (.ld 5 2 true (.t 1)),
 un (.call 6 Hm [((.t 5),false)]),
 un (.asg 3 (.t 6))])
 (.drop [5,6] (.seq (.reg [un (.mov 7 (.t 3)),
 un (.fadr 8 0 (.t 1)),
 un (.ld 9 1 false (.t 8)),
 un (.call 10 D7 [((.t 9),false)]),
 un (.call 11 Kp [((.t 7),false),((.t 10),false)]),
 un (.asg 4 (.t 11))])
 (.drop [7,8,9,10,11] (.seq (.seq (.reg [un (.mov 12 (.t 4)),
 un (.len 13 (.t 12)),
 un (.bin 14 .neq (.t 13) (.c (.int .i64 1)))])
 (.drop [12,13] (.cond (.t 14) (.seq (.reg [un (.bsl 15 1 []),
 un (.asg 2 (.t 15))])
 (.drop [15] .ret))
 .skip)))
 (.drop [12,13,14,15] (.seq (.reg [un (.mov 16 (.t 4)),
 un (.iad 17 1 (.t 16) (.c (.int .i64 0))),
 un (.ld 18 1 false (.t 17)),
 un (.asg 2 (.t 18))])
 (.drop [16,17,18] .ret)))))))))
abbrev Abq:List RS:=[.t 2]
theorem Aap:Ay Tryz.prog Kz 19 Aa0 Abq=true:=by kernel_rfl
def Ac3:ACode:=
 (.seq (.reg [un (.box 1 (.t 0)),
 un (.asg 2 (.c (.nilsl 1))),
 un (.asg 3 (.c (.bool false)))])
 (.seq (.seq (.reg [un (.ld 5 2 true (.t 1)),
 un (.call 6 Hl [((.t 5),false)]),
 un (.un 7 .not (.t 6))])
 (.drop [5,6] (.cond (.t 7) (.seq (.reg [un (.bsl 8 1 []),
 un (.asg 2 (.t 8)),
 un (.asg 3 (.c (.bool false)))])
 (.drop [8] .ret))
 .skip)))
 (.drop [5,6,7,8] (.seq (.reg [un (.ld 9 2 true (.t 1)),
 un (.call 10 Kz [((.t 9),false)]),
 un (.asg 4 (.t 10))])
 (.drop [9,10] (.seq (.reg [un (.mov 11 (.t 4)),
 un (.mov 12 (.t 4)),
 un (.len 13 (.t 12)),
 un (.bin 14 .gtr (.t 13) (.c (.int .i64 0))),
 un (.asg 2 (.t 11)),
 un (.asg 3 (.t 14))])
 (.drop [11,12,13,14] .ret)))))))
abbrev Acx:List RS:=[.t 2,.t 3]
theorem Ac5:Ay Tryz.prog L1 15 Ac3 Acx=true:=by kernel_rfl
def Aa8:ACode:=
 (.seq (.reg [un (.ld 41 2 true (.t 3)),
 un (.call 42 Oz [((.t 41),false)]),
 un (.asg 40 (.t 42)),
 un (.ext 43 (.t 40) 0),
 un (.ext 44 (.t 40) 1),
 un (.asg 6 (.t 43)),
 un (.asg 7 (.t 44))])
 (.drop [41,42,40,43,44] (.seq (.reg [un (.mov 45 (.t 4)),
 un (.mov 46 (.t 6)),
 un (.binb 47 .neq (.t 45) (.t 46)),
 un (.asg 48 (.t 47)),
 ⟨some (48,false),.mov 49 (.t 5)⟩,
 ⟨some (48,false),.mov 50 (.t 7)⟩,
 ⟨some (48,false),.binb 51 .neq (.t 49) (.t 50)⟩,
 un (.pick 52 (.t 48) (.c (.bool true)) (.t 51))])
 (.drop [45,46,47,48,49,50,51] (.cond (.t 52) (.seq (.reg [un (.asg 2 (.c (.bool false)))])
 .ret)
 .skip)))))
def Aaj:ACode:=
 (.seq (.reg [un (.ld 59 2 true (.t 3)),
 un (.call 60 L1 [((.t 59),false)]),
 un (.asg 58 (.t 60)),
 un (.ext 61 (.t 58) 0),
 un (.ext 62 (.t 58) 1),
 un (.asg 10 (.t 61)),
 un (.asg 11 (.t 62))])
 (.drop [59,60,58,61,62] (.seq (.reg [un (.mov 63 (.t 9)),
 un (.mov 64 (.t 11)),
 un (.binb 65 .neq (.t 63) (.t 64)),
 un (.asg 66 (.t 65)),
 ⟨some (66,false),.mov 67 (.t 8)⟩,
 ⟨some (66,false),.mov 68 (.t 10)⟩,
 ⟨some (66,false),.call 69 L3 [((.t 67),false),((.t 68),false)]⟩,
 ⟨some (66,false),.un 70 .not (.t 69)⟩,
 un (.pick 71 (.t 66) (.c (.bool true)) (.t 70))])
 (.drop [63,64,65,66,67,68,69,70] (.cond (.t 71) (.seq (.reg [un (.asg 2 (.c (.bool false)))])
 .ret)
 .skip)))))
def Abh:ACode:=
 (.seq (.reg [un (.ld 78 2 true (.t 3)),
 un (.call 79 Gh [((.t 78),false)]),
 un (.asg 77 (.t 79)),
 un (.ext 80 (.t 77) 0),
 un (.ext 81 (.t 77) 1),
 un (.asg 14 (.t 80)),
 un (.asg 15 (.t 81))])
 (.drop [78,79,77,80,81] (.seq (.reg [un (.mov 82 (.t 12)),
 un (.mov 83 (.t 14)),
 un (.bin 84 .neq (.t 82) (.t 83)),
 un (.asg 85 (.t 84)),
 ⟨some (85,false),.mov 86 (.t 13)⟩,
 ⟨some (85,false),.mov 87 (.t 15)⟩,
 ⟨some (85,false),.binb 88 .neq (.t 86) (.t 87)⟩,
 un (.pick 89 (.t 85) (.c (.bool true)) (.t 88)),
 un (.asg 90 (.t 89)),
 ⟨some (90,false),.mov 91 (.t 13)⟩,
 ⟨some (90,false),.mov 92 (.t 5)⟩,
 ⟨some (90,false),.binb 93 .neq (.t 91) (.t 92)⟩,
 un (.pick 94 (.t 90) (.c (.bool true)) (.t 93))])
 (.drop [82,83,84,85,86,87,88,89,90,91,92,93] (.cond (.t 94) (.seq (.reg [un (.asg 2 (.c (.bool false)))])
 .ret)
 .skip)))))
def Abg:ACode:=
 (.seq (.reg [un (.ld 105 2 true (.t 3)),
 un (.call 106 Ib [((.t 105),false)]),
 un (.asg 104 (.t 106)),
 un (.ext 107 (.t 104) 0),
 un (.ext 108 (.t 104) 1),
 un (.asg 18 (.t 107)),
 un (.asg 19 (.t 108))])
 (.drop [105,106,104,107,108] (.seq (.reg [un (.mov 109 (.t 17)),
 un (.mov 110 (.t 19)),
 un (.binb 111 .neq (.t 109) (.t 110)),
 un (.asg 112 (.t 111)),
 ⟨some (112,false),.mov 113 (.t 17)⟩,
 ⟨some (112,false),.un 114 .not (.t 113)⟩,
 un (.pick 115 (.t 112) (.c (.bool true)) (.t 114)),
 un (.asg 116 (.t 115)),
 ⟨some (116,false),.mov 117 (.t 16)⟩,
 ⟨some (116,false),.mov 118 (.t 18)⟩,
 ⟨some (116,false),.call 119 Nj [((.t 117),false),((.t 118),false)]⟩,
 ⟨some (116,false),.un 120 .not (.t 119)⟩,
 un (.pick 121 (.t 116) (.c (.bool true)) (.t 120)),
 un (.asg 122 (.t 121)),
 ⟨some (122,false),.mov 123 (.t 4)⟩,
 ⟨some (122,false),.mov 124 (.t 16)⟩,
 ⟨some (122,false),.len 125 (.t 124)⟩,
 ⟨some (122,false),.bin 126 .eql (.t 125) (.c (.int .i64 2))⟩,
 ⟨some (122,false),.binb 127 .neq (.t 123) (.t 126)⟩,
 un (.pick 128 (.t 122) (.c (.bool true)) (.t 127))])
 (.drop [109,110,111,112,113,114,115,116,117,118,119,120,121,122,123,124,125,126,127] (.cond (.t 128) (.seq (.reg [un (.asg 2 (.c (.bool false)))])
 .ret)
 .skip)))))
def Abs:ACode:=
 (.seq (.reg [un (.ld 135 2 true (.t 3)),
 un (.call 136 Gi [((.t 135),false)]),
 un (.asg 134 (.t 136)),
 un (.ext 137 (.t 134) 0),
 un (.ext 138 (.t 134) 1),
 un (.asg 22 (.t 137)),
 un (.asg 23 (.t 138))])
 (.drop [135,136,134,137,138] (.seq (.reg [un (.mov 139 (.t 21)),
 un (.mov 140 (.t 23)),
 un (.binb 141 .neq (.t 139) (.t 140)),
 un (.asg 142 (.t 141)),
 ⟨some (142,false),.mov 143 (.t 21)⟩,
 ⟨some (142,false),.un 144 .not (.t 143)⟩,
 un (.pick 145 (.t 142) (.c (.bool true)) (.t 144)),
 un (.asg 146 (.t 145)),
 ⟨some (146,false),.mov 147 (.t 20)⟩,
 ⟨some (146,false),.mov 148 (.t 22)⟩,
 ⟨some (146,false),.call 149 Nj [((.t 147),false),((.t 148),false)]⟩,
 ⟨some (146,false),.un 150 .not (.t 149)⟩,
 un (.pick 151 (.t 146) (.c (.bool true)) (.t 150))])
 (.drop [139,140,141,142,143,144,145,146,147,148,149,150] (.cond (.t 151) (.seq (.reg [un (.asg 2 (.c (.bool false)))])
 .ret)
 .skip)))))
def Aau:ACode:=
 (.seq (.reg [un (.mov 157 (.t 25)),
 un (.un 158 .not (.t 157)),
 un (.asg 159 (.t 158)),
 ⟨some (159,false),.mov 160 (.t 24)⟩,
 ⟨some (159,false),.mov 161 (.t 9)⟩,
 ⟨some (159,false),.binb 162 .neq (.t 160) (.t 161)⟩,
 un (.pick 163 (.t 159) (.c (.bool true)) (.t 162)),
 un (.asg 164 (.t 163)),
 ⟨some (164,false),.mov 165 (.t 9)⟩,
 ⟨some (164,false),.mov 166 (.t 20)⟩,
 ⟨some (164,false),.len 167 (.t 166)⟩,
 ⟨some (164,false),.bin 168 .eql (.t 167) (.c (.int .i64 1))⟩,
 ⟨some (164,false),.binb 169 .neq (.t 165) (.t 168)⟩,
 un (.pick 170 (.t 164) (.c (.bool true)) (.t 169)),
 un (.asg 171 (.t 170)),
 ⟨some (171,false),.mov 172 (.t 12)⟩,
 ⟨some (171,false),.mov 173 (.t 20)⟩,
 ⟨some (171,false),.len 174 (.t 173)⟩,
 ⟨some (171,false),.bin 175 .lss (.t 172) (.t 174)⟩,
 un (.pick 176 (.t 171) (.c (.bool true)) (.t 175)),
 un (.asg 177 (.t 176)),
 ⟨some (177,false),.mov 178 (.t 12)⟩,
 ⟨some (177,false),.bin 179 .lss (.t 178) (.c (.int .i64 1))⟩,
 un (.pick 180 (.t 177) (.c (.bool true)) (.t 179)),
 un (.asg 181 (.t 180)),
 ⟨some (181,false),.mov 182 (.t 12)⟩,
 ⟨some (181,false),.mov 183 (.t 16)⟩,
 ⟨some (181,false),.len 184 (.t 183)⟩,
 ⟨some (181,false),.bin 185 .gtr (.t 182) (.t 184)⟩,
 un (.pick 186 (.t 181) (.c (.bool true)) (.t 185))])
 (.drop [157,158,159,160,161,162,163,164,165,166,167,168,169,170,171,172,173,174,175,176,177,178,179,180,181,182,183,184,185] (.cond (.t 186) (.seq (.reg [un (.asg 2 (.c (.bool false)))])
 .ret)
 .skip)))
def Aaz:ACode:=
 (.seq (.reg [un (.mov 187 (.t 4)),
 un (.asg 188 (.t 187)),
 ⟨some (188,true),.mov 189 (.t 9)⟩,
 ⟨some (188,true),.un 190 .not (.t 189)⟩,
 ⟨some (188,true),.asg 191 (.t 190)⟩,
 ⟨some (191,false),.mov 192 (.t 8)⟩,
 ⟨some (191,false),.fadr 193 0 (.t 3)⟩,
 ⟨some (191,false),.ld 194 1 false (.t 193)⟩,
 ⟨some (191,false),.mk 195 1 (.int .i64 0) (.t 194)⟩,
 ⟨some (191,false),.call 196 L3 [((.t 192),false),((.t 195),false)]⟩,
 ⟨some (191,false),.un 197 .not (.t 196)⟩,
 ⟨some (188,true),.pick 198 (.t 191) (.c (.bool true)) (.t 197)⟩,
 un (.pick 199 (.t 188) (.t 198) (.c (.bool false)))])
 (.drop [187,188,189,190,191,192,193,194,195,196,197,198] (.cond (.t 199) (.seq (.reg [un (.asg 2 (.c (.bool false)))])
 .ret)
 .skip)))
def Rj:ACode:=
 (.seq (.seq (.reg [un (.mov 201 (.t 26)),
 un (.mov 202 (.t 16)),
 un (.len 203 (.t 202)),
 un (.bin 204 .lss (.t 201) (.t 203))])
 (.drop [201,202,203] (.cond (.t 204) .skip
 (.exit 0))))
 (.drop [201,202,203,204] (.seq (.block 1 (.seq (.dreg [(un (.fadr 208 0 (.t 3)),[]),
 (un (.ld 209 1 false (.t 208)),[]),
 (un (.mov 210 (.t 8)),[208,209]),
 (un (.mov 211 (.t 16)),[208,209,210]),
 (un (.mov 212 (.t 26)),[208,209,210,211]),
 (un (.iad 213 1 (.t 211) (.t 212)),[208,209,210]),
 (un (.ld 214 1 false (.t 213)),[208,209,210]),
 (un (.call 215 Rh [((.t 209),false),((.t 210),false),((.t 214),false)]),[]),
 (un (.asg 207 (.t 215)),[]),
 (un (.ext 216 (.t 207) 0),[215]),
 (un (.ext 217 (.t 207) 1),[216,215,216])]
 [un (.asg 27 (.t 216)),
 un (.asg 28 (.t 217))])
 (.drop [208,209,210,211,212,213,214,215,207,216,217] (.seq (.dreg [(un (.fadr 219 0 (.t 3)),[]),
 (un (.ld 220 1 false (.t 219)),[]),
 (un (.mov 221 (.t 16)),[219,220]),
 (un (.mov 222 (.t 26)),[219,220,221]),
 (un (.iad 223 1 (.t 221) (.t 222)),[219,220]),
 (un (.ld 224 1 false (.t 223)),[219,220]),
 (un (.call 225 Oi [((.t 220),false),((.t 224),false)]),[]),
 (un (.asg 218 (.t 225)),[]),
 (un (.ext 226 (.t 218) 0),[225]),
 (un (.ext 227 (.t 218) 1),[226,225,226])]
 [un (.asg 29 (.t 226)),
 un (.asg 30 (.t 227))])
 (.drop [219,220,221,222,223,224,225,218,226,227] (.seq (.reg [un (.mov 228 (.t 28)),
 un (.un 229 .not (.t 228)),
 un (.asg 230 (.t 229)),
 ⟨some (230,false),.mov 231 (.t 30)⟩,
 ⟨some (230,false),.un 232 .not (.t 231)⟩,
 un (.pick 233 (.t 230) (.c (.bool true)) (.t 232)),
 un (.asg 234 (.t 233)),
 ⟨some (234,false),.mov 235 (.t 27)⟩,
 ⟨some (234,false),.mov 236 (.t 29)⟩,
 ⟨some (234,false),.len 237 (.t 236)⟩,
 ⟨some (234,false),.fadr 238 0 (.t 3)⟩,
 ⟨some (234,false),.ld 239 1 false (.t 238)⟩,
 ⟨some (234,false),.bin 240 .lss (.t 237) (.t 239)⟩,
 ⟨some (234,false),.binb 241 .neq (.t 235) (.t 240)⟩,
 un (.pick 242 (.t 234) (.c (.bool true)) (.t 241))])
 (.drop [228,229,230,231,232,233,234,235,236,237,238,239,240,241] (.cond (.t 242) (.seq (.reg [un (.asg 2 (.c (.bool false)))])
 .ret)
 .skip))))))))
 (.drop [208,209,210,211,212,213,214,215,207,216,217,27,28,219,220,221,222,223,224,225,218,226,227,29,30,228,229,230,231,232,233,234,235,236,237,238,239,240,241,242] (.reg [un (.mov 205 (.t 26)),
 un (.bin 206 .add (.t 205) (.c (.int .i64 1))),
 un (.asg 26 (.t 206))])))))
def Agx:ACode:=
 (.seq (.reg [un (.asg 2 (.c (.bool false)))])
 (.seq (.seq (.reg [un (.mov 31 (.t 0)),
 un (.call 32 X4 [((.t 31),false)])])
 (.drop [31] (.cond (.t 32) (.seq (.reg [un (.asg 2 (.c (.bool true)))])
 .ret)
 .skip)))
 (.drop [31,32] (.seq (.reg [un (.mov 33 (.t 0)),
 un (.call 34 Jp [((.t 33),false)]),
 un (.alc 3 (.agg [.int .i64 0,.nilsl 2])),
 un (.st 2 (.t 3) (.t 34))])
 (.drop [33,34] (.seq (.reg [un (.ld 36 2 true (.t 3)),
 un (.call 37 Oh [((.t 36),false)]),
 un (.asg 35 (.t 37)),
 un (.ext 38 (.t 35) 0),
 un (.ext 39 (.t 35) 1),
 un (.asg 4 (.t 38)),
 un (.asg 5 (.t 39))])
 (.drop [36,37,35,38,39] (.seq (.cut Aa8)
 (.drop [41,42,40,43,44,6,7,45,46,47,48,49,50,51,52] (.seq (.reg [un (.ld 54 2 true (.t 3)),
 un (.call 55 Mb [((.t 54),false)]),
 un (.asg 53 (.t 55)),
 un (.ext 56 (.t 53) 0),
 un (.ext 57 (.t 53) 1),
 un (.asg 8 (.t 56)),
 un (.asg 9 (.t 57))])
 (.drop [54,55,53,56,57] (.seq (.cut Aaj)
 (.drop [59,60,58,61,62,10,11,63,64,65,66,67,68,69,70,71] (.seq (.reg [un (.ld 73 2 true (.t 3)),
 un (.call 74 Gg [((.t 73),false)]),
 un (.asg 72 (.t 74)),
 un (.ext 75 (.t 72) 0),
 un (.ext 76 (.t 72) 1),
 un (.asg 12 (.t 75)),
 un (.asg 13 (.t 76))])
 (.drop [73,74,72,75,76] (.seq (.cut Abh)
 (.drop [78,79,77,80,81,14,15,82,83,84,85,86,87,88,89,90,91,92,93,94] (.seq (.seq (.reg [un (.mov 95 (.t 5)),
 un (.un 96 .not (.t 95))])
 (.drop [95] (.cond (.t 96) (.seq (.reg [un (.mov 97 (.t 9)),
 un (.un 98 .not (.t 97)),
 un (.asg 2 (.t 98))])
 (.drop [97,98] .ret))
 .skip)))
 (.drop [95,96,97,98] (.seq (.reg [un (.ld 100 2 true (.t 3)),
 un (.call 101 H9 [((.t 100),false)]),
 un (.asg 99 (.t 101)),
 un (.ext 102 (.t 99) 0),
 un (.ext 103 (.t 99) 1),
 un (.asg 16 (.t 102)),
 un (.asg 17 (.t 103))])
 (.drop [100,101,99,102,103] (.seq (.cut Abg)
 (.drop [105,106,104,107,108,18,19,109,110,111,112,113,114,115,116,117,118,119,120,121,122,123,124,125,126,127,128] (.seq (.reg [un (.ld 130 2 true (.t 3)),
 un (.call 131 Gf [((.t 130),false)]),
 un (.asg 129 (.t 131)),
 un (.ext 132 (.t 129) 0),
 un (.ext 133 (.t 129) 1),
 un (.asg 20 (.t 132)),
 un (.asg 21 (.t 133))])
 (.drop [130,131,129,132,133] (.seq (.cut Abs)
 (.drop [135,136,134,137,138,22,23,139,140,141,142,143,144,145,146,147,148,149,150,151] (.seq (.reg [un (.ld 153 2 true (.t 3)),
 un (.call 154 Fq [((.t 153),false)]),
 un (.asg 152 (.t 154)),
 un (.ext 155 (.t 152) 0),
 un (.ext 156 (.t 152) 1),
 un (.asg 24 (.t 155)),
 un (.asg 25 (.t 156))])
 (.drop [153,154,152,155,156] (.seq (.cut Aau)
 (.drop [157,158,159,160,161,162,163,164,165,166,167,168,169,170,171,172,173,174,175,176,177,178,179,180,181,182,183,184,185,186] (.seq (.cut Aaz)
 (.drop [187,188,189,190,191,192,193,194,195,196,197,198,199] (.seq (.seq (.reg [un (.mov 200 (.t 9))])
 (.cond (.t 200) (.seq (.reg [un (.asg 26 (.c (.int .i64 0)))])
 (.block 0 (.loop Rj)))
 .skip))
 (.drop [200,26,201,202,203,204,208,209,210,211,212,213,214,215,207,216,217,27,28,219,220,221,222,223,224,225,218,226,227,29,30,228,229,230,231,232,233,234,235,236,237,238,239,240,241,242,205,206] (.seq (.reg [un (.asg 2 (.c (.bool true)))])
 .ret))))))))))))))))))))))))))))))))))))
abbrev Ag7:List RS:=[.t 2]
theorem Agj:Ay Tryz.prog Wh 243 Agx Ag7=true:=by kernel_rfl
end Go.Proofs.YtjcekpmojnnmbaaGreat.Ax
