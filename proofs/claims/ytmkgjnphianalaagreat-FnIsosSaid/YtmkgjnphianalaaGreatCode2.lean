/-
  The small code of the functions, written by program; that the program's code is this one, the kernel looks at.
-/
import Derived.Test.YtmkgjnphianalaaGreatAx3
import Derived.Test.YtmkgjnphianalaaGreatProg
import Derived.KernelRfl
import Derived.Test.YtmkgjnphianalaaGreatNum
namespace Go.Proofs.YtmkgjnphianalaaGreat.Ax
open Go
set_option maxRecDepth 100000
def Aju:ACode:=
 (.seq (.reg [un (.fadr 4 0 (.t 1)),
 un (.ld 5 1 false (.t 4)),
 un (.call 6 Kz [((.t 5),false),((.c (.int .i64 1)),false),((.c (.int .i64 8)),false)]),
 un (.un 7 .not (.t 6)),
 un (.asg 8 (.t 7)),
 ⟨some (8,false),.fadr 9 1 (.t 1)⟩,
 ⟨some (8,false),.ld 10 1 false (.t 9)⟩,
 ⟨some (8,false),.len 11 (.t 10)⟩,
 ⟨some (8,false),.bin 12 .gtr (.t 11) (.c (.int .i64 4))⟩,
 un (.pick 13 (.t 8) (.c (.bool true)) (.t 12))])
 (.drop [4,5,6,7,8,9,10,11,12] (.cond (.t 13) (.seq (.reg [un (.asg 2 (.c (.bool false)))])
 .ret)
 .skip)))
def Yj:ACode:=
 (.seq (.seq (.reg [un (.mov 14 (.t 3)),
 un (.fadr 15 1 (.t 1)),
 un (.ld 16 1 false (.t 15)),
 un (.len 17 (.t 16)),
 un (.bin 18 .lss (.t 14) (.t 17))])
 (.drop [14,15,16,17] (.cond (.t 18) .skip
 (.exit 0))))
 (.drop [14,15,16,17,18] (.seq (.block 1 (.seq (.dreg [(un (.fadr 21 0 (.t 1)),[]),
 (un (.ld 22 1 false (.t 21)),[]),
 (un (.fadr 23 1 (.t 1)),[21,22]),
 (un (.ld 24 1 false (.t 23)),[21,22]),
 (un (.mov 25 (.t 3)),[21,22,23,24]),
 (un (.iad 26 2 (.t 24) (.t 25)),[21,22]),
 (un (.ld 27 2 true (.t 26)),[21,22])]
 [un (.call 28 Acf [((.t 22),false),((.t 27),false)]),
 un (.un 29 .not (.t 28))])
 (.drop [21,22,23,24,25,26,27,28] (.cond (.t 29) (.seq (.reg [un (.asg 2 (.c (.bool false)))])
 .ret)
 .skip))))
 (.drop [21,22,23,24,25,26,27,28,29] (.reg [un (.mov 19 (.t 3)),
 un (.bin 20 .add (.t 19) (.c (.int .i64 1))),
 un (.asg 3 (.t 20))])))))
def Arh:ACode:=
 (.seq (.reg [un (.box 1 (.t 0)),
 un (.asg 2 (.c (.bool false)))])
 (.seq (.cut Aju)
 (.drop [4,5,6,7,8,9,10,11,12,13] (.seq (.seq (.reg [un (.asg 3 (.c (.int .i64 0)))])
 (.block 0 (.loop Yj)))
 (.drop [3,14,15,16,17,18,21,22,23,24,25,26,27,28,29,19,20] (.seq (.reg [un (.asg 2 (.c (.bool true)))])
 .ret))))))
abbrev Asu:List RS:=[.t 2]
theorem Arx:Ay Tryz.prog Gh 30 Arh Asu=true:=by kernel_rfl
def Nf:ACode:=
 (.seq (.seq (.reg [un (.mov 9 (.t 4)),
 un (.mov 10 (.t 1)),
 un (.len 11 (.t 10)),
 un (.bin 12 .lss (.t 9) (.t 11)),
 un (.asg 13 (.t 12)),
 ⟨some (13,true),.mov 14 (.t 1)⟩,
 ⟨some (13,true),.mov 15 (.t 4)⟩,
 ⟨some (13,true),.iad 16 1 (.t 14) (.t 15)⟩,
 ⟨some (13,true),.ld 17 1 false (.t 16)⟩,
 ⟨some (13,true),.bin 18 .geq (.t 17) (.c (.int .i64 0))⟩,
 un (.pick 19 (.t 13) (.t 18) (.c (.bool false)))])
 (.drop [9,10,11,12,13,14,15,16,17,18] (.cond (.t 19) .skip
 (.exit 0))))
 (.drop [9,10,11,12,13,14,15,16,17,18,19] (.block 1 (.reg [un (.mov 20 (.t 4)),
 un (.bin 21 .add (.t 20) (.c (.int .i64 1))),
 un (.asg 4 (.t 21))]))))
def X1:ACode:=
 (.reg [un (.mov 26 (.t 0)),
 un (.nck 27 (.t 26)),
 un (.fadr 28 5 (.t 27)),
 un (.ld 29 1 false (.t 28)),
 un (.un 30 .not (.t 29)),
 un (.asg 31 (.t 30)),
 ⟨some (31,false),.mov 32 (.t 0)⟩,
 ⟨some (31,false),.nck 33 (.t 32)⟩,
 ⟨some (31,false),.fadr 34 2 (.t 33)⟩,
 ⟨some (31,false),.fadr 35 0 (.t 34)⟩,
 ⟨some (31,false),.ld 36 1 false (.t 35)⟩,
 ⟨some (31,false),.mov 37 (.t 1)⟩,
 ⟨some (31,false),.call 38 Wt [((.t 36),false),((.t 37),false)]⟩,
 un (.pick 39 (.t 31) (.c (.bool true)) (.t 38))])
def Y7:ACode:=
 (.seq (.dreg [(un (.mov 50 (.t 5)),[]),
 (un (.mov 51 (.t 0)),[50]),
 (un (.nck 52 (.t 51)),[50]),
 (un (.fadr 53 2 (.t 52)),[50]),
 (un (.fadr 54 0 (.t 53)),[50]),
 (un (.ld 55 1 false (.t 54)),[50]),
 (un (.bin 56 .lss (.t 50) (.t 55)),[]),
 (un (.asg 57 (.t 56)),[]),
 (⟨some (57,true),.mov 58 (.t 0)⟩,[56]),
 (⟨some (57,true),.nck 59 (.t 58)⟩,[56]),
 (⟨some (57,true),.fadr 60 8 (.t 59)⟩,[56]),
 (⟨some (57,true),.ld 61 1 false (.t 60)⟩,[56]),
 (⟨some (57,true),.len 62 (.t 61)⟩,[56]),
 (⟨some (57,true),.mov 63 (.t 0)⟩,[58,59,60,61,62,56]),
 (⟨some (57,true),.nck 64 (.t 63)⟩,[58,59,60,61,62,56]),
 (⟨some (57,true),.fadr 65 6 (.t 64)⟩,[58,59,60,61,62,56]),
 (⟨some (57,true),.ld 66 1 false (.t 65)⟩,[58,59,60,61,62,56])]
 [⟨some (57,true),.bin 67 .lss (.t 62) (.t 66)⟩,
 un (.pick 68 (.t 57) (.t 67) (.c (.bool false))),
 un (.asg 69 (.t 68)),
 ⟨some (69,true),.mov 70 (.t 0)⟩,
 ⟨some (69,true),.nck 71 (.t 70)⟩,
 ⟨some (69,true),.fadr 72 7 (.t 71)⟩,
 ⟨some (69,true),.ld 73 1 false (.t 72)⟩,
 ⟨some (69,true),.bin 74 .leq (.t 73) (.c (.int .i64 5000))⟩,
 un (.pick 75 (.t 69) (.t 74) (.c (.bool false)))])
 (.drop [50,51,52,53,54,55,56,57,58,59,60,61,62,63,64,65,66,67,68,69,70,71,72,73,74] (.cond (.t 75) .skip
 (.exit 2))))
def Nd:ACode:=
 (.seq (.cut Y7)
 (.drop [50,51,52,53,54,55,56,57,58,59,60,61,62,63,64,65,66,67,68,69,70,71,72,73,74,75] (.seq (.block 3 (.seq (.reg [un (.mov 78 (.t 0)),
 un (.nck 79 (.t 78)),
 un (.fadr 80 7 (.t 79)),
 un (.ld 81 1 false (.t 80)),
 un (.bin 82 .add (.t 81) (.c (.int .i64 1))),
 un (.nck 83 (.t 78)),
 un (.fadr 84 7 (.t 83)),
 un (.st 1 (.t 84) (.t 82))])
 (.drop [78,79,80,81,82,83,84] (.seq (.seq (.reg [un (.mov 85 (.t 0)),
 un (.nck 86 (.t 85)),
 un (.fadr 87 7 (.t 86)),
 un (.ld 88 1 false (.t 87)),
 un (.bin 89 .gtr (.t 88) (.c (.int .i64 5000)))])
 (.drop [85,86,87,88] (.cond (.t 89) .ret
 .skip)))
 (.drop [85,86,87,88,89] (.seq (.reg [un (.mov 90 (.t 1)),
 un (.call 91 Oe [((.t 90),false)]),
 un (.asg 6 (.t 91))])
 (.drop [90,91] (.seq (.reg [un (.mov 92 (.t 6)),
 un (.mov 93 (.t 4)),
 un (.mov 94 (.t 5)),
 un (.iad 95 1 (.t 92) (.t 93)),
 un (.st 1 (.t 95) (.t 94))])
 (.drop [92,93,94,95] (.seq (.dreg [(un (.mov 97 (.t 0)),[]),
 (un (.nck 98 (.t 97)),[]),
 (un (.fadr 99 0 (.t 98)),[]),
 (un (.ld 100 2 true (.t 99)),[]),
 (un (.mov 101 (.t 0)),[97,98,99,100]),
 (un (.nck 102 (.t 101)),[97,98,99,100]),
 (un (.fadr 103 2 (.t 102)),[97,98,99,100]),
 (un (.ld 104 2 true (.t 103)),[97,98,99,100]),
 (un (.mov 105 (.t 6)),[97,98,99,100,101,102,103,104]),
 (un (.call 106 Ol [((.t 100),false),((.t 104),false),((.t 105),false)]),[]),
 (un (.asg 96 (.t 106)),[]),
 (un (.ext 107 (.t 96) 0),[106]),
 (un (.ext 108 (.t 96) 1),[107,106,107])]
 [un (.asg 7 (.t 107)),
 un (.asg 8 (.t 108))])
 (.drop [97,98,99,100,101,102,103,104,105,106,96,107,108] (.seq (.frz [7] (.reg [un (.mov 109 (.t 8)),
 un (.asg 110 (.t 109)),
 ⟨some (110,true),.mov 111 (.t 0)⟩,
 ⟨some (110,true),.nck 112 (.t 111)⟩,
 ⟨some (110,true),.fadr 113 4 (.t 112)⟩,
 ⟨some (110,true),.ld 114 1 false (.t 113)⟩,
 ⟨some (110,true),.un 115 .not (.t 114)⟩,
 ⟨some (110,true),.asg 116 (.t 115)⟩,
 ⟨some (116,false),.mov 117 (.t 7)⟩,
 ⟨some (116,false),.call 118 Qs [((.t 117),false)]⟩,
 ⟨some (110,true),.pick 119 (.t 116) (.c (.bool true)) (.t 118)⟩,
 un (.pick 120 (.t 110) (.t 119) (.c (.bool false)))]))
 (.drop [109,110,111,112,113,114,115,116,117,118,119] (.cond (.t 120) (.reg [un (.mov 121 (.t 0)),
 un (.mov 122 (.t 7)),
 un (.call 123 Ct [((.t 121),true),((.t 122),false)])])
 .skip))))))))))))))
 (.drop [78,79,80,81,82,83,84,85,86,87,88,89,90,91,6,92,93,94,95,97,98,99,100,101,102,103,104,105,106,96,107,108,7,8,109,110,111,112,113,114,115,116,117,118,119,120,121,122,123] (.reg [un (.mov 76 (.t 5)),
 un (.bin 77 .add (.t 76) (.c (.int .i64 1))),
 un (.asg 5 (.t 77))])))))
def Abi:ACode:=
 (.seq (.reg [un (.asg 4 (.c (.int .i64 0)))])
 (.seq (.block 0 (.loop Nf))
 (.drop [9,10,11,12,13,14,15,16,17,18,19,20,21] (.seq (.seq (.reg [un (.mov 22 (.t 4)),
 un (.mov 23 (.t 1)),
 un (.len 24 (.t 23)),
 un (.bin 25 .eql (.t 22) (.t 24))])
 (.drop [22,23,24] (.cond (.t 25) (.seq (.seq (.cut X1)
 (.drop [26,27,28,29,30,31,32,33,34,35,36,37,38] (.cond (.t 39) (.reg [un (.mov 40 (.t 0)),
 un (.mov 41 (.t 0)),
 un (.nck 42 (.t 41)),
 un (.fadr 43 8 (.t 42)),
 un (.ld 44 1 false (.t 43)),
 un (.mov 45 (.t 1)),
 un (.bsl 46 1 [(.t 45)]),
 un (.app 47 1 (.t 44) (.t 46)),
 un (.nck 48 (.t 40)),
 un (.fadr 49 8 (.t 48)),
 un (.st 1 (.t 49) (.t 47))])
 .skip)))
 (.drop [26,27,28,29,30,31,32,33,34,35,36,37,38,39,40,41,42,43,44,45,46,47,48,49] .ret))
 .skip)))
 (.drop [22,23,24,25,26,27,28,29,30,31,32,33,34,35,36,37,38,39,40,41,42,43,44,45,46,47,48,49] (.seq (.reg [un (.asg 5 (.c (.int .i64 0)))])
 (.block 2 (.loop Nd))))))))
abbrev Ab1:List RS:=[]
theorem Add:Ay Tryz.prog Ct 124 Abi Ab1=true:=by kernel_rfl
def Ajd:ACode:=
 (.seq (.reg [un (.asg 4 (.c (.bool false)))])
 (.seq (.reg [un (.mov 5 (.t 0)),
 un (.mov 6 (.t 1)),
 un (.call 7 Ba [((.t 5),true),((.t 6),false)]),
 un (.bin 8 .eql (.t 7) (.c (.int .i64 0))),
 un (.asg 4 (.t 8))])
 (.drop [5,6,7,8] .ret)))
abbrev Aj0:List RS:=[.t 4]
theorem Ain:Ay Tryz.prog Lh 9 Ajd Aj0=true:=by kernel_rfl
def Aff:ACode:=
 (.seq (.reg [un (.asg 4 (.c (.int .i64 0)))])
 (.seq (.reg [un (.mov 5 (.t 1)),
 un (.mov 6 (.t 0)),
 un (.mov 7 (.t 1)),
 un (.len 8 (.t 7)),
 un (.call 9 Ba [((.t 6),true),((.t 8),false)]),
 un (.iad 10 1 (.t 5) (.t 9)),
 un (.ld 11 1 false (.t 10)),
 un (.asg 4 (.t 11))])
 (.drop [5,6,7,8,9,10,11] .ret)))
abbrev Afg:List RS:=[.t 4]
theorem Aen:Ay Tryz.prog Ca 12 Aff Afg=true:=by kernel_rfl
def Oj:ACode:=
 (.seq (.reg [un (.bin 13 .lss (.t 12) (.t 11))])
 (.seq (.cond (.t 13) .skip
 (.exit 0))
 (.seq (.block 1 (.seq (.reg [un (.iad 14 2 (.t 10) (.t 12)),
 un (.ld 15 2 true (.t 14)),
 un (.alc 5 (.agg [.int .i64 0,.nilsl 1])),
 un (.st 2 (.t 5) (.t 15))])
 (.drop [14,15] (.dreg [(un (.fadr 16 1 (.t 3)),[19]),
 (un (.ld 17 1 false (.t 16)),[19]),
 (un (.ld 18 2 true (.t 5)),[16,17]),
 (un (.call 19 Tu [((.t 18),false)]),[16,17]),
 (un (.bsl 20 2 [(.t 19)]),[16,17])]
 [un (.app 21 2 (.t 17) (.t 20)),
 un (.fadr 22 1 (.t 3)),
 un (.st 1 (.t 22) (.t 21))]))))
 (.drop [14,15,5,16,17,18,19,20,21,22] (.reg [un (.bin 23 .add (.t 12) (.c (.int .i64 1))),
 un (.asg 12 (.t 23))])))))
def Ads:ACode:=
 (.seq (.reg [un (.box 1 (.t 0)),
 un (.alc 2 (.agg [.int .i64 0,.nilsl 2]))])
 (.seq (.reg [un (.fadr 6 0 (.t 1)),
 un (.ld 7 1 false (.t 6)),
 un (.bld 8 [.int .i64 0,.nilsl 2] [(0,1,(.t 7))]),
 un (.alc 3 (.agg [.int .i64 0,.nilsl 2])),
 un (.st 2 (.t 3) (.t 8))])
 (.drop [6,7,8] (.seq (.seq (.reg [un (.fadr 9 1 (.t 1)),
 un (.ld 10 1 false (.t 9)),
 un (.len 11 (.t 10)),
 un (.mov 12 (.c (.int .i64 0)))])
 (.drop [9] (.block 0 (.loop Oj))))
 (.drop [9,10,11,12,13,14,15,5,16,17,18,19,20,21,22,23] (.seq (.reg [un (.ld 24 2 true (.t 3)),
 un (.st 2 (.t 2) (.t 24))])
 (.drop [24] .ret)))))))
abbrev Adr:List RS:=[.c 2 2 true]
theorem Ad0:Ay Tryz.prog Ln 25 Ads Adr=true:=by kernel_rfl
def Vm:ACode:=
 (.seq (.seq (.reg [un (.mov 11 (.t 6)),
 un (.fadr 12 0 (.t 2)),
 un (.ld 13 1 false (.t 12)),
 un (.bin 14 .leq (.t 11) (.t 13))])
 (.drop [11,12,13] (.cond (.t 14) .skip
 (.exit 0))))
 (.drop [11,12,13,14] (.seq (.block 1 (.reg [un (.ld 17 2 true (.t 2)),
 un (.mov 18 (.t 5)),
 un (.call 19 W8 [((.t 17),false),((.t 18),false)]),
 un (.asg 5 (.t 19))]))
 (.drop [17,18,19] (.reg [un (.mov 15 (.t 6)),
 un (.bin 16 .add (.t 15) (.c (.int .i64 1))),
 un (.asg 6 (.t 16))])))))
def Aol:ACode:=
 (.seq (.reg [un (.box 2 (.t 0)),
 un (.asg 4 (.c (.nilsl 1)))])
 (.seq (.reg [un (.fadr 7 0 (.t 2)),
 un (.ld 8 1 false (.t 7)),
 un (.mov 9 (.t 1)),
 un (.call 10 Ach [((.t 8),false),((.t 9),false)]),
 un (.asg 5 (.t 10))])
 (.drop [7,8,9,10] (.seq (.seq (.reg [un (.asg 6 (.c (.int .i64 0)))])
 (.block 0 (.loop Vm)))
 (.drop [6,11,12,13,14,17,18,19,15,16] (.seq (.reg [un (.mov 20 (.t 5)),
 un (.call 21 Ww [((.t 20),false)]),
 un (.asg 4 (.t 21))])
 (.drop [20,21] .ret)))))))
abbrev An6:List RS:=[.t 4]
theorem Am4:Ay Tryz.prog Tk 22 Aol An6=true:=by kernel_rfl
def Aao:ACode:=
 (.seq (.seq (.reg [un (.mov 8 (.t 4)),
 un (.fadr 9 1 (.t 1)),
 un (.ld 10 1 false (.t 9)),
 un (.len 11 (.t 10)),
 un (.bin 12 .lss (.t 8) (.t 11))])
 (.drop [8,9,10,11] (.cond (.t 12) .skip
 (.exit 0))))
 (.drop [8,9,10,11,12] (.seq (.block 1 (.dreg [(un (.fadr 15 1 (.t 3)),[22]),
 (un (.ld 16 1 false (.t 15)),[22]),
 (un (.fadr 17 1 (.t 1)),[15,16]),
 (un (.ld 18 1 false (.t 17)),[15,16]),
 (un (.mov 19 (.t 4)),[15,16,17,18]),
 (un (.iad 20 2 (.t 18) (.t 19)),[15,16]),
 (un (.ld 21 2 true (.t 20)),[15,16]),
 (un (.call 22 Ws [((.t 21),false)]),[15,16]),
 (un (.bsl 23 2 [(.t 22)]),[15,16])]
 [un (.app 24 2 (.t 16) (.t 23)),
 un (.fadr 25 1 (.t 3)),
 un (.st 1 (.t 25) (.t 24))]))
 (.drop [15,16,17,18,19,20,21,22,23,24,25] (.reg [un (.mov 13 (.t 4)),
 un (.bin 14 .add (.t 13) (.c (.int .i64 1))),
 un (.asg 4 (.t 14))])))))
def Au0:ACode:=
 (.seq (.reg [un (.box 1 (.t 0)),
 un (.alc 2 (.agg [.int .i64 0,.nilsl 2]))])
 (.seq (.reg [un (.fadr 5 0 (.t 1)),
 un (.ld 6 1 false (.t 5)),
 un (.bld 7 [.int .i64 0,.nilsl 2] [(0,1,(.t 6))]),
 un (.alc 3 (.agg [.int .i64 0,.nilsl 2])),
 un (.st 2 (.t 3) (.t 7))])
 (.drop [5,6,7] (.seq (.seq (.reg [un (.asg 4 (.c (.int .i64 0)))])
 (.block 0 (.loop Aao)))
 (.drop [4,8,9,10,11,12,15,16,17,18,19,20,21,22,23,24,25,13,14] (.seq (.reg [un (.ld 26 2 true (.t 3)),
 un (.st 2 (.t 2) (.t 26))])
 (.drop [26] .ret)))))))
abbrev Awk:List RS:=[.c 2 2 true]
theorem Awv:Ay Tryz.prog Sq 27 Au0 Awk=true:=by kernel_rfl
def Aj2:ACode:=
 (.seq (.reg [un (.mov 7 (.t 0)),
 un (.len 8 (.t 7)),
 un (.mov 9 (.t 1)),
 un (.bin 10 .neq (.t 8) (.t 9)),
 un (.asg 11 (.t 10)),
 ⟨some (11,false),.mov 12 (.t 1)⟩,
 ⟨some (11,false),.mov 13 (.t 0)⟩,
 ⟨some (11,false),.call 14 Nq [((.t 12),false),((.t 13),false)]⟩,
 ⟨some (11,false),.un 15 .not (.t 14)⟩,
 un (.pick 16 (.t 11) (.c (.bool true)) (.t 15))])
 (.drop [7,8,9,10,11,12,13,14,15] (.cond (.t 16) (.seq (.reg [un (.asg 4 (.c (.bool false)))])
 .ret)
 .skip)))
def Xg:ACode:=
 (.seq (.seq (.reg [un (.mov 19 (.t 6)),
 un (.mov 20 (.t 1)),
 un (.bin 21 .lss (.t 19) (.t 20))])
 (.drop [19,20] (.cond (.t 21) .skip
 (.exit 0))))
 (.drop [19,20,21] (.seq (.block 1 (.seq (.seq (.reg [un (.mov 24 (.t 5)),
 un (.mov 25 (.t 0)),
 un (.mov 26 (.t 6)),
 un (.iad 27 1 (.t 25) (.t 26)),
 un (.ld 28 1 false (.t 27)),
 un (.iad 29 1 (.t 24) (.t 28)),
 un (.ld 30 1 false (.t 29))])
 (.drop [24,25,26,27,28,29] (.cond (.t 30) (.seq (.reg [un (.asg 4 (.c (.bool false)))])
 .ret)
 .skip)))
 (.drop [24,25,26,27,28,29,30] (.reg [un (.mov 31 (.t 5)),
 un (.mov 32 (.t 0)),
 un (.mov 33 (.t 6)),
 un (.iad 34 1 (.t 32) (.t 33)),
 un (.ld 35 1 false (.t 34)),
 un (.iad 36 1 (.t 31) (.t 35)),
 un (.st 1 (.t 36) (.c (.bool true)))]))))
 (.drop [24,25,26,27,28,29,30,31,32,33,34,35,36] (.reg [un (.mov 22 (.t 6)),
 un (.bin 23 .add (.t 22) (.c (.int .i64 1))),
 un (.asg 6 (.t 23))])))))
def Asc:ACode:=
 (.seq (.reg [un (.asg 4 (.c (.bool false)))])
 (.seq (.cut Aj2)
 (.drop [7,8,9,10,11,12,13,14,15,16] (.seq (.reg [un (.mov 17 (.t 1)),
 un (.mk 18 1 (.bool false) (.t 17)),
 un (.asg 5 (.t 18))])
 (.drop [17,18] (.seq (.seq (.reg [un (.asg 6 (.c (.int .i64 0)))])
 (.block 0 (.loop Xg)))
 (.drop [6,19,20,21,24,25,26,27,28,29,30,31,32,33,34,35,36,22,23] (.seq (.reg [un (.asg 4 (.c (.bool true)))])
 .ret))))))))
abbrev Arq:List RS:=[.t 4]
theorem Aro:Ay Tryz.prog Wy 37 Asc Arq=true:=by kernel_rfl
def Lu:ACode:=
 (.seq (.reg [un (.bin 33 .lss (.t 32) (.t 31))])
 (.seq (.cond (.t 33) .skip
 (.exit 0))
 (.seq (.block 1 (.seq (.reg [un (.iad 34 1 (.t 30) (.t 32)),
 un (.ld 35 1 false (.t 34)),
 un (.asg 7 (.t 35))])
 (.drop [34,35] (.seq (.seq (.reg [un (.mov 36 (.t 7)),
 un (.bin 37 .geq (.t 36) (.c (.int .i64 0))),
 un (.asg 38 (.t 37)),
 ⟨some (38,true),.mov 39 (.t 5)⟩,
 ⟨some (38,true),.mov 40 (.t 7)⟩,
 ⟨some (38,true),.iad 41 1 (.t 39) (.t 40)⟩,
 ⟨some (38,true),.ld 42 1 false (.t 41)⟩,
 un (.pick 43 (.t 38) (.t 42) (.c (.bool false)))])
 (.drop [36,37,38,39,40,41,42] (.cond (.t 43) (.seq (.reg [un (.asg 4 (.c (.bool false)))])
 .ret)
 .skip)))
 (.drop [36,37,38,39,40,41,42,43] (.seq (.reg [un (.mov 44 (.t 7)),
 un (.bin 45 .geq (.t 44) (.c (.int .i64 0)))])
 (.drop [44] (.cond (.t 45) (.reg [un (.mov 46 (.t 5)),
 un (.mov 47 (.t 7)),
 un (.iad 48 1 (.t 46) (.t 47)),
 un (.st 1 (.t 48) (.c (.bool true)))])
 .skip))))))))
 (.drop [34,35,7,36,37,38,39,40,41,42,43,44,45,46,47,48] (.reg [un (.bin 49 .add (.t 32) (.c (.int .i64 1))),
 un (.asg 32 (.t 49))])))))
def Aa7:ACode:=
 (.seq (.reg [un (.asg 4 (.c (.bool false)))])
 (.seq (.seq (.dreg [(un (.mov 8 (.t 0)),[]),
 (un (.nck 9 (.t 8)),[]),
 (un (.fadr 10 0 (.t 9)),[]),
 (un (.ld 11 2 true (.t 10)),[]),
 (un (.mov 12 (.t 0)),[8,9,10,11]),
 (un (.nck 13 (.t 12)),[8,9,10,11]),
 (un (.fadr 14 2 (.t 13)),[8,9,10,11]),
 (un (.ld 15 2 true (.t 14)),[8,9,10,11]),
 (un (.mov 16 (.t 1)),[8,9,10,11,12,13,14,15])]
 [un (.call 17 R5 [((.t 11),false),((.t 15),false),((.t 16),true)]),
 un (.un 18 .not (.t 17))])
 (.drop [8,9,10,11,12,13,14,15,16,17] (.cond (.t 18) (.seq (.reg [un (.asg 4 (.c (.bool false)))])
 .ret)
 .skip)))
 (.drop [8,9,10,11,12,13,14,15,16,17,18] (.seq (.seq (.reg [un (.mov 19 (.t 0)),
 un (.nck 20 (.t 19)),
 un (.fadr 21 4 (.t 20)),
 un (.ld 22 1 false (.t 21)),
 un (.un 23 .not (.t 22))])
 (.drop [19,20,21,22] (.cond (.t 23) (.seq (.reg [un (.asg 4 (.c (.bool true)))])
 .ret)
 .skip)))
 (.drop [19,20,21,22,23] (.seq (.reg [un (.mov 24 (.t 0)),
 un (.nck 25 (.t 24)),
 un (.fadr 26 2 (.t 25)),
 un (.fadr 27 0 (.t 26)),
 un (.ld 28 1 false (.t 27)),
 un (.mk 29 1 (.bool false) (.t 28)),
 un (.asg 5 (.t 29))])
 (.drop [24,25,26,27,28,29] (.seq (.seq (.reg [un (.mov 30 (.t 1)),
 un (.len 31 (.t 30)),
 un (.mov 32 (.c (.int .i64 0)))])
 (.block 0 (.loop Lu)))
 (.drop [30,31,32,33,34,35,7,36,37,38,39,40,41,42,43,44,45,46,47,48,49] (.seq (.reg [un (.asg 4 (.c (.bool true)))])
 .ret))))))))))
abbrev Aaz:List RS:=[.t 4]
theorem Aa9:Ay Tryz.prog G3 50 Aa7 Aaz=true:=by kernel_rfl
def Awp:ACode:=
 (.seq (.reg [un (.box 2 (.t 0)),
 un (.box 3 (.t 1)),
 un (.asg 4 (.c (.bool false)))])
 (.seq (.reg [un (.ld 5 2 true (.t 2)),
 un (.call 6 Gh [((.t 5),false)]),
 un (.asg 7 (.t 6)),
 ⟨some (7,true),.ld 8 2 true (.t 3)⟩,
 ⟨some (7,true),.call 9 Gh [((.t 8),false)]⟩,
 un (.pick 10 (.t 7) (.t 9) (.c (.bool false))),
 un (.asg 11 (.t 10)),
 ⟨some (11,true),.ld 12 2 true (.t 2)⟩,
 ⟨some (11,true),.ld 13 2 true (.t 3)⟩,
 ⟨some (11,true),.call 14 Qm [((.t 12),false),((.t 13),false)]⟩,
 un (.pick 15 (.t 11) (.t 14) (.c (.bool false))),
 un (.asg 4 (.t 15))])
 (.drop [5,6,7,8,9,10,11,12,13,14,15] .ret)))
abbrev Avo:List RS:=[.t 4]
theorem Aul:Ay Tryz.prog Ov 16 Awp Avo=true:=by kernel_rfl
def Yz:ACode:=
 (.seq (.seq (.reg [un (.mov 26 (.t 14)),
 un (.fadr 27 0 (.t 5)),
 un (.ld 28 1 false (.t 27)),
 un (.bin 29 .lss (.t 26) (.t 28))])
 (.drop [26,27,28] (.cond (.t 29) .skip
 (.exit 0))))
 (.drop [26,27,28,29] (.seq (.block 1 (.reg [un (.mov 32 (.t 13)),
 un (.bsl 33 1 [(.c (.int .i64 (-1)))]),
 un (.app 34 1 (.t 32) (.t 33)),
 un (.asg 13 (.t 34))]))
 (.drop [32,33,34] (.reg [un (.mov 30 (.t 14)),
 un (.bin 31 .add (.t 30) (.c (.int .i64 1))),
 un (.asg 14 (.t 31))])))))
def Ajo:ACode:=
 (.seq (.frz [15] (.reg [un (.mov 42 (.t 16)),
 un (.asg 43 (.t 42)),
 ⟨some (43,true),.mov 44 (.t 2)⟩,
 ⟨some (43,true),.un 45 .not (.t 44)⟩,
 ⟨some (43,true),.asg 46 (.t 45)⟩,
 ⟨some (46,false),.mov 47 (.t 15)⟩,
 ⟨some (46,false),.call 48 Qs [((.t 47),false)]⟩,
 ⟨some (43,true),.pick 49 (.t 46) (.c (.bool true)) (.t 48)⟩,
 un (.pick 50 (.t 43) (.t 49) (.c (.bool false)))]))
 (.drop [42,43,44,45,46,47,48,49] (.cond (.t 50) (.reg [un (.mov 51 (.t 12)),
 un (.mov 52 (.t 15)),
 un (.call 53 Ct [((.t 51),true),((.t 52),false)])])
 .skip)))
def Aqx:ACode:=
 (.seq (.reg [un (.box 5 (.t 0)),
 un (.box 6 (.t 1)),
 un (.asg 10 (.c (.nilsl 1))),
 un (.asg 11 (.c (.bool false)))])
 (.seq (.reg [un (.ld 17 2 true (.t 5)),
 un (.ld 18 2 true (.t 6)),
 un (.mov 19 (.t 2)),
 un (.mov 20 (.t 3)),
 un (.mov 21 (.t 4)),
 un (.bsl 22 1 []),
 un (.bld 23 [.int .i64 0,.nilsl 2,.int .i64 0,.nilsl 2,.bool false,.bool false,.int .i64 0,.int .i64 0,.nilsl 1] [(0,2,(.t 17)),(2,2,(.t 18)),(4,1,(.t 19)),(5,1,(.t 20)),(6,1,(.t 21)),(8,1,(.t 22))]),
 un (.box 24 (.t 23)),
 un (.asg 12 (.t 24))])
 (.drop [17,18,19,20,21,22,23,24] (.seq (.reg [un (.bsl 25 1 []),
 un (.asg 13 (.t 25))])
 (.drop [25] (.seq (.seq (.reg [un (.asg 14 (.c (.int .i64 0)))])
 (.block 0 (.loop Yz)))
 (.drop [14,26,27,28,29,32,33,34,30,31] (.seq (.reg [un (.ld 36 2 true (.t 5)),
 un (.ld 37 2 true (.t 6)),
 un (.mov 38 (.t 13)),
 un (.call 39 Ol [((.t 36),false),((.t 37),false),((.t 38),false)]),
 un (.asg 35 (.t 39)),
 un (.ext 40 (.t 35) 0),
 un (.ext 41 (.t 35) 1),
 un (.asg 15 (.t 40)),
 un (.asg 16 (.t 41))])
 (.drop [36,37,38,39,35,40,41] (.seq (.cut Ajo)
 (.drop [42,43,44,45,46,47,48,49,50,51,52,53] (.seq (.frz [12] (.dreg [(un (.mov 54 (.t 12)),[]),
 (un (.nck 55 (.t 54)),[]),
 (un (.fadr 56 8 (.t 55)),[]),
 (un (.ld 57 1 false (.t 56)),[]),
 (un (.mov 58 (.t 12)),[54,55,56,57,57]),
 (un (.nck 59 (.t 58)),[54,55,56,57,57]),
 (un (.fadr 60 7 (.t 59)),[54,55,56,57,57]),
 (un (.ld 61 1 false (.t 60)),[54,55,56,57,57]),
 (un (.bin 62 .leq (.t 61) (.c (.int .i64 5000))),[54,55,56,57,57]),
 (un (.asg 10 (.t 57)),[58,59,60,61,62])]
 [un (.asg 11 (.t 62))]))
 (.drop [54,55,56,57,58,59,60,61,62] .ret)))))))))))))
abbrev Aqf:List RS:=[.t 10,.t 11]
theorem Aqt:Ay Tryz.prog Jq 63 Aqx Aqf=true:=by kernel_rfl
def Yu:ACode:=
 (.seq (.reg [un (.mov 32 (.t 4)),
 un (.bin 33 .eql (.t 32) (.c (.int .i64 4))),
 un (.asg 34 (.t 33)),
 ⟨some (34,true),.fadr 35 0 (.t 7)⟩,
 ⟨some (34,true),.ld 36 1 false (.t 35)⟩,
 ⟨some (34,true),.bin 37 .eql (.t 36) (.c (.int .i64 3))⟩,
 un (.pick 38 (.t 34) (.t 37) (.c (.bool false)))])
 (.drop [32,33,34,35,36,37] (.cond (.t 38) (.reg [un (.fadr 39 0 (.t 7)),
 un (.st 1 (.t 39) (.c (.int .i64 2)))])
 .skip)))
def Nk:ACode:=
 (.seq (.seq (.reg [un (.mov 44 (.t 8)),
 un (.bin 45 .gtr (.t 44) (.c (.int .i64 0)))])
 (.drop [44] (.cond (.t 45) .skip
 (.exit 2))))
 (.drop [44,45] (.seq (.block 3 (.dreg [(un (.fadr 48 1 (.t 7)),[132,52]),
 (un (.ld 49 1 false (.t 48)),[132,52]),
 (un (.mov 50 (.t 0)),[48,49]),
 (un (.mov 51 (.t 4)),[48,49,50]),
 (un (.call 52 Ba [((.t 50),true),((.t 51),false)]),[132,48,49]),
 (un (.bsl 53 1 [(.t 52)]),[48,49])]
 [un (.app 54 1 (.t 49) (.t 53)),
 un (.fadr 55 1 (.t 7)),
 un (.st 1 (.t 55) (.t 54))]))
 (.drop [48,49,50,51,52,53,54,55] (.reg [un (.mov 46 (.t 8)),
 un (.bin 47 .sub (.t 46) (.c (.int .i64 1))),
 un (.asg 8 (.t 47))])))))
def Nh:ACode:=
 (.seq (.seq (.reg [un (.mov 24 (.t 6)),
 un (.bin 25 .gtr (.t 24) (.c (.int .i64 0)))])
 (.drop [24] (.cond (.t 25) .skip
 (.exit 0))))
 (.drop [24,25] (.seq (.block 1 (.seq (.reg [un (.mov 28 (.t 0)),
 un (.bsl 29 1 [(.c (.int .i64 0)),(.c (.int .i64 1)),(.c (.int .i64 2)),(.c (.int .i64 2)),(.c (.int .i64 3))]),
 un (.call 30 Ca [((.t 28),true),((.t 29),false)]),
 un (.bld 31 [.int .i64 0,.nilsl 1] [(0,1,(.t 30))]),
 un (.alc 7 (.agg [.int .i64 0,.nilsl 1])),
 un (.st 2 (.t 7) (.t 31))])
 (.drop [28,29,30,31] (.seq (.cut Yu)
 (.drop [32,33,34,35,36,37,38,39] (.seq (.seq (.reg [un (.mov 40 (.t 4)),
 un (.fadr 41 0 (.t 7)),
 un (.ld 42 1 false (.t 41)),
 un (.call 43 Nr [((.t 40),false),((.t 42),false)]),
 un (.asg 8 (.t 43))])
 (.drop [40,41,42,43] (.block 2 (.loop Nk))))
 (.drop [40,41,42,43,8,44,45,48,49,50,51,52,53,54,55,46,47] (.reg [un (.fadr 56 1 (.t 5)),
 un (.ld 57 1 false (.t 56)),
 un (.ld 58 2 true (.t 7)),
 un (.bsl 59 2 [(.t 58)]),
 un (.app 60 2 (.t 57) (.t 59)),
 un (.fadr 61 1 (.t 5)),
 un (.st 1 (.t 61) (.t 60))]))))))))
 (.drop [28,29,30,31,7,32,33,34,35,36,37,38,39,40,41,42,43,8,44,45,48,49,50,51,52,53,54,55,46,47,56,57,58,59,60,61] (.reg [un (.mov 26 (.t 6)),
 un (.bin 27 .sub (.t 26) (.c (.int .i64 1))),
 un (.asg 6 (.t 27))])))))
def Nj:ACode:=
 (.seq (.seq (.dreg [(un (.fadr 116 1 (.t 5)),[132]),
 (un (.ld 117 1 false (.t 116)),[132]),
 (un (.len 118 (.t 117)),[132]),
 (un (.mov 119 (.t 0)),[116,117,118]),
 (un (.call 120 Ba [((.t 119),true),((.c (.int .i64 2)),false)]),[132,116,117,118]),
 (un (.bin 121 .add (.c (.int .i64 4)) (.t 120)),[116,117,118])]
 [un (.bin 122 .lss (.t 118) (.t 121))])
 (.drop [116,117,118,119,120,121] (.cond (.t 122) .skip
 (.exit 5))))
 (.drop [116,117,118,119,120,121,122] (.block 6 (.dregl [(0,.fadr 123 1 (.t 5)),
 (1,.ld 124 1 false (.t 123)),
 (2,.mov 125 (.t 4))]
 (.alt 3 (.mk 126 1 (.int .i64 0) (.t 125)) [0,1,2] [] (.alt 4 (.bld 127 [.int .i64 0,.nilsl 1] [(0,1,(.c (.int .i64 1))),(1,1,(.t 126))]) [0,1] [] (.alt 5 (.bsl 128 2 [(.t 127)]) [0,1] [] (.alt 6 (.app 129 2 (.t 124) (.t 128)) [0,1] [124] (.alt 7 (.fadr 130 1 (.t 5)) [] [] (.alt 8 (.st 1 (.t 130) (.t 129)) [] [] .nil .nil) .nil) .nil) .nil) .nil) .nil)))))
def Abo:ACode:=
 (.seq (.reg [un (.alc 2 (.agg [.int .i64 0,.nilsl 2]))])
 (.seq (.seq (.reg [un (.mov 9 (.t 0)),
 un (.call 10 Lh [((.t 9),true),((.c (.int .i64 4)),false)]),
 un (.un 11 .not (.t 10))])
 (.drop [9,10] (.cond (.t 11) (.seq (.reg [un (.mov 12 (.t 0)),
 un (.call 13 Ba [((.t 12),true),((.c (.int .i64 17)),false)]),
 un (.call 14 Ul [((.t 13),false)]),
 un (.alc 3 (.agg [.int .i64 0,.nilsl 2])),
 un (.st 2 (.t 3) (.t 14))])
 (.drop [12,13,14] (.seq (.reg [un (.ld 15 2 true (.t 3)),
 un (.st 2 (.t 2) (.t 15))])
 (.drop [15] .ret))))
 .skip)))
 (.drop [9,10,11,12,13,14,3,15] (.seq (.reg [un (.mov 16 (.t 0)),
 un (.bsl 17 1 [(.c (.int .i64 2)),(.c (.int .i64 2)),(.c (.int .i64 3)),(.c (.int .i64 3)),(.c (.int .i64 4))]),
 un (.call 18 Ca [((.t 16),true),((.t 17),false)]),
 un (.asg 4 (.t 18))])
 (.drop [16,17,18] (.seq (.reg [un (.mov 19 (.t 4)),
 un (.bld 20 [.int .i64 0,.nilsl 2] [(0,1,(.t 19))]),
 un (.alc 5 (.agg [.int .i64 0,.nilsl 2])),
 un (.st 2 (.t 5) (.t 20))])
 (.drop [19,20] (.seq (.seq (.reg [un (.mov 21 (.t 0)),
 un (.bsl 22 1 [(.c (.int .i64 1)),(.c (.int .i64 1)),(.c (.int .i64 2))]),
 un (.call 23 Ca [((.t 21),true),((.t 22),false)]),
 un (.asg 6 (.t 23))])
 (.drop [21,22,23] (.block 0 (.loop Nh))))
 (.drop [21,22,23,6,24,25,28,29,30,31,7,32,33,34,35,36,37,38,39,40,41,42,43,8,44,45,48,49,50,51,52,53,54,55,46,47,56,57,58,59,60,61,26,27] (.seq (.seq (.reg [un (.mov 62 (.t 0)),
 un (.call 63 Ba [((.t 62),true),((.c (.int .i64 16)),false)])])
 (.drop [62] (.block 4 (.seq (.reg [un (.bin 65 .eql (.t 63) (.c (.int .i64 0))),
 un (.asg 64 (.t 65))])
 (.drop [65] (.cond (.t 64) (.reg [un (.mov 66 (.t 0)),
 un (.mov 67 (.t 4)),
 un (.bin 68 .add (.t 67) (.c (.int .i64 1))),
 un (.bsl 69 1 [(.c (.int .i64 0)),(.c (.int .i64 9)),(.t 68)]),
 un (.call 70 Ca [((.t 66),true),((.t 69),false)]),
 un (.fadr 71 0 (.t 5)),
 un (.st 1 (.t 71) (.t 70))])
 (.seq (.reg [un (.bin 73 .eql (.t 63) (.c (.int .i64 1))),
 un (.asg 72 (.t 73))])
 (.drop [73] (.cond (.t 72) (.dregl [(0,.fadr 74 1 (.t 5)),
 (1,.ld 75 1 false (.t 74)),
 (2,.fadr 76 1 (.t 5)),
 (3,.ld 77 1 false (.t 76)),
 (4,.iad 78 2 (.t 77) (.c (.int .i64 0))),
 (5,.fadr 79 1 (.t 78)),
 (6,.ld 80 1 false (.t 79))]
 (.alt 7 (.bsl 81 1 [(.c (.int .i64 0))]) [0,1,2,3,4,5,6] [] (.alt 8 (.app 82 1 (.t 80) (.t 81)) [0,1,2,3,4,5,6] [80] (.alt 9 (.iad 83 2 (.t 75) (.c (.int .i64 0))) [0,1] [] (.alt 10 (.fadr 84 1 (.t 83)) [] [] (.alt 11 (.st 1 (.t 84) (.t 82)) [] [] .nil .nil) .nil) .nil) .nil) .nil))
 (.seq (.reg [un (.bin 86 .eql (.t 63) (.c (.int .i64 2))),
 un (.asg 85 (.t 86))])
 (.drop [86] (.cond (.t 85) (.dregl [(0,.fadr 87 1 (.t 5)),
 (1,.ld 88 1 false (.t 87)),
 (2,.iad 89 2 (.t 88) (.c (.int .i64 0))),
 (3,.fadr 90 1 (.t 89)),
 (4,.ld 91 1 false (.t 90)),
 (5,.mov 92 (.t 0)),
 (6,.fadr 93 1 (.t 5)),
 (7,.ld 94 1 false (.t 93)),
 (8,.iad 95 2 (.t 94) (.c (.int .i64 0))),
 (9,.fadr 96 1 (.t 95)),
 (10,.ld 97 1 false (.t 96)),
 (13,.mov 100 (.t 0)),
 (14,.mov 101 (.t 4))]
 (.alt 11 (.len 98 (.t 97)) [0,1,2,3,4,5,6,7,8,9,10,13,14] [] (.alt 12 (.call 99 Ba [((.t 92),true),((.t 98),false)]) [0,1,2,3,4,5,13,14] [] (.alt 15 (.bsl 102 1 [(.c (.int .i64 (-1))),(.t 101)]) [0,1,2,3,4,13,14] [] (.alt 16 (.call 103 Ca [((.t 100),true),((.t 102),false)]) [0,1,2,3,4,13] [] (.alt 17 (.iad 104 1 (.t 91) (.t 99)) [0,1,2,3,4] [] (.alt 18 (.st 1 (.t 104) (.t 103)) [] [] .nil .nil) .nil) .nil) .nil) (.alt 15 (.bsl 102 1 [(.c (.int .i64 (-1))),(.t 101)]) [0,1,2,3,4,5,13,14] [] (.alt 12 (.call 99 Ba [((.t 92),true),((.t 98),false)]) [0,1,2,3,4,5,13] [] (.alt 16 (.call 103 Ca [((.t 100),true),((.t 102),false)]) [0,1,2,3,4,13] [] (.alt 17 (.iad 104 1 (.t 91) (.t 99)) [0,1,2,3,4] [] (.alt 18 (.st 1 (.t 104) (.t 103)) [] [] .nil .nil) .nil) .nil) .nil) .nil)) (.alt 15 (.bsl 102 1 [(.c (.int .i64 (-1))),(.t 101)]) [0,1,2,3,4,5,6,7,8,9,10,13,14] [] (.alt 11 (.len 98 (.t 97)) [0,1,2,3,4,5,6,7,8,9,10,13] [] (.alt 12 (.call 99 Ba [((.t 92),true),((.t 98),false)]) [0,1,2,3,4,5,13] [] (.alt 16 (.call 103 Ca [((.t 100),true),((.t 102),false)]) [0,1,2,3,4,13] [] (.alt 17 (.iad 104 1 (.t 91) (.t 99)) [0,1,2,3,4] [] (.alt 18 (.st 1 (.t 104) (.t 103)) [] [] .nil .nil) .nil) .nil) .nil) .nil) .nil)))
 (.seq (.reg [un (.bin 106 .eql (.t 63) (.c (.int .i64 3))),
 un (.asg 105 (.t 106))])
 (.drop [106] (.cond (.t 105) (.dregl [(0,.fadr 107 1 (.t 5)),
 (1,.ld 108 1 false (.t 107)),
 (2,.mov 109 (.t 0))]
 (.alt 3 (.bsl 110 1 [(.c (.int .i64 (-1))),(.c (.int .i64 4))]) [0,1,2] [] (.alt 4 (.call 111 Ca [((.t 109),true),((.t 110),false)]) [0,1,2] [] (.alt 5 (.iad 112 2 (.t 108) (.c (.int .i64 0))) [0,1] [] (.alt 6 (.fadr 113 0 (.t 112)) [] [] (.alt 7 (.st 1 (.t 113) (.t 111)) [] [] .nil .nil) .nil) .nil) .nil) .nil))
 (.seq (.reg [un (.bin 115 .eql (.t 63) (.c (.int .i64 4))),
 un (.asg 114 (.t 115))])
 (.drop [115] (.cond (.t 114) (.block 5 (.loop Nj))
 .skip))))))))))))))))))
 (.drop [62,63,65,64,66,67,68,69,70,71,73,72,74,75,76,77,78,79,80,81,82,83,84,86,85,87,88,89,90,91,92,93,94,95,96,97,98,99,100,101,102,103,104,106,105,107,108,109,110,111,112,113,115,114,116,117,118,119,120,121,122,123,124,125,126,127,128,129,130] (.seq (.reg [un (.ld 131 2 true (.t 5)),
 un (.st 2 (.t 2) (.t 131))])
 (.drop [131] .ret)))))))))))))
abbrev Acp:List RS:=[.c 2 2 true]
theorem Acq:Ay Tryz.prog D5 132 Abo Acp=true:=by kernel_rfl
def Oi:ACode:=
 (.seq (.seq (.reg [un (.mov 9 (.t 6)),
 un (.mov 10 (.t 1)),
 un (.bin 11 .lss (.t 9) (.t 10))])
 (.drop [9,10] (.cond (.t 11) .skip
 (.exit 0))))
 (.drop [9,10,11] (.seq (.block 1 (.seq (.reg [un (.mov 14 (.t 0)),
 un (.mov 15 (.t 5)),
 un (.len 16 (.t 15)),
 un (.bin 17 .add (.t 16) (.c (.int .i64 1))),
 un (.call 18 Ba [((.t 14),true),((.t 17),false)]),
 un (.asg 7 (.t 18))])
 (.drop [14,15,16,17,18] (.frz [5] (.dreg [(un (.bsl 19 1 []),[24]),
 (un (.mov 20 (.t 5)),[19,24]),
 (un (.mov 21 (.t 7)),[19,20,24]),
 (un (.slc 22 1 (.t 20) none (some (.t 21))),[19,24]),
 (un (.app 23 1 (.t 19) (.t 22)),[24]),
 (un (.mov 24 (.t 6)),[19,20,21,22,23,19]),
 (un (.bsl 25 1 [(.t 24)]),[19,20,21,22,23,19]),
 (un (.app 26 1 (.t 23) (.t 25)),[19,24]),
 (un (.mov 27 (.t 5)),[19,20,21,22,23,24,25,26,19,24,23]),
 (un (.mov 28 (.t 7)),[19,20,21,22,23,24,25,26,27,19,24,23]),
 (un (.slc 29 1 (.t 27) (some (.t 28)) none),[19,20,21,22,23,24,25,26,19,24,23])]
 [un (.app 30 1 (.t 26) (.t 29)),
 un (.asg 5 (.t 30))])))))
 (.drop [14,15,16,17,18,7,19,20,21,22,23,24,25,26,27,28,29,30] (.reg [un (.mov 12 (.t 6)),
 un (.bin 13 .add (.t 12) (.c (.int .i64 1))),
 un (.asg 6 (.t 13))])))))
def Adv:ACode:=
 (.seq (.reg [un (.asg 4 (.c (.nilsl 1)))])
 (.seq (.reg [un (.bsl 8 1 []),
 un (.asg 5 (.t 8))])
 (.drop [8] (.seq (.seq (.reg [un (.asg 6 (.c (.int .i64 0)))])
 (.block 0 (.loop Oi)))
 (.drop [6,9,10,11,14,15,16,17,18,7,19,20,21,22,23,24,25,26,27,28,29,30,12,13] (.seq (.seq (.reg [un (.mov 31 (.t 0)),
 un (.call 32 Ba [((.t 31),true),((.c (.int .i64 24)),false)])])
 (.drop [31] (.block 2 (.seq (.reg [un (.bin 34 .eql (.t 32) (.c (.int .i64 0))),
 un (.asg 33 (.t 34))])
 (.drop [34] (.cond (.t 33) (.reg [un (.mov 35 (.t 5)),
 un (.mov 36 (.t 1)),
 un (.bsl 37 1 [(.t 36)]),
 un (.app 38 1 (.t 35) (.t 37)),
 un (.asg 5 (.t 38))])
 (.seq (.reg [un (.bin 40 .eql (.t 32) (.c (.int .i64 1))),
 un (.asg 39 (.t 40))])
 (.drop [40] (.cond (.t 39) (.seq (.reg [un (.mov 41 (.t 1)),
 un (.bin 42 .gtr (.t 41) (.c (.int .i64 0)))])
 (.drop [41] (.cond (.t 42) (.reg [un (.mov 43 (.t 5)),
 un (.mov 44 (.t 0)),
 un (.mov 45 (.t 1)),
 un (.call 46 Ba [((.t 44),true),((.t 45),false)]),
 un (.mov 47 (.t 0)),
 un (.mov 48 (.t 1)),
 un (.bsl 49 1 [(.c (.int .i64 0)),(.c (.int .i64 (-1))),(.t 48)]),
 un (.call 50 Ca [((.t 47),true),((.t 49),false)]),
 un (.iad 51 1 (.t 43) (.t 46)),
 un (.st 1 (.t 51) (.t 50))])
 .skip)))
 .skip)))))))))
 (.drop [31,32,34,33,35,36,37,38,40,39,41,42,43,44,45,46,47,48,49,50,51] (.seq (.reg [un (.mov 52 (.t 5)),
 un (.asg 4 (.t 52))])
 (.drop [52] .ret)))))))))
abbrev Adx:List RS:=[.t 4]
theorem Adu:Ay Tryz.prog H8 53 Adv Adx=true:=by kernel_rfl
def Yi:ACode:=
 (.seq (.reg [un (.bin 40 .lss (.t 39) (.t 38))])
 (.seq (.cond (.t 40) .skip
 (.exit 4))
 (.seq (.block 5 (.seq (.reg [un (.mov 41 (.t 39)),
 un (.iad 42 1 (.t 37) (.t 39)),
 un (.ld 43 1 false (.t 42)),
 un (.asg 11 (.t 41)),
 un (.asg 12 (.t 43))])
 (.drop [41,42,43] (.reg [un (.mov 44 (.t 10)),
 un (.mov 45 (.t 11)),
 un (.mov 46 (.t 1)),
 un (.mov 47 (.t 12)),
 un (.iad 48 1 (.t 46) (.t 47)),
 un (.ld 49 1 false (.t 48)),
 un (.iad 50 1 (.t 44) (.t 45)),
 un (.st 1 (.t 50) (.t 49))]))))
 (.drop [41,42,43,11,12,44,45,46,47,48,49,50] (.reg [un (.bin 51 .add (.t 39) (.c (.int .i64 1))),
 un (.asg 39 (.t 51))])))))
def Xm:ACode:=
 (.seq (.reg [un (.bin 27 .lss (.t 26) (.t 25))])
 (.seq (.cond (.t 27) .skip
 (.exit 2))
 (.seq (.block 3 (.seq (.reg [un (.mov 28 (.t 26)),
 un (.iad 29 1 (.t 24) (.t 26)),
 un (.ld 30 1 false (.t 29)),
 un (.asg 8 (.t 28)),
 un (.asg 9 (.t 30))])
 (.drop [28,29,30] (.seq (.reg [un (.mov 31 (.t 8)),
 un (.fadr 32 0 (.t 7)),
 un (.ld 33 1 false (.t 32)),
 un (.fadr 34 0 (.t 2)),
 un (.ld 35 1 false (.t 34)),
 un (.call 36 W0 [((.t 31),false),((.t 33),false),((.t 35),false)]),
 un (.asg 10 (.t 36))])
 (.drop [31,32,33,34,35,36] (.seq (.seq (.reg [un (.mov 37 (.t 10)),
 un (.len 38 (.t 37)),
 un (.mov 39 (.c (.int .i64 0)))])
 (.block 4 (.loop Yi)))
 (.drop [37,38,39,40,41,42,43,11,12,44,45,46,47,48,49,50,51] (.dreg [(un (.fadr 52 1 (.t 5)),[]),
 (un (.ld 53 1 false (.t 52)),[]),
 (un (.mov 54 (.t 6)),[52,53]),
 (un (.iad 55 2 (.t 53) (.t 54)),[]),
 (un (.fadr 56 1 (.t 55)),[]),
 (un (.ld 57 1 false (.t 56)),[]),
 (un (.mov 58 (.t 10)),[52,53,54,55,56,57]),
 (un (.fadr 59 0 (.t 2)),[52,53,54,55,56,57,58]),
 (un (.ld 60 1 false (.t 59)),[52,53,54,55,56,57,58]),
 (un (.call 61 Ua [((.t 58),false),((.t 60),false)]),[52,53,54,55,56,57]),
 (un (.mov 62 (.t 1)),[52,53,54,55,56,57,58,59,60,61]),
 (un (.mov 63 (.t 9)),[52,53,54,55,56,57,58,59,60,61,62]),
 (un (.iad 64 1 (.t 62) (.t 63)),[52,53,54,55,56,57,58,59,60,61]),
 (un (.ld 65 1 false (.t 64)),[52,53,54,55,56,57,58,59,60,61])]
 [un (.iad 66 1 (.t 57) (.t 61)),
 un (.st 1 (.t 66) (.t 65))]))))))))
 (.drop [28,29,30,8,9,31,32,33,34,35,36,10,37,38,39,40,41,42,43,11,12,44,45,46,47,48,49,50,51,52,53,54,55,56,57,58,59,60,61,62,63,64,65,66] (.reg [un (.bin 67 .add (.t 26) (.c (.int .i64 1))),
 un (.asg 26 (.t 67))])))))
def Ys:ACode:=
 (.seq (.reg [un (.bin 19 .lss (.t 18) (.t 17))])
 (.seq (.cond (.t 19) .skip
 (.exit 0))
 (.seq (.block 1 (.seq (.reg [un (.mov 20 (.t 18)),
 un (.iad 21 2 (.t 16) (.t 18)),
 un (.ld 22 2 true (.t 21)),
 un (.alc 7 (.agg [.int .i64 0,.nilsl 1])),
 un (.asg 6 (.t 20)),
 un (.st 2 (.t 7) (.t 22))])
 (.drop [20,21,22] (.seq (.reg [un (.fadr 23 1 (.t 7)),
 un (.ld 24 1 false (.t 23)),
 un (.len 25 (.t 24)),
 un (.mov 26 (.c (.int .i64 0)))])
 (.drop [23] (.block 2 (.loop Xm)))))))
 (.drop [20,21,22,7,6,23,24,25,26,27,28,29,30,8,9,31,32,33,34,35,36,10,37,38,39,40,41,42,43,11,12,44,45,46,47,48,49,50,51,52,53,54,55,56,57,58,59,60,61,62,63,64,65,66,67] (.reg [un (.bin 68 .add (.t 18) (.c (.int .i64 1))),
 un (.asg 18 (.t 68))])))))
def Arg:ACode:=
 (.seq (.reg [un (.box 2 (.t 0)),
 un (.alc 4 (.agg [.int .i64 0,.nilsl 2]))])
 (.seq (.reg [un (.ld 13 2 true (.t 2)),
 un (.call 14 Ln [((.t 13),false)]),
 un (.alc 5 (.agg [.int .i64 0,.nilsl 2])),
 un (.st 2 (.t 5) (.t 14))])
 (.drop [13,14] (.seq (.seq (.reg [un (.fadr 15 1 (.t 2)),
 un (.ld 16 1 false (.t 15)),
 un (.len 17 (.t 16)),
 un (.mov 18 (.c (.int .i64 0)))])
 (.drop [15] (.block 0 (.loop Ys))))
 (.drop [15,16,17,18,19,20,21,22,7,6,23,24,25,26,27,28,29,30,8,9,31,32,33,34,35,36,10,37,38,39,40,41,42,43,11,12,44,45,46,47,48,49,50,51,52,53,54,55,56,57,58,59,60,61,62,63,64,65,66,67,68] (.seq (.reg [un (.ld 69 2 true (.t 5)),
 un (.st 2 (.t 4) (.t 69))])
 (.drop [69] .ret)))))))
abbrev Ar4:List RS:=[.c 4 2 true]
theorem Asa:Ay Tryz.prog Wp 70 Arg Ar4=true:=by kernel_rfl
def Aw6:ACode:=
 (.seq (.reg [un (.box 2 (.t 0)),
 un (.asg 4 (.c (.bool false)))])
 (.seq (.reg [un (.mov 5 (.t 1)),
 un (.fadr 6 0 (.t 2)),
 un (.ld 7 1 false (.t 6)),
 un (.bin 8 .sub (.t 7) (.c (.int .i64 1))),
 un (.call 9 Rt [((.t 5),false),((.c (.int .i64 0)),false),((.t 8),false)]),
 un (.asg 10 (.t 9)),
 ⟨some (10,true),.ld 11 2 true (.t 2)⟩,
 ⟨some (10,true),.mov 12 (.t 1)⟩,
 ⟨some (10,true),.call 13 Tk [((.t 11),false),((.t 12),false)]⟩,
 ⟨some (10,true),.mov 14 (.t 1)⟩,
 ⟨some (10,true),.call 15 L6 [((.t 13),false),((.t 14),false)]⟩,
 un (.pick 16 (.t 10) (.t 15) (.c (.bool false))),
 un (.asg 4 (.t 16))])
 (.drop [5,6,7,8,9,10,11,12,13,14,15,16] .ret)))
abbrev Ax0:List RS:=[.t 4]
theorem Aw7:Ay Tryz.prog Ab9 17 Aw6 Ax0=true:=by kernel_rfl
def Aml:ACode:=
 (.seq (.reg [un (.box 2 (.t 0)),
 un (.box 3 (.t 1)),
 un (.asg 4 (.c (.bool false))),
 un (.asg 5 (.c (.bool false)))])
 (.seq (.seq (.reg [un (.ld 6 2 true (.t 2)),
 un (.call 7 D4 [((.t 6),false)]),
 un (.un 8 .not (.t 7)),
 un (.asg 9 (.t 8)),
 ⟨some (9,false),.ld 10 2 true (.t 3)⟩,
 ⟨some (9,false),.call 11 D4 [((.t 10),false)]⟩,
 ⟨some (9,false),.un 12 .not (.t 11)⟩,
 un (.pick 13 (.t 9) (.c (.bool true)) (.t 12))])
 (.drop [6,7,8,9,10,11,12] (.cond (.t 13) (.seq (.reg [un (.asg 4 (.c (.bool false))),
 un (.asg 5 (.c (.bool false)))])
 .ret)
 .skip)))
 (.drop [6,7,8,9,10,11,12,13] (.seq (.dreg [(un (.ld 14 2 true (.t 2)),[]),
 (un (.call 15 Qt [((.t 14),false)]),[]),
 (un (.ld 16 2 true (.t 3)),[14,15])]
 [un (.call 17 Qt [((.t 16),false)]),
 un (.call 18 Mg [((.t 15),false),((.t 17),false)]),
 un (.asg 4 (.t 18)),
 un (.asg 5 (.c (.bool true)))])
 (.drop [14,15,16,17,18] .ret)))))
abbrev Ak0:List RS:=[.t 4,.t 5]
theorem Amd:Ay Tryz.prog Rw 19 Aml Ak0=true:=by kernel_rfl
def Kw:ACode:=
 (.seq (.seq (.reg [un (.mov 8 (.t 5)),
 un (.mov 9 (.t 1)),
 un (.len 10 (.t 9)),
 un (.bin 11 .lss (.t 8) (.t 10)),
 un (.asg 12 (.t 11)),
 ⟨some (12,true),.mov 13 (.t 1)⟩,
 ⟨some (12,true),.mov 14 (.t 5)⟩,
 ⟨some (12,true),.iad 15 1 (.t 13) (.t 14)⟩,
 ⟨some (12,true),.ld 16 1 false (.t 15)⟩,
 ⟨some (12,true),.bin 17 .geq (.t 16) (.c (.int .i64 0))⟩,
 un (.pick 18 (.t 12) (.t 17) (.c (.bool false)))])
 (.drop [8,9,10,11,12,13,14,15,16,17] (.cond (.t 18) .skip
 (.exit 0))))
 (.drop [8,9,10,11,12,13,14,15,16,17,18] (.block 1 (.reg [un (.mov 19 (.t 5)),
 un (.bin 20 .add (.t 19) (.c (.int .i64 1))),
 un (.asg 5 (.t 20))]))))
def Kp:ACode:=
 (.seq (.seq (.reg [un (.mov 31 (.t 6)),
 un (.mov 32 (.t 0)),
 un (.nck 33 (.t 32)),
 un (.fadr 34 2 (.t 33)),
 un (.fadr 35 0 (.t 34)),
 un (.ld 36 1 false (.t 35)),
 un (.bin 37 .lss (.t 31) (.t 36))])
 (.drop [31,32,33,34,35,36] (.cond (.t 37) .skip
 (.exit 2))))
 (.drop [31,32,33,34,35,36,37] (.seq (.block 3 (.seq (.seq (.reg [un (.mov 40 (.t 0)),
 un (.nck 41 (.t 40)),
 un (.fadr 42 5 (.t 41)),
 un (.ld 43 1 false (.t 42)),
 un (.bin 44 .add (.t 43) (.c (.int .i64 1))),
 un (.nck 45 (.t 40)),
 un (.fadr 46 5 (.t 45)),
 un (.st 1 (.t 46) (.t 44))])
 (.drop [40,41,42,43,44,45,46] (.seq (.reg [un (.mov 47 (.t 0)),
 un (.nck 48 (.t 47)),
 un (.fadr 49 5 (.t 48)),
 un (.ld 50 1 false (.t 49)),
 un (.bin 51 .gtr (.t 50) (.c (.int .i64 5000)))])
 (.drop [47,48,49,50] (.cond (.t 51) (.seq (.reg [un (.asg 4 (.c (.bool false)))])
 .ret)
 .skip)))))
 (.drop [40,41,42,43,44,45,46,47,48,49,50,51] (.seq (.reg [un (.mov 52 (.t 1)),
 un (.call 53 Lc [((.t 52),false)]),
 un (.asg 7 (.t 53))])
 (.drop [52,53] (.seq (.reg [un (.mov 54 (.t 7)),
 un (.mov 55 (.t 5)),
 un (.mov 56 (.t 6)),
 un (.iad 57 1 (.t 54) (.t 55)),
 un (.st 1 (.t 57) (.t 56))])
 (.drop [54,55,56,57] (.seq (.reg [un (.mov 58 (.t 0)),
 un (.mov 59 (.t 7)),
 un (.call 60 G3 [((.t 58),false),((.t 59),true)]),
 un (.asg 61 (.t 60)),
 ⟨some (61,true),.mov 62 (.t 0)⟩,
 ⟨some (61,true),.asgf 63 (.t 7)⟩,
 ⟨some (61,true),.call 64 Cg [((.t 62),true),((.t 63),false)]⟩,
 ⟨some (61,true),.un 65 .not (.t 64)⟩,
 un (.pick 66 (.t 61) (.t 65) (.c (.bool false)))])
 (.drop [58,59,60,61,62,63,64,65] (.cond (.t 66) (.seq (.reg [un (.asg 4 (.c (.bool false)))])
 .ret)
 .skip))))))))))
 (.drop [40,41,42,43,44,45,46,47,48,49,50,51,52,53,7,54,55,56,57,58,59,60,61,62,63,64,65,66] (.reg [un (.mov 38 (.t 6)),
 un (.bin 39 .add (.t 38) (.c (.int .i64 1))),
 un (.asg 6 (.t 39))])))))
def Xz:ACode:=
 (.seq (.reg [un (.asg 4 (.c (.bool false)))])
 (.seq (.reg [un (.asg 5 (.c (.int .i64 0)))])
 (.seq (.block 0 (.loop Kw))
 (.drop [8,9,10,11,12,13,14,15,16,17,18,19,20] (.seq (.seq (.reg [un (.mov 21 (.t 5)),
 un (.mov 22 (.t 1)),
 un (.len 23 (.t 22)),
 un (.bin 24 .eql (.t 21) (.t 23))])
 (.drop [21,22,23] (.cond (.t 24) (.seq (.reg [un (.mov 25 (.t 0)),
 un (.nck 26 (.t 25)),
 un (.fadr 27 6 (.t 26)),
 un (.ld 28 1 false (.t 27)),
 un (.mov 29 (.t 1)),
 un (.cally 30 (.t 28) [(.t 29)] [true,true,true,true,true,true,true,true,true]),
 un (.asg 4 (.t 30))])
 (.drop [25,26,27,28,29,30] .ret))
 .skip)))
 (.drop [21,22,23,24,25,26,27,28,29,30] (.seq (.seq (.reg [un (.asg 6 (.c (.int .i64 0)))])
 (.block 2 (.loop Kp)))
 (.drop [6,31,32,33,34,35,36,37,40,41,42,43,44,45,46,47,48,49,50,51,52,53,7,54,55,56,57,58,59,60,61,62,63,64,65,66,38,39] (.seq (.reg [un (.asg 4 (.c (.bool true)))])
 .ret)))))))))
abbrev Yn:List RS:=[.t 4]
theorem Xs:Ay Tryz.prog Cg 67 Xz Yn=true:=by kernel_rfl
def Abk:ACode:=
 (.seq (.reg [un (.box 2 (.t 0)),
 un (.box 3 (.t 1)),
 un (.asg 4 (.c (.bool false))),
 un (.asg 5 (.c (.bool false)))])
 (.seq (.seq (.reg [un (.ld 8 2 true (.t 2)),
 un (.ld 9 2 true (.t 3)),
 un (.call 10 Ov [((.t 8),false),((.t 9),false)]),
 un (.un 11 .not (.t 10))])
 (.drop [8,9,10] (.cond (.t 11) (.seq (.reg [un (.asg 4 (.c (.bool false))),
 un (.asg 5 (.c (.bool false)))])
 .ret)
 .skip)))
 (.drop [8,9,10,11] (.seq (.seq (.reg [un (.fadr 12 0 (.t 2)),
 un (.ld 13 1 false (.t 12)),
 un (.fadr 14 0 (.t 3)),
 un (.ld 15 1 false (.t 14)),
 un (.bin 16 .neq (.t 13) (.t 15))])
 (.drop [12,13,14,15] (.cond (.t 16) (.seq (.reg [un (.asg 4 (.c (.bool false))),
 un (.asg 5 (.c (.bool true)))])
 .ret)
 .skip)))
 (.drop [12,13,14,15,16] (.seq (.reg [un (.ld 18 2 true (.t 2)),
 un (.ld 19 2 true (.t 3)),
 un (.call 20 Jq [((.t 18),false),((.t 19),false),((.c (.bool true)),false),((.c (.bool false)),false),((.c (.int .i64 1)),false)]),
 un (.asg 17 (.t 20)),
 un (.ext 21 (.t 17) 0),
 un (.ext 22 (.t 17) 1),
 un (.asg 6 (.t 21)),
 un (.asg 7 (.t 22))])
 (.drop [18,19,20,17,21,22] (.seq (.reg [un (.mov 23 (.t 7)),
 un (.asg 24 (.t 23)),
 ⟨some (24,true),.mov 25 (.t 6)⟩,
 ⟨some (24,true),.len 26 (.t 25)⟩,
 ⟨some (24,true),.bin 27 .gtr (.t 26) (.c (.int .i64 0))⟩,
 un (.pick 28 (.t 24) (.t 27) (.c (.bool false))),
 un (.mov 29 (.t 7)),
 un (.asg 4 (.t 28)),
 un (.asg 5 (.t 29))])
 (.drop [23,24,25,26,27,28,29] .ret)))))))))
abbrev Acy:List RS:=[.t 4,.t 5]
theorem Ac3:Ay Tryz.prog K3 30 Abk Acy=true:=by kernel_rfl
def U8:ACode:=
 (.seq (.reg [un (.alc 2 (.agg [.int .i64 0,.nilsl 2])),
 un (.asg 3 (.c (.nilsl 1)))])
 (.seq (.reg [un (.mov 6 (.t 0)),
 un (.bld 7 [.nilsl 1,.int .i64 0,.int .u64 0] [(0,1,(.t 6))]),
 un (.box 8 (.t 7)),
 un (.asg 4 (.t 8))])
 (.drop [6,7,8] (.seq (.reg [un (.mov 9 (.t 4)),
 un (.call 10 D5 [((.t 9),true)]),
 un (.alc 5 (.agg [.int .i64 0,.nilsl 2])),
 un (.st 2 (.t 5) (.t 10))])
 (.drop [9,10] (.seq (.dreg [(un (.ld 11 2 true (.t 5)),[4]),
 (un (.mov 12 (.t 4)),[11]),
 (un (.fadr 13 0 (.t 5)),[11,12]),
 (un (.ld 14 1 false (.t 13)),[11,12]),
 (un (.call 15 Tx [((.t 14),false),((.c (.int .i64 9)),false)]),[11,12]),
 (un (.call 16 H8 [((.t 12),true),((.t 15),false)]),[4,11])]
 [un (.st 2 (.t 2) (.t 11)),
 un (.asg 3 (.t 16))])
 (.drop [11,12,13,14,15,16] .ret)))))))
abbrev U9:List RS:=[.c 2 2 true,.t 3]
theorem Uw:Ay Tryz.prog G6 17 U8 U9=true:=by kernel_rfl
def Aa5:ACode:=
 (.seq (.reg [un (.box 2 (.t 0)),
 un (.alc 4 (.agg [.int .i64 0,.nilsl 2])),
 un (.asg 5 (.c (.bool false)))])
 (.seq (.seq (.reg [un (.ld 6 2 true (.t 2)),
 un (.call 7 D4 [((.t 6),false)]),
 un (.un 8 .not (.t 7)),
 un (.asg 9 (.t 8)),
 ⟨some (9,false),.mov 10 (.t 1)⟩,
 ⟨some (9,false),.fadr 11 0 (.t 2)⟩,
 ⟨some (9,false),.ld 12 1 false (.t 11)⟩,
 ⟨some (9,false),.call 13 Uf [((.t 10),false),((.t 12),false)]⟩,
 ⟨some (9,false),.un 14 .not (.t 13)⟩,
 un (.pick 15 (.t 9) (.c (.bool true)) (.t 14))])
 (.drop [6,7,8,9,10,11,12,13,14] (.cond (.t 15) (.seq (.reg [un (.bld 16 [.int .i64 0,.nilsl 2] []),
 un (.st 2 (.t 4) (.t 16)),
 un (.asg 5 (.c (.bool false)))])
 (.drop [16] .ret))
 .skip)))
 (.drop [6,7,8,9,10,11,12,13,14,15,16] (.seq (.reg [un (.ld 17 2 true (.t 2)),
 un (.mov 18 (.t 1)),
 un (.call 19 Wp [((.t 17),false),((.t 18),false)]),
 un (.st 2 (.t 4) (.t 19)),
 un (.asg 5 (.c (.bool true)))])
 (.drop [17,18,19] .ret)))))
abbrev Aa3:List RS:=[.c 4 2 true,.t 5]
theorem Abc:Ay Tryz.prog J2 20 Aa5 Aa3=true:=by kernel_rfl
def Avz:ACode:=
 (.seq (.reg [un (.box 4 (.t 0)),
 un (.box 5 (.t 1)),
 un (.asg 8 (.c (.nilsl 1))),
 un (.asg 9 (.c (.bool false)))])
 (.seq (.reg [un (.ld 13 2 true (.t 4)),
 un (.ld 14 2 true (.t 5)),
 un (.mov 15 (.t 2)),
 un (.mov 16 (.t 3)),
 un (.call 17 Jq [((.t 13),false),((.t 14),false),((.t 15),false),((.t 16),false),((.c (.int .i64 1)),false)]),
 un (.asg 12 (.t 17)),
 un (.ext 18 (.t 12) 0),
 un (.ext 19 (.t 12) 1),
 un (.asg 10 (.t 18)),
 un (.asg 11 (.t 19))])
 (.drop [13,14,15,16,17,12,18,19] (.seq (.seq (.reg [un (.mov 20 (.t 11)),
 un (.un 21 .not (.t 20)),
 un (.asg 22 (.t 21)),
 ⟨some (22,false),.mov 23 (.t 10)⟩,
 ⟨some (22,false),.len 24 (.t 23)⟩,
 ⟨some (22,false),.bin 25 .eql (.t 24) (.c (.int .i64 0))⟩,
 un (.pick 26 (.t 22) (.c (.bool true)) (.t 25))])
 (.drop [20,21,22,23,24,25] (.cond (.t 26) (.seq (.reg [un (.bsl 27 1 []),
 un (.asg 8 (.t 27)),
 un (.asg 9 (.c (.bool false)))])
 (.drop [27] .ret))
 .skip)))
 (.drop [20,21,22,23,24,25,26,27] (.seq (.reg [un (.mov 28 (.t 10)),
 un (.iad 29 1 (.t 28) (.c (.int .i64 0))),
 un (.ld 30 1 false (.t 29)),
 un (.asg 8 (.t 30)),
 un (.asg 9 (.c (.bool true)))])
 (.drop [28,29,30] .ret)))))))
abbrev Aum:List RS:=[.t 8,.t 9]
theorem Awd:Ay Tryz.prog Zl 31 Avz Aum=true:=by kernel_rfl
def Asf:ACode:=
 (.seq (.reg [un (.box 1 (.t 0)),
 un (.asg 2 (.c (.nilsl 1))),
 un (.asg 3 (.c (.bool false)))])
 (.seq (.reg [un (.ld 7 2 true (.t 1)),
 un (.ld 8 2 true (.t 1)),
 un (.call 9 Jq [((.t 7),false),((.t 8),false),((.c (.bool true)),false),((.c (.bool false)),false),((.c (.int .i64 301)),false)]),
 un (.asg 6 (.t 9)),
 un (.ext 10 (.t 6) 0),
 un (.ext 11 (.t 6) 1),
 un (.asg 4 (.t 10)),
 un (.asg 5 (.t 11))])
 (.drop [7,8,9,6,10,11] (.seq (.seq (.reg [un (.mov 12 (.t 5)),
 un (.un 13 .not (.t 12)),
 un (.asg 14 (.t 13)),
 ⟨some (14,false),.mov 15 (.t 4)⟩,
 ⟨some (14,false),.len 16 (.t 15)⟩,
 ⟨some (14,false),.bin 17 .gtr (.t 16) (.c (.int .i64 300))⟩,
 un (.pick 18 (.t 14) (.c (.bool true)) (.t 17))])
 (.drop [12,13,14,15,16,17] (.cond (.t 18) (.seq (.reg [un (.bsl 19 1 []),
 un (.asg 2 (.t 19)),
 un (.asg 3 (.c (.bool false)))])
 (.drop [19] .ret))
 .skip)))
 (.drop [12,13,14,15,16,17,18,19] (.seq (.reg [un (.mov 20 (.t 4)),
 un (.asg 2 (.t 20)),
 un (.asg 3 (.c (.bool true)))])
 (.drop [20] .ret)))))))
abbrev Arw:List RS:=[.t 2,.t 3]
theorem Asp:Ay Tryz.prog Qi 21 Asf Arw=true:=by kernel_rfl
def Ant:ACode:=
 (.seq (.reg [un (.box 2 (.t 0)),
 un (.box 3 (.t 1)),
 un (.asg 4 (.c (.nilsl 1))),
 un (.asg 5 (.c (.bool false)))])
 (.seq (.seq (.reg [un (.ld 8 2 true (.t 2)),
 un (.ld 9 2 true (.t 3)),
 un (.call 10 Ov [((.t 8),false),((.t 9),false)]),
 un (.un 11 .not (.t 10))])
 (.drop [8,9,10] (.cond (.t 11) (.seq (.reg [un (.bsl 12 1 []),
 un (.asg 4 (.t 12)),
 un (.asg 5 (.c (.bool false)))])
 (.drop [12] .ret))
 .skip)))
 (.drop [8,9,10,11,12] (.seq (.reg [un (.ld 14 2 true (.t 2)),
 un (.ld 15 2 true (.t 3)),
 un (.call 16 Jq [((.t 14),false),((.t 15),false),((.c (.bool false)),false),((.c (.bool false)),false),((.c (.int .i64 301)),false)]),
 un (.asg 13 (.t 16)),
 un (.ext 17 (.t 13) 0),
 un (.ext 18 (.t 13) 1),
 un (.asg 6 (.t 17)),
 un (.asg 7 (.t 18))])
 (.drop [14,15,16,13,17,18] (.seq (.seq (.reg [un (.mov 19 (.t 7)),
 un (.un 20 .not (.t 19)),
 un (.asg 21 (.t 20)),
 ⟨some (21,false),.mov 22 (.t 6)⟩,
 ⟨some (21,false),.len 23 (.t 22)⟩,
 ⟨some (21,false),.bin 24 .gtr (.t 23) (.c (.int .i64 300))⟩,
 un (.pick 25 (.t 21) (.c (.bool true)) (.t 24))])
 (.drop [19,20,21,22,23,24] (.cond (.t 25) (.seq (.reg [un (.bsl 26 1 []),
 un (.asg 4 (.t 26)),
 un (.asg 5 (.c (.bool false)))])
 (.drop [26] .ret))
 .skip)))
 (.drop [19,20,21,22,23,24,25,26] (.seq (.reg [un (.mov 27 (.t 6)),
 un (.asg 4 (.t 27)),
 un (.asg 5 (.c (.bool true)))])
 (.drop [27] .ret)))))))))
abbrev Ana:List RS:=[.t 4,.t 5]
theorem Ap8:Ay Tryz.prog N1 28 Ant Ana=true:=by kernel_rfl
def Av0:ACode:=
 (.seq (.reg [un (.box 2 (.t 0)),
 un (.box 3 (.t 1)),
 un (.asg 4 (.c (.bool false)))])
 (.seq (.reg [un (.ld 8 2 true (.t 2)),
 un (.ld 9 2 true (.t 3)),
 un (.call 10 Rw [((.t 8),false),((.t 9),false)]),
 un (.asg 7 (.t 10)),
 un (.ext 11 (.t 7) 0),
 un (.ext 12 (.t 7) 1),
 un (.asg 5 (.t 11)),
 un (.asg 6 (.t 12))])
 (.drop [8,9,10,7,11,12] (.seq (.reg [un (.mov 13 (.t 6)),
 un (.asg 14 (.t 13)),
 ⟨some (14,true),.mov 15 (.t 5)⟩,
 un (.pick 16 (.t 14) (.t 15) (.c (.bool false))),
 un (.asg 4 (.t 16))])
 (.drop [13,14,15,16] .ret)))))
abbrev Avb:List RS:=[.t 4]
theorem Avf:Ay Tryz.prog Zf 17 Av0 Avb=true:=by kernel_rfl
def Kk:ACode:=
 (.seq (.reg [un (.bin 24 .lss (.t 23) (.t 22))])
 (.seq (.cond (.t 24) .skip
 (.exit 0))
 (.seq (.block 1 (.seq (.reg [un (.mov 25 (.t 23)),
 un (.asg 11 (.t 25))])
 (.drop [25] (.reg [un (.mov 26 (.t 10)),
 un (.mov 27 (.t 11)),
 un (.iad 28 1 (.t 26) (.t 27)),
 un (.st 1 (.t 28) (.c (.int .i64 (-1))))]))))
 (.drop [25,11,26,27,28] (.reg [un (.bin 29 .add (.t 23) (.c (.int .i64 1))),
 un (.asg 23 (.t 29))])))))
def Ahm:ACode:=
 (.seq (.reg [un (.box 4 (.t 0)),
 un (.box 5 (.t 1)),
 un (.asg 8 (.c (.bool false)))])
 (.seq (.reg [un (.ld 12 2 true (.t 4)),
 un (.ld 13 2 true (.t 5)),
 un (.mov 14 (.t 2)),
 un (.mov 15 (.t 3)),
 un (.bld 16 [.int .i64 0,.nilsl 2,.int .i64 0,.nilsl 2,.bool false,.int .i64 0,.dead] [(0,2,(.t 12)),(2,2,(.t 13)),(4,1,(.t 14)),(6,1,(.t 15))]),
 un (.boxk 17 6 (.t 16)),
 un (.asg 9 (.t 17))])
 (.drop [12,13,14,15,16,17] (.seq (.reg [un (.fadr 18 0 (.t 4)),
 un (.ld 19 1 false (.t 18)),
 un (.mk 20 1 (.int .i64 0) (.t 19)),
 un (.asg 10 (.t 20))])
 (.drop [18,19,20] (.seq (.seq (.reg [un (.mov 21 (.t 10)),
 un (.len 22 (.t 21)),
 un (.mov 23 (.c (.int .i64 0)))])
 (.drop [21] (.block 0 (.loop Kk))))
 (.drop [21,22,23,24,25,11,26,27,28,29] (.seq (.seq (.reg [un (.mov 30 (.t 9)),
 un (.mov 31 (.t 10)),
 un (.call 32 G3 [((.t 30),false),((.t 31),true)])])
 (.drop [30,31] (.cond (.t 32) (.reg [un (.mov 33 (.t 9)),
 un (.asgf 34 (.t 10)),
 un (.call 35 Cg [((.t 33),true),((.t 34),false)])])
 .skip)))
 (.drop [30,31,32,33,34,35] (.seq (.reg [un (.mov 36 (.t 9)),
 un (.nck 37 (.t 36)),
 un (.fadr 38 5 (.t 37)),
 un (.ld 39 1 false (.t 38)),
 un (.bin 40 .leq (.t 39) (.c (.int .i64 5000))),
 un (.asg 8 (.t 40))])
 (.drop [36,37,38,39,40] (.frz [190600044] .ret))))))))))))
abbrev Ahr:List RS:=[.t 8]
theorem Ahz:Ay Tryz.prog J7 41 Ahm Ahr=true:=by kernel_rfl
def Aal:ACode:=
 (.seq (.seq (.reg [un (.mov 7 (.t 4)),
 un (.fadr 8 0 (.t 1)),
 un (.ld 9 1 false (.t 8)),
 un (.bin 10 .shl (.c (.int .i64 1)) (.t 9)),
 un (.bin 11 .lss (.t 7) (.t 10))])
 (.drop [7,8,9,10] (.cond (.t 11) .skip
 (.exit 0))))
 (.drop [7,8,9,10,11] (.seq (.block 1 (.seq (.reg [un (.mov 14 (.t 4)),
 un (.call 15 W1 [((.t 14),false)]),
 un (.asg 5 (.t 15))])
 (.drop [14,15] (.seq (.reg [un (.ld 16 2 true (.t 1)),
 un (.mov 17 (.t 5)),
 un (.call 18 Ab9 [((.t 16),false),((.t 17),false)])])
 (.drop [16,17] (.cond (.t 18) (.frz [3,5] (.reg [un (.mov 19 (.t 3)),
 un (.mov 20 (.t 5)),
 un (.call 21 Wq [((.t 19),false),((.t 20),false)]),
 un (.asg 3 (.t 21))]))
 .skip))))))
 (.drop [14,15,5,16,17,18,19,20,21] (.reg [un (.mov 12 (.t 4)),
 un (.bin 13 .add (.t 12) (.c (.int .i64 1))),
 un (.asg 4 (.t 13))])))))
def Auj:ACode:=
 (.seq (.reg [un (.box 1 (.t 0)),
 un (.asg 2 (.c (.nilsl 1)))])
 (.seq (.reg [un (.bsl 6 1 []),
 un (.asg 3 (.t 6))])
 (.drop [6] (.seq (.seq (.reg [un (.asg 4 (.c (.int .i64 0)))])
 (.block 0 (.loop Aal)))
 (.drop [4,7,8,9,10,11,14,15,5,16,17,18,19,20,21,12,13] (.seq (.reg [un (.mov 22 (.t 3)),
 un (.asg 2 (.t 22))])
 (.drop [22] .ret)))))))
abbrev Auc:List RS:=[.t 2]
theorem Awq:Ay Tryz.prog Zp 23 Auj Auc=true:=by kernel_rfl
def Ale:ACode:=
 (.seq (.reg [un (.box 2 (.t 0)),
 un (.box 3 (.t 1)),
 un (.asg 4 (.c (.nilsl 1))),
 un (.asg 5 (.c (.bool false)))])
 (.seq (.seq (.reg [un (.ld 6 2 true (.t 2)),
 un (.ld 7 2 true (.t 3)),
 un (.call 8 Ov [((.t 6),false),((.t 7),false)]),
 un (.un 9 .not (.t 8)),
 un (.asg 10 (.t 9)),
 ⟨some (10,false),.fadr 11 0 (.t 2)⟩,
 ⟨some (10,false),.ld 12 1 false (.t 11)⟩,
 ⟨some (10,false),.fadr 13 0 (.t 3)⟩,
 ⟨some (10,false),.ld 14 1 false (.t 13)⟩,
 ⟨some (10,false),.bin 15 .neq (.t 12) (.t 14)⟩,
 un (.pick 16 (.t 10) (.c (.bool true)) (.t 15))])
 (.drop [6,7,8,9,10,11,12,13,14,15] (.cond (.t 16) (.seq (.reg [un (.bsl 17 1 []),
 un (.asg 4 (.t 17)),
 un (.asg 5 (.c (.bool false)))])
 (.drop [17] .ret))
 .skip)))
 (.drop [6,7,8,9,10,11,12,13,14,15,16,17] (.seq (.reg [un (.ld 18 2 true (.t 2)),
 un (.ld 19 2 true (.t 3)),
 un (.call 20 Zl [((.t 18),false),((.t 19),false),((.c (.bool true)),false),((.c (.bool false)),false)]),
 un (.ext 21 (.t 20) 0),
 un (.ext 22 (.t 20) 1),
 un (.asg 4 (.t 21)),
 un (.asg 5 (.t 22))])
 (.drop [18,19,20,21,22] .ret)))))
abbrev Alq:List RS:=[.t 4,.t 5]
theorem Alm:Ay Tryz.prog Ry 23 Ale Alq=true:=by kernel_rfl
def Abt:ACode:=
 (.seq (.reg [un (.box 1 (.t 0)),
 un (.asg 2 (.c (.nilsl 1))),
 un (.asg 3 (.c (.bool false)))])
 (.seq (.seq (.reg [un (.ld 4 2 true (.t 1)),
 un (.call 5 Gh [((.t 4),false)]),
 un (.un 6 .not (.t 5))])
 (.drop [4,5] (.cond (.t 6) (.seq (.reg [un (.bsl 7 1 []),
 un (.asg 2 (.t 7)),
 un (.asg 3 (.c (.bool false)))])
 (.drop [7] .ret))
 .skip)))
 (.drop [4,5,6,7] (.seq (.reg [un (.ld 8 2 true (.t 1)),
 un (.call 9 Qi [((.t 8),false)]),
 un (.ext 10 (.t 9) 0),
 un (.ext 11 (.t 9) 1),
 un (.asg 2 (.t 10)),
 un (.asg 3 (.t 11))])
 (.drop [8,9,10,11] .ret)))))
abbrev Acx:List RS:=[.t 2,.t 3]
theorem Acd:Ay Tryz.prog Kf 12 Abt Acx=true:=by kernel_rfl
def Jl:ACode:=
 (.seq (.seq (.reg [un (.mov 30 (.t 9)),
 un (.mov 31 (.t 5)),
 un (.len 32 (.t 31)),
 un (.bin 33 .lss (.t 30) (.t 32))])
 (.drop [30,31,32] (.cond (.t 33) .skip
 (.exit 2))))
 (.drop [30,31,32,33] (.seq (.block 3 (.reg [un (.mov 36 (.t 8)),
 un (.mov 37 (.t 5)),
 un (.mov 38 (.t 9)),
 un (.iad 39 1 (.t 37) (.t 38)),
 un (.ld 40 1 false (.t 39)),
 un (.mov 41 (.t 7)),
 un (.iad 42 1 (.t 40) (.t 41)),
 un (.ld 43 1 false (.t 42)),
 un (.call 44 Z1 [((.t 36),false),((.t 43),false)]),
 un (.asg 8 (.t 44))]))
 (.drop [36,37,38,39,40,41,42,43,44] (.reg [un (.mov 34 (.t 9)),
 un (.bin 35 .add (.t 34) (.c (.int .i64 1))),
 un (.asg 9 (.t 35))])))))
def Jk:ACode:=
 (.seq (.seq (.reg [un (.mov 23 (.t 7)),
 un (.fadr 24 0 (.t 1)),
 un (.ld 25 1 false (.t 24)),
 un (.bin 26 .lss (.t 23) (.t 25))])
 (.drop [23,24,25] (.cond (.t 26) .skip
 (.exit 0))))
 (.drop [23,24,25,26] (.seq (.block 1 (.seq (.reg [un (.bslr 29 1 []),
 un (.asg 8 (.t 29))])
 (.drop [29] (.seq (.seq (.reg [un (.asg 9 (.c (.int .i64 0)))])
 (.block 2 (.loop Jl)))
 (.drop [9,30,31,32,33,36,37,38,39,40,41,42,43,44,34,35] (.seq (.reg [un (.mov 45 (.t 8)),
 un (.iad 46 1 (.t 45) (.c (.int .i64 0))),
 un (.ld 47 1 false (.t 46)),
 un (.mov 48 (.t 7)),
 un (.bin 49 .eql (.t 47) (.t 48))])
 (.drop [45,46,47,48] (.cond (.t 49) (.reg [un (.mov 50 (.t 4)),
 un (.mov 51 (.t 8)),
 un (.bsl 52 1 [(.t 51)]),
 un (.app 53 1 (.t 50) (.t 52)),
 un (.asg 4 (.t 53))])
 .skip))))))))
 (.drop [29,8,9,30,31,32,33,36,37,38,39,40,41,42,43,44,34,35,45,46,47,48,49,50,51,52,53] (.reg [un (.mov 27 (.t 7)),
 un (.bin 28 .add (.t 27) (.c (.int .i64 1))),
 un (.asg 7 (.t 28))])))))
def Ux:ACode:=
 (.seq (.reg [un (.box 1 (.t 0)),
 un (.asg 2 (.c (.nilsl 1))),
 un (.asg 3 (.c (.bool false)))])
 (.seq (.reg [un (.bsl 10 1 []),
 un (.asg 4 (.t 10))])
 (.drop [10] (.seq (.seq (.reg [un (.ld 11 2 true (.t 1)),
 un (.call 12 Gh [((.t 11),false)]),
 un (.un 13 .not (.t 12))])
 (.drop [11,12] (.cond (.t 13) (.seq (.reg [un (.mov 14 (.t 4)),
 un (.asg 2 (.t 14)),
 un (.asg 3 (.c (.bool false)))])
 (.drop [14] .ret))
 .skip)))
 (.drop [11,12,13,14] (.seq (.reg [un (.ld 16 2 true (.t 1)),
 un (.call 17 Qi [((.t 16),false)]),
 un (.asg 15 (.t 17)),
 un (.ext 18 (.t 15) 0),
 un (.ext 19 (.t 15) 1),
 un (.asg 5 (.t 18)),
 un (.asg 6 (.t 19))])
 (.drop [16,17,15,18,19] (.seq (.seq (.reg [un (.mov 20 (.t 6)),
 un (.un 21 .not (.t 20))])
 (.drop [20] (.cond (.t 21) (.seq (.reg [un (.mov 22 (.t 4)),
 un (.asg 2 (.t 22)),
 un (.asg 3 (.c (.bool false)))])
 (.drop [22] .ret))
 .skip)))
 (.drop [20,21,22] (.seq (.seq (.reg [un (.asg 7 (.c (.int .i64 0)))])
 (.block 0 (.loop Jk)))
 (.drop [7,23,24,25,26,29,8,9,30,31,32,33,36,37,38,39,40,41,42,43,44,34,35,45,46,47,48,49,50,51,52,53,27,28] (.seq (.reg [un (.mov 54 (.t 4)),
 un (.asg 2 (.t 54)),
 un (.asg 3 (.c (.bool true)))])
 (.drop [54] .ret)))))))))))))
abbrev U4:List RS:=[.t 2,.t 3]
theorem Uy:Ay Tryz.prog G8 55 Ux U4=true:=by kernel_rfl
def Ac2:ACode:=
 (.seq (.reg [un (.box 1 (.t 0)),
 un (.asg 2 (.c (.nilsl 1))),
 un (.asg 3 (.c (.bool false)))])
 (.seq (.reg [un (.ld 4 2 true (.t 1)),
 un (.ld 5 2 true (.t 1)),
 un (.call 6 N1 [((.t 4),false),((.t 5),false)]),
 un (.ext 7 (.t 6) 0),
 un (.ext 8 (.t 6) 1),
 un (.asg 2 (.t 7)),
 un (.asg 3 (.t 8))])
 (.drop [4,5,6,7,8] .ret)))
abbrev Adc:List RS:=[.t 2,.t 3]
theorem Abv:Ay Tryz.prog K6 9 Ac2 Adc=true:=by kernel_rfl
def Pa:ACode:=
 (.seq (.seq (.reg [un (.mov 18 (.t 7)),
 un (.mov 19 (.t 5)),
 un (.len 20 (.t 19)),
 un (.bin 21 .lss (.t 18) (.t 20))])
 (.drop [18,19,20] (.cond (.t 21) .skip
 (.exit 0))))
 (.drop [18,19,20,21] (.seq (.block 1 (.seq (.dreg [(un (.mov 24 (.t 5)),[]),
 (un (.mov 25 (.t 7)),[24]),
 (un (.iad 26 1 (.t 24) (.t 25)),[]),
 (un (.ld 27 1 false (.t 26)),[]),
 (un (.mov 28 (.t 5)),[24,25,26,27]),
 (un (.mov 29 (.t 7)),[24,25,26,27,28]),
 (un (.iad 30 1 (.t 28) (.t 29)),[24,25,26,27]),
 (un (.ld 31 1 false (.t 30)),[24,25,26,27]),
 (un (.call 32 Mh [((.t 27),false),((.t 31),false)]),[]),
 (un (.mov 33 (.t 5)),[24,25,26,27,28,29,30,31,32]),
 (un (.mov 34 (.t 7)),[24,25,26,27,28,29,30,31,32,33]),
 (un (.iad 35 1 (.t 33) (.t 34)),[24,25,26,27,28,29,30,31,32]),
 (un (.ld 36 1 false (.t 35)),[24,25,26,27,28,29,30,31,32])]
 [un (.call 37 L6 [((.t 32),false),((.t 36),false)])])
 (.drop [24,25,26,27,28,29,30,31,32,33,34,35,36] (.cond (.t 37) (.reg [un (.mov 38 (.t 4)),
 un (.mov 39 (.t 5)),
 un (.mov 40 (.t 7)),
 un (.iad 41 1 (.t 39) (.t 40)),
 un (.ld 42 1 false (.t 41)),
 un (.bsl 43 1 [(.t 42)]),
 un (.app 44 1 (.t 38) (.t 43)),
 un (.asg 4 (.t 44))])
 .skip))))
 (.drop [24,25,26,27,28,29,30,31,32,33,34,35,36,37,38,39,40,41,42,43,44] (.reg [un (.mov 22 (.t 7)),
 un (.bin 23 .add (.t 22) (.c (.int .i64 1))),
 un (.asg 7 (.t 23))])))))
def Ae6:ACode:=
 (.seq (.reg [un (.box 1 (.t 0)),
 un (.asg 2 (.c (.nilsl 1))),
 un (.asg 3 (.c (.bool false)))])
 (.seq (.reg [un (.bsl 8 1 []),
 un (.asg 4 (.t 8))])
 (.drop [8] (.seq (.reg [un (.ld 10 2 true (.t 1)),
 un (.ld 11 2 true (.t 1)),
 un (.call 12 N1 [((.t 10),false),((.t 11),false)]),
 un (.asg 9 (.t 12)),
 un (.ext 13 (.t 9) 0),
 un (.ext 14 (.t 9) 1),
 un (.asg 5 (.t 13)),
 un (.asg 6 (.t 14))])
 (.drop [10,11,12,9,13,14] (.seq (.seq (.reg [un (.mov 15 (.t 6)),
 un (.un 16 .not (.t 15))])
 (.drop [15] (.cond (.t 16) (.seq (.reg [un (.mov 17 (.t 4)),
 un (.asg 2 (.t 17)),
 un (.asg 3 (.c (.bool false)))])
 (.drop [17] .ret))
 .skip)))
 (.drop [15,16,17] (.seq (.seq (.reg [un (.asg 7 (.c (.int .i64 0)))])
 (.block 0 (.loop Pa)))
 (.drop [7,18,19,20,21,24,25,26,27,28,29,30,31,32,33,34,35,36,37,38,39,40,41,42,43,44,22,23] (.seq (.reg [un (.mov 45 (.t 4)),
 un (.asg 2 (.t 45)),
 un (.asg 3 (.c (.bool true)))])
 (.drop [45] .ret)))))))))))
abbrev Ae9:List RS:=[.t 2,.t 3]
theorem Aej:Ay Tryz.prog Mt 46 Ae6 Ae9=true:=by kernel_rfl
def Al1:ACode:=
 (.seq (.reg [un (.box 2 (.t 0)),
 un (.box 3 (.t 1)),
 un (.asg 4 (.c (.bool false)))])
 (.seq (.reg [un (.ld 5 2 true (.t 2)),
 un (.call 6 D4 [((.t 5),false)]),
 un (.asg 7 (.t 6)),
 ⟨some (7,true),.ld 8 2 true (.t 3)⟩,
 ⟨some (7,true),.call 9 D4 [((.t 8),false)]⟩,
 un (.pick 10 (.t 7) (.t 9) (.c (.bool false))),
 un (.asg 11 (.t 10)),
 ⟨some (11,true),.ld 12 2 true (.t 2)⟩,
 ⟨some (11,true),.ld 13 2 true (.t 3)⟩,
 ⟨some (11,true),.call 14 Zf [((.t 12),false),((.t 13),false)]⟩,
 un (.pick 15 (.t 11) (.t 14) (.c (.bool false))),
 un (.asg 4 (.t 15))])
 (.drop [5,6,7,8,9,10,11,12,13,14,15] .ret)))
abbrev Amb:List RS:=[.t 4]
theorem Amr:Ay Tryz.prog Hg 16 Al1 Amb=true:=by kernel_rfl
def Akt:ACode:=
 (.seq (.reg [un (.box 4 (.t 0)),
 un (.box 5 (.t 1)),
 un (.box 7 (.t 3)),
 un (.asg 8 (.c (.nl 1))),
 un (.asg 9 (.c (.bool false)))])
 (.seq (.reg [un (.alc 10 (.nl 1))])
 (.seq (.frz [7] (.reg [un (.ld 12 2 true (.t 4)),
 un (.ld 13 2 true (.t 5)),
 un (.mov 14 (.t 2)),
 un (.mkf 15 Ho [(.t 7),(.t 10)]),
 un (.call 16 J7 [((.t 12),false),((.t 13),false),((.t 14),false),((.t 15),true)]),
 un (.asg 11 (.t 16))]))
 (.drop [12,13,14,15,16] (.seq (.reg [un (.ld 17 1 false (.t 10)),
 un (.mov 18 (.t 11)),
 un (.asg 8 (.t 17)),
 un (.asg 9 (.t 18))])
 (.drop [17,18] .ret))))))
abbrev Al8:List RS:=[.t 8,.t 9]
theorem Alu:Ay Tryz.prog Mc 19 Akt Al8=true:=by kernel_rfl
def Alg:ACode:=
 (.seq (.reg [un (.box 3 (.t 0)),
 un (.box 4 (.t 1)),
 un (.asg 6 (.c (.nilsl 1))),
 un (.asg 7 (.c (.bool false)))])
 (.seq (.reg [un (.bsl 10 1 []),
 un (.alc 8 (.nilsl 1)),
 un (.st 1 (.t 8) (.t 10))])
 (.drop [10] (.seq (.reg [un (.ld 11 2 true (.t 3)),
 un (.ld 12 2 true (.t 4)),
 un (.mov 13 (.t 2)),
 un (.mkf 14 Hi [(.t 8)]),
 un (.call 15 J7 [((.t 11),false),((.t 12),false),((.t 13),false),((.t 14),true)]),
 un (.asg 9 (.t 15))])
 (.drop [11,12,13,14,15] (.seq (.seq (.reg [un (.mov 16 (.t 9)),
 un (.un 17 .not (.t 16)),
 un (.asg 18 (.t 17)),
 ⟨some (18,false),.ld 19 1 false (.t 8)⟩,
 ⟨some (18,false),.len 20 (.t 19)⟩,
 ⟨some (18,false),.bin 21 .gtr (.t 20) (.c (.int .i64 300))⟩,
 un (.pick 22 (.t 18) (.c (.bool true)) (.t 21))])
 (.drop [16,17,18,19,20,21] (.cond (.t 22) (.seq (.reg [un (.bsl 23 1 []),
 un (.asg 6 (.t 23)),
 un (.asg 7 (.c (.bool false)))])
 (.drop [23] .ret))
 .skip)))
 (.drop [16,17,18,19,20,21,22,23] (.seq (.reg [un (.ld 24 1 false (.t 8)),
 un (.asg 6 (.t 24)),
 un (.asg 7 (.c (.bool true)))])
 (.drop [24] .ret)))))))))
abbrev Ak2:List RS:=[.t 6,.t 7]
theorem Amc:Ay Tryz.prog Mi 25 Alg Ak2=true:=by kernel_rfl
def Acz:ACode:=
 (.seq (.frz [4] (.reg [un (.ld 14 2 true (.t 4)),
 un (.call 15 Gh [((.t 14),false)]),
 un (.un 16 .not (.t 15)),
 un (.asg 17 (.t 16)),
 ⟨some (17,false),.mov 18 (.t 0)⟩,
 ⟨some (17,false),.call 19 Lh [((.t 18),true),((.c (.int .i64 8)),false)]⟩,
 un (.pick 20 (.t 17) (.c (.bool true)) (.t 19))]))
 (.drop [14,15,16,17,18,19] (.cond (.t 20) (.seq (.dreg [(un (.ld 21 2 true (.t 4)),[119]),
 (un (.mov 22 (.t 0)),[21]),
 (un (.call 23 D5 [((.t 22),true)]),[119,21])]
 [un (.st 2 (.t 2) (.t 21)),
 un (.st 2 (.t 3) (.t 23))])
 (.drop [21,22,23] (.frz [2,3] .ret)))
 .skip)))
def Ri:ACode:=
 (.seq (.seq (.reg [un (.mov 73 (.t 8)),
 un (.bin 74 .lss (.t 73) (.c (.int .i64 12)))])
 (.drop [73] (.cond (.t 74) .skip
 (.exit 1))))
 (.drop [73,74] (.seq (.block 2 (.seq (.reg [un (.mov 77 (.t 0)),
 un (.call 78 D5 [((.t 77),true)]),
 un (.alc 9 (.agg [.int .i64 0,.nilsl 2])),
 un (.st 2 (.t 9) (.t 78))])
 (.drop [77,78] (.seq (.frz [9] (.reg [un (.ld 79 2 true (.t 9)),
 un (.call 80 Gh [((.t 79),false)]),
 un (.asg 81 (.t 80)),
 ⟨some (81,true),.ld 82 2 true (.t 4)⟩,
 ⟨some (81,true),.ld 83 2 true (.t 9)⟩,
 ⟨some (81,true),.call 84 Qm [((.t 82),false),((.t 83),false)]⟩,
 un (.pick 85 (.t 81) (.t 84) (.c (.bool false)))]))
 (.drop [79,80,81,82,83,84] (.cond (.t 85) (.seq (.dregl [(0,.ld 86 2 true (.t 4)),
 (1,.ld 87 2 true (.t 9))]
 (.alt 2 (.st 2 (.t 2) (.t 86)) [0,1] [] (.alt 3 (.st 2 (.t 3) (.t 87)) [1] [] .nil .nil) .nil))
 (.drop [86,87] (.frz [2,3] .ret)))
 .skip))))))
 (.drop [77,78,9,79,80,81,82,83,84,85,86,87] (.reg [un (.mov 75 (.t 8)),
 un (.bin 76 .add (.t 75) (.c (.int .i64 1))),
 un (.asg 8 (.t 76))])))))
def Acs:ACode:=
 (.seq (.reg [un (.mov 24 (.t 0)),
 un (.call 25 Ba [((.t 24),true),((.c (.int .i64 5)),false)])])
 (.drop [24] (.block 0 (.seq (.reg [un (.bin 27 .eql (.t 25) (.c (.int .i64 0))),
 un (.asg 26 (.t 27))])
 (.drop [27] (.cond (.t 26) (.seq (.dreg [(un (.ld 28 2 true (.t 4)),[]),
 (un (.ld 29 2 true (.t 4)),[28]),
 (un (.call 30 Sq [((.t 29),false)]),[28])]
 [un (.st 2 (.t 2) (.t 28)),
 un (.st 2 (.t 3) (.t 30))])
 (.drop [28,29,30] (.frz [2,3] .ret)))
 (.seq (.reg [un (.bin 32 .eql (.t 25) (.c (.int .i64 1))),
 un (.asg 31 (.t 32))])
 (.drop [32] (.cond (.t 31) (.seq (.reg [un (.mov 33 (.t 0)),
 un (.fadr 34 0 (.t 4)),
 un (.ld 35 1 false (.t 34)),
 un (.call 36 H8 [((.t 33),true),((.t 35),false)]),
 un (.asg 5 (.t 36))])
 (.drop [33,34,35,36] (.seq (.frz [5] (.reg [un (.mov 37 (.t 5)),
 un (.fadr 38 0 (.t 4)),
 un (.ld 39 1 false (.t 38)),
 un (.call 40 Wy [((.t 37),false),((.t 39),false)])]))
 (.drop [37,38,39] (.cond (.t 40) (.seq (.dreg [(un (.ld 41 2 true (.t 4)),[]),
 (un (.ld 42 2 true (.t 4)),[41]),
 (un (.mov 43 (.t 5)),[41,42]),
 (un (.call 44 Sd [((.t 42),false),((.t 43),false)]),[41])]
 [un (.st 2 (.t 2) (.t 41)),
 un (.st 2 (.t 3) (.t 44))])
 (.drop [41,42,43,44] (.frz [2,3] .ret)))
 .skip)))))
 (.seq (.reg [un (.bin 46 .eql (.t 25) (.c (.int .i64 2))),
 un (.asg 45 (.t 46))])
 (.drop [46] (.cond (.t 45) (.seq (.reg [un (.ld 47 2 true (.t 4)),
 un (.call 48 Zp [((.t 47),false)]),
 un (.asg 6 (.t 48))])
 (.drop [47,48] (.seq (.frz [6] (.reg [un (.mov 49 (.t 6)),
 un (.mov 50 (.t 6)),
 un (.len 51 (.t 50)),
 un (.bin 52 .sub (.t 51) (.c (.int .i64 1))),
 un (.iad 53 1 (.t 49) (.t 52)),
 un (.ld 54 1 false (.t 53)),
 un (.len 55 (.t 54)),
 un (.bin 56 .gtr (.t 55) (.c (.int .i64 0)))]))
 (.drop [49,50,51,52,53,54,55] (.cond (.t 56) (.seq (.reg [un (.mov 57 (.t 6)),
 un (.mov 58 (.t 0)),
 un (.mov 59 (.t 6)),
 un (.len 60 (.t 59)),
 un (.call 61 Ba [((.t 58),true),((.t 60),false)]),
 un (.iad 62 1 (.t 57) (.t 61)),
 un (.ld 63 1 false (.t 62)),
 un (.asg 7 (.t 63))])
 (.drop [57,58,59,60,61,62,63] (.seq (.reg [un (.mov 64 (.t 7)),
 un (.len 65 (.t 64)),
 un (.bin 66 .gtr (.t 65) (.c (.int .i64 0)))])
 (.drop [64,65] (.cond (.t 66) (.seq (.dregl [(0,.ld 67 2 true (.t 4)),
 (1,.mov 68 (.t 7)),
 (3,.ld 70 2 true (.t 4))]
 (.alt 2 (.call 69 Zr [((.t 67),false),((.t 68),false)]) [0,1,3] [] (.alt 4 (.st 2 (.t 2) (.t 69)) [3] [] (.alt 5 (.st 2 (.t 3) (.t 70)) [3] [] .nil .nil) .nil) .nil))
 (.drop [67,68,69,70] (.frz [2,3] .ret)))
 .skip)))))
 .skip)))))
 (.seq (.reg [un (.bin 72 .eql (.t 25) (.c (.int .i64 3))),
 un (.asg 71 (.t 72))])
 (.drop [72] (.cond (.t 71) (.seq (.reg [un (.asg 8 (.c (.int .i64 0)))])
 (.block 1 (.loop Ri)))
 .skip)))))))))))))))
def Rn:ACode:=
 (.seq (.seq (.reg [un (.mov 90 (.t 11)),
 un (.fadr 91 1 (.t 10)),
 un (.ld 92 1 false (.t 91)),
 un (.len 93 (.t 92)),
 un (.bin 94 .lss (.t 90) (.t 93))])
 (.drop [90,91,92,93] (.cond (.t 94) .skip
 (.exit 3))))
 (.drop [90,91,92,93,94] (.seq (.block 4 (.dregl [(0,.fadr 97 1 (.t 10)),
 (1,.ld 98 1 false (.t 97)),
 (2,.mov 99 (.t 11)),
 (3,.iad 100 2 (.t 98) (.t 99)),
 (4,.fadr 101 1 (.t 100)),
 (5,.ld 102 1 false (.t 101)),
 (6,.mov 103 (.t 0)),
 (7,.fadr 104 1 (.t 10)),
 (8,.ld 105 1 false (.t 104)),
 (9,.mov 106 (.t 11)),
 (10,.iad 107 2 (.t 105) (.t 106)),
 (11,.fadr 108 1 (.t 107)),
 (12,.ld 109 1 false (.t 108)),
 (15,.mov 112 (.t 0)),
 (16,.fadr 113 0 (.t 10)),
 (17,.ld 114 1 false (.t 113))]
 (.alt 13 (.len 110 (.t 109)) [0,1,2,3,4,5,6,7,8,9,10,11,12,15,16,17] [] (.alt 14 (.call 111 Ba [((.t 103),true),((.t 110),false)]) [0,1,2,3,4,5,6,15,16,17] [] (.alt 18 (.call 115 Ba [((.t 112),true),((.t 114),false)]) [0,1,2,3,4,5,15,16,17] [] (.alt 19 (.iad 116 1 (.t 102) (.t 111)) [0,1,2,3,4,5] [] (.alt 20 (.st 1 (.t 116) (.t 115)) [] [] .nil .nil) .nil) .nil) .nil) .nil)))
 (.drop [97,98,99,100,101,102,103,104,105,106,107,108,109,110,111,112,113,114,115,116] (.reg [un (.mov 95 (.t 11)),
 un (.bin 96 .add (.t 95) (.c (.int .i64 1))),
 un (.asg 11 (.t 96))])))))
def Ahl:ACode:=
 (.seq (.reg [un (.alc 2 (.agg [.int .i64 0,.nilsl 2])),
 un (.alc 3 (.agg [.int .i64 0,.nilsl 2]))])
 (.seq (.reg [un (.mov 12 (.t 0)),
 un (.call 13 D5 [((.t 12),true)]),
 un (.alc 4 (.agg [.int .i64 0,.nilsl 2])),
 un (.st 2 (.t 4) (.t 13))])
 (.drop [12,13] (.seq (.cut Acz)
 (.drop [14,15,16,17,18,19,20,21,22,23] (.seq (.cut Acs)
 (.drop [24,25,27,26,28,29,30,32,31,33,34,35,36,5,37,38,39,40,41,42,43,44,46,45,47,48,6,49,50,51,52,53,54,55,56,57,58,59,60,61,62,63,7,64,65,66,67,68,69,70,72,71,8,73,74,77,78,9,79,80,81,82,83,84,85,86,87,75,76] (.seq (.reg [un (.ld 88 2 true (.t 4)),
 un (.call 89 Sq [((.t 88),false)]),
 un (.alc 10 (.agg [.int .i64 0,.nilsl 2])),
 un (.st 2 (.t 10) (.t 89))])
 (.drop [88,89] (.seq (.seq (.reg [un (.asg 11 (.c (.int .i64 0)))])
 (.block 3 (.loop Rn)))
 (.drop [11,90,91,92,93,94,97,98,99,100,101,102,103,104,105,106,107,108,109,110,111,112,113,114,115,116,95,96] (.seq (.frz [10] (.dregl [(0,.ld 117 2 true (.t 4)),
 (1,.ld 118 2 true (.t 10))]
 (.alt 2 (.st 2 (.t 2) (.t 117)) [0,1] [] (.alt 3 (.st 2 (.t 3) (.t 118)) [1] [] .nil .nil) .nil)))
 (.drop [117,118] (.frz [2,3] .ret))))))))))))))
abbrev Afy:List RS:=[.c 2 2 true,.c 3 2 true]
theorem Ahn:Ay Tryz.prog On 119 Ahl Afy=true:=by kernel_rfl
def Acu:ACode:=
 (.seq (.reg [un (.box 2 (.t 0)),
 un (.box 3 (.t 1)),
 un (.asg 4 (.c (.bool false))),
 un (.asg 5 (.c (.bool false)))])
 (.seq (.seq (.reg [un (.ld 8 2 true (.t 2)),
 un (.ld 9 2 true (.t 3)),
 un (.call 10 Hg [((.t 8),false),((.t 9),false)]),
 un (.un 11 .not (.t 10))])
 (.drop [8,9,10] (.cond (.t 11) (.seq (.reg [un (.asg 4 (.c (.bool false))),
 un (.asg 5 (.c (.bool false)))])
 .ret)
 .skip)))
 (.drop [8,9,10,11] (.seq (.seq (.reg [un (.fadr 12 0 (.t 2)),
 un (.ld 13 1 false (.t 12)),
 un (.fadr 14 0 (.t 3)),
 un (.ld 15 1 false (.t 14)),
 un (.bin 16 .neq (.t 13) (.t 15))])
 (.drop [12,13,14,15] (.cond (.t 16) (.seq (.reg [un (.asg 4 (.c (.bool false))),
 un (.asg 5 (.c (.bool true)))])
 .ret)
 .skip)))
 (.drop [12,13,14,15,16] (.seq (.reg [un (.ld 18 2 true (.t 2)),
 un (.ld 19 2 true (.t 3)),
 un (.call 20 Mc [((.t 18),false),((.t 19),false),((.c (.bool true)),false),((.c (.clo L5 [])),false)]),
 un (.asg 17 (.t 20)),
 un (.ext 21 (.t 17) 0),
 un (.ext 22 (.t 17) 1),
 un (.asg 6 (.t 21)),
 un (.asg 7 (.t 22))])
 (.drop [18,19,20,17,21,22] (.seq (.reg [un (.mov 23 (.t 7)),
 un (.asg 24 (.t 23)),
 ⟨some (24,true),.mov 25 (.t 6)⟩,
 ⟨some (24,true),.nilq 26 true (.t 25)⟩,
 un (.pick 27 (.t 24) (.t 26) (.c (.bool false))),
 un (.mov 28 (.t 7)),
 un (.asg 4 (.t 27)),
 un (.asg 5 (.t 28))])
 (.drop [23,24,25,26,27,28] .ret)))))))))
abbrev Ac9:List RS:=[.t 4,.t 5]
theorem Ab5:Ay Tryz.prog Fu 29 Acu Ac9=true:=by kernel_rfl
def Awj:ACode:=
 (.seq (.reg [un (.box 3 (.t 0)),
 un (.box 4 (.t 1)),
 un (.asg 6 (.c (.bool false))),
 un (.asg 7 (.c (.bool false)))])
 (.seq (.seq (.reg [un (.ld 8 2 true (.t 3)),
 un (.ld 9 2 true (.t 4)),
 un (.call 10 Hg [((.t 8),false),((.t 9),false)]),
 un (.un 11 .not (.t 10))])
 (.drop [8,9,10] (.cond (.t 11) (.seq (.reg [un (.asg 6 (.c (.bool false))),
 un (.asg 7 (.c (.bool false)))])
 .ret)
 .skip)))
 (.drop [8,9,10,11] (.seq (.reg [un (.ld 12 2 true (.t 3)),
 un (.ld 13 2 true (.t 4)),
 un (.mov 14 (.t 2)),
 un (.call 15 Zu [((.t 12),false),((.t 13),false),((.t 14),false)]),
 un (.asg 6 (.t 15)),
 un (.asg 7 (.c (.bool true)))])
 (.drop [12,13,14,15] .ret)))))
abbrev Avy:List RS:=[.t 6,.t 7]
theorem Aua:Ay Tryz.prog Zk 16 Awj Avy=true:=by kernel_rfl
def Abu:ACode:=
 (.seq (.reg [un (.box 1 (.t 0)),
 un (.asg 2 (.c (.nilsl 1))),
 un (.asg 3 (.c (.bool false)))])
 (.seq (.seq (.reg [un (.ld 4 2 true (.t 1)),
 un (.call 5 D4 [((.t 4),false)]),
 un (.un 6 .not (.t 5))])
 (.drop [4,5] (.cond (.t 6) (.seq (.reg [un (.bsl 7 1 []),
 un (.asg 2 (.t 7)),
 un (.asg 3 (.c (.bool false)))])
 (.drop [7] .ret))
 .skip)))
 (.drop [4,5,6,7] (.seq (.reg [un (.ld 8 2 true (.t 1)),
 un (.ld 9 2 true (.t 1)),
 un (.call 10 Mi [((.t 8),false),((.t 9),false),((.c (.bool true)),false)]),
 un (.ext 11 (.t 10) 0),
 un (.ext 12 (.t 10) 1),
 un (.asg 2 (.t 11)),
 un (.asg 3 (.t 12))])
 (.drop [8,9,10,11,12] .ret)))))
abbrev Ac7:List RS:=[.t 2,.t 3]
theorem Acb:Ay Tryz.prog Hm 13 Abu Ac7=true:=by kernel_rfl
def Ae3:ACode:=
 (.seq (.reg [un (.alc 2 (.agg [.int .i64 0,.nilsl 2])),
 un (.alc 3 (.agg [.int .i64 0,.nilsl 2]))])
 (.seq (.reg [un (.mov 5 (.t 0)),
 un (.bld 6 [.nilsl 1,.int .i64 0,.int .u64 0] [(0,1,(.t 5))]),
 un (.box 7 (.t 6)),
 un (.asg 4 (.t 7))])
 (.drop [5,6,7] (.seq (.reg [un (.mov 8 (.t 4)),
 un (.call 9 On [((.t 8),true)]),
 un (.ext 10 (.t 9) 0),
 un (.ext 11 (.t 9) 1),
 un (.st 2 (.t 2) (.t 10)),
 un (.st 2 (.t 3) (.t 11))])
 (.drop [8,9,10,11] .ret)))))
abbrev Aft:List RS:=[.c 2 2 true,.c 3 2 true]
theorem Aeu:Ay Tryz.prog M6 12 Ae3 Aft=true:=by kernel_rfl
def Abb:ACode:=
 (.seq (.reg [un (.box 2 (.t 0)),
 un (.box 3 (.t 1)),
 un (.asg 4 (.c (.nilsl 1))),
 un (.asg 5 (.c (.bool false)))])
 (.seq (.seq (.reg [un (.ld 8 2 true (.t 2)),
 un (.ld 9 2 true (.t 3)),
 un (.call 10 Hg [((.t 8),false),((.t 9),false)]),
 un (.un 11 .not (.t 10))])
 (.drop [8,9,10] (.cond (.t 11) (.seq (.reg [un (.bsl 12 1 []),
 un (.asg 4 (.t 12)),
 un (.asg 5 (.c (.bool false)))])
 (.drop [12] .ret))
 .skip)))
 (.drop [8,9,10,11,12] (.seq (.reg [un (.ld 14 2 true (.t 2)),
 un (.ld 15 2 true (.t 3)),
 un (.call 16 Mc [((.t 14),false),((.t 15),false),((.c (.bool true)),false),((.c (.clo L5 [])),false)]),
 un (.asg 13 (.t 16)),
 un (.ext 17 (.t 13) 0),
 un (.ext 18 (.t 13) 1),
 un (.asg 6 (.t 17)),
 un (.asg 7 (.t 18))])
 (.drop [14,15,16,13,17,18] (.seq (.seq (.reg [un (.mov 19 (.t 7)),
 un (.un 20 .not (.t 19)),
 un (.asg 21 (.t 20)),
 ⟨some (21,false),.mov 22 (.t 6)⟩,
 ⟨some (21,false),.nilq 23 false (.t 22)⟩,
 un (.pick 24 (.t 21) (.c (.bool true)) (.t 23))])
 (.drop [19,20,21,22,23] (.cond (.t 24) (.seq (.reg [un (.bsl 25 1 []),
 un (.asg 4 (.t 25)),
 un (.asg 5 (.c (.bool false)))])
 (.drop [25] .ret))
 .skip)))
 (.drop [19,20,21,22,23,24,25] (.seq (.reg [un (.mov 26 (.t 6)),
 un (.asg 4 (.t 26)),
 un (.asg 5 (.c (.bool true)))])
 (.drop [26] .ret)))))))))
abbrev Aa1:List RS:=[.t 4,.t 5]
theorem Aa4:Ay Tryz.prog J1 27 Abb Aa1=true:=by kernel_rfl
def Aom:ACode:=
 (.seq (.reg [un (.box 2 (.t 0)),
 un (.box 3 (.t 1)),
 un (.asg 4 (.c (.nilsl 1))),
 un (.asg 5 (.c (.bool false)))])
 (.seq (.seq (.reg [un (.ld 6 2 true (.t 2)),
 un (.ld 7 2 true (.t 3)),
 un (.call 8 Hg [((.t 6),false),((.t 7),false)]),
 un (.un 9 .not (.t 8))])
 (.drop [6,7,8] (.cond (.t 9) (.seq (.reg [un (.bsl 10 1 []),
 un (.asg 4 (.t 10)),
 un (.asg 5 (.c (.bool false)))])
 (.drop [10] .ret))
 .skip)))
 (.drop [6,7,8,9,10] (.seq (.reg [un (.ld 11 2 true (.t 2)),
 un (.ld 12 2 true (.t 3)),
 un (.call 13 Mi [((.t 11),false),((.t 12),false),((.c (.bool false)),false)]),
 un (.ext 14 (.t 13) 0),
 un (.ext 15 (.t 13) 1),
 un (.asg 4 (.t 14)),
 un (.asg 5 (.t 15))])
 (.drop [11,12,13,14,15] .ret)))))
abbrev Am7:List RS:=[.t 4,.t 5]
theorem Aoh:Ay Tryz.prog Ti 16 Aom Am7=true:=by kernel_rfl
def W6:ACode:=
 (.seq (.reg [un (.alc 2 (.agg [.int .i64 0,.nilsl 2])),
 un (.alc 3 (.agg [.int .i64 0,.nilsl 2]))])
 (.seq (.reg [un (.mov 4 (.t 0)),
 un (.call 5 M6 [((.t 4),false)]),
 un (.ext 6 (.t 5) 0),
 un (.ext 7 (.t 5) 1),
 un (.st 2 (.t 2) (.t 6)),
 un (.st 2 (.t 3) (.t 7))])
 (.drop [4,5,6,7] .ret)))
abbrev Wv:List RS:=[.c 2 2 true,.c 3 2 true]
theorem Wx:Ay Tryz.prog Hx 8 W6 Wv=true:=by kernel_rfl
def Al6:ACode:=
 (.seq (.reg [un (.box 2 (.t 0)),
 un (.box 3 (.t 1)),
 un (.asg 4 (.c (.nilsl 1))),
 un (.asg 5 (.c (.bool false)))])
 (.seq (.seq (.reg [un (.fadr 6 0 (.t 2)),
 un (.ld 7 1 false (.t 6)),
 un (.fadr 8 0 (.t 3)),
 un (.ld 9 1 false (.t 8)),
 un (.bin 10 .neq (.t 7) (.t 9))])
 (.drop [6,7,8,9] (.cond (.t 10) (.seq (.reg [un (.bsl 11 1 []),
 un (.asg 4 (.t 11)),
 un (.asg 5 (.c (.bool false)))])
 (.drop [11] .ret))
 .skip)))
 (.drop [6,7,8,9,10,11] (.seq (.reg [un (.ld 12 2 true (.t 2)),
 un (.ld 13 2 true (.t 3)),
 un (.call 14 J1 [((.t 12),false),((.t 13),false)]),
 un (.ext 15 (.t 14) 0),
 un (.ext 16 (.t 14) 1),
 un (.asg 4 (.t 15)),
 un (.asg 5 (.t 16))])
 (.drop [12,13,14,15,16] .ret)))))
abbrev Ak7:List RS:=[.t 4,.t 5]
theorem Amm:Ay Tryz.prog Rz 17 Al6 Ak7=true:=by kernel_rfl
def Jo:ACode:=
 (.seq (.reg [un (.bin 33 .lss (.t 32) (.t 31))])
 (.seq (.cond (.t 33) .skip
 (.exit 2))
 (.seq (.block 3 (.seq (.reg [un (.iad 34 1 (.t 30) (.t 32)),
 un (.ld 35 1 false (.t 34)),
 un (.asg 10 (.t 35))])
 (.drop [34,35] (.reg [un (.mov 36 (.t 8)),
 un (.mov 37 (.t 10)),
 un (.mov 38 (.t 7)),
 un (.iad 39 1 (.t 37) (.t 38)),
 un (.ld 40 1 false (.t 39)),
 un (.iad 41 1 (.t 36) (.t 40)),
 un (.st 1 (.t 41) (.c (.bool true)))]))))
 (.drop [34,35,10,36,37,38,39,40,41] (.reg [un (.bin 42 .add (.t 32) (.c (.int .i64 1))),
 un (.asg 32 (.t 42))])))))
def Jp:ACode:=
 (.seq (.seq (.reg [un (.mov 21 (.t 7)),
 un (.fadr 22 0 (.t 1)),
 un (.ld 23 1 false (.t 22)),
 un (.bin 24 .lss (.t 21) (.t 23))])
 (.drop [21,22,23] (.cond (.t 24) .skip
 (.exit 0))))
 (.drop [21,22,23,24] (.seq (.block 1 (.seq (.reg [un (.fadr 27 0 (.t 1)),
 un (.ld 28 1 false (.t 27)),
 un (.mk 29 1 (.bool false) (.t 28)),
 un (.asg 8 (.t 29))])
 (.drop [27,28,29] (.seq (.seq (.reg [un (.mov 30 (.t 4)),
 un (.len 31 (.t 30)),
 un (.mov 32 (.c (.int .i64 0)))])
 (.block 2 (.loop Jo)))
 (.drop [30,31,32,33,34,35,10,36,37,38,39,40,41,42] (.seq (.reg [un (.mov 43 (.t 8)),
 un (.call 44 Wz [((.t 43),false)]),
 un (.asg 11 (.t 44))])
 (.drop [43,44] (.seq (.reg [un (.mov 45 (.t 11)),
 un (.iad 46 1 (.t 45) (.c (.int .i64 0))),
 un (.ld 47 1 false (.t 46)),
 un (.mov 48 (.t 7)),
 un (.bin 49 .eql (.t 47) (.t 48))])
 (.drop [45,46,47,48] (.cond (.t 49) (.reg [un (.mov 50 (.t 6)),
 un (.mov 51 (.t 11)),
 un (.bsl 52 1 [(.t 51)]),
 un (.app 53 1 (.t 50) (.t 52)),
 un (.asg 6 (.t 53))])
 .skip))))))))))
 (.drop [27,28,29,8,30,31,32,33,34,35,10,36,37,38,39,40,41,42,43,44,11,45,46,47,48,49,50,51,52,53] (.reg [un (.mov 25 (.t 7)),
 un (.bin 26 .add (.t 25) (.c (.int .i64 1))),
 un (.asg 7 (.t 26))])))))
def U7:ACode:=
 (.seq (.reg [un (.box 1 (.t 0)),
 un (.asg 2 (.c (.nilsl 1))),
 un (.asg 3 (.c (.bool false)))])
 (.seq (.reg [un (.ld 13 2 true (.t 1)),
 un (.call 14 Hm [((.t 13),false)]),
 un (.asg 12 (.t 14)),
 un (.ext 15 (.t 12) 0),
 un (.ext 16 (.t 12) 1),
 un (.asg 4 (.t 15)),
 un (.asg 5 (.t 16))])
 (.drop [13,14,12,15,16] (.seq (.seq (.reg [un (.mov 17 (.t 5)),
 un (.un 18 .not (.t 17))])
 (.drop [17] (.cond (.t 18) (.seq (.reg [un (.bsl 19 1 []),
 un (.asg 2 (.t 19)),
 un (.asg 3 (.c (.bool false)))])
 (.drop [19] .ret))
 .skip)))
 (.drop [17,18,19] (.seq (.reg [un (.bsl 20 1 []),
 un (.asg 6 (.t 20))])
 (.drop [20] (.seq (.seq (.reg [un (.asg 7 (.c (.int .i64 0)))])
 (.block 0 (.loop Jp)))
 (.drop [7,21,22,23,24,27,28,29,8,30,31,32,33,34,35,10,36,37,38,39,40,41,42,43,44,11,45,46,47,48,49,50,51,52,53,25,26] (.seq (.reg [un (.mov 54 (.t 6)),
 un (.asg 2 (.t 54)),
 un (.asg 3 (.c (.bool true)))])
 (.drop [54] .ret)))))))))))
abbrev Va:List RS:=[.t 2,.t 3]
theorem U5:Ay Tryz.prog G5 55 U7 Va=true:=by kernel_rfl
def Ac6:ACode:=
 (.seq (.reg [un (.box 1 (.t 0)),
 un (.asg 2 (.c (.nilsl 1))),
 un (.asg 3 (.c (.bool false)))])
 (.seq (.reg [un (.ld 4 2 true (.t 1)),
 un (.ld 5 2 true (.t 1)),
 un (.call 6 Ti [((.t 4),false),((.t 5),false)]),
 un (.ext 7 (.t 6) 0),
 un (.ext 8 (.t 6) 1),
 un (.asg 2 (.t 7)),
 un (.asg 3 (.t 8))])
 (.drop [4,5,6,7,8] .ret)))
abbrev Ace:List RS:=[.t 2,.t 3]
theorem Aci:Ay Tryz.prog Hr 9 Ac6 Ace=true:=by kernel_rfl
def O9:ACode:=
 (.seq (.reg [un (.bin 21 .lss (.t 20) (.t 19))])
 (.seq (.cond (.t 21) .skip
 (.exit 0))
 (.seq (.block 1 (.seq (.reg [un (.iad 22 1 (.t 18) (.t 20)),
 un (.ld 23 1 false (.t 22)),
 un (.asg 8 (.t 23))])
 (.drop [22,23] (.seq (.reg [un (.mov 24 (.t 8)),
 un (.mov 25 (.t 8)),
 un (.call 26 Ty [((.t 24),false),((.t 25),false)]),
 un (.mov 27 (.t 8)),
 un (.call 28 Mg [((.t 26),false),((.t 27),false)])])
 (.drop [24,25,26,27] (.cond (.t 28) (.reg [un (.mov 29 (.t 6)),
 un (.mov 30 (.t 8)),
 un (.bsl 31 1 [(.t 30)]),
 un (.app 32 1 (.t 29) (.t 31)),
 un (.asg 6 (.t 32))])
 .skip))))))
 (.drop [22,23,8,24,25,26,27,28,29,30,31,32] (.reg [un (.bin 33 .add (.t 20) (.c (.int .i64 1))),
 un (.asg 20 (.t 33))])))))
def Ae8:ACode:=
 (.seq (.reg [un (.box 1 (.t 0)),
 un (.asg 2 (.c (.nilsl 1))),
 un (.asg 3 (.c (.bool false)))])
 (.seq (.reg [un (.ld 10 2 true (.t 1)),
 un (.call 11 Hr [((.t 10),false)]),
 un (.asg 9 (.t 11)),
 un (.ext 12 (.t 9) 0),
 un (.ext 13 (.t 9) 1),
 un (.asg 4 (.t 12)),
 un (.asg 5 (.t 13))])
 (.drop [10,11,9,12,13] (.seq (.seq (.reg [un (.mov 14 (.t 5)),
 un (.un 15 .not (.t 14))])
 (.drop [14] (.cond (.t 15) (.seq (.reg [un (.bsl 16 1 []),
 un (.asg 2 (.t 16)),
 un (.asg 3 (.c (.bool false)))])
 (.drop [16] .ret))
 .skip)))
 (.drop [14,15,16] (.seq (.reg [un (.bsl 17 1 []),
 un (.asg 6 (.t 17))])
 (.drop [17] (.seq (.seq (.reg [un (.mov 18 (.t 4)),
 un (.len 19 (.t 18)),
 un (.mov 20 (.c (.int .i64 0)))])
 (.block 0 (.loop O9)))
 (.drop [18,19,20,21,22,23,8,24,25,26,27,28,29,30,31,32,33] (.seq (.reg [un (.mov 34 (.t 6)),
 un (.asg 2 (.t 34)),
 un (.asg 3 (.c (.bool true)))])
 (.drop [34] .ret)))))))))))
abbrev Aeq:List RS:=[.t 2,.t 3]
theorem Aer:Ay Tryz.prog M4 35 Ae8 Aeq=true:=by kernel_rfl
end Go.Proofs.YtmkgjnphianalaaGreat.Ax
