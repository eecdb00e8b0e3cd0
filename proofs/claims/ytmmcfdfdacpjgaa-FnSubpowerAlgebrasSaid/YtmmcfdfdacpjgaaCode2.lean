/-
  The small code of the functions, written by program; that the program's code is this one, the kernel looks at.
-/
import Derived.Test.YtmmcfdfdacpjgaaAx3
import Derived.Test.YtmmcfdfdacpjgaaProg
import Derived.KernelRfl
import Derived.Test.YtmmcfdfdacpjgaaNum
namespace Go.Proofs.Ytmmcfdfdacpjgaa.Ax
open Go
set_option maxRecDepth 100000
def Nr:ACode:=
 (.seq (.seq (.reg [.mov 28 12,
 .mov 29 8,
 .bin 30 .lss 28 29])
 (.drop [28,29] (.cond 30 .skip
 (.exit 2))))
 (.drop [30] (.seq (.block 3 (.reg [.mov 33 11,
 .mov 34 0,
 .ld 35 2 true 4,
 .call 36 Dq [(34,true),(35,false)],
 .bsl 37 1 [36],
 .app 38 1 33 37,
 .asg 11 38]))
 (.drop (R 33 6) (.reg [.mov 31 12,
 .bin 32 .add 31 (.i 1),
 .asg 12 32])))))
def Ni:ACode:=
 (.seq (.seq (.reg [.mov 23 10,
 .bin 24 .gtr 23 (.i 0)])
 (.drop [23] (.cond 24 .skip
 (.exit 0))))
 (.drop [24] (.seq (.block 1 (.seq (.reg [.bsl 27 1 [],
 .asg 11 27])
 (.drop [27] (.seq (.seq (.reg [.asg 12 (.i 0)])
 (.block 2 (.loop Nr)))
 (.drop [12,31,32] (.reg [.mov 39 9,
 .mov 40 11,
 .bsl 41 1 [40],
 .app 42 1 39 41,
 .asg 9 42]))))))
 (.drop [11,39,40,41,42] (.reg [.mov 25 10,
 .bin 26 .sub 25 (.i 1),
 .asg 10 26])))))
def Yf:ACode:=
 (.seq (.reg [.mov 46 13,
 .mov 47 9,
 .len 48 47,
 .bin 49 .lss 46 48,
 .asg 50 49,
 .y 50 (.mov 51 0),
 .y 50 (.call 52 C4 [(51,true),((.i 2),false)]),
 .pick 53 50 52 (.c (.bool false))])
 (.drop (R 46 7) (.cond 53 .skip
 (.exit 4))))
def Nx:ACode:=
 (.seq (.seq (.reg [.mov 56 14,
 .mov 57 8,
 .bin 58 .lss 56 57])
 (.drop [56,57] (.cond 58 .skip
 (.exit 6))))
 (.drop [58] (.seq (.block 7 (.dreg [(.mov 61 9,[100]),
 (.mov 62 13,[100,61]),
 (.iad 63 1 61 62,[100]),
 (.l 64 63,[100]),
 (.mov 65 14,[100,61,62,63,64]),
 (.mov 66 0,[61,62,63,64,65]),
 (.fadr 67 0 4,[61,62,63,64,65,66]),
 (.l 68 67,[61,62,63,64,65,66]),
 (.call 69 Mn [(68,false),((.i 8),false)],[61,62,63,64,65,66]),
 (.call 70 A6 [(66,true),(69,false)],[100,61,62,63,64,65])]
 [.iad 71 1 64 65,
 .st 1 71 70]))
 (.drop (R 61 11) (.reg [.mov 59 14,
 .bin 60 .add 59 (.i 1),
 .asg 14 60])))))
def Ny:ACode:=
 (.seq (.cut Yf)
 (.drop [53] (.seq (.block 5 (.seq (.reg [.asg 14 (.i 0)])
 (.block 6 (.loop Nx))))
 (.drop [14,59,60] (.reg [.mov 54 13,
 .bin 55 .add 54 (.i 1),
 .asg 13 55])))))
def Yb:ACode:=
 (.seq (.reg [.fadr 43 0 4,
 .l 44 43,
 .bin 45 .gtr 44 (.i 0)])
 (.drop [43,44] (.cond 45 (.seq (.reg [.asg 13 (.i 0)])
 (.block 4 (.loop Ny)))
 .skip)))
def Nj:ACode:=
 (.seq (.seq (.reg [.mov 87 9,
 .len 88 87,
 .mov 89 0,
 .call 90 A6 [(89,true),((.i 2),false)],
 .bin 91 .add (.i 20) 90,
 .bin 92 .lss 88 91])
 (.drop (R 87 5) (.cond 92 .skip
 (.exit 9))))
 (.drop [92] (.block 10 (.reg [.mov 93 9,
 .mov 94 8,
 un (.mk 95 1 (.int .i64 0) 94),
 .bsl 96 1 [95],
 .app 97 1 93 96,
 .asg 9 97]))))
def Acm:ACode:=
 (.seq (.reg [.box 4 1,
 .asg 6 (.i 0),
 .asg 7 (.c (.nilsl 1))])
 (.seq (.reg [.mov 15 0,
 .bsl 16 1 [(.i 1),(.i 2),(.i 2),(.i 3),(.i 4),(.i 2),(.i 5)],
 .call 17 Bk [(15,true),(16,false)],
 .asg 8 17])
 (.drop [15,16,17] (.seq (.reg [.bsl 18 1 [],
 .asg 9 18])
 (.drop [18] (.seq (.seq (.reg [.mov 19 0,
 .mov 20 2,
 .bin 21 .add 20 (.i 1),
 .call 22 A6 [(19,true),(21,false)],
 .asg 10 22])
 (.drop [19,20,21,22] (.block 0 (.loop Ni))))
 (.drop [10,25,26] (.seq (.cut Yb)
 (.drop [45,13,54,55] (.seq (.seq (.reg [.mov 72 0,
 .call 73 A6 [(72,true),((.i 40),false)]])
 (.drop [72] (.block 8 (.seq (.reg [.bin 75 .eql 73 (.i 0),
 .asg 74 75])
 (.drop [75] (.cond 74 (.reg [.mov 76 0,
 .bsl 77 1 [(.i 0),(.i 65),(.i (-1)),(.i 64)],
 .call 78 Bk [(76,true),(77,false)],
 .asg 8 78])
 (.seq (.reg [.bin 80 .eql 73 (.i 1),
 .asg 79 80])
 (.drop [80] (.cond 79 (.reg [.mov 81 9,
 .bsl 82 1 [(.i 0)],
 .bsl 83 1 [82],
 .app 84 1 81 83,
 .asg 9 84])
 (.seq (.reg [.bin 86 .eql 73 (.i 2),
 .asg 85 86])
 (.drop [86] (.cond 85 (.block 9 (.loop Nj))
 .skip))))))))))))
 (.drop [73,74,76,77,78,79,81,82,83,84,85,93,94,95,96,97] (.seq (.reg [.mov 98 8,
 .mov 99 9,
 .asg 6 98,
 .asg 7 99])
 .ret))))))))))))
abbrev Ach:List RS:=[.t 6,.t 7]
theorem Ab5:A5 Try.prog Lj 100 Acm Ach=true:=by kernel_rfl
def Amk:ACode:=
 (.seq (.reg [.box 3 0,
 .asg 6 (.c (.bool false))])
 (.seq (.reg [.ld 7 2 true 3,
 .call 8 K3 [(7,false)],
 .asg 9 8,
 .y 9 (.mov 10 2),
 .y 9 (.len 11 10),
 .y 9 (.bin 12 .leq 11 (.i 20)),
 .pick 13 9 12 (.c (.bool false)),
 .asg 14 13,
 .y 14 (.fadr 15 0 3),
 .y 14 (.ld 16 1 false 15),
 .y 14 (.mov 17 1),
 .y 14 (.mov 18 2),
 .y 14 (.call 19 Is [(16,false),(17,false),(18,false)]),
 .pick 20 14 19 (.c (.bool false)),
 .asg 6 20])
 .ret))
abbrev Alp:List RS:=[.t 6]
theorem Amo:A5 Try.prog Ul 21 Amk Alp=true:=by kernel_rfl
def Ace:ACode:=
 (.seq (.reg [.box 3 0,
 .asg 6 (.c (.bool false))])
 (.seq (.reg [.ld 7 2 true 3,
 .call 8 Du [(7,false)],
 .asg 9 8,
 .y 9 (.mov 10 1),
 .y 9 (.call 11 Lb [(10,false)]),
 .pick 12 9 11 (.c (.bool false)),
 .asg 13 12,
 .y 13 (.ld 14 2 true 3),
 .y 13 (.mov 15 1),
 .y 13 (.mov 16 2),
 .y 13 (.call 17 M4 [(14,false),(15,false),(16,false)]),
 .pick 18 13 17 (.c (.bool false)),
 .asg 6 18])
 .ret))
abbrev Aa7:List RS:=[.t 6]
theorem Ab0:A5 Try.prog Ik 19 Ace Aa7=true:=by kernel_rfl
def Aj3:ACode:=
 (.seq (.reg [.box 3 0,
 .asg 6 (.c (.bool false))])
 (.seq (.reg [.ld 7 2 true 3,
 .call 8 K3 [(7,false)],
 .asg 9 8,
 .y 9 (.mov 10 1),
 .y 9 (.call 11 F6 [(10,false),((.i 1),false),((.i 64),false)]),
 .pick 12 9 11 (.c (.bool false)),
 .asg 13 12,
 .y 13 (.ld 14 2 true 3),
 .y 13 (.mov 15 1),
 .y 13 (.mov 16 2),
 .y 13 (.call 17 Y6 [(14,false),(15,false),(16,false)]),
 .pick 18 13 17 (.c (.bool false)),
 .asg 6 18])
 .ret))
abbrev Akh:List RS:=[.t 6]
theorem Ajn:A5 Try.prog Mf 19 Aj3 Akh=true:=by kernel_rfl
def Ahi:ACode:=
 (.seq (.reg [.box 2 0,
 .box 3 1,
 .asg 4 (.c (.bool false))])
 (.seq (.reg [.ld 5 2 true 2,
 .call 6 Du [(5,false)],
 .asg 7 6,
 .y 7 (.ld 8 2 true 3),
 .y 7 (.call 9 Du [(8,false)]),
 .pick 10 7 9 (.c (.bool false)),
 .asg 11 10,
 .y 11 (.ld 12 2 true 2),
 .y 11 (.ld 13 2 true 3),
 .y 11 (.call 14 W4 [(12,false),(13,false)]),
 .pick 15 11 14 (.c (.bool false)),
 .asg 4 15])
 .ret))
abbrev Aic:List RS:=[.t 4]
theorem Ah8:A5 Try.prog P5 16 Ahi Aic=true:=by kernel_rfl
def Sx:ACode:=
 (.reg [.ld 16 2 true 3,
 .mov 17 6,
 .mov 18 7,
 .call 19 Ul [(16,false),(17,false),(18,false)],
 .asg 20 19,
 .y 20 (.mov 21 0),
 .y 20 (.call 22 C4 [(21,true),((.i 12),false)]),
 .y 20 (.un 23 .not 22),
 .pick 24 20 23 (.c (.bool false))])
def Ss:ACode:=
 (.seq (.cut Sx)
 (.drop (R 16 8) (.cond 24 (.frz [7] (.reg [.ld 26 2 true 3,
 .mov 27 6,
 .mov 28 7,
 .call 29 Rx [(26,false),(27,false),(28,false)],
 .asg 25 29,
 .ext 30 25 0,
 .ext 31 25 1,
 .asg 8 30]))
 .skip)))
def Wj:ACode:=
 (.seq (.reg [.box 3 1,
 .asg 4 (.i 0),
 .asg 5 (.c (.nilsl 1))])
 (.seq (.reg [.mov 10 0,
 .ld 11 2 true 3,
 .call 12 Lj [(10,true),(11,false),((.i 3),false)],
 .asg 9 12,
 .ext 13 9 0,
 .ext 14 9 1,
 .asg 6 13,
 .asg 7 14])
 (.drop (R 9 6) (.seq (.frz [100007] (.reg [.mov 15 7,
 .asg 8 15]))
 (.drop [15] (.seq (.cut Ss)
 (.drop (R 24 8) (.seq (.seq (.reg [.mov 32 0,
 .call 33 A6 [(32,true),((.i 32),false)]])
 (.drop [32] (.block 0 (.seq (.reg [.bin 35 .eql 33 (.i 0),
 .asg 34 35])
 (.drop [35] (.cond 34 (.seq (.reg [.mov 36 8,
 .len 37 36,
 .bin 38 .gtr 37 (.i 0)])
 (.drop [36,37] (.cond 38 (.frz [8] (.reg [.mov 39 8,
 un (.slc 40 1 39 (some (.i 1)) none),
 .asg 8 40]))
 .skip)))
 (.seq (.reg [.bin 42 .eql 33 (.i 1),
 .asg 41 42])
 (.drop [42] (.cond 41 (.reg [.mov 43 8,
 .mov 44 6,
 .call 45 Mn [(44,false),((.i 64),false)],
 .call 46 Ph [((.i 0),false),(45,false)],
 un (.mkr 47 1 (.int .i64 0) 46),
 .bsl 48 1 [47],
 .app 49 1 43 48,
 .asg 8 49])
 .skip)))))))))
 (.drop [33,34,38,39,40,41,43,44,45,46,47,48,49] (.seq (.reg [.mov 50 6,
 .mov 51 8,
 .asg 4 50,
 .asg 5 51])
 .ret))))))))))
abbrev W3:List RS:=[.t 4,.t 5]
theorem Wm:A5 Try.prog Il 52 Wj W3=true:=by kernel_rfl
def Rj:ACode:=
 (.seq (.reg [.ld 19 2 true 3,
 .mov 20 1,
 .mov 21 2,
 .call 22 Ik [(19,false),(20,false),(21,false)],
 .un 23 .not 22,
 .asg 24 23,
 .n 24 (.mov 25 2),
 .n 24 (.len 26 25),
 .n 24 (.bin 27 .eql 26 (.i 0)),
 .pick 28 24 (.c (.bool true)) 27,
 .asg 29 28,
 .n 29 (.mov 30 2),
 .n 29 (.len 31 30),
 .n 29 (.bin 32 .gtr 31 (.i 8)),
 .pick 33 29 (.c (.bool true)) 32])
 (.drop (R 19 14) (.cond 33 (.seq (.reg [.bld 34 [.int .i64 0,.nilsl 2] [],
 .st 2 6 34,
 .asg 7 (.c (.bool false))])
 .ret)
 .skip)))
def Jm:ACode:=
 (.seq (.reg [.bin 39 .lss 38 37])
 (.seq (.cond 39 .skip
 (.exit 0))
 (.seq (.block 1 (.seq (.reg [.mov 40 38,
 .iad 41 1 36 38,
 .l 42 41,
 .asg 9 40,
 .asg 10 42])
 (.drop [40,41,42] (.reg [.mov 43 8,
 .mov 44 10,
 .call 45 Kl [(44,false)],
 .mov 46 9,
 un (.mup 43 45 46 false)]))))
 (.drop [9,10,43,44,45,46] (.reg [.bin 47 .add 38 (.i 1),
 .asg 38 47])))))
def Jt:ACode:=
 (.seq (.reg [.bin 79 .lss 78 77])
 (.seq (.cond 79 .skip
 (.exit 6))
 (.seq (.block 7 (.seq (.reg [.iad 80 1 76 78,
 .l 81 80,
 .asg 18 81])
 (.drop [80,81] (.reg [.mov 82 16,
 .mov 83 2,
 .mov 84 18,
 .iad 85 1 83 84,
 .l 86 85,
 .bsl 87 1 [86],
 .app 88 1 82 87,
 .asg 16 88]))))
 (.drop [18,82,83,84,85,86,87,88] (.reg [.bin 89 .add 78 (.i 1),
 .asg 78 89])))))
def Jw:ACode:=
 (.seq (.seq (.reg [.mov 61 15,
 .fadr 62 0 11,
 .l 63 62,
 .fadr 64 0 13,
 .l 65 64,
 .call 66 Q3 [(63,false),(65,false)],
 .bin 67 .lss 61 66])
 (.drop (R 61 6) (.cond 67 .skip
 (.exit 4))))
 (.drop [67] (.seq (.block 5 (.seq (.reg [.bsl 70 1 [],
 .asg 16 70])
 (.drop [70] (.seq (.seq (.reg [.mov 71 15,
 .fadr 72 0 13,
 .l 73 72,
 .fadr 74 0 11,
 .l 75 74,
 .call 76 Ub [(71,false),(73,false),(75,false)],
 .len 77 76,
 .mov 78 (.i 0)])
 (.drop (R 71 5) (.block 6 (.loop Jt))))
 (.drop [76,77,78,79,89] (.dreg [(.fadr 90 1 14,[99]),
 (.l 91 90,[99]),
 (.mov 92 8,[90,91]),
 (.ld 93 2 true 3,[90,91,92]),
 (.ld 94 2 true 13,[90,91,92,93]),
 (.mov 95 1,[90,91,92,93,94]),
 (.mov 96 16,[90,91,92,93,94,95]),
 (.call 97 Gm [(93,false),(94,false),(95,false),(96,false)],[90,91,92]),
 (.call 98 Kl [(97,false)],[90,91,92]),
 (un (.mlk 99 92 98 (.int .i64 0) false false),[90,91]),
 (.bsl 100 1 [99],[90,91])]
 [.app 101 1 91 100,
 .fadr 102 1 14,
 .st 1 102 101]))))))
 (.drop [16,90,91,92,93,94,95,96,97,98,99,100,101,102] (.reg [.mov 68 15,
 .bin 69 .add 68 (.i 1),
 .asg 15 69])))))
def Jv:ACode:=
 (.seq (.reg [.bin 55 .lss 54 53])
 (.seq (.cond 55 .skip
 (.exit 2))
 (.seq (.block 3 (.seq (.reg [.iad 56 2 52 54,
 .ld 57 2 true 56,
 .alc 13 (.agg [.int .i64 0,.nilsl 1]),
 .st 2 13 57])
 (.drop [56,57] (.seq (.reg [.fadr 58 0 13,
 .l 59 58,
 .bld 60 [.int .i64 0,.nilsl 1] [(0,1,59)],
 .alc 14 (.agg [.int .i64 0,.nilsl 1]),
 .st 2 14 60])
 (.drop [58,59,60] (.seq (.seq (.reg [.asg 15 (.i 0)])
 (.block 4 (.loop Jw)))
 (.drop [15,68,69] (.reg [.fadr 103 1 11,
 .l 104 103,
 .ld 105 2 true 14,
 .bsl 106 2 [105],
 .app 107 2 104 106,
 .fadr 108 1 11,
 .st 1 108 107]))))))))
 (.drop [13,14,103,104,105,106,107,108] (.reg [.bin 109 .add 54 (.i 1),
 .asg 54 109])))))
def T8:ACode:=
 (.seq (.reg [.box 3 0,
 .alc 6 (.agg [.int .i64 0,.nilsl 2]),
 .asg 7 (.c (.bool false))])
 (.seq (.cut Rj)
 (.drop [33] (.seq (.reg [un (.mkm 35 false),
 .asg 8 35])
 (.drop [35] (.seq (.seq (.reg [.mov 36 2,
 .len 37 36,
 .mov 38 (.i 0)])
 (.block 0 (.loop Jm)))
 (.drop [36,37,38,39,47] (.seq (.reg [.mov 48 2,
 .len 49 48,
 .bld 50 [.int .i64 0,.nilsl 2] [(0,1,49)],
 .alc 11 (.agg [.int .i64 0,.nilsl 2]),
 .st 2 11 50])
 (.drop [48,49,50] (.seq (.seq (.reg [.fadr 51 1 3,
 .l 52 51,
 .len 53 52,
 .mov 54 (.i 0)])
 (.drop [51] (.block 2 (.loop Jv))))
 (.drop [52,53,54,55,109] (.seq (.reg [.ld 110 2 true 11,
 .st 2 6 110,
 .asg 7 (.c (.bool true))])
 .ret))))))))))))
abbrev Uj:List RS:=[.c 6 2 true,.t 7]
theorem T9:A5 Try.prog Hm 111 T8 Uj=true:=by kernel_rfl
def Ua:ACode:=
 (.seq (.reg [.box 3 0,
 .alc 6 (.agg [.int .i64 0,.nilsl 2]),
 .asg 7 (.c (.bool false))])
 (.seq (.seq (.reg [.ld 8 2 true 3,
 .mov 9 1,
 .mov 10 2,
 .call 11 Mf [(8,false),(9,false),(10,false)],
 .un 12 .not 11,
 .asg 13 12,
 .n 13 (.mov 14 2),
 .n 13 (.len 15 14),
 .n 13 (.call 16 F6 [(15,false),((.i 1),false),((.i 8),false)]),
 .n 13 (.un 17 .not 16),
 .pick 18 13 (.c (.bool true)) 17])
 (.drop (R 8 10) (.cond 18 (.seq (.reg [.bld 19 [.int .i64 0,.nilsl 2] [],
 .st 2 6 19,
 .asg 7 (.c (.bool false))])
 .ret)
 .skip)))
 (.drop [18] (.seq (.reg [.ld 20 2 true 3,
 .mov 21 1,
 .mov 22 2,
 .call 23 Oe [(20,false),(21,false),(22,false)],
 .st 2 6 23,
 .asg 7 (.c (.bool true))])
 .ret))))
abbrev Uo:List RS:=[.c 6 2 true,.t 7]
theorem Uq:A5 Try.prog Ho 24 Ua Uo=true:=by kernel_rfl
def Nq:ACode:=
 (.seq (.reg [.bin 28 .lss 27 26])
 (.seq (.cond 28 .skip
 (.exit 2))
 (.seq (.block 3 (.seq (.reg [.iad 29 1 25 27,
 .l 30 29,
 .asg 11 30])
 (.drop [29,30] (.reg [.mov 31 9,
 .mov 32 11,
 .mov 33 8,
 .iad 34 1 32 33,
 .l 35 34,
 .iad 36 1 31 35,
 .st 1 36 (.c (.bool true))]))))
 (.drop [11,31,32,33,34,35,36] (.reg [.bin 37 .add 27 (.i 1),
 .asg 27 37])))))
def Nt:ACode:=
 (.seq (.seq (.reg [.mov 17 8,
 .mov 18 1,
 .bin 19 .lss 17 18])
 (.drop [17,18] (.cond 19 .skip
 (.exit 0))))
 (.drop [19] (.seq (.block 1 (.seq (.reg [.fadr 22 0 3,
 .l 23 22,
 un (.mk 24 1 (.bool false) 23),
 .asg 9 24])
 (.drop [22,23,24] (.seq (.seq (.reg [.mov 25 2,
 .len 26 25,
 .mov 27 (.i 0)])
 (.block 2 (.loop Nq)))
 (.drop [25,26,27,28,37] (.seq (.dreg [(.mov 38 9,[]),
 (.call 39 Uw [(38,false)],[]),
 (.len 40 39,[]),
 (.fadr 41 0 3,[38,39,40]),
 (.l 42 41,[38,39,40])]
 [.bin 43 .lss 40 42])
 (.drop (R 38 5) (.cond 43 (.seq (.reg [.asg 6 (.c (.bool false)),
 .asg 7 (.c (.bool true))])
 .ret)
 .skip))))))))
 (.drop [9,43] (.reg [.mov 20 8,
 .bin 21 .add 20 (.i 1),
 .asg 8 21])))))
def Abf:ACode:=
 (.seq (.reg [.box 3 0,
 .asg 6 (.c (.bool false)),
 .asg 7 (.c (.bool false))])
 (.seq (.seq (.reg [.ld 12 2 true 3,
 .mov 13 1,
 .mov 14 2,
 .call 15 Ik [(12,false),(13,false),(14,false)],
 .un 16 .not 15])
 (.drop [12,13,14,15] (.cond 16 (.seq (.reg [.asg 6 (.c (.bool false)),
 .asg 7 (.c (.bool false))])
 .ret)
 .skip)))
 (.drop [16] (.seq (.seq (.reg [.asg 8 (.i 0)])
 (.block 0 (.loop Nt)))
 (.drop [8,20,21] (.seq (.reg [.asg 6 (.c (.bool true)),
 .asg 7 (.c (.bool true))])
 .ret))))))
abbrev Abe:List RS:=[.t 6,.t 7]
theorem Aa9:A5 Try.prog Ls 44 Abf Abe=true:=by kernel_rfl
def Ns:ACode:=
 (.seq (.seq (.reg [.mov 22 10,
 .mov 23 2,
 .len 24 23,
 .bin 25 .lss 22 24])
 (.drop [22,23,24] (.cond 25 .skip
 (.exit 2))))
 (.drop [25] (.seq (.block 3 (.reg [.mov 28 9,
 .mov 29 2,
 .mov 30 10,
 .iad 31 1 29 30,
 .l 32 31,
 .mov 33 8,
 .iad 34 1 32 33,
 .l 35 34,
 .call 36 Wh [(28,false),(35,false)],
 .asg 9 36]))
 (.drop (R 28 9) (.reg [.mov 26 10,
 .bin 27 .add 26 (.i 1),
 .asg 10 27])))))
def N6:ACode:=
 (.seq (.seq (.reg [.mov 16 8,
 .mov 17 1,
 .bin 18 .lss 16 17])
 (.drop [16,17] (.cond 18 .skip
 (.exit 0))))
 (.drop [18] (.seq (.block 1 (.seq (.reg [un (.bslr 21 1 []),
 .asg 9 21])
 (.drop [21] (.seq (.seq (.reg [.asg 10 (.i 0)])
 (.block 2 (.loop Ns)))
 (.drop [10,26,27] (.seq (.reg [.mov 37 9,
 .len 38 37,
 .fadr 39 0 3,
 .l 40 39,
 .bin 41 .neq 38 40])
 (.drop [37,38,39,40] (.cond 41 (.seq (.reg [.asg 6 (.c (.bool false)),
 .asg 7 (.c (.bool true))])
 .ret)
 .skip))))))))
 (.drop [9,41] (.reg [.mov 19 8,
 .bin 20 .add 19 (.i 1),
 .asg 8 20])))))
def Acg:ACode:=
 (.seq (.reg [.box 3 0,
 .asg 6 (.c (.bool false)),
 .asg 7 (.c (.bool false))])
 (.seq (.seq (.reg [.ld 11 2 true 3,
 .mov 12 1,
 .mov 13 2,
 .call 14 Mf [(11,false),(12,false),(13,false)],
 .un 15 .not 14])
 (.drop [11,12,13,14] (.cond 15 (.seq (.reg [.asg 6 (.c (.bool false)),
 .asg 7 (.c (.bool false))])
 .ret)
 .skip)))
 (.drop [15] (.seq (.seq (.reg [.asg 8 (.i 0)])
 (.block 0 (.loop N6)))
 (.drop [8,19,20] (.seq (.reg [.asg 6 (.c (.bool true)),
 .asg 7 (.c (.bool true))])
 .ret))))))
abbrev Abk:List RS:=[.t 6,.t 7]
theorem Abq:A5 Try.prog Lo 42 Acg Abk=true:=by kernel_rfl
def Aov:ACode:=
 (.seq (.reg [.box 3 0,
 .box 4 1,
 .asg 6 (.c (.bool false)),
 .asg 7 (.c (.bool false))])
 (.seq (.seq (.reg [.ld 8 2 true 3,
 .ld 9 2 true 4,
 .call 10 P5 [(8,false),(9,false)],
 .un 11 .not 10])
 (.drop [8,9,10] (.cond 11 (.seq (.reg [.asg 6 (.c (.bool false)),
 .asg 7 (.c (.bool false))])
 .ret)
 .skip)))
 (.drop [11] (.seq (.reg [.ld 12 2 true 3,
 .ld 13 2 true 4,
 .mov 14 2,
 .call 15 Wd [(12,false),(13,false),(14,false)],
 .asg 6 15,
 .asg 7 (.c (.bool true))])
 .ret))))
abbrev Ap9:List RS:=[.t 6,.t 7]
theorem An7:A5 Try.prog Wk 16 Aov Ap9=true:=by kernel_rfl
def X5:ACode:=
 (.seq (.reg [.alc 2 (.agg [.int .i64 0,.nilsl 2]),
 .asg 3 (.i 0),
 .asg 4 (.c (.nilsl 1))])
 (.seq (.reg [.mov 9 0,
 .bld 10 [.nilsl 1,.int .i64 0,.int .u64 0] [(0,1,9)],
 .box 11 10,
 .asg 5 11])
 (.drop [9,10,11] (.seq (.reg [.mov 12 5,
 .call 13 Hg [(12,true)],
 .alc 6 (.agg [.int .i64 0,.nilsl 2]),
 .st 2 6 13])
 (.drop [12,13] (.seq (.reg [.mov 15 5,
 .ld 16 2 true 6,
 .call 17 Il [(15,true),(16,false)],
 .asg 14 17,
 .ext 18 14 0,
 .ext 19 14 1,
 .asg 7 18,
 .asg 8 19])
 (.drop (R 14 6) (.seq (.reg [.ld 20 2 true 6,
 .mov 21 7,
 .mov 22 8,
 .st 2 2 20,
 .asg 3 21,
 .asg 4 22])
 .ret))))))))
abbrev Yh:List RS:=[.c 2 2 true,.t 3,.t 4]
theorem Xz:A5 Try.prog Jh 23 X5 Yh=true:=by kernel_rfl
def Qd:ACode:=
 (.seq (.reg [.alc 2 (.agg [.int .i64 0,.nilsl 2]),
 .asg 3 (.i 0),
 .asg 4 (.c (.nilsl 1))])
 (.seq (.reg [.mov 5 0,
 .call 6 Jh [(5,false)],
 .ext 7 6 0,
 .ext 8 6 1,
 .ext 9 6 2,
 .st 2 2 7,
 .asg 3 8,
 .asg 4 9])
 .ret))
abbrev Qf:List RS:=[.c 2 2 true,.t 3,.t 4]
theorem Pz:A5 Try.prog Fs 10 Qd Qf=true:=by kernel_rfl
def Qh:ACode:=
 (.seq (.reg [.ld 49 2 true 3,
 .mov 50 4,
 .mov 51 5,
 .call 52 Ho [(49,false),(50,false),(51,false)],
 .asg 48 52,
 .ext 53 48 0,
 .ext 54 48 1,
 .alc 8 (.agg [.int .i64 0,.nilsl 2]),
 .st 2 8 53,
 .asg 9 54])
 (.drop (R 48 7) (.seq (.reg [.mov 55 7,
 .mov 56 9,
 un (.binb 57 .neq 55 56),
 .asg 58 57,
 .n 58 (.ld 59 2 true 6),
 .n 58 (.ld 60 2 true 8),
 .n 58 (.call 61 Qk [(59,false),(60,false)]),
 .n 58 (.un 62 .not 61),
 .pick 63 58 (.c (.bool true)) 62])
 (.drop (R 55 8) (.cond 63 (.seq (.reg [.asg 2 (.c (.bool false))])
 .ret)
 .skip)))))
def Qm:ACode:=
 (.seq (.reg [.ld 72 2 true 3,
 .mov 73 4,
 .mov 74 5,
 .call 75 Lo [(72,false),(73,false),(74,false)],
 .asg 71 75,
 .ext 76 71 0,
 .ext 77 71 1,
 .asg 12 76,
 .asg 13 77])
 (.drop (R 71 7) (.seq (.reg [.mov 78 10,
 .mov 79 12,
 un (.binb 80 .neq 78 79),
 .asg 81 80,
 .n 81 (.mov 82 11),
 .n 81 (.mov 83 13),
 .n 81 (.binb 84 .neq 82 83),
 .pick 85 81 (.c (.bool true)) 84,
 .asg 86 85,
 .n 86 (.mov 87 7),
 .n 86 (.asg 88 87),
 .y 88 (.mov 89 11),
 .y 88 (.un 90 .not 89),
 .n 86 (.pick 91 88 90 (.c (.bool false))),
 .pick 92 86 (.c (.bool true)) 91])
 (.drop (R 78 14) (.cond 92 (.seq (.reg [.asg 2 (.c (.bool false))])
 .ret)
 .skip)))))
def Ir:ACode:=
 (.seq (.seq (.reg [.mov 101 18,
 .mov 102 5,
 .len 103 102,
 .bin 104 .lss 101 103])
 (.drop [101,102,103] (.cond 104 .skip
 (.exit 2))))
 (.drop [104] (.seq (.block 3 (.seq (.reg [.mov 107 16,
 .mov 108 5,
 .mov 109 18,
 .iad 110 1 108 109,
 .l 111 110,
 .mov 112 15,
 .iad 113 1 111 112,
 .l 114 113,
 .bsl 115 1 [114],
 .app 116 1 107 115,
 .asg 16 116])
 (.drop (R 107 10) (.seq (.reg [.mov 117 17,
 .mov 118 5,
 .mov 119 18,
 .iad 120 1 118 119,
 .l 121 120,
 .mov 122 15,
 .iad 123 1 121 122,
 .l 124 123,
 .call 125 Yq [(117,false),(124,false)],
 .un 126 .not 125])
 (.drop (R 117 9) (.cond 126 (.reg [.mov 127 17,
 .mov 128 5,
 .mov 129 18,
 .iad 130 1 128 129,
 .l 131 130,
 .mov 132 15,
 .iad 133 1 131 132,
 .l 134 133,
 .bsl 135 1 [134],
 .app 136 1 127 135,
 .asg 17 136])
 .skip))))))
 (.drop (R 126 11) (.reg [.mov 105 18,
 .bin 106 .add 105 (.i 1),
 .asg 18 106])))))
def Ql:ACode:=
 (.seq (.reg [.ld 138 2 true 6,
 .ld 139 2 true 3,
 .mov 140 16,
 .call 141 Wk [(138,false),(139,false),(140,false)],
 .asg 137 141,
 .ext 142 137 0,
 .ext 143 137 1,
 .asg 19 142,
 .asg 20 143])
 (.drop (R 137 7) (.seq (.reg [.mov 144 20,
 .un 145 .not 144,
 .asg 146 145,
 .n 146 (.mov 147 19),
 .n 146 (.un 148 .not 147),
 .pick 149 146 (.c (.bool true)) 148])
 (.drop (R 144 5) (.cond 149 (.seq (.reg [.asg 2 (.c (.bool false))])
 .ret)
 .skip)))))
def Iv:ACode:=
 (.seq (.seq (.reg [.mov 94 15,
 .mov 95 4,
 .bin 96 .lss 94 95])
 (.drop [94,95] (.cond 96 .skip
 (.exit 0))))
 (.drop [96] (.seq (.block 1 (.seq (.reg [.bsl 99 1 [],
 .bsl 100 1 [],
 .asg 16 99,
 .asg 17 100])
 (.drop [99,100] (.seq (.seq (.reg [.asg 18 (.i 0)])
 (.block 2 (.loop Ir)))
 (.drop [18,105,106] (.seq (.cut Ql)
 (.drop [19,20,149] (.reg [.mov 150 14,
 .asg 151 150,
 .y 151 (.mov 152 17),
 .y 151 (.len 153 152),
 .y 151 (.fadr 154 0 3),
 .y 151 (.ld 155 1 false 154),
 .y 151 (.bin 156 .eql 153 155),
 .pick 157 151 156 (.c (.bool false)),
 .asg 14 157]))))))))
 (.drop [16,17,150,151,152,153,154,155,156,157] (.reg [.mov 97 15,
 .bin 98 .add 97 (.i 1),
 .asg 15 98])))))
def Qn:ACode:=
 (.seq (.reg [.mov 93 7])
 (.cond 93 (.seq (.reg [.asg 14 (.c (.bool true))])
 (.seq (.seq (.reg [.asg 15 (.i 0)])
 (.block 0 (.loop Iv)))
 (.drop [15,97,98] (.seq (.reg [.mov 158 14,
 .mov 159 10,
 un (.binb 160 .neq 158 159)])
 (.drop [158,159] (.cond 160 (.seq (.reg [.asg 2 (.c (.bool false))])
 .ret)
 .skip))))))
 .skip))
def Qg:ACode:=
 (.seq (.reg [.ld 175 2 true 21,
 .mov 176 22,
 .mov 177 23,
 .call 178 Sb [(175,false),(176,false),(177,false)],
 .asg 174 178,
 .ext 179 174 0,
 .ext 180 174 1,
 .asg 26 179,
 .asg 27 180])
 (.drop (R 174 7) (.seq (.reg [.mov 181 25,
 .mov 182 27,
 un (.binb 183 .neq 181 182),
 .asg 184 183,
 .n 184 (.mov 185 24),
 .n 184 (.mov 186 26),
 .n 184 (.call 187 Q7 [(185,false),(186,false)]),
 .n 184 (.un 188 .not 187),
 .pick 189 184 (.c (.bool true)) 188])
 (.drop (R 181 8) (.cond 189 (.seq (.reg [.asg 2 (.c (.bool false))])
 .ret)
 .skip)))))
def I0:ACode:=
 (.seq (.seq (.reg [.mov 198 30,
 .mov 199 23,
 .len 200 199,
 .bin 201 .lss 198 200])
 (.drop [198,199,200] (.cond 201 .skip
 (.exit 6))))
 (.drop [201] (.seq (.block 7 (.reg [.mov 204 29,
 .mov 205 23,
 .mov 206 30,
 .iad 207 1 205 206,
 .l 208 207,
 .mov 209 28,
 .iad 210 1 208 209,
 .l 211 210,
 .bsl 212 1 [211],
 .app 213 1 204 212,
 .asg 29 213]))
 (.drop (R 204 10) (.reg [.mov 202 30,
 .bin 203 .add 202 (.i 1),
 .asg 30 203])))))
def It:ACode:=
 (.seq (.seq (.reg [.mov 191 28,
 .mov 192 24,
 .len 193 192,
 .bin 194 .lss 191 193])
 (.drop [191,192,193] (.cond 194 .skip
 (.exit 4))))
 (.drop [194] (.seq (.block 5 (.seq (.reg [.bsl 197 1 [],
 .asg 29 197])
 (.drop [197] (.seq (.seq (.reg [.asg 30 (.i 0)])
 (.block 6 (.loop I0)))
 (.drop [30,202,203] (.seq (.reg [.ld 215 2 true 21,
 .mov 216 22,
 .mov 217 29,
 .call 218 R1 [(215,false),(216,false),(217,false)],
 .asg 214 218,
 .ext 219 214 0,
 .ext 220 214 1,
 .asg 31 219,
 .asg 32 220])
 (.drop (R 214 7) (.seq (.reg [.mov 221 32,
 .un 222 .not 221,
 .asg 223 222,
 .n 223 (.mov 224 31),
 .n 223 (.mov 225 24),
 .n 223 (.mov 226 28),
 .n 223 (.iad 227 1 225 226),
 .n 223 (.ld 228 1 false 227),
 .n 223 (.bin 229 .neq 224 228),
 .pick 230 223 (.c (.bool true)) 229])
 (.drop (R 221 9) (.cond 230 (.seq (.reg [.asg 2 (.c (.bool false))])
 .ret)
 .skip))))))))))
 (.drop [29,31,32,230] (.reg [.mov 195 28,
 .bin 196 .add 195 (.i 1),
 .asg 28 196])))))
def Sy:ACode:=
 (.seq (.reg [.asg 2 (.c (.bool false))])
 (.seq (.seq (.reg [.mov 33 0,
 .call 34 Zg [(33,false)]])
 (.drop [33] (.cond 34 (.seq (.reg [.asg 2 (.c (.bool true))])
 .ret)
 .skip)))
 (.drop [34] (.seq (.reg [.mov 36 0,
 .call 37 Fs [(36,false)],
 .asg 35 37,
 .ext 38 35 0,
 .ext 39 35 1,
 .ext 40 35 2,
 .alc 3 (.agg [.int .i64 0,.nilsl 2]),
 .st 2 3 38,
 .asg 4 39,
 .asg 5 40])
 (.drop (R 35 6) (.seq (.reg [.ld 42 2 true 3,
 .mov 43 4,
 .mov 44 5,
 .call 45 Hm [(42,false),(43,false),(44,false)],
 .asg 41 45,
 .ext 46 41 0,
 .ext 47 41 1,
 .alc 6 (.agg [.int .i64 0,.nilsl 2]),
 .st 2 6 46,
 .asg 7 47])
 (.drop (R 41 7) (.seq (.cut Qh)
 (.drop [8,9,63] (.seq (.reg [.ld 65 2 true 3,
 .mov 66 4,
 .mov 67 5,
 .call 68 Ls [(65,false),(66,false),(67,false)],
 .asg 64 68,
 .ext 69 64 0,
 .ext 70 64 1,
 .asg 10 69,
 .asg 11 70])
 (.drop (R 64 7) (.seq (.cut Qm)
 (.drop [12,13,92] (.seq (.cut Qn)
 (.drop [93,14,160] (.seq (.reg [.mov 162 0,
 .call 163 Lr [(162,false)],
 .asg 161 163,
 .ext 164 161 0,
 .ext 165 161 1,
 .ext 166 161 2,
 .alc 21 (.agg [.int .i64 0,.nilsl 2]),
 .st 2 21 164,
 .asg 22 165,
 .asg 23 166])
 (.drop (R 161 6) (.seq (.reg [.ld 168 2 true 21,
 .mov 169 22,
 .mov 170 23,
 .call 171 R4 [(168,false),(169,false),(170,false)],
 .asg 167 171,
 .ext 172 167 0,
 .ext 173 167 1,
 .asg 24 172,
 .asg 25 173])
 (.drop (R 167 7) (.seq (.cut Qg)
 (.drop [26,27,189] (.seq (.seq (.reg [.mov 190 25])
 (.cond 190 (.seq (.reg [.asg 28 (.i 0)])
 (.block 4 (.loop It)))
 .skip))
 (.drop [190,28,195,196] (.seq (.reg [.asg 2 (.c (.bool true))])
 .ret))))))))))))))))))))))))
abbrev Sw:List RS:=[.t 2]
theorem Sv:A5 Try.prog Kt 231 Sy Sw=true:=by kernel_rfl
end Go.Proofs.Ytmmcfdfdacpjgaa.Ax
