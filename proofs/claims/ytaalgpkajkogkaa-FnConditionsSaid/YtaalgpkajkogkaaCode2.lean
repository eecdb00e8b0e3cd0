/-
  The small code of the functions, written by program; that the program's code is this one, the kernel looks at.
-/
import Derived.Test.YtaalgpkajkogkaaAx3
import Derived.Test.YtaalgpkajkogkaaProg
import Derived.KernelRfl
import Derived.Test.YtaalgpkajkogkaaNum
namespace Go.Proofs.Ytaalgpkajkogkaa.Ax
open Go
set_option maxRecDepth 100000
def X4:ACode:=
 (.reg [.mov 24 7,
 .len 25 24,
 .bin 26 .eql 25 (.i 0),
 .asg 27 26,
 .n 27 (.fadr 28 1 4),
 .n 27 (.ld 29 1 false 28),
 .n 27 (.len 30 29),
 .n 27 (.bin 31 .eql 30 (.i 0)),
 .pick 32 27 (.c (.bool true)) 31,
 .asg 33 32,
 .n 33 (.mov 34 9),
 .n 33 (.fadr 35 1 4),
 .n 33 (.ld 36 1 false 35),
 .n 33 (.len 37 36),
 .n 33 (.bin 38 .sub 37 (.i 1)),
 .n 33 (.call 39 Fv [(34,false),((.i 0),false),(38,false)]),
 .n 33 (.un 40 .not 39),
 .pick 41 33 (.c (.bool true)) 40,
 .asg 42 41,
 .n 42 (.mov 43 0),
 .n 42 (.call 44 Cb [(43,true),((.i 4),false)]),
 .pick 45 42 (.c (.bool true)) 44])
def Ye:ACode:=
 (.seq (.cut X4)
 (.drop (R 24 21) (.cond 45 (.seq (.reg [.mov 46 7,
 .mov 47 0,
 .mov 48 2,
 .call 49 Xc [(48,false),((.i 1),false)],
 .call 50 Ar [(47,true),(49,false)],
 .bsl 51 1 [50],
 .bld 52 [.int .i64 0,.nilsl 1] [(0,1,(.i (-1))),(1,1,51)],
 .bsl 53 2 [52],
 .app 54 2 46 53,
 .asg 7 54])
 (.drop (R 46 9) (.exit 1)))
 .skip)))
def Yp:ACode:=
 (.seq (.reg [.mov 58 11,
 .fadr 59 1 4,
 .l 60 59,
 .mov 61 9,
 .iad 62 2 60 61,
 .fadr 63 0 62,
 .l 64 63,
 .bin 65 .lss 58 64,
 .asg 66 65,
 .y 66 (.mov 67 11),
 .y 66 (.bin 68 .lss 67 (.i 4)),
 .pick 69 66 68 (.c (.bool false))])
 (.drop (R 58 11) (.cond 69 .skip
 (.exit 2))))
def Om:ACode:=
 (.seq (.cut Yp)
 (.drop [69] (.seq (.block 3 (.dreg [(.fadr 72 1 10,[148,77]),
 (.l 73 72,[148,77]),
 (.mov 74 0,[72,73]),
 (.mov 75 7,[72,73,74]),
 (.len 76 75,[72,73,74]),
 (.call 77 Ar [(74,true),(76,false)],[148,72,73]),
 (.bsl 78 1 [77],[72,73])]
 [.app 79 1 73 78,
 .fadr 80 1 10,
 .st 1 80 79]))
 (.drop (R 72 9) (.reg [.mov 70 11,
 .bin 71 .add 70 (.i 1),
 .asg 11 71])))))
def Jh:ACode:=
 (.seq (.seq (.reg [.mov 17 8,
 .bin 18 .geq 17 (.i 0)])
 (.drop [17] (.cond 18 .skip
 (.exit 0))))
 (.drop [18] (.seq (.block 1 (.seq (.reg [.mov 21 0,
 .ld 22 2 true 4,
 .call 23 Rq [(21,true),(22,false)],
 .asg 9 23])
 (.drop [21,22,23] (.seq (.cut Ye)
 (.drop [45] (.seq (.reg [.mov 55 9,
 .bsl 56 1 [],
 .bld 57 [.int .i64 0,.nilsl 1] [(0,1,55),(1,1,56)],
 .alc 10 (.agg [.int .i64 0,.nilsl 1]),
 .st 2 10 57])
 (.drop [55,56,57] (.seq (.seq (.reg [.asg 11 (.i 0)])
 (.block 2 (.loop Om)))
 (.drop [11,70,71] (.reg [.mov 81 7,
 .ld 82 2 true 10,
 .bsl 83 2 [82],
 .app 84 2 81 83,
 .asg 7 84]))))))))))
 (.drop [9,10,81,82,83,84] (.reg [.mov 19 8,
 .bin 20 .sub 19 (.i 1),
 .asg 8 20])))))
def Od:ACode:=
 (.seq (.seq (.reg [.mov 90 7,
 .len 91 90,
 .mov 92 12,
 .bin 93 .lss 91 92])
 (.drop [90,91,92] (.cond 93 .skip
 (.exit 4))))
 (.drop [93] (.block 5 (.reg [.mov 94 7,
 .bsl 95 1 [(.i 0)],
 .bld 96 [.int .i64 0,.nilsl 1] [(0,1,(.i (-1))),(1,1,95)],
 .bsl 97 2 [96],
 .app 98 2 94 97,
 .asg 7 98]))))
def N6:ACode:=
 (.seq (.reg [.mov 85 0,
 .call 86 Cb [(85,true),((.i 16),false)]])
 (.drop [85] (.cond 86 (.seq (.reg [.mov 87 0,
 .call 88 Ar [(87,true),((.i 3),false)],
 .bin 89 .add (.i 59) 88,
 .asg 12 89])
 (.drop [87,88,89] (.block 4 (.loop Od))))
 .skip)))
def Yh:ACode:=
 (.seq (.reg [.mov 108 0,
 .call 109 Ar [(108,true),((.i 3),false)]])
 (.drop [108] (.block 6 (.seq (.reg [.bin 111 .eql 109 (.i 0),
 .asg 110 111])
 (.drop [111] (.cond 110 (.reg [.mov 112 0,
 .fadr 113 1 4,
 .l 114 113,
 .len 115 114,
 .bsl 116 1 [(.i (-2)),115,(.i 0)],
 .call 117 A6 [(112,true),(116,false)],
 .fadr 118 0 13,
 .st 1 118 117])
 (.seq (.reg [.bin 120 .eql 109 (.i 1),
 .asg 119 120])
 (.drop [120] (.cond 119 (.reg [.fadr 121 1 13,
 .l 122 121,
 .bsl 123 1 [(.i 0)],
 .app 124 1 122 123,
 .fadr 125 1 13,
 .st 1 125 124])
 (.seq (.reg [.bin 127 .eql 109 (.i 2),
 .asg 126 127])
 (.drop [127] (.cond 126 (.seq (.reg [.fadr 128 1 13,
 .l 129 128,
 .len 130 129,
 .bin 131 .gtr 130 (.i 0)])
 (.drop [128,129,130] (.cond 131 (.dreg [(.fadr 132 1 13,[148,136]),
 (.l 133 132,[148,136]),
 (.mov 134 0,[132,133,136]),
 (.mov 135 7,[132,133,134]),
 (.len 136 135,[132,133,134]),
 (.bsl 137 1 [(.i (-1)),136,(.i 3)],[132,133,134]),
 (.call 138 A6 [(134,true),(137,false)],[148,132,133,136])]
 [.iad 139 1 133 (.i 0),
 .st 1 139 138])
 .skip)))
 .skip))))))))))))
def Abz:ACode:=
 (.seq (.reg [.box 4 1,
 .asg 6 (.c (.nilsl 2))])
 (.seq (.reg [.bsl 14 2 [],
 .asg 7 14])
 (.drop [14] (.seq (.seq (.reg [.mov 15 0,
 .call 16 Ar [(15,true),((.i 6),false)],
 .asg 8 16])
 (.drop [15,16] (.block 0 (.loop Jh))))
 (.drop [8,19,20] (.seq (.cut N6)
 (.drop [86,12,94,95,96,97,98] (.seq (.seq (.reg [.mov 99 0,
 .call 100 Cb [(99,true),((.i 12),false)]])
 (.drop [99] (.cond 100 (.seq (.reg [.mov 101 7,
 .mov 102 0,
 .mov 103 7,
 .len 104 103,
 .call 105 Ar [(102,true),(104,false)],
 .iad 106 2 101 105,
 .ld 107 2 true 106,
 .alc 13 (.agg [.int .i64 0,.nilsl 1]),
 .st 2 13 107])
 (.drop (R 101 7) (.seq (.cut Yh)
 (.drop [109,110,112,113,114,115,116,117,118,119,121,122,123,124,125,126,131,132,133,134,135,136,137,138,139] (.dreg [(.mov 140 7,[148]),
 (.mov 141 0,[140]),
 (.mov 142 7,[140,141]),
 (.len 143 142,[140,141]),
 (.call 144 Ar [(141,true),(143,false)],[148,140]),
 (.ld 145 2 true 13,[148,140,141,142,143,144])]
 [.iad 146 2 140 144,
 .st 2 146 145])))))
 .skip)))
 (.drop [100,13,140,141,142,143,144,145,146] (.seq (.reg [.mov 147 7,
 .asg 6 147])
 .ret))))))))))
abbrev Sx:List RS:=[.t 6]
theorem Avc:Bj Try.prog Ie 148 Abz Sx=true:=by kernel_rfl
def Aa0:ACode:=
 (.seq (.seq (.reg [.mov 25 11,
 .mov 26 0,
 .bin 27 .lss 25 26])
 (.drop [25,26] (.cond 27 .skip
 (.exit 4))))
 (.drop [27] (.seq (.block 5 (.reg [.mov 30 7,
 .mov 31 1,
 .mov 32 9,
 .mov 33 10,
 .mov 34 11,
 .bsl 35 1 [33,34],
 .call 36 Uk [(32,false),(35,false)],
 .mov 37 0,
 .call 38 Ur [(36,false),(37,false)],
 .iad 39 1 31 38,
 .l 40 39,
 .bsl 41 1 [40],
 .app 42 1 30 41,
 .asg 7 42]))
 (.drop (R 30 13) (.reg [.mov 28 11,
 .bin 29 .add 28 (.i 1),
 .asg 11 29])))))
def Aa4:ACode:=
 (.seq (.seq (.reg [.mov 20 10,
 .mov 21 0,
 .bin 22 .lss 20 21])
 (.drop [20,21] (.cond 22 .skip
 (.exit 2))))
 (.drop [22] (.seq (.block 3 (.seq (.reg [.asg 11 (.i 0)])
 (.block 4 (.loop Aa0))))
 (.drop [11,28,29] (.reg [.mov 23 10,
 .bin 24 .add 23 (.i 1),
 .asg 10 24])))))
def Aba:ACode:=
 (.seq (.reg [.bin 17 .lss 16 15])
 (.seq (.cond 17 .skip
 (.exit 0))
 (.seq (.block 1 (.seq (.reg [.iad 18 1 14 16,
 .l 19 18,
 .asg 9 19])
 (.drop [18,19] (.seq (.reg [.asg 10 (.i 0)])
 (.block 2 (.loop Aa4))))))
 (.drop [9,10,23,24] (.reg [.bin 43 .add 16 (.i 1),
 .asg 16 43])))))
def As4:ACode:=
 (.seq (.reg [.box 5 2,
 .asg 6 (.c (.nilsl 1))])
 (.seq (.reg [.bsl 12 1 [],
 .asg 7 12])
 (.drop [12] (.seq (.seq (.reg [.ld 13 2 true 5,
 .call 14 Gq [(13,false)],
 .len 15 14,
 .mov 16 (.i 0)])
 (.drop [13] (.block 0 (.loop Aba))))
 (.drop [14,15,16,17,43] (.seq (.reg [.mov 44 7,
 .asg 6 44])
 .ret))))))
abbrev Aui:List RS:=[.t 6]
theorem Atq:Bj Try.prog Aah 45 As4 Aui=true:=by kernel_rfl
def Aca:ACode:=
 (.seq (.reg [.asg 8 (.c (.bool false))])
 (.seq (.reg [.mov 10 1,
 .call 11 L7 [(10,false)],
 .asg 9 11])
 (.drop [10,11] (.seq (.seq (.reg [.mov 12 0,
 .nck 13 12,
 .fadr 14 5 13,
 .l 15 14,
 .mov 16 9,
 un (.mlk 17 15 16 (.bool false) false false)])
 (.drop (R 12 5) (.cond 17 (.seq (.reg [.asg 8 (.c (.bool true))])
 .ret)
 .skip)))
 (.drop [17] (.seq (.seq (.reg [.mov 18 0,
 .nck 19 18,
 .fadr 20 3 19,
 .l 21 20,
 .len 22 21,
 .bin 23 .eql 22 (.i 150)])
 (.drop (R 18 5) (.cond 23 (.seq (.reg [.mov 24 0,
 .nck 25 24,
 .fadr 26 7 25,
 .st 1 26 (.i 3)])
 (.drop [24,25,26] (.seq (.reg [.asg 8 (.c (.bool false))])
 .ret)))
 .skip)))
 (.drop [23] (.seq (.reg [.mov 27 0,
 .nck 28 27,
 .fadr 29 5 28,
 .l 30 29,
 .mov 31 9,
 un (.mup 30 31 (.c (.bool true)) false)])
 (.drop (R 27 5) (.seq (.reg [.mov 32 0,
 .mov 33 0,
 .nck 34 33,
 .fadr 35 3 34,
 .l 36 35,
 .mov 37 1,
 .bsl 38 1 [37],
 .app 39 1 36 38,
 .nck 40 32,
 .fadr 41 3 40,
 .st 1 41 39])
 (.drop (R 32 10) (.seq (.dregl [(0,.mov 42 0),
 (1,.mov 43 0),
 (5,.mov 47 2),
 (6,.mov 48 3)]
 (.alt 2 (.nck 44 43) [0,1,5,6] [] (.alt 3 (.fadr 45 4 44) [0,5,6] [] (.alt 4 (.ld 46 1 false 45) [0,5,6] [] (.alt 7 (.call 49 Jy [(48,false)]) [0,5,6] [] (.alt 8 (.bld 50 [.int .i64 0,.nilsl 1] [(0,1,47),(1,1,49)]) [0,5] [] (.alt 9 (.bsl 51 2 [50]) [0] [] (.alt 10 (.app 52 2 46 51) [0] [] (.alt 11 (.nck 53 42) [0] [] (.alt 12 (.fadr 54 4 53) [] [] (.alt 13 (.st 1 54 52) [] [] .nil .nil) .nil) .nil) .nil) .nil) .nil) .nil) (.alt 7 (.call 49 Jy [(48,false)]) [0,5,6] [] (.alt 4 (.ld 46 1 false 45) [0,5] [] (.alt 8 (.bld 50 [.int .i64 0,.nilsl 1] [(0,1,47),(1,1,49)]) [0,5] [] (.alt 9 (.bsl 51 2 [50]) [0] [] (.alt 10 (.app 52 2 46 51) [0] [] (.alt 11 (.nck 53 42) [0] [] (.alt 12 (.fadr 54 4 53) [] [] (.alt 13 (.st 1 54 52) [] [] .nil .nil) .nil) .nil) .nil) .nil) .nil) (.alt 8 (.bld 50 [.int .i64 0,.nilsl 1] [(0,1,47),(1,1,49)]) [0,5] [] (.alt 4 (.ld 46 1 false 45) [0] [] (.alt 9 (.bsl 51 2 [50]) [0] [] (.alt 10 (.app 52 2 46 51) [0] [] (.alt 11 (.nck 53 42) [0] [] (.alt 12 (.fadr 54 4 53) [] [] (.alt 13 (.st 1 54 52) [] [] .nil .nil) .nil) .nil) .nil) .nil) (.alt 9 (.bsl 51 2 [50]) [0] [] (.alt 4 (.ld 46 1 false 45) [0] [] (.alt 10 (.app 52 2 46 51) [0] [] (.alt 11 (.nck 53 42) [0] [] (.alt 12 (.fadr 54 4 53) [] [] (.alt 13 (.st 1 54 52) [] [] .nil .nil) .nil) .nil) .nil) .nil) .nil)) .nil)) .nil)) (.alt 7 (.call 49 Jy [(48,false)]) [0,5,6] [] (.alt 3 (.fadr 45 4 44) [0,5] [] (.alt 4 (.ld 46 1 false 45) [0,5] [] (.alt 8 (.bld 50 [.int .i64 0,.nilsl 1] [(0,1,47),(1,1,49)]) [0,5] [] (.alt 9 (.bsl 51 2 [50]) [0] [] (.alt 10 (.app 52 2 46 51) [0] [] (.alt 11 (.nck 53 42) [0] [] (.alt 12 (.fadr 54 4 53) [] [] (.alt 13 (.st 1 54 52) [] [] .nil .nil) .nil) .nil) .nil) .nil) .nil) (.alt 8 (.bld 50 [.int .i64 0,.nilsl 1] [(0,1,47),(1,1,49)]) [0,5] [] (.alt 4 (.ld 46 1 false 45) [0] [] (.alt 9 (.bsl 51 2 [50]) [0] [] (.alt 10 (.app 52 2 46 51) [0] [] (.alt 11 (.nck 53 42) [0] [] (.alt 12 (.fadr 54 4 53) [] [] (.alt 13 (.st 1 54 52) [] [] .nil .nil) .nil) .nil) .nil) .nil) (.alt 9 (.bsl 51 2 [50]) [0] [] (.alt 4 (.ld 46 1 false 45) [0] [] (.alt 10 (.app 52 2 46 51) [0] [] (.alt 11 (.nck 53 42) [0] [] (.alt 12 (.fadr 54 4 53) [] [] (.alt 13 (.st 1 54 52) [] [] .nil .nil) .nil) .nil) .nil) .nil) .nil)) .nil)) (.alt 8 (.bld 50 [.int .i64 0,.nilsl 1] [(0,1,47),(1,1,49)]) [0,5] [] (.alt 3 (.fadr 45 4 44) [0] [] (.alt 4 (.ld 46 1 false 45) [0] [] (.alt 9 (.bsl 51 2 [50]) [0] [] (.alt 10 (.app 52 2 46 51) [0] [] (.alt 11 (.nck 53 42) [0] [] (.alt 12 (.fadr 54 4 53) [] [] (.alt 13 (.st 1 54 52) [] [] .nil .nil) .nil) .nil) .nil) .nil) (.alt 9 (.bsl 51 2 [50]) [0] [] (.alt 4 (.ld 46 1 false 45) [0] [] (.alt 10 (.app 52 2 46 51) [0] [] (.alt 11 (.nck 53 42) [0] [] (.alt 12 (.fadr 54 4 53) [] [] (.alt 13 (.st 1 54 52) [] [] .nil .nil) .nil) .nil) .nil) .nil) .nil)) (.alt 9 (.bsl 51 2 [50]) [0] [] (.alt 3 (.fadr 45 4 44) [0] [] (.alt 4 (.ld 46 1 false 45) [0] [] (.alt 10 (.app 52 2 46 51) [0] [] (.alt 11 (.nck 53 42) [0] [] (.alt 12 (.fadr 54 4 53) [] [] (.alt 13 (.st 1 54 52) [] [] .nil .nil) .nil) .nil) .nil) .nil) .nil) .nil)) .nil)) .nil)) (.alt 7 (.call 49 Jy [(48,false)]) [0,1,5,6] [] (.alt 2 (.nck 44 43) [0,1,5] [] (.alt 3 (.fadr 45 4 44) [0,5] [] (.alt 4 (.ld 46 1 false 45) [0,5] [] (.alt 8 (.bld 50 [.int .i64 0,.nilsl 1] [(0,1,47),(1,1,49)]) [0,5] [] (.alt 9 (.bsl 51 2 [50]) [0] [] (.alt 10 (.app 52 2 46 51) [0] [] (.alt 11 (.nck 53 42) [0] [] (.alt 12 (.fadr 54 4 53) [] [] (.alt 13 (.st 1 54 52) [] [] .nil .nil) .nil) .nil) .nil) .nil) .nil) (.alt 8 (.bld 50 [.int .i64 0,.nilsl 1] [(0,1,47),(1,1,49)]) [0,5] [] (.alt 4 (.ld 46 1 false 45) [0] [] (.alt 9 (.bsl 51 2 [50]) [0] [] (.alt 10 (.app 52 2 46 51) [0] [] (.alt 11 (.nck 53 42) [0] [] (.alt 12 (.fadr 54 4 53) [] [] (.alt 13 (.st 1 54 52) [] [] .nil .nil) .nil) .nil) .nil) .nil) (.alt 9 (.bsl 51 2 [50]) [0] [] (.alt 4 (.ld 46 1 false 45) [0] [] (.alt 10 (.app 52 2 46 51) [0] [] (.alt 11 (.nck 53 42) [0] [] (.alt 12 (.fadr 54 4 53) [] [] (.alt 13 (.st 1 54 52) [] [] .nil .nil) .nil) .nil) .nil) .nil) .nil)) .nil)) (.alt 8 (.bld 50 [.int .i64 0,.nilsl 1] [(0,1,47),(1,1,49)]) [0,5] [] (.alt 3 (.fadr 45 4 44) [0] [] (.alt 4 (.ld 46 1 false 45) [0] [] (.alt 9 (.bsl 51 2 [50]) [0] [] (.alt 10 (.app 52 2 46 51) [0] [] (.alt 11 (.nck 53 42) [0] [] (.alt 12 (.fadr 54 4 53) [] [] (.alt 13 (.st 1 54 52) [] [] .nil .nil) .nil) .nil) .nil) .nil) (.alt 9 (.bsl 51 2 [50]) [0] [] (.alt 4 (.ld 46 1 false 45) [0] [] (.alt 10 (.app 52 2 46 51) [0] [] (.alt 11 (.nck 53 42) [0] [] (.alt 12 (.fadr 54 4 53) [] [] (.alt 13 (.st 1 54 52) [] [] .nil .nil) .nil) .nil) .nil) .nil) .nil)) (.alt 9 (.bsl 51 2 [50]) [0] [] (.alt 3 (.fadr 45 4 44) [0] [] (.alt 4 (.ld 46 1 false 45) [0] [] (.alt 10 (.app 52 2 46 51) [0] [] (.alt 11 (.nck 53 42) [0] [] (.alt 12 (.fadr 54 4 53) [] [] (.alt 13 (.st 1 54 52) [] [] .nil .nil) .nil) .nil) .nil) .nil) .nil) .nil)) .nil)) (.alt 8 (.bld 50 [.int .i64 0,.nilsl 1] [(0,1,47),(1,1,49)]) [0,1,5] [] (.alt 2 (.nck 44 43) [0,1] [] (.alt 3 (.fadr 45 4 44) [0] [] (.alt 4 (.ld 46 1 false 45) [0] [] (.alt 9 (.bsl 51 2 [50]) [0] [] (.alt 10 (.app 52 2 46 51) [0] [] (.alt 11 (.nck 53 42) [0] [] (.alt 12 (.fadr 54 4 53) [] [] (.alt 13 (.st 1 54 52) [] [] .nil .nil) .nil) .nil) .nil) .nil) (.alt 9 (.bsl 51 2 [50]) [0] [] (.alt 4 (.ld 46 1 false 45) [0] [] (.alt 10 (.app 52 2 46 51) [0] [] (.alt 11 (.nck 53 42) [0] [] (.alt 12 (.fadr 54 4 53) [] [] (.alt 13 (.st 1 54 52) [] [] .nil .nil) .nil) .nil) .nil) .nil) .nil)) (.alt 9 (.bsl 51 2 [50]) [0] [] (.alt 3 (.fadr 45 4 44) [0] [] (.alt 4 (.ld 46 1 false 45) [0] [] (.alt 10 (.app 52 2 46 51) [0] [] (.alt 11 (.nck 53 42) [0] [] (.alt 12 (.fadr 54 4 53) [] [] (.alt 13 (.st 1 54 52) [] [] .nil .nil) .nil) .nil) .nil) .nil) .nil) .nil)) (.alt 9 (.bsl 51 2 [50]) [0,1] [] (.alt 2 (.nck 44 43) [0,1] [] (.alt 3 (.fadr 45 4 44) [0] [] (.alt 4 (.ld 46 1 false 45) [0] [] (.alt 10 (.app 52 2 46 51) [0] [] (.alt 11 (.nck 53 42) [0] [] (.alt 12 (.fadr 54 4 53) [] [] (.alt 13 (.st 1 54 52) [] [] .nil .nil) .nil) .nil) .nil) .nil) .nil) .nil) .nil)) .nil)) .nil)))
 (.drop (R 42 13) (.seq (.seq (.reg [.mov 55 0,
 .nck 56 55,
 .fadr 57 2 56,
 .l 58 57,
 .mov 59 1,
 un (.cally 60 58 [59] [])])
 (.drop (R 55 5) (.cond 60 (.seq (.reg [.mov 61 0,
 .nck 62 61,
 .fadr 63 7 62,
 .st 1 63 (.i 1)])
 (.drop [61,62,63] (.seq (.reg [.asg 8 (.c (.bool false))])
 .ret)))
 .skip)))
 (.drop [60] (.seq (.reg [.asg 8 (.c (.bool true))])
 .ret))))))))))))))))
abbrev Acu:List RS:=[.t 8]
theorem Acr:Bj Try.prog Ik 64 Aca Acu=true:=by kernel_rfl
def Aex:ACode:=
 (.seq (.reg [.alc 2 (.agg [.int .i64 0,.nilsl 2]),
 .alc 3 (.agg [.int .i64 0,.nilsl 2])])
 (.seq (.reg [.mov 5 0,
 .bld 6 [.nilsl 1,.int .i64 0,.int .u64 0] [(0,1,5)],
 .box 7 6,
 .asg 4 7])
 (.drop [5,6,7] (.seq (.reg [.mov 8 4,
 .call 9 E9 [(8,true)],
 .mov 10 4,
 .call 11 Fe [(10,true)],
 .st 2 2 9,
 .st 2 3 11])
 .ret))))
abbrev Ad1:List RS:=[.c 2 2 true,.c 3 2 true]
theorem Ad3:Bj Try.prog Mu 12 Aex Ad1=true:=by kernel_rfl
def Am3:ACode:=
 (.seq (.reg [.box 2 0,
 .box 3 1,
 .asg 4 (.c (.nilsl 2)),
 .asg 5 (.i 0),
 .asg 6 (.c (.bool false))])
 (.seq (.seq (.reg [.ld 8 2 true 2,
 .ld 9 2 true 3,
 .call 10 Gg [(8,false),(9,false)],
 .un 11 .not 10])
 (.drop [8,9,10] (.cond 11 (.seq (.reg [.bsl 12 2 [],
 .asg 4 12,
 .asg 5 (.i 0),
 .asg 6 (.c (.bool false))])
 .ret)
 .skip)))
 (.drop [11] (.seq (.reg [.ld 13 2 true 2,
 .ld 14 2 true 3,
 .call 15 Ja [(13,false),(14,false)],
 .alc 7 (.agg [.nilsl 1,.nilsl 2,.int .i64 0,.int .i64 0,.bool false]),
 .st 5 7 15])
 (.drop [13,14,15] (.seq (.seq (.reg [.fadr 16 2 7,
 .l 17 16,
 .bin 18 .geq 17 (.i 0)])
 (.drop [16,17] (.cond 18 (.seq (.reg [.fadr 19 1 7,
 .l 20 19,
 .call 21 Ow [(20,false)],
 .asg 4 21,
 .asg 5 (.i 1),
 .asg 6 (.c (.bool true))])
 .ret)
 .skip)))
 (.drop [18] (.seq (.seq (.reg [.fadr 22 4 7,
 .l 23 22])
 (.drop [22] (.cond 23 (.seq (.reg [.bsl 24 2 [],
 .asg 4 24,
 .asg 5 (.i 3),
 .asg 6 (.c (.bool true))])
 .ret)
 .skip)))
 (.drop [23] (.seq (.reg [.bsl 25 2 [],
 .asg 4 25,
 .asg 5 (.i 2),
 .asg 6 (.c (.bool true))])
 .ret))))))))))
abbrev Al2:List RS:=[.t 4,.t 5,.t 6]
theorem Ang:Bj Try.prog Tn 26 Am3 Al2=true:=by kernel_rfl
def Aai:ACode:=
 (.seq (.reg [.fadr 18 2 7,
 .l 19 18,
 .bin 20 .geq 19 (.i 0),
 .asg 21 20,
 .n 21 (.fadr 22 4 7),
 .n 21 (.ld 23 1 false 22),
 .pick 24 21 (.c (.bool true)) 23])
 (.drop (R 18 6) (.cond 24 (.seq (.reg [.mov 25 6,
 .asg 4 25,
 .asg 5 (.c (.bool false))])
 .ret)
 .skip)))
def Pf:ACode:=
 (.seq (.seq (.reg [.mov 26 8,
 .fadr 27 0 7,
 .l 28 27,
 .len 29 28,
 .bin 30 .lss 26 29])
 (.drop [26,27,28,29] (.cond 30 .skip
 (.exit 0))))
 (.drop [30] (.seq (.block 1 (.reg [.mov 33 6,
 .fadr 34 0 7,
 .l 35 34,
 .mov 36 8,
 .iad 37 1 35 36,
 .l 38 37,
 .call 39 Jz [(38,false)],
 .bsl 40 1 [39],
 .app 41 1 33 40,
 .asg 6 41]))
 (.drop (R 33 9) (.reg [.mov 31 8,
 .bin 32 .add 31 (.i 1),
 .asg 8 32])))))
def Ad7:ACode:=
 (.seq (.reg [.box 2 0,
 .box 3 1,
 .asg 4 (.c (.nilsl 1)),
 .asg 5 (.c (.bool false))])
 (.seq (.reg [.bsl 9 1 [],
 .asg 6 9])
 (.drop [9] (.seq (.seq (.reg [.ld 10 2 true 2,
 .ld 11 2 true 3,
 .call 12 Gg [(10,false),(11,false)],
 .un 13 .not 12])
 (.drop [10,11,12] (.cond 13 (.seq (.reg [.mov 14 6,
 .asg 4 14,
 .asg 5 (.c (.bool false))])
 .ret)
 .skip)))
 (.drop [13] (.seq (.reg [.ld 15 2 true 2,
 .ld 16 2 true 3,
 .call 17 Ja [(15,false),(16,false)],
 .alc 7 (.agg [.nilsl 1,.nilsl 2,.int .i64 0,.int .i64 0,.bool false]),
 .st 5 7 17])
 (.drop [15,16,17] (.seq (.cut Aai)
 (.drop [24] (.seq (.seq (.reg [.asg 8 (.i 0)])
 (.block 0 (.loop Pf)))
 (.drop [8,31,32] (.seq (.reg [.mov 42 6,
 .asg 4 42,
 .asg 5 (.c (.bool true))])
 .ret))))))))))))
abbrev Aen:List RS:=[.t 4,.t 5]
theorem Aeu:Bj Try.prog Mt 43 Ad7 Aen=true:=by kernel_rfl
def Z5:ACode:=
 (.reg [.ld 18 2 true 6,
 .ld 19 2 true 7,
 .call 20 Gg [(18,false),(19,false)],
 .asg 21 20,
 .y 21 (.mov 22 5),
 .y 21 (.call 23 Cb [(22,true),((.i 3),false)]),
 .y 21 (.un 24 .not 23),
 .pick 25 21 24 (.c (.bool false))])
def Zm:ACode:=
 (.seq (.reg [.mov 61 5,
 .call 62 Cb [(61,true),((.i 2),false)],
 .asg 63 62,
 .y 63 (.mov 64 9),
 .y 63 (.len 65 64),
 .y 63 (.mov 66 10),
 .y 63 (.bin 67 .lss 65 66),
 .pick 68 63 67 (.c (.bool false))])
 (.drop (R 61 7) (.cond 68 .skip
 (.exit 1))))
def Qk:ACode:=
 (.seq (.seq (.reg [.mov 75 9,
 .len 76 75,
 .mov 77 10,
 .bin 78 .lss 76 77])
 (.drop [75,76,77] (.cond 78 .skip
 (.exit 3))))
 (.drop [78] (.block 4 (.reg [.mov 79 9,
 .mov 80 9,
 .iad 81 2 80 (.i 0),
 .ld 82 2 true 81,
 .bsl 83 2 [82],
 .app 84 2 79 83,
 .asg 9 84]))))
def Qv:ACode:=
 (.seq (.cut Zm)
 (.drop [68] (.block 2 (.seq (.frz [9] (.reg [un (.bslr 69 1 [(.i 0)]),
 .bld 70 [.int .i64 0,.nilsl 1] [(0,1,(.i (-1))),(1,1,69)],
 .bsl 71 2 [70],
 .mov 72 9,
 un (.slc 73 2 72 none (some (.i 1))),
 .app 74 2 71 73,
 .asg 9 74]))
 (.drop (R 69 6) (.block 3 (.loop Qk)))))))
def Zs:ACode:=
 (.seq (.cut Z5)
 (.drop (R 18 7) (.cond 25 (.seq (.reg [.ld 26 2 true 6,
 .ld 27 2 true 7,
 .call 28 Ja [(26,false),(27,false)],
 .alc 8 (.agg [.nilsl 1,.nilsl 2,.int .i64 0,.int .i64 0,.bool false]),
 .st 5 8 28])
 (.drop [26,27,28] (.seq (.reg [.fadr 29 2 8,
 .l 30 29,
 .bin 31 .geq 30 (.i 0)])
 (.drop [29,30] (.cond 31 (.seq (.reg [.fadr 32 1 8,
 .l 33 32,
 .call 34 Ow [(33,false)],
 .asg 9 34])
 (.drop [32,33,34] (.seq (.seq (.reg [.mov 35 5,
 .call 36 Ar [(35,true),((.i 6),false)]])
 (.drop [35] (.block 0 (.seq (.reg [.bin 38 .eql 36 (.i 0),
 .asg 37 38])
 (.drop [38] (.cond 37 (.frz [9] (.reg [.mov 39 9,
 .mov 40 9,
 .len 41 40,
 .bin 42 .sub 41 (.i 1),
 un (.slc 43 2 39 none (some 42)),
 .asg 9 43]))
 (.seq (.reg [.bin 45 .eql 36 (.i 1),
 .asg 44 45])
 (.drop [45] (.cond 44 (.reg [.mov 46 9,
 .mov 47 5,
 .mov 48 9,
 .len 49 48,
 .call 50 Ar [(47,true),(49,false)],
 .mov 51 5,
 .call 52 Ar [(51,true),((.i 3),false)],
 .bsl 53 1 [52],
 .bld 54 [.int .i64 0,.nilsl 1] [(0,1,(.i (-1))),(1,1,53)],
 .iad 55 2 46 50,
 .st 2 55 54])
 (.seq (.reg [.bin 57 .eql 36 (.i 2),
 .asg 56 57])
 (.drop [57] (.cond 56 (.seq (.reg [.mov 58 5,
 .call 59 Ar [(58,true),((.i 3),false)],
 .bin 60 .add (.i 149) 59,
 .asg 10 60])
 (.drop [58,59,60] (.frz [100009] (.block 1 (.loop Qv)))))
 .skip))))))))))))
 (.drop [36,37,39,40,41,42,43,44,46,47,48,49,50,51,52,53,54,55,56,10,79,80,81,82,83,84] (.seq (.frz [9] (.dregl [(0,.ld 85 2 true 6),
 (1,.ld 86 2 true 7),
 (2,.mov 87 9)]
 (.alt 3 (.st 2 2 85) [0,1,2] [] (.alt 4 (.st 2 3 86) [1,2] [] (.alt 5 (.asg 4 87) [2] [] .nil .nil) .nil) .nil)))
 .ret)))))
 .skip)))))
 .skip)))
def Adu:ACode:=
 (.seq (.reg [.alc 2 (.agg [.int .i64 0,.nilsl 2]),
 .alc 3 (.agg [.int .i64 0,.nilsl 2]),
 .asg 4 (.c (.nilsl 2))])
 (.seq (.reg [.mov 11 0,
 .bld 12 [.nilsl 1,.int .i64 0,.int .u64 0] [(0,1,11)],
 .box 13 12,
 .asg 5 13])
 (.drop [11,12,13] (.seq (.reg [.mov 14 5,
 .call 15 E9 [(14,true)],
 .mov 16 5,
 .call 17 Fe [(16,true)],
 .alc 6 (.agg [.int .i64 0,.nilsl 2]),
 .alc 7 (.agg [.int .i64 0,.nilsl 2]),
 .st 2 6 15,
 .st 2 7 17])
 (.drop [14,15,16,17] (.seq (.cut Zs)
 (.drop [25,8,31,9] (.seq (.dregl [(0,.ld 88 2 true 6),
 (1,.ld 89 2 true 7),
 (2,.mov 90 5),
 (3,.ld 91 2 true 6),
 (4,.fadr 92 0 7),
 (5,.ld 93 1 false 92)]
 (.alt 6 (.call 94 Ie [(90,true),(91,false),(93,false)]) [0,1,2,3,4,5] [] (.alt 7 (.st 2 2 88) [0,1] [] (.alt 8 (.st 2 3 89) [1] [] (.alt 9 (.asg 4 94) [] [] .nil .nil) .nil) .nil) .nil))
 .ret))))))))
abbrev Aes:List RS:=[.c 2 2 true,.c 3 2 true,.t 4]
theorem Ad5:Bj Try.prog Ms 95 Adu Aes=true:=by kernel_rfl
def Vd:ACode:=
 (.seq (.seq (.reg [.mov 26 10,
 .mov 27 2,
 .len 28 27,
 .bin 29 .lss 26 28])
 (.drop [26,27,28] (.cond 29 .skip
 (.exit 0))))
 (.drop [29] (.seq (.block 1 (.seq (.dreg [(.ld 33 2 true 3,[]),
 (.mov 34 8,[33]),
 (.mov 35 9,[33,34]),
 (.mov 36 2,[33,34,35]),
 (.mov 37 10,[33,34,35,36]),
 (.iad 38 2 36 37,[33,34,35]),
 (.ld 39 2 true 38,[33,34,35]),
 (.call 40 Vo [(33,false),(34,false),(35,true),(39,false)],[9]),
 (.asg 32 40,[]),
 (.ext 41 32 0,[40]),
 (.ext 42 32 1,[41,40,41])]
 [.asg 11 41,
 .asg 12 42])
 (.drop (R 32 11) (.seq (.seq (.reg [.mov 43 12,
 .un 44 .not 43])
 (.drop [43] (.cond 44 (.seq (.reg [.asg 6 (.c (.bool false)),
 .asg 7 (.c (.bool true))])
 .ret)
 .skip)))
 (.drop [44] (.reg [.mov 45 9,
 .mov 46 11,
 .bsl 47 1 [46],
 .app 48 1 45 47,
 .asg 9 48]))))))
 (.drop [11,12,45,46,47,48] (.reg [.mov 30 10,
 .bin 31 .add 30 (.i 1),
 .asg 10 31])))))
def Amk:ACode:=
 (.seq (.reg [.box 3 0,
 .box 4 1,
 .asg 6 (.c (.bool false)),
 .asg 7 (.c (.bool false))])
 (.seq (.seq (.reg [.ld 13 2 true 3,
 .ld 14 2 true 4,
 .call 15 Gg [(13,false),(14,false)],
 .un 16 .not 15])
 (.drop [13,14,15] (.cond 16 (.seq (.reg [.asg 6 (.c (.bool false)),
 .asg 7 (.c (.bool false))])
 .ret)
 .skip)))
 (.drop [16] (.seq (.seq (.reg [.mov 17 2,
 .len 18 17,
 .call 19 Fv [(18,false),((.i 1),false),((.i 150),false)],
 .un 20 .not 19])
 (.drop [17,18,19] (.cond 20 (.seq (.reg [.asg 6 (.c (.bool false)),
 .asg 7 (.c (.bool true))])
 .ret)
 .skip)))
 (.drop [20] (.seq (.reg [.fadr 21 0 3,
 .l 22 21,
 .ld 23 2 true 4,
 .call 24 Kf [(22,false),(23,false)],
 .asg 8 24])
 (.drop [21,22,23,24] (.seq (.reg [.bsl 25 1 [],
 .asg 9 25])
 (.drop [25] (.seq (.seq (.reg [.asg 10 (.i 0)])
 (.frz [8] (.block 0 (.loop Vd))))
 (.drop [10,30,31] (.seq (.dreg [(.fadr 49 0 3,[]),
 (.l 50 49,[]),
 (.mov 51 9,[49,50]),
 (.mov 52 9,[49,50,51]),
 (.len 53 52,[49,50,51]),
 (.bin 54 .sub 53 (.i 1),[49,50,51]),
 (.iad 55 1 51 54,[49,50]),
 (.l 56 55,[49,50]),
 (.ld 57 2 true 4,[49,50,51,52,53,54,55,56]),
 (.ld 58 2 true 4,[49,50,51,52,53,54,55,56,57]),
 (.call 59 Gc [(58,false)],[49,50,51,52,53,54,55,56,57])]
 [.call 60 Kh [(50,false),(56,false),(57,false),(59,false)],
 .asg 6 60,
 .asg 7 (.c (.bool true))])
 .ret))))))))))))
abbrev Amz:List RS:=[.t 6,.t 7]
theorem Ana:Bj Try.prog S5 61 Amk Amz=true:=by kernel_rfl
def V4:ACode:=
 (.seq (.reg [.mov 28 10,
 .fadr 29 0 9,
 .l 30 29,
 .len 31 30,
 .bin 32 .lss 28 31,
 .asg 33 32,
 .y 33 (.mov 34 10),
 .y 33 (.bin 35 .lss 34 (.i 40)),
 .pick 36 33 35 (.c (.bool false))])
 (.drop (R 28 8) (.cond 36 .skip
 (.exit 0))))
def Lm:ACode:=
 (.seq (.cut V4)
 (.drop [36] (.seq (.block 1 (.reg [.mov 39 8,
 .fadr 40 0 9,
 .l 41 40,
 .mov 42 10,
 .iad 43 1 41 42,
 .l 44 43,
 .call 45 Jz [(44,false)],
 .bsl 46 1 [45],
 .app 47 1 39 46,
 .asg 8 47]))
 (.drop (R 39 9) (.reg [.mov 37 10,
 .bin 38 .add 37 (.i 1),
 .asg 10 38])))))
def Vj:ACode:=
 (.seq (.reg [.ld 22 2 true 6,
 .ld 23 2 true 7,
 .call 24 Gg [(22,false),(23,false)]])
 (.drop [22,23] (.cond 24 (.seq (.reg [.ld 25 2 true 6,
 .ld 26 2 true 7,
 .call 27 Ja [(25,false),(26,false)],
 .alc 9 (.agg [.nilsl 1,.nilsl 2,.int .i64 0,.int .i64 0,.bool false]),
 .st 5 9 27])
 (.drop [25,26,27] (.seq (.reg [.asg 10 (.i 0)])
 (.block 0 (.loop Lm)))))
 .skip)))
def Vt:ACode:=
 (.reg [.mov 59 8,
 .len 60 59,
 .bin 61 .gtr 60 (.i 0),
 .asg 62 61,
 .y 62 (.mov 63 8),
 .y 62 (.iad 64 1 63 (.i 0)),
 .y 62 (.ld 65 1 false 64),
 .y 62 (.len 66 65),
 .y 62 (.bin 67 .gtr 66 (.i 0)),
 .pick 68 62 67 (.c (.bool false))])
def Lx:ACode:=
 (.seq (.seq (.reg [.mov 95 12,
 .fadr 96 1 6,
 .l 97 96,
 .len 98 97,
 .bin 99 .lss 95 98])
 (.drop [95,96,97,98] (.cond 99 .skip
 (.exit 3))))
 (.drop [99] (.seq (.block 4 (.reg [.mov 102 11,
 .asg 103 102,
 .y 103 (.fadr 104 1 6),
 .y 103 (.ld 105 1 false 104),
 .y 103 (.mov 106 12),
 .y 103 (.iad 107 2 105 106),
 .y 103 (.fadr 108 0 107),
 .y 103 (.ld 109 1 false 108),
 .y 103 (.bin 110 .lss 109 (.i 3)),
 .pick 111 103 110 (.c (.bool false)),
 .asg 11 111]))
 (.drop (R 102 10) (.reg [.mov 100 12,
 .bin 101 .add 100 (.i 1),
 .asg 12 101])))))
def Lw:ACode:=
 (.seq (.seq (.reg [.mov 115 11,
 .asg 116 115,
 .y 116 (.mov 117 8),
 .y 116 (.len 118 117),
 .y 116 (.mov 119 13),
 .y 116 (.bin 120 .lss 118 119),
 .pick 121 116 120 (.c (.bool false))])
 (.drop (R 115 6) (.cond 121 .skip
 (.exit 5))))
 (.drop [121] (.block 6 (.reg [.mov 122 8,
 .mov 123 8,
 .iad 124 1 123 (.i 0),
 .l 125 124,
 .bsl 126 1 [125],
 .app 127 1 122 126,
 .asg 8 127]))))
def Xx:ACode:=
 (.seq (.reg [.alc 2 (.agg [.int .i64 0,.nilsl 2]),
 .alc 3 (.agg [.int .i64 0,.nilsl 2]),
 .asg 4 (.c (.nilsl 1))])
 (.seq (.reg [.mov 14 0,
 .bld 15 [.nilsl 1,.int .i64 0,.int .u64 0] [(0,1,14)],
 .box 16 15,
 .asg 5 16])
 (.drop [14,15,16] (.seq (.reg [.mov 17 5,
 .call 18 E9 [(17,true)],
 .mov 19 5,
 .call 20 Fe [(19,true)],
 .alc 6 (.agg [.int .i64 0,.nilsl 2]),
 .alc 7 (.agg [.int .i64 0,.nilsl 2]),
 .st 2 6 18,
 .st 2 7 20])
 (.drop [17,18,19,20] (.seq (.reg [.bsl 21 1 [],
 .asg 8 21])
 (.drop [21] (.seq (.cut Vj)
 (.drop [24,9,10,37,38] (.seq (.seq (.reg [.mov 48 5,
 .call 49 Ar [(48,true),((.i 8),false)]])
 (.drop [48] (.block 2 (.seq (.reg [.bin 51 .eql 49 (.i 0),
 .asg 50 51])
 (.drop [51] (.cond 50 (.seq (.reg [.mov 52 8,
 .len 53 52,
 .bin 54 .gtr 53 (.i 0)])
 (.drop [52,53] (.cond 54 (.frz [8] (.reg [.mov 55 8,
 un (.slc 56 1 55 (some (.i 1)) none),
 .asg 8 56]))
 .skip)))
 (.seq (.reg [.bin 58 .eql 49 (.i 1),
 .asg 57 58])
 (.drop [58] (.cond 57 (.seq (.cut Vt)
 (.drop (R 59 9) (.cond 68 (.dregl [(0,.mov 69 8),
 (1,.iad 70 1 69 (.i 0)),
 (2,.ld 71 1 false 70),
 (3,.mov 72 5),
 (4,.mov 73 8),
 (5,.iad 74 1 73 (.i 0)),
 (6,.ld 75 1 false 74),
 (9,.mov 78 5),
 (10,.fadr 79 0 6),
 (11,.ld 80 1 false 79)]
 (.alt 7 (.len 76 75) [0,1,2,3,4,5,6,9,10,11] [] (.alt 8 (.call 77 Ar [(72,true),(76,false)]) [0,1,2,3,9,10,11] [] (.alt 12 (.bsl 81 1 [(.i 0),(.i 1),(.i (-1)),80]) [0,1,2,9,10,11] [] (.alt 13 (.call 82 A6 [(78,true),(81,false)]) [0,1,2,9] [] (.alt 14 (.iad 83 1 71 77) [0,1,2] [] (.alt 15 (.st 1 83 82) [] [] .nil .nil) .nil) .nil) .nil) (.alt 12 (.bsl 81 1 [(.i 0),(.i 1),(.i (-1)),80]) [0,1,2,3,9,10,11] [] (.alt 8 (.call 77 Ar [(72,true),(76,false)]) [0,1,2,3,9] [] (.alt 13 (.call 82 A6 [(78,true),(81,false)]) [0,1,2,9] [] (.alt 14 (.iad 83 1 71 77) [0,1,2] [] (.alt 15 (.st 1 83 82) [] [] .nil .nil) .nil) .nil) .nil) .nil)) (.alt 12 (.bsl 81 1 [(.i 0),(.i 1),(.i (-1)),80]) [0,1,2,3,4,5,6,9,10,11] [] (.alt 7 (.len 76 75) [0,1,2,3,4,5,6,9] [] (.alt 8 (.call 77 Ar [(72,true),(76,false)]) [0,1,2,3,9] [] (.alt 13 (.call 82 A6 [(78,true),(81,false)]) [0,1,2,9] [] (.alt 14 (.iad 83 1 71 77) [0,1,2] [] (.alt 15 (.st 1 83 82) [] [] .nil .nil) .nil) .nil) .nil) .nil) .nil)))
 .skip)))
 (.seq (.reg [.bin 85 .eql 49 (.i 2),
 .asg 84 85])
 (.drop [85] (.cond 84 (.reg [.mov 86 8,
 .bsl 87 1 [(.i 0)],
 .bsl 88 1 [87],
 .app 89 1 86 88,
 .asg 8 89])
 (.seq (.reg [.bin 91 .eql 49 (.i 3),
 .asg 90 91])
 (.drop [91] (.cond 90 (.seq (.reg [.mov 92 8,
 .len 93 92,
 .bin 94 .gtr 93 (.i 0),
 .asg 11 94])
 (.drop [92,93,94] (.seq (.seq (.reg [.asg 12 (.i 0)])
 (.block 3 (.loop Lx)))
 (.drop [12,100,101] (.seq (.reg [.mov 112 5,
 .call 113 Ar [(112,true),((.i 3),false)],
 .bin 114 .add (.i 149) 113,
 .asg 13 114])
 (.drop [112,113,114] (.frz [100008] (.block 5 (.loop Lw)))))))))
 .skip)))))))))))))))
 (.drop [49,50,54,55,56,57,68,69,70,71,72,73,74,75,76,77,78,79,80,81,82,83,84,86,87,88,89,90,11,13,122,123,124,125,126,127] (.seq (.frz [8] (.dregl [(0,.ld 128 2 true 6),
 (1,.ld 129 2 true 7),
 (2,.mov 130 8)]
 (.alt 3 (.st 2 2 128) [0,1,2] [] (.alt 4 (.st 2 3 129) [1,2] [] (.alt 5 (.asg 4 130) [2] [] .nil .nil) .nil) .nil)))
 .ret))))))))))))
abbrev Yi:List RS:=[.c 2 2 true,.c 3 2 true,.t 4]
theorem Yy:Bj Try.prog I6 131 Xx Yi=true:=by kernel_rfl
def Zk:ACode:=
 (.seq (.reg [.ld 18 2 true 3,
 .ld 19 2 true 4,
 .call 20 Gg [(18,false),(19,false)],
 .un 21 .not 20,
 .asg 22 21,
 .n 22 (.mov 23 2),
 .n 22 (.len 24 23),
 .n 22 (.bin 25 .gtr 24 (.i 150)),
 .pick 26 22 (.c (.bool true)) 25])
 (.drop (R 18 8) (.cond 26 (.seq (.reg [.asg 6 (.c (.bool false)),
 .asg 7 (.c (.bool false))])
 .ret)
 .skip)))
def P3:ACode:=
 (.seq (.seq (.reg [.mov 29 9,
 .mov 30 2,
 .len 31 30,
 .bin 32 .lss 29 31])
 (.drop [29,30,31] (.cond 32 .skip
 (.exit 0))))
 (.drop [32] (.seq (.block 1 (.seq (.dreg [(.fadr 35 0 3,[]),
 (.l 36 35,[]),
 (.mov 37 2,[35,36]),
 (.mov 38 9,[35,36,37]),
 (.iad 39 1 37 38,[35,36]),
 (.l 40 39,[35,36]),
 (.mov 41 8,[35,36,37,38,39,40])]
 [.call 42 Tm [(36,false),(40,false),(41,false)],
 .un 43 .not 42])
 (.drop (R 35 8) (.cond 43 (.seq (.reg [.asg 6 (.c (.bool false)),
 .asg 7 (.c (.bool false))])
 .ret)
 .skip))))
 (.drop [43] (.reg [.mov 33 9,
 .bin 34 .add 33 (.i 1),
 .asg 9 34])))))
def Qd:ACode:=
 (.seq (.seq (.reg [.mov 48 11,
 .mov 49 10,
 .len 50 49,
 .bin 51 .lss 48 50])
 (.drop [48,49,50] (.cond 51 .skip
 (.exit 2))))
 (.drop [51] (.seq (.block 3 (.seq (.reg [.mov 54 2,
 .mov 55 10,
 .mov 56 11,
 .iad 57 1 55 56,
 .l 58 57,
 .call 59 Ev [(54,false),(58,false)],
 .bin 60 .lss 59 (.i 0)])
 (.drop (R 54 6) (.cond 60 (.seq (.reg [.asg 6 (.c (.bool false)),
 .asg 7 (.c (.bool true))])
 .ret)
 .skip))))
 (.drop [60] (.reg [.mov 52 11,
 .bin 53 .add 52 (.i 1),
 .asg 11 53])))))
def Qa:ACode:=
 (.seq (.seq (.reg [.mov 61 12,
 .mov 62 2,
 .len 63 62,
 .bin 64 .lss 61 63])
 (.drop [61,62,63] (.cond 64 .skip
 (.exit 4))))
 (.drop [64] (.seq (.block 5 (.seq (.dreg [(.fadr 67 0 3,[]),
 (.l 68 67,[]),
 (.mov 69 2,[67,68]),
 (.mov 70 12,[67,68,69]),
 (.iad 71 1 69 70,[67,68]),
 (.l 72 71,[67,68]),
 (.ld 73 2 true 4,[67,68,69,70,71,72]),
 (.mov 74 8,[67,68,69,70,71,72,73])]
 [.call 75 Kh [(68,false),(72,false),(73,false),(74,false)]])
 (.drop (R 67 8) (.cond 75 (.seq (.reg [.asg 6 (.c (.bool false)),
 .asg 7 (.c (.bool true))])
 .ret)
 .skip))))
 (.drop [75] (.reg [.mov 65 12,
 .bin 66 .add 65 (.i 1),
 .asg 12 66])))))
def Pg:ACode:=
 (.seq (.seq (.reg [.mov 107 17,
 .mov 108 15,
 .len 109 108,
 .bin 110 .lss 107 109])
 (.drop [107,108,109] (.cond 110 .skip
 (.exit 10))))
 (.drop [110] (.seq (.block 11 (.reg [.mov 113 16,
 .mov 114 2,
 .mov 115 15,
 .mov 116 17,
 .iad 117 1 115 116,
 .l 118 117,
 .iad 119 1 114 118,
 .l 120 119,
 .bsl 121 1 [120],
 .app 122 1 113 121,
 .asg 16 122]))
 (.drop (R 113 10) (.reg [.mov 111 17,
 .bin 112 .add 111 (.i 1),
 .asg 17 112])))))
def O3:ACode:=
 (.seq (.seq (.reg [.mov 83 14,
 .mov 84 2,
 .len 85 84,
 .fadr 86 1 3,
 .l 87 86,
 .mov 88 13,
 .iad 89 2 87 88,
 .fadr 90 0 89,
 .l 91 90,
 .call 92 Jw [(85,false),(91,false)],
 .bin 93 .lss 83 92])
 (.drop (R 83 10) (.cond 93 .skip
 (.exit 8))))
 (.drop [93] (.seq (.block 9 (.seq (.reg [.mov 96 2,
 .len 97 96,
 .fadr 98 1 3,
 .l 99 98,
 .mov 100 13,
 .iad 101 2 99 100,
 .fadr 102 0 101,
 .l 103 102,
 .mov 104 14,
 .call 105 M4 [(97,false),(103,false),(104,false)],
 .asg 15 105])
 (.drop (R 96 10) (.seq (.reg [.bsl 106 1 [],
 .asg 16 106])
 (.drop [106] (.seq (.seq (.reg [.asg 17 (.i 0)])
 (.block 10 (.loop Pg)))
 (.drop [17,111,112] (.seq (.frz [16] (.dreg [(.mov 123 2,[]),
 (.fadr 124 0 3,[123]),
 (.l 125 124,[123]),
 (.fadr 126 1 3,[123,124,125]),
 (.l 127 126,[123,124,125]),
 (.mov 128 13,[123,124,125,126,127]),
 (.iad 129 2 127 128,[123,124,125]),
 (.ld 130 2 true 129,[123,124,125]),
 (.mov 131 16,[123,124,125,126,127,128,129,130]),
 (.mov 132 10,[123,124,125,126,127,128,129,130,131]),
 (.iad 133 1 132 (.i 0),[123,124,125,126,127,128,129,130,131]),
 (.l 134 133,[123,124,125,126,127,128,129,130,131]),
 (.len 135 134,[123,124,125,126,127,128,129,130,131]),
 (.call 136 Ih [(125,false),(130,false),(131,false),(135,false)],[123])]
 [.call 137 Ev [(123,false),(136,false)],
 .bin 138 .lss 137 (.i 0)]))
 (.drop (R 123 15) (.cond 138 (.seq (.reg [.asg 6 (.c (.bool false)),
 .asg 7 (.c (.bool true))])
 .ret)
 .skip))))))))))
 (.drop [15,16,138] (.reg [.mov 94 14,
 .bin 95 .add 94 (.i 1),
 .asg 14 95])))))
def P5:ACode:=
 (.seq (.seq (.reg [.mov 76 13,
 .fadr 77 1 3,
 .l 78 77,
 .len 79 78,
 .bin 80 .lss 76 79])
 (.drop [76,77,78,79] (.cond 80 .skip
 (.exit 6))))
 (.drop [80] (.seq (.block 7 (.seq (.reg [.asg 14 (.i 0)])
 (.block 8 (.loop O3))))
 (.drop [14,94,95] (.reg [.mov 81 13,
 .bin 82 .add 81 (.i 1),
 .asg 13 82])))))
def Ady:ACode:=
 (.seq (.reg [.box 3 0,
 .box 4 1,
 .asg 6 (.c (.bool false)),
 .asg 7 (.c (.bool false))])
 (.seq (.cut Zk)
 (.drop [26] (.seq (.reg [.ld 27 2 true 4,
 .call 28 Gc [(27,false)],
 .asg 8 28])
 (.drop [27,28] (.seq (.seq (.reg [.asg 9 (.i 0)])
 (.block 0 (.loop P3)))
 (.drop [9,33,34] (.seq (.reg [.fadr 44 0 3,
 .l 45 44,
 .ld 46 2 true 4,
 .call 47 Kf [(45,false),(46,false)],
 .asg 10 47])
 (.drop [44,45,46,47] (.seq (.seq (.reg [.asg 11 (.i 0)])
 (.block 2 (.loop Qd)))
 (.drop [11,52,53] (.seq (.seq (.reg [.asg 12 (.i 0)])
 (.block 4 (.loop Qa)))
 (.drop [12,65,66] (.seq (.seq (.reg [.asg 13 (.i 0)])
 (.block 6 (.loop P5)))
 (.drop [13,81,82] (.seq (.reg [.asg 6 (.c (.bool true)),
 .asg 7 (.c (.bool true))])
 .ret))))))))))))))))
abbrev Ae1:List RS:=[.t 6,.t 7]
theorem Aep:Bj Try.prog M1 139 Ady Ae1=true:=by kernel_rfl
def Ng:ACode:=
 (.seq (.seq (.reg [.mov 8 6,
 .fadr 9 0 3,
 .l 10 9,
 .bin 11 .lss 8 10])
 (.drop [8,9,10] (.cond 11 .skip
 (.exit 0))))
 (.drop [11] (.seq (.block 1 (.dreg [(.mov 14 5,[22]),
 (.mov 15 0,[14]),
 (.mov 16 0,[14,15]),
 (.fadr 17 0 3,[14,15,16]),
 (.l 18 17,[14,15,16]),
 (.mov 19 6,[14,15,16,17,18]),
 (.call 20 Qt [(16,false),(18,false),(19,false)],[14,15]),
 (.ld 21 2 true 3,[14,15,16,17,18,19,20]),
 (.call 22 Aah [(15,false),(20,false),(21,false)],[14]),
 (.bsl 23 1 [22],[14])]
 [.app 24 1 14 23,
 .asg 5 24]))
 (.drop (R 14 11) (.reg [.mov 12 6,
 .bin 13 .add 12 (.i 1),
 .asg 6 13])))))
def Abl:ACode:=
 (.seq (.reg [.box 3 1,
 .asg 4 (.c (.nilsl 1))])
 (.seq (.reg [.bsl 7 1 [],
 .asg 5 7])
 (.drop [7] (.seq (.seq (.reg [.asg 6 (.i 0)])
 (.block 0 (.loop Ng)))
 (.drop [6,12,13] (.seq (.reg [.mov 25 5,
 .asg 4 25])
 .ret))))))
abbrev Abd:List RS:=[.t 4]
theorem Abo:Bj Try.prog F0 26 Abl Abd=true:=by kernel_rfl
def Mp:ACode:=
 (.seq (.reg [.bin 47 .lss 46 45])
 (.seq (.cond 47 .skip
 (.exit 4))
 (.seq (.block 5 (.seq (.reg [.mov 48 46,
 .iad 49 1 44 46,
 .l 50 49,
 .asg 13 48,
 .asg 14 50])
 (.drop [48,49,50] (.seq (.reg [.mov 51 9,
 .mov 52 13,
 .mov 53 0,
 .nck 54 53,
 .fadr 55 3 54,
 .l 56 55,
 .mov 57 14,
 .iad 58 1 56 57,
 .l 59 58,
 .iad 60 1 51 52,
 .st 1 60 59])
 (.drop (R 51 10) (.reg [.mov 61 12,
 .asg 62 61,
 .n 62 (.mov 63 14),
 .n 62 (.mov 64 1),
 .n 62 (.bin 65 .geq 63 64),
 .pick 66 62 (.c (.bool true)) 65,
 .asg 12 66]))))))
 (.drop [13,14,61,62,63,64,65,66] (.reg [.bin 67 .add 46 (.i 1),
 .asg 46 67])))))
def Mo:ACode:=
 (.seq (.seq (.reg [.mov 29 10,
 .mov 30 2,
 .fadr 31 0 8,
 .l 32 31,
 .call 33 Mb [(30,false),(32,false)],
 .bin 34 .lss 29 33])
 (.drop (R 29 5) (.cond 34 .skip
 (.exit 2))))
 (.drop [34] (.seq (.block 3 (.seq (.reg [.mov 37 10,
 .fadr 38 0 8,
 .l 39 38,
 .mov 40 2,
 .call 41 M6 [(37,false),(39,false),(40,false)],
 .asg 11 41])
 (.drop (R 37 5) (.seq (.reg [.mov 42 1,
 .bin 43 .eql 42 (.i 0),
 .asg 12 43])
 (.drop [42,43] (.seq (.seq (.reg [.mov 44 11,
 .len 45 44,
 .mov 46 (.i 0)])
 (.block 4 (.loop Mp)))
 (.drop [44,45,46,47,67] (.seq (.seq (.reg [.mov 68 12,
 .un 69 .not 68])
 (.drop [68] (.cond 69 (.exit 3)
 .skip)))
 (.drop [69] (.seq (.seq (.reg [.mov 70 0,
 .nck 71 70,
 .fadr 72 6 71,
 .l 73 72,
 .bin 74 .eql 73 (.i 100000)])
 (.drop [70,71,72,73] (.cond 74 (.seq (.reg [.mov 75 0,
 .nck 76 75,
 .fadr 77 7 76,
 .st 1 77 (.i 3)])
 (.drop [75,76,77] (.seq (.reg [.asg 6 (.c (.bool false))])
 .ret)))
 .skip)))
 (.drop [74] (.seq (.reg [.mov 78 0,
 .nck 79 78,
 .fadr 80 6 79,
 .l 81 80,
 .bin 82 .add 81 (.i 1),
 .nck 83 78,
 .fadr 84 6 83,
 .st 1 84 82])
 (.drop (R 78 7) (.seq (.frz [11] (.dreg [(.mov 85 0,[]),
 (.mov 86 0,[85]),
 (.nck 87 86,[85]),
 (.fadr 88 0 87,[85]),
 (.fadr 89 0 88,[85]),
 (.l 90 89,[85]),
 (.ld 91 2 true 8,[85,86,87,88,89,90]),
 (.mov 92 9,[85,86,87,88,89,90,91]),
 (.mov 93 0,[85,86,87,88,89,90,91,92]),
 (.nck 94 93,[85,86,87,88,89,90,91,92]),
 (.fadr 95 3 94,[85,86,87,88,89,90,91,92]),
 (.l 96 95,[85,86,87,88,89,90,91,92]),
 (.iad 97 1 96 (.i 0),[85,86,87,88,89,90,91,92]),
 (.l 98 97,[85,86,87,88,89,90,91,92]),
 (.len 99 98,[85,86,87,88,89,90,91,92]),
 (.call 100 Gi [(90,false),(91,false),(92,false),(99,false)],[85]),
 (.mov 101 7,[85,86,87,88,89,90,91,92,93,94,95,96,97,98,99,100]),
 (.mov 102 11,[85,86,87,88,89,90,91,92,93,94,95,96,97,98,99,100,101])]
 [.call 103 Ik [(85,true),(100,false),(101,false),(102,false)],
 .un 104 .not 103]))
 (.drop (R 85 19) (.cond 104 (.seq (.reg [.asg 6 (.c (.bool false))])
 .ret)
 .skip))))))))))))))))
 (.drop [11,12,104] (.reg [.mov 35 10,
 .bin 36 .add 35 (.i 1),
 .asg 10 36])))))
def Mk:ACode:=
 (.seq (.reg [.bin 22 .lss 21 20])
 (.seq (.cond 22 .skip
 (.exit 0))
 (.seq (.block 1 (.seq (.reg [.mov 23 21,
 .iad 24 2 19 21,
 .ld 25 2 true 24,
 .alc 8 (.agg [.int .i64 0,.nilsl 1]),
 .asg 7 23,
 .st 2 8 25])
 (.drop [23,24,25] (.seq (.reg [.fadr 26 0 8,
 .l 27 26,
 un (.mk 28 1 (.nilsl 1) 27),
 .asg 9 28])
 (.drop [26,27,28] (.seq (.reg [.asg 10 (.i 0)])
 (.frz [100009] (.block 2 (.loop Mo)))))))))
 (.drop [8,7,9,10,35,36] (.reg [.bin 105 .add 21 (.i 1),
 .asg 21 105])))))
def Zf:ACode:=
 (.seq (.reg [.asg 6 (.c (.bool false))])
 (.seq (.seq (.reg [.mov 15 0,
 .nck 16 15,
 .fadr 17 0 16,
 .fadr 18 1 17,
 .l 19 18,
 .len 20 19,
 .mov 21 (.i 0)])
 (.drop [15,16,17,18] (.block 0 (.loop Mk))))
 (.drop [19,20,21,22,105] (.seq (.reg [.asg 6 (.c (.bool true))])
 .ret))))
abbrev Aae:List RS:=[.t 6]
theorem Aan:Bj Try.prog Jo 106 Zf Aae=true:=by kernel_rfl
def Afl:ACode:=
 (.seq (.reg [.mov 14 2,
 .len 15 14,
 .bin 16 .lss 15 (.i 1),
 .asg 17 16,
 .n 17 (.mov 18 2),
 .n 17 (.len 19 18),
 .n 17 (.bin 20 .gtr 19 (.i 150)),
 .pick 21 17 (.c (.bool true)) 20])
 (.drop (R 14 7) (.cond 21 (.seq (.reg [.asg 6 (.c (.bool false)),
 .asg 7 (.c (.bool true))])
 .ret)
 .skip)))
def Amj:ACode:=
 (.seq (.reg [.box 3 0,
 .box 4 1,
 .asg 6 (.c (.bool false)),
 .asg 7 (.c (.bool false))])
 (.seq (.seq (.reg [.ld 10 2 true 3,
 .ld 11 2 true 4,
 .call 12 Hi [(10,false),(11,false)],
 .un 13 .not 12])
 (.drop [10,11,12] (.cond 13 (.seq (.reg [.asg 6 (.c (.bool false)),
 .asg 7 (.c (.bool false))])
 .ret)
 .skip)))
 (.drop [13] (.seq (.cut Afl)
 (.drop [21] (.seq (.dreg [(.ld 23 2 true 3,[]),
 (.fadr 24 0 3,[23]),
 (.l 25 24,[23]),
 (.ld 26 2 true 4,[23,24,25]),
 (.call 27 F0 [(25,false),(26,false)],[23]),
 (.mov 28 2,[23,24,25,26,27]),
 (.call 29 Np [(23,false),(27,false),(28,false)],[]),
 (.asg 22 29,[]),
 (.ext 30 22 0,[29]),
 (.ext 31 22 1,[30,29,30])]
 [.asg 8 30,
 .asg 9 31])
 (.drop (R 22 10) (.seq (.dreg [(.mov 32 9,[]),
 (.asg 33 32,[]),
 (.y 33 (.fadr 34 0 3),[32]),
 (.y 33 (.ld 35 1 false 34),[32]),
 (.y 33 (.mov 36 8),[34,35,32]),
 (.y 33 (.mov 37 8),[34,35,36,32]),
 (.y 33 (.len 38 37),[34,35,36,32]),
 (.y 33 (.bin 39 .sub 38 (.i 1)),[34,35,36,32]),
 (.y 33 (.iad 40 1 36 39),[34,35,32]),
 (.y 33 (.ld 41 1 false 40),[34,35,32]),
 (.y 33 (.ld 42 2 true 4),[34,35,36,37,38,39,40,41,32]),
 (.y 33 (.ld 43 2 true 4),[34,35,36,37,38,39,40,41,42,32]),
 (.y 33 (.call 44 Gq [(43,false)]),[34,35,36,37,38,39,40,41,42,32])]
 [.y 33 (.call 45 Ki [(35,false),(41,false),(42,false),(44,false)]),
 .pick 46 33 45 (.c (.bool false)),
 .asg 6 46,
 .asg 7 (.c (.bool true))])
 .ret))))))))
abbrev Al9:List RS:=[.t 6,.t 7]
theorem Amv:Bj Try.prog Nl 47 Amj Al9=true:=by kernel_rfl
def Aam:ACode:=
 (.seq (.reg [.ld 12 2 true 3,
 .ld 13 2 true 4,
 .call 14 Hi [(12,false),(13,false)],
 .un 15 .not 14,
 .asg 16 15,
 .n 16 (.mov 17 2),
 .n 16 (.len 18 17),
 .n 16 (.bin 19 .gtr 18 (.i 150)),
 .pick 20 16 (.c (.bool true)) 19])
 (.drop (R 12 8) (.cond 20 (.seq (.reg [.asg 6 (.c (.bool false)),
 .asg 7 (.c (.bool false))])
 .ret)
 .skip)))
def Aag:ACode:=
 (.seq (.reg [.mov 29 11,
 .len 30 29,
 .mov 31 8,
 .len 32 31,
 .fadr 33 0 3,
 .l 34 33,
 .bin 35 .mul 32 34,
 .fadr 36 0 3,
 .l 37 36,
 .bin 38 .mul 35 37,
 .bin 39 .neq 30 38,
 .asg 40 39,
 .n 40 (.mov 41 11),
 .n 40 (.fadr 42 0 3),
 .n 40 (.ld 43 1 false 42),
 .n 40 (.call 44 Iq [(41,false),(43,false)]),
 .n 40 (.un 45 .not 44),
 .pick 46 40 (.c (.bool true)) 45])
 (.drop (R 29 17) (.cond 46 (.seq (.reg [.asg 6 (.c (.bool false)),
 .asg 7 (.c (.bool false))])
 .ret)
 .skip)))
def Pk:ACode:=
 (.seq (.reg [.bin 26 .lss 25 24])
 (.seq (.cond 26 .skip
 (.exit 0))
 (.seq (.block 1 (.seq (.reg [.iad 27 1 23 25,
 .l 28 27,
 .asg 11 28])
 (.drop [27,28] (.seq (.cut Aag)
 (.drop [46] (.reg [.mov 47 9,
 .asg 48 47,
 .n 48 (.fadr 49 0 3),
 .n 48 (.ld 50 1 false 49),
 .n 48 (.mov 51 11),
 .n 48 (.ld 52 2 true 4),
 .n 48 (.mov 53 8),
 .n 48 (.call 54 Ki [(50,false),(51,false),(52,false),(53,false)]),
 .pick 55 48 (.c (.bool true)) 54,
 .asg 9 55]))))))
 (.drop [11,47,48,49,50,51,52,53,54,55] (.reg [.bin 56 .add 25 (.i 1),
 .asg 25 56])))))
def Adz:ACode:=
 (.seq (.reg [.box 3 0,
 .box 4 1,
 .asg 6 (.c (.bool false)),
 .asg 7 (.c (.bool false))])
 (.seq (.cut Aam)
 (.drop [20] (.seq (.reg [.ld 21 2 true 4,
 .call 22 Gq [(21,false)],
 .asg 8 22])
 (.drop [21,22] (.seq (.reg [.asg 9 (.c (.bool false))])
 (.seq (.seq (.reg [.mov 23 2,
 .len 24 23,
 .mov 25 (.i 0)])
 (.block 0 (.loop Pk)))
 (.drop [23,24,25,26,56] (.seq (.dreg [(.mov 57 9,[]),
 (.un 58 .not 57,[]),
 (.asg 59 58,[]),
 (.y 59 (.ld 60 2 true 3),[58]),
 (.y 59 (.fadr 61 0 3),[60,58]),
 (.y 59 (.ld 62 1 false 61),[60,58]),
 (.y 59 (.ld 63 2 true 4),[60,61,62,58]),
 (.y 59 (.call 64 F0 [(62,false),(63,false)]),[60,58]),
 (.y 59 (.mov 65 2),[60,61,62,63,64,58])]
 [.y 59 (.call 66 Mx [(60,false),(64,false),(65,false)]),
 .pick 67 59 66 (.c (.bool false)),
 .asg 6 67,
 .asg 7 (.c (.bool true))])
 .ret)))))))))
abbrev Aeh:List RS:=[.t 6,.t 7]
theorem Ad8:Bj Try.prog Iu 68 Adz Aeh=true:=by kernel_rfl
def Si:ACode:=
 (.seq (.reg [.bin 20 .lss 19 18])
 (.seq (.cond 20 .skip
 (.exit 0))
 (.seq (.block 1 (.seq (.reg [.mov 21 19,
 .iad 22 1 17 19,
 .l 23 22,
 .asg 8 21,
 .asg 9 23])
 (.drop [21,22,23] (.seq (.reg [.mov 24 7,
 .mov 25 9,
 .mov 26 8,
 .bsl 27 1 [26],
 .call 28 Ik [(24,true),(25,false),((.i (-1)),false),(27,false)],
 .un 29 .not 28])
 (.drop (R 24 5) (.cond 29 (.seq (.reg [.mov 30 7,
 .asg 6 30])
 .ret)
 .skip))))))
 (.drop [8,9,29] (.reg [.bin 31 .add 19 (.i 1),
 .asg 19 31])))))
def Su:ACode:=
 (.seq (.seq (.reg [.mov 32 10,
 .mov 33 7,
 .nck 34 33,
 .fadr 35 3 34,
 .l 36 35,
 .len 37 36,
 .bin 38 .lss 32 37])
 (.drop (R 32 6) (.cond 38 .skip
 (.exit 2))))
 (.drop [38] (.block 3 (.seq (.reg [.mov 39 7,
 .nck 40 39,
 .fadr 41 3 40,
 .l 42 41,
 .len 43 42,
 .asg 11 43])
 (.drop (R 39 5) (.seq (.seq (.reg [.mov 44 7,
 .mov 45 10,
 .mov 46 11,
 .call 47 Jo [(44,true),(45,false),(46,false)],
 .un 48 .not 47])
 (.drop [44,45,46,47] (.cond 48 (.seq (.reg [.mov 49 7,
 .asg 6 49])
 .ret)
 .skip)))
 (.drop [48] (.reg [.mov 50 11,
 .asg 10 50]))))))))
def Aij:ACode:=
 (.seq (.reg [.box 3 0,
 .asg 6 (.c (.nilp))])
 (.seq (.reg [.ld 12 2 true 3,
 .mov 13 2,
 un (.mkm 14 false),
 .bld 15 [.int .i64 0,.nilsl 2,.dead,.nilsl 1,.nilsl 2,.dead,.int .i64 0,.int .i64 0] [(0,2,12),(2,1,13),(5,1,14),(7,1,(.i 2))],
 .box 16 15,
 .asg 7 16])
 (.drop (R 12 5) (.seq (.seq (.reg [.mov 17 1,
 .len 18 17,
 .mov 19 (.i 0)])
 (.block 0 (.loop Si)))
 (.drop [17,18,19,20,31] (.seq (.seq (.reg [.asg 10 (.i 0)])
 (.block 2 (.loop Su)))
 (.drop [10,11,50] (.seq (.reg [.mov 51 7,
 .asg 6 51])
 .ret))))))))
abbrev Ahn:List RS:=[.t 6]
theorem Ahf:Bj Try.prog Oz 52 Aij Ahn=true:=by kernel_rfl
def Ah1:ACode:=
 (.seq (.reg [.box 2 0,
 .box 3 1,
 .asg 4 (.c (.nilp))])
 (.seq (.reg [.ld 6 2 true 3,
 .call 7 Gq [(6,false)],
 .alc 5 (.nilsl 1),
 .st 1 5 7])
 (.drop [6,7] (.seq (.frz [2,3,5] (.dreg [(.ld 8 2 true 2,[]),
 (.fadr 9 0 2,[8]),
 (.l 10 9,[8]),
 (.ld 11 2 true 3,[8,9,10]),
 (.call 12 F0 [(10,false),(11,false)],[8]),
 (un (.mkf 13 Iw [2,3,5]),[8,9,10,11,12])]
 [.call 14 Oz [(8,false),(12,false),(13,false)],
 .asg 4 14]))
 .ret))))
abbrev Ahp:List RS:=[.t 4]
theorem Ahy:Bj Try.prog K2 15 Ah1 Ahp=true:=by kernel_rfl
def Am9:ACode:=
 (.seq (.reg [.box 2 0,
 .box 3 1,
 .asg 4 (.c (.nilsl 2)),
 .asg 5 (.i 0),
 .asg 6 (.c (.bool false))])
 (.seq (.seq (.reg [.ld 8 2 true 2,
 .ld 9 2 true 3,
 .call 10 Hi [(8,false),(9,false)],
 .un 11 .not 10])
 (.drop [8,9,10] (.cond 11 (.seq (.reg [.bsl 12 2 [],
 .asg 4 12,
 .asg 5 (.i 0),
 .asg 6 (.c (.bool false))])
 .ret)
 .skip)))
 (.drop [11] (.seq (.reg [.ld 13 2 true 2,
 .ld 14 2 true 3,
 .call 15 K2 [(13,false),(14,false)],
 .asg 7 15])
 (.drop [13,14,15] (.seq (.seq (.reg [.mov 16 7,
 .nck 17 16,
 .fadr 18 7 17,
 .l 19 18,
 .bin 20 .neq 19 (.i 1)])
 (.drop [16,17,18,19] (.cond 20 (.seq (.dregl [(1,.mov 22 7)]
 (.alt 0 (.bslr 21 2 []) [1] [] (.alt 2 (.nck 23 22) [1] [] (.alt 3 (.fadr 24 7 23) [] [] (.alt 4 (.ld 25 1 false 24) [] [] (.alt 5 (.asg 4 21) [] [] (.alt 6 (.asg 5 25) [] [] (.alt 7 (.asg 6 (.c (.bool true))) [] [] .nil .nil) .nil) .nil) (.alt 5 (.asg 4 21) [] [] (.alt 4 (.ld 25 1 false 24) [] [] (.alt 6 (.asg 5 25) [] [] (.alt 7 (.asg 6 (.c (.bool true))) [] [] .nil .nil) .nil) .nil) .nil)) (.alt 5 (.asg 4 21) [] [] (.alt 3 (.fadr 24 7 23) [] [] (.alt 4 (.ld 25 1 false 24) [] [] (.alt 6 (.asg 5 25) [] [] (.alt 7 (.asg 6 (.c (.bool true))) [] [] .nil .nil) .nil) .nil) .nil) .nil)) (.alt 5 (.asg 4 21) [1] [] (.alt 2 (.nck 23 22) [1] [] (.alt 3 (.fadr 24 7 23) [] [] (.alt 4 (.ld 25 1 false 24) [] [] (.alt 6 (.asg 5 25) [] [] (.alt 7 (.asg 6 (.c (.bool true))) [] [] .nil .nil) .nil) .nil) .nil) .nil) .nil)) (.alt 2 (.nck 23 22) [1] [] (.alt 0 (.bslr 21 2 []) [] [] (.alt 3 (.fadr 24 7 23) [] [] (.alt 4 (.ld 25 1 false 24) [] [] (.alt 5 (.asg 4 21) [] [] (.alt 6 (.asg 5 25) [] [] (.alt 7 (.asg 6 (.c (.bool true))) [] [] .nil .nil) .nil) .nil) (.alt 5 (.asg 4 21) [] [] (.alt 4 (.ld 25 1 false 24) [] [] (.alt 6 (.asg 5 25) [] [] (.alt 7 (.asg 6 (.c (.bool true))) [] [] .nil .nil) .nil) .nil) .nil)) (.alt 5 (.asg 4 21) [] [] (.alt 3 (.fadr 24 7 23) [] [] (.alt 4 (.ld 25 1 false 24) [] [] (.alt 6 (.asg 5 25) [] [] (.alt 7 (.asg 6 (.c (.bool true))) [] [] .nil .nil) .nil) .nil) .nil) .nil)) (.alt 3 (.fadr 24 7 23) [] [] (.alt 0 (.bslr 21 2 []) [] [] (.alt 4 (.ld 25 1 false 24) [] [] (.alt 5 (.asg 4 21) [] [] (.alt 6 (.asg 5 25) [] [] (.alt 7 (.asg 6 (.c (.bool true))) [] [] .nil .nil) .nil) .nil) (.alt 5 (.asg 4 21) [] [] (.alt 4 (.ld 25 1 false 24) [] [] (.alt 6 (.asg 5 25) [] [] (.alt 7 (.asg 6 (.c (.bool true))) [] [] .nil .nil) .nil) .nil) .nil)) (.alt 4 (.ld 25 1 false 24) [] [] (.alt 0 (.bslr 21 2 []) [] [] (.alt 5 (.asg 4 21) [] [] (.alt 6 (.asg 5 25) [] [] (.alt 7 (.asg 6 (.c (.bool true))) [] [] .nil .nil) .nil) .nil) .nil) .nil)) .nil)) .nil)))
 .ret)
 .skip)))
 (.drop [20] (.seq (.reg [.mov 26 7,
 .nck 27 26,
 .fadr 28 4 27,
 .l 29 28,
 .asg 4 29,
 .asg 5 (.i 1),
 .asg 6 (.c (.bool true))])
 .ret))))))))
abbrev Amn:List RS:=[.t 4,.t 5,.t 6]
theorem Ane:Bj Try.prog Kk 30 Am9 Amn=true:=by kernel_rfl
def Ad9:ACode:=
 (.seq (.reg [.box 2 0,
 .box 3 1,
 .asg 4 (.c (.nilsl 1)),
 .asg 5 (.c (.bool false))])
 (.seq (.seq (.reg [.ld 7 2 true 2,
 .ld 8 2 true 3,
 .call 9 Hi [(7,false),(8,false)],
 .un 10 .not 9])
 (.drop [7,8,9] (.cond 10 (.seq (.reg [.bsl 11 1 [],
 .asg 4 11,
 .asg 5 (.c (.bool false))])
 .ret)
 .skip)))
 (.drop [10] (.seq (.reg [.ld 12 2 true 2,
 .ld 13 2 true 3,
 .call 14 K2 [(12,false),(13,false)],
 .asg 6 14])
 (.drop [12,13,14] (.seq (.seq (.reg [.mov 15 6,
 .nck 16 15,
 .fadr 17 7 16,
 .l 18 17,
 .bin 19 .neq 18 (.i 2)])
 (.drop [15,16,17,18] (.cond 19 (.seq (.reg [.bsl 20 1 [],
 .asg 4 20,
 .asg 5 (.c (.bool false))])
 .ret)
 .skip)))
 (.drop [19] (.seq (.reg [.mov 21 6,
 .nck 22 21,
 .fadr 23 3 22,
 .l 24 23,
 .asg 4 24,
 .asg 5 (.c (.bool true))])
 .ret))))))))
abbrev Adv:List RS:=[.t 4,.t 5]
theorem Aez:Bj Try.prog Mr 25 Ad9 Adv=true:=by kernel_rfl
def Zr:ACode:=
 (.seq (.reg [.ld 54 2 true 3,
 .ld 55 2 true 4,
 .call 56 Tn [(54,false),(55,false)],
 .asg 53 56,
 .ext 57 53 0,
 .ext 58 53 1,
 .ext 59 53 2,
 .asg 8 57,
 .asg 9 58,
 .asg 10 59])
 (.drop (R 53 7) (.seq (.reg [.mov 60 6,
 .mov 61 9,
 .bin 62 .neq 60 61,
 .asg 63 62,
 .n 63 (.mov 64 7),
 .n 63 (.mov 65 10),
 .n 63 (.binb 66 .neq 64 65),
 .pick 67 63 (.c (.bool true)) 66,
 .asg 68 67,
 .n 68 (.mov 69 5),
 .n 68 (.mov 70 8),
 .n 68 (.call 71 Xk [(69,false),(70,false)]),
 .n 68 (.un 72 .not 71),
 .pick 73 68 (.c (.bool true)) 72])
 (.drop (R 60 13) (.cond 73 (.seq (.reg [.asg 2 (.c (.bool false))])
 .ret)
 .skip)))))
def Z6:ACode:=
 (.seq (.reg [.ld 81 2 true 3,
 .ld 82 2 true 4,
 .call 83 Mt [(81,false),(82,false)],
 .asg 80 83,
 .ext 84 80 0,
 .ext 85 80 1,
 .asg 13 84,
 .asg 14 85])
 (.drop (R 80 6) (.seq (.reg [.mov 86 12,
 .mov 87 14,
 un (.binb 88 .neq 86 87),
 .asg 89 88,
 .n 89 (.mov 90 12),
 .n 89 (.mov 91 7),
 .n 89 (.asg 92 91),
 .y 92 (.mov 93 6),
 .y 92 (.bin 94 .eql 93 (.i 2)),
 .n 89 (.pick 95 92 94 (.c (.bool false))),
 .n 89 (.binb 96 .neq 90 95),
 .pick 97 89 (.c (.bool true)) 96,
 .asg 98 97,
 .n 98 (.mov 99 11),
 .n 98 (.mov 100 13),
 .n 98 (.call 101 Xh [(99,false),(100,false)]),
 .n 98 (.un 102 .not 101),
 .pick 103 98 (.c (.bool true)) 102])
 (.drop (R 86 17) (.cond 103 (.seq (.reg [.asg 2 (.c (.bool false))])
 .ret)
 .skip)))))
def Zb:ACode:=
 (.reg [.mov 104 7,
 .asg 105 104,
 .y 105 (.mov 106 6),
 .y 105 (.bin 107 .eql 106 (.i 1)),
 .pick 108 105 107 (.c (.bool false))])
def Z7:ACode:=
 (.seq (.cut Zb)
 (.drop [104,105,106,107] (.cond 108 (.seq (.reg [.ld 110 2 true 3,
 .ld 111 2 true 4,
 .mov 112 5,
 .call 113 Nl [(110,false),(111,false),(112,false)],
 .asg 109 113,
 .ext 114 109 0,
 .ext 115 109 1,
 .asg 15 114,
 .asg 16 115])
 (.drop (R 109 7) (.seq (.reg [.mov 116 16,
 .un 117 .not 116,
 .asg 118 117,
 .n 118 (.mov 119 15),
 .n 118 (.un 120 .not 119),
 .pick 121 118 (.c (.bool true)) 120])
 (.drop (R 116 5) (.cond 121 (.seq (.reg [.asg 2 (.c (.bool false))])
 .ret)
 .skip)))))
 .skip)))
def Zg:ACode:=
 (.seq (.reg [.mov 122 12])
 (.cond 122 (.seq (.reg [.ld 124 2 true 3,
 .ld 125 2 true 4,
 .mov 126 11,
 .call 127 Iu [(124,false),(125,false),(126,false)],
 .asg 123 127,
 .ext 128 123 0,
 .ext 129 123 1,
 .asg 17 128,
 .asg 18 129])
 (.drop (R 123 7) (.seq (.reg [.mov 130 18,
 .un 131 .not 130,
 .asg 132 131,
 .n 132 (.mov 133 17),
 .n 132 (.un 134 .not 133),
 .pick 135 132 (.c (.bool true)) 134])
 (.drop (R 130 5) (.cond 135 (.seq (.reg [.asg 2 (.c (.bool false))])
 .ret)
 .skip)))))
 .skip))
def Y7:ACode:=
 (.seq (.reg [.ld 150 2 true 19,
 .ld 151 2 true 20,
 .mov 152 21,
 .call 153 S5 [(150,false),(151,false),(152,false)],
 .asg 149 153,
 .ext 154 149 0,
 .ext 155 149 1,
 .asg 24 154,
 .asg 25 155])
 (.drop (R 149 7) (.seq (.reg [.mov 156 22,
 .mov 157 24,
 un (.binb 158 .neq 156 157),
 .asg 159 158,
 .n 159 (.mov 160 23),
 .n 159 (.mov 161 25),
 .n 159 (.binb 162 .neq 160 161),
 .pick 163 159 (.c (.bool true)) 162])
 (.drop (R 156 7) (.cond 163 (.seq (.reg [.asg 2 (.c (.bool false))])
 .ret)
 .skip)))))
def Zj:ACode:=
 (.reg [.mov 164 23,
 .asg 165 164,
 .y 165 (.mov 166 22),
 .pick 167 165 166 (.c (.bool false))])
def Aas:ACode:=
 (.seq (.cut Zj)
 (.drop [164,165,166] (.cond 167 (.seq (.reg [.ld 169 2 true 19,
 .ld 170 2 true 20,
 .call 171 Kk [(169,false),(170,false)],
 .asg 168 171,
 .ext 172 168 0,
 .ext 173 168 1,
 .ext 174 168 2,
 .asg 26 172,
 .asg 27 173,
 .asg 28 174])
 (.drop [169,170,171,168,172,173,174,26] (.seq (.reg [.mov 175 28,
 .un 176 .not 175,
 .asg 177 176,
 .n 177 (.mov 178 27),
 .n 177 (.bin 179 .eql 178 (.i 2)),
 .pick 180 177 (.c (.bool true)) 179])
 (.drop (R 175 5) (.cond 180 (.seq (.reg [.asg 2 (.c (.bool false))])
 .ret)
 .skip)))))
 .skip)))
def Aaj:ACode:=
 (.seq (.reg [.ld 195 2 true 29,
 .ld 196 2 true 30,
 .mov 197 31,
 .call 198 M1 [(195,false),(196,false),(197,false)],
 .asg 194 198,
 .ext 199 194 0,
 .ext 200 194 1,
 .asg 34 199,
 .asg 35 200])
 (.drop (R 194 7) (.seq (.reg [.mov 201 32,
 .mov 202 34,
 un (.binb 203 .neq 201 202),
 .asg 204 203,
 .n 204 (.mov 205 33),
 .n 204 (.mov 206 35),
 .n 204 (.binb 207 .neq 205 206),
 .pick 208 204 (.c (.bool true)) 207])
 (.drop (R 201 7) (.cond 208 (.seq (.reg [.asg 2 (.c (.bool false))])
 .ret)
 .skip)))))
def X3:ACode:=
 (.reg [.mov 209 33,
 .asg 210 209,
 .y 210 (.mov 211 32),
 .pick 212 210 211 (.c (.bool false))])
def Aej:ACode:=
 (.seq (.reg [.asg 2 (.c (.bool false))])
 (.seq (.seq (.reg [.mov 39 0,
 .call 40 Ac3 [(39,false)]])
 (.drop [39] (.cond 40 (.seq (.reg [.asg 2 (.c (.bool true))])
 .ret)
 .skip)))
 (.drop [40] (.seq (.reg [.mov 42 0,
 .call 43 Mu [(42,false)],
 .asg 41 43,
 .ext 44 41 0,
 .ext 45 41 1,
 .alc 3 (.agg [.int .i64 0,.nilsl 2]),
 .alc 4 (.agg [.int .i64 0,.nilsl 2]),
 .st 2 3 44,
 .st 2 4 45])
 (.drop (R 41 5) (.seq (.reg [.ld 47 2 true 3,
 .ld 48 2 true 4,
 .call 49 Kk [(47,false),(48,false)],
 .asg 46 49,
 .ext 50 46 0,
 .ext 51 46 1,
 .ext 52 46 2,
 .asg 5 50,
 .asg 6 51,
 .asg 7 52])
 (.drop (R 46 7) (.seq (.cut Zr)
 (.drop [8,9,10,73] (.seq (.reg [.ld 75 2 true 3,
 .ld 76 2 true 4,
 .call 77 Mr [(75,false),(76,false)],
 .asg 74 77,
 .ext 78 74 0,
 .ext 79 74 1,
 .asg 11 78,
 .asg 12 79])
 (.drop (R 74 6) (.seq (.cut Z6)
 (.drop [13,14,103] (.seq (.cut Z7)
 (.drop [108,15,16,121] (.seq (.cut Zg)
 (.drop [122,17,18,135] (.seq (.reg [.mov 137 0,
 .call 138 Ms [(137,false)],
 .asg 136 138,
 .ext 139 136 0,
 .ext 140 136 1,
 .ext 141 136 2,
 .alc 19 (.agg [.int .i64 0,.nilsl 2]),
 .alc 20 (.agg [.int .i64 0,.nilsl 2]),
 .st 2 19 139,
 .st 2 20 140,
 .asg 21 141])
 (.drop (R 136 6) (.seq (.reg [.ld 143 2 true 19,
 .ld 144 2 true 20,
 .mov 145 21,
 .call 146 Nl [(143,false),(144,false),(145,false)],
 .asg 142 146,
 .ext 147 142 0,
 .ext 148 142 1,
 .asg 22 147,
 .asg 23 148])
 (.drop (R 142 7) (.seq (.cut Y7)
 (.drop [24,25,163] (.seq (.cut Aas)
 (.drop [167,27,28,180] (.seq (.reg [.mov 182 0,
 .call 183 I6 [(182,false)],
 .asg 181 183,
 .ext 184 181 0,
 .ext 185 181 1,
 .ext 186 181 2,
 .alc 29 (.agg [.int .i64 0,.nilsl 2]),
 .alc 30 (.agg [.int .i64 0,.nilsl 2]),
 .st 2 29 184,
 .st 2 30 185,
 .asg 31 186])
 (.drop (R 181 6) (.seq (.reg [.ld 188 2 true 29,
 .ld 189 2 true 30,
 .mov 190 31,
 .call 191 Iu [(188,false),(189,false),(190,false)],
 .asg 187 191,
 .ext 192 187 0,
 .ext 193 187 1,
 .asg 32 192,
 .asg 33 193])
 (.drop (R 187 7) (.seq (.cut Aaj)
 (.drop [34,35,208] (.seq (.seq (.cut X3)
 (.drop [209,210,211] (.cond 212 (.seq (.reg [.ld 214 2 true 29,
 .ld 215 2 true 30,
 .call 216 Kk [(214,false),(215,false)],
 .asg 213 216,
 .ext 217 213 0,
 .ext 218 213 1,
 .ext 219 213 2,
 .asg 36 217,
 .asg 37 218,
 .asg 38 219])
 (.drop [214,215,216,213,217,218,219,36] (.seq (.reg [.mov 220 38,
 .un 221 .not 220,
 .asg 222 221,
 .n 222 (.mov 223 37),
 .n 222 (.bin 224 .eql 223 (.i 1)),
 .pick 225 222 (.c (.bool true)) 224])
 (.drop (R 220 5) (.cond 225 (.seq (.reg [.asg 2 (.c (.bool false))])
 .ret)
 .skip)))))
 .skip)))
 (.drop [212,37,38,225] (.seq (.reg [.asg 2 (.c (.bool true))])
 .ret))))))))))))))))))))))))))))))))))
abbrev Aec:List RS:=[.t 2]
theorem Aei:Bj Try.prog Tw 226 Aej Aec=true:=by kernel_rfl
end Go.Proofs.Ytaalgpkajkogkaa.Ax
