/-
  The small code of the functions, written by program; that the program's code is this one, the kernel looks at.
-/
import Derived.Test.YtaalgpkajkogkaaAx3
import Derived.Test.YtaalgpkajkogkaaProg
import Derived.KernelRfl
import Derived.Test.YtaalgpkajkogkaaNum
namespace Go.Proofs.Ytaalgpkajkogkaa.Ax
open Go
set_option maxRecDepth 100000
def Awy:ACode:=
 (.seq (.reg [.asg 2 (.c (.bool false))])
 (.seq (.reg [.mov 3 0,
 .len 4 3,
 .bin 5 .gtr 4 (.i 65536),
 .asg 2 5])
 .ret))
abbrev Avz:List RS:=[.t 2]
theorem Auy:Bj Try.prog Ac3 6 Awy Avz=true:=by kernel_rfl
def Aaw:ACode:=
 (.seq (.seq (.reg [.mov 11 5,
 .mov 12 0,
 .len 13 12,
 .bin 14 .lss 11 13])
 (.drop [11,12,13] (.cond 14 .skip
 (.exit 0))))
 (.drop [14] (.seq (.block 1 (.seq (.dreg [(.mov 17 0,[]),
 (.mov 18 5,[17]),
 (.iad 19 1 17 18,[]),
 (.l 20 19,[]),
 (.mov 21 1,[17,18,19,20]),
 (.mov 22 5,[17,18,19,20,21]),
 (.iad 23 1 21 22,[17,18,19,20]),
 (.l 24 23,[17,18,19,20])]
 [.bin 25 .neq 20 24])
 (.drop (R 17 8) (.cond 25 (.seq (.reg [.asg 4 (.c (.bool false))])
 .ret)
 .skip))))
 (.drop [25] (.reg [.mov 15 5,
 .bin 16 .add 15 (.i 1),
 .asg 5 16])))))
def Atn:ACode:=
 (.seq (.reg [.asg 4 (.c (.bool false))])
 (.seq (.seq (.reg [.mov 6 0,
 .len 7 6,
 .mov 8 1,
 .len 9 8,
 .bin 10 .neq 7 9])
 (.drop [6,7,8,9] (.cond 10 (.seq (.reg [.asg 4 (.c (.bool false))])
 .ret)
 .skip)))
 (.drop [10] (.seq (.seq (.reg [.asg 5 (.i 0)])
 (.block 0 (.loop Aaw)))
 (.drop [5,15,16] (.seq (.reg [.asg 4 (.c (.bool true))])
 .ret))))))
abbrev Aty:List RS:=[.t 4]
theorem Auj:Bj Try.prog T9 26 Atn Aty=true:=by kernel_rfl
def Aud:ACode:=
 (.seq (.reg [.asg 2 (.c (.nilsl 1))])
 (.seq (.reg [.bsl 3 1 [],
 .mov 4 0,
 .app 5 1 3 4,
 .asg 2 5])
 .ret))
abbrev Asv:List RS:=[.t 2]
theorem At3:Bj Try.prog Jz 6 Aud Asv=true:=by kernel_rfl
def Yt:ACode:=
 (.seq (.reg [.bin 10 .lss 9 8])
 (.seq (.cond 10 .skip
 (.exit 0))
 (.seq (.block 1 (.seq (.reg [.iad 11 1 7 9,
 .l 12 11,
 .asg 6 12])
 (.drop [11,12] (.seq (.reg [.mov 13 6,
 .bin 14 .lss 13 (.i 0),
 .asg 15 14,
 .n 15 (.mov 16 6),
 .n 15 (.mov 17 1),
 .n 15 (.bin 18 .geq 16 17),
 .pick 19 15 (.c (.bool true)) 18])
 (.drop (R 13 6) (.cond 19 (.seq (.reg [.asg 4 (.c (.bool false))])
 .ret)
 .skip))))))
 (.drop [6,19] (.reg [.bin 20 .add 9 (.i 1),
 .asg 9 20])))))
def Arl:ACode:=
 (.seq (.reg [.asg 4 (.c (.bool false))])
 (.seq (.seq (.reg [.mov 7 0,
 .len 8 7,
 .mov 9 (.i 0)])
 (.block 0 (.loop Yt)))
 (.drop [7,8,9,10,20] (.seq (.reg [.asg 4 (.c (.bool true))])
 .ret))))
abbrev Aq2:List RS:=[.t 4]
theorem Arc:Bj Try.prog Iq 21 Arl Aq2=true:=by kernel_rfl
def Av8:ACode:=
 (.seq (.reg [.asg 6 (.c (.bool false))])
 (.seq (.reg [.mov 7 0,
 .mov 8 1,
 .bin 9 .geq 7 8,
 .asg 10 9,
 .y 10 (.mov 11 0),
 .y 10 (.mov 12 2),
 .y 10 (.bin 13 .leq 11 12),
 .pick 14 10 13 (.c (.bool false)),
 .asg 6 14])
 .ret))
abbrev Av1:List RS:=[.t 6]
theorem Awj:Bj Try.prog Fv 15 Av8 Av1=true:=by kernel_rfl
def Aa7:ACode:=
 (.seq (.seq (.reg [.mov 6 1,
 .bin 7 .gtr 6 (.i 0)])
 (.drop [6] (.cond 7 .skip
 (.exit 0))))
 (.drop [7] (.seq (.block 1 (.reg [.mov 10 5,
 .mov 11 0,
 .bin 12 .mul 10 11,
 .asg 5 12]))
 (.drop [10,11,12] (.reg [.mov 8 1,
 .bin 9 .sub 8 (.i 1),
 .asg 1 9])))))
def Atz:ACode:=
 (.seq (.reg [.asg 4 (.i 0)])
 (.seq (.reg [.asg 5 (.i 1)])
 (.seq (.block 0 (.loop Aa7))
 (.drop [8,9] (.seq (.reg [.mov 13 5,
 .asg 4 13])
 .ret)))))
abbrev Asz:List RS:=[.t 4]
theorem As1:Bj Try.prog Jw 14 Atz Asz=true:=by kernel_rfl
def Yj:ACode:=
 (.seq (.seq (.reg [.mov 13 8,
 .bin 14 .geq 13 (.i 0)])
 (.drop [13] (.cond 14 .skip
 (.exit 0))))
 (.drop [14] (.seq (.block 1 (.seq (.reg [.mov 17 7,
 .mov 18 8,
 .mov 19 2,
 .mov 20 0,
 .bin 21 .rem 19 20,
 .iad 22 1 17 18,
 .st 1 22 21])
 (.drop (R 17 6) (.reg [.mov 23 2,
 .mov 24 0,
 .bin 25 .quo 23 24,
 .asg 2 25]))))
 (.drop [23,24,25] (.reg [.mov 15 8,
 .bin 16 .sub 15 (.i 1),
 .asg 8 16])))))
def Aq9:ACode:=
 (.seq (.reg [.asg 6 (.c (.nilsl 1))])
 (.seq (.reg [.mov 9 1,
 un (.mk 10 1 (.int .i64 0) 9),
 .asg 7 10])
 (.drop [9,10] (.seq (.seq (.reg [.mov 11 1,
 .bin 12 .sub 11 (.i 1),
 .asg 8 12])
 (.drop [11,12] (.block 0 (.loop Yj))))
 (.drop [8,15,16] (.seq (.reg [.mov 26 7,
 .asg 6 26])
 .ret))))))
abbrev Aqt:List RS:=[.t 6]
theorem Aql:Bj Try.prog M4 27 Aq9 Aqt=true:=by kernel_rfl
def Sp:ACode:=
 (.seq (.seq (.reg [.mov 19 12,
 .mov 20 2,
 .len 21 20,
 .bin 22 .lss 19 21])
 (.drop [19,20,21] (.cond 22 .skip
 (.exit 2))))
 (.drop [22] (.seq (.block 3 (.reg [.mov 25 11,
 .mov 26 0,
 .bin 27 .mul 25 26,
 .mov 28 2,
 .mov 29 12,
 .iad 30 1 28 29,
 .l 31 30,
 .mov 32 10,
 .iad 33 1 31 32,
 .l 34 33,
 .bin 35 .add 27 34,
 .asg 11 35]))
 (.drop (R 25 11) (.reg [.mov 23 12,
 .bin 24 .add 23 (.i 1),
 .asg 12 24])))))
def Se:ACode:=
 (.seq (.seq (.reg [.mov 14 10,
 .mov 15 3,
 .bin 16 .lss 14 15])
 (.drop [14,15] (.cond 16 .skip
 (.exit 0))))
 (.drop [16] (.seq (.block 1 (.seq (.reg [.asg 11 (.i 0)])
 (.seq (.seq (.reg [.asg 12 (.i 0)])
 (.block 2 (.loop Sp)))
 (.drop [12,23,24] (.reg [.mov 36 9,
 .fadr 37 1 5,
 .l 38 37,
 .mov 39 11,
 .iad 40 1 38 39,
 .l 41 40,
 .bsl 42 1 [41],
 .app 43 1 36 42,
 .asg 9 43])))))
 (.drop [11,36,37,38,39,40,41,42,43] (.reg [.mov 17 10,
 .bin 18 .add 17 (.i 1),
 .asg 10 18])))))
def Ajg:ACode:=
 (.seq (.reg [.box 5 1,
 .asg 8 (.c (.nilsl 1))])
 (.seq (.reg [.bsl 13 1 [],
 .asg 9 13])
 (.drop [13] (.seq (.seq (.reg [.asg 10 (.i 0)])
 (.block 0 (.loop Se)))
 (.drop [10,17,18] (.seq (.reg [.mov 44 9,
 .asg 8 44])
 .ret))))))
abbrev Ajh:List RS:=[.t 8]
theorem Ahj:Bj Try.prog Ih 45 Ajg Ajh=true:=by kernel_rfl
def Aa5:ACode:=
 (.seq (.reg [.bin 13 .lss 12 11])
 (.seq (.cond 13 .skip
 (.exit 0))
 (.seq (.block 1 (.seq (.reg [.iad 14 1 10 12,
 .l 15 14,
 .asg 5 15])
 (.drop [14,15] (.reg [.mov 16 3,
 .mov 17 5,
 .bin 18 .shr 17 (.c (.int .u64 8)),
 un (.cnv 19 .u8 18),
 .mov 20 5,
 un (.cnv 21 .u8 20),
 .bsl 22 1 [19,21],
 .app 23 1 16 22,
 .asg 3 23]))))
 (.drop [5,16,17,18,19,20,21,22,23] (.reg [.bin 24 .add 12 (.i 1),
 .asg 12 24])))))
def At6:ACode:=
 (.seq (.reg [⟨none,.asg 2 (.c (.str ⟨#[]⟩))⟩])
 (.seq (.reg [.mov 6 0,
 .len 7 6,
 .bin 8 .mul (.i 2) 7,
 un (.mkc 9 1 (.int .u8 0) 8),
 .asg 3 9])
 (.drop [6,7,8,9] (.seq (.seq (.reg [.mov 10 0,
 .len 11 10,
 .mov 12 (.i 0)])
 (.block 0 (.loop Aa5)))
 (.drop [10,11,12,13,24] (.seq (.reg [.mov 25 3,
 un (.bstr 26 25),
 .asg 2 26])
 .ret))))))
abbrev Atp:List RS:=[.t 2]
theorem At1:Bj Try.prog L7 27 At6 Atp=true:=by kernel_rfl
def Aa6:ACode:=
 (.seq (.seq (.reg [.mov 6 1,
 .bin 7 .gtr 6 (.i 0)])
 (.drop [6] (.cond 7 .skip
 (.exit 0))))
 (.drop [7] (.seq (.block 1 (.reg [.mov 10 5,
 .mov 11 0,
 .bin 12 .mul 10 11,
 .asg 5 12]))
 (.drop [10,11,12] (.reg [.mov 8 1,
 .bin 9 .sub 8 (.i 1),
 .asg 1 9])))))
def Asw:ACode:=
 (.seq (.reg [.asg 4 (.i 0)])
 (.seq (.reg [.asg 5 (.i 1)])
 (.seq (.block 0 (.loop Aa6))
 (.drop [8,9] (.seq (.reg [.mov 13 5,
 .asg 4 13])
 .ret)))))
abbrev As7:List RS:=[.t 4]
theorem Aue:Bj Try.prog Mb 14 Asw As7=true:=by kernel_rfl
def Ym:ACode:=
 (.seq (.seq (.reg [.mov 13 8,
 .bin 14 .geq 13 (.i 0)])
 (.drop [13] (.cond 14 .skip
 (.exit 0))))
 (.drop [14] (.seq (.block 1 (.seq (.reg [.mov 17 7,
 .mov 18 8,
 .mov 19 0,
 .mov 20 2,
 .bin 21 .rem 19 20,
 .iad 22 1 17 18,
 .st 1 22 21])
 (.drop (R 17 6) (.reg [.mov 23 0,
 .mov 24 2,
 .bin 25 .quo 23 24,
 .asg 0 25]))))
 (.drop [23,24,25] (.reg [.mov 15 8,
 .bin 16 .sub 15 (.i 1),
 .asg 8 16])))))
def Aqh:ACode:=
 (.seq (.reg [.asg 6 (.c (.nilsl 1))])
 (.seq (.reg [.mov 9 1,
 un (.mk 10 1 (.int .i64 0) 9),
 .asg 7 10])
 (.drop [9,10] (.seq (.seq (.reg [.mov 11 1,
 .bin 12 .sub 11 (.i 1),
 .asg 8 12])
 (.drop [11,12] (.block 0 (.loop Ym))))
 (.drop [8,15,16] (.seq (.reg [.mov 26 7,
 .asg 6 26])
 .ret))))))
abbrev Aqr:List RS:=[.t 6]
theorem Aqf:Bj Try.prog M6 27 Aqh Aqr=true:=by kernel_rfl
def W5:ACode:=
 (.seq (.reg [.bin 11 .lss 10 9])
 (.seq (.cond 11 .skip
 (.exit 0))
 (.seq (.block 1 (.seq (.reg [.iad 12 1 8 10,
 .l 13 12,
 .asg 7 13])
 (.drop [12,13] (.reg [.mov 14 5,
 .mov 15 1,
 .bin 16 .mul 14 15,
 .mov 17 7,
 .bin 18 .add 16 17,
 .asg 5 18]))))
 (.drop [7,14,15,16,17,18] (.reg [.bin 19 .add 10 (.i 1),
 .asg 10 19])))))
def An9:ACode:=
 (.seq (.reg [.asg 4 (.i 0)])
 (.seq (.reg [.asg 5 (.i 0)])
 (.seq (.seq (.reg [.mov 8 0,
 .len 9 8,
 .mov 10 (.i 0)])
 (.block 0 (.loop W5)))
 (.drop [8,9,10,11,19] (.seq (.reg [.mov 20 5,
 .asg 4 20])
 .ret)))))
abbrev Aqc:List RS:=[.t 4]
theorem Ap5:Bj Try.prog Ur 21 An9 Aqc=true:=by kernel_rfl
def Anl:ACode:=
 (.seq (.reg [.alc 2 (.agg [.int .i64 0,.nilsl 2])])
 (.seq (.seq (.reg [.mov 3 0])
 (.block 0 (.seq (.reg [⟨none,.bin 5 .eql 3 (.c (.str ⟨#[109,97,108,99,101,118]⟩))⟩,
 .asg 4 5])
 (.drop [5] (.cond 4 (.seq (.reg [.bsl 6 1 [(.i 0),(.i 1),(.i 1)],
 .bsl 7 1 [(.i 0)],
 .bld 8 [.nilsl 1,.nilsl 1] [(0,1,6),(1,1,7)],
 .bsl 9 1 [(.i 0),(.i 0),(.i 1)],
 .bsl 10 1 [(.i 1)],
 .bld 11 [.nilsl 1,.nilsl 1] [(0,1,9),(1,1,10)],
 .bsl 12 2 [8,11],
 .bld 13 [.int .i64 0,.nilsl 2] [(0,1,(.i 3)),(1,1,12)],
 .st 2 2 13])
 .ret)
 (.seq (.reg [⟨none,.bin 15 .eql 3 (.c (.str ⟨#[109,97,106,111,114,105,116,121]⟩))⟩,
 .asg 14 15])
 (.drop [15] (.cond 14 (.seq (.reg [.bsl 16 1 [(.i 0),(.i 0),(.i 1)],
 .bsl 17 1 [(.i 0)],
 .bld 18 [.nilsl 1,.nilsl 1] [(0,1,16),(1,1,17)],
 .bsl 19 1 [(.i 0),(.i 1),(.i 0)],
 .bsl 20 1 [(.i 0)],
 .bld 21 [.nilsl 1,.nilsl 1] [(0,1,19),(1,1,20)],
 .bsl 22 1 [(.i 1),(.i 0),(.i 0)],
 .bsl 23 1 [(.i 0)],
 .bld 24 [.nilsl 1,.nilsl 1] [(0,1,22),(1,1,23)],
 .bsl 25 2 [18,21,24],
 .bld 26 [.int .i64 0,.nilsl 2] [(0,1,(.i 3)),(1,1,25)],
 .st 2 2 26])
 .ret)
 (.seq (.reg [⟨none,.bin 28 .eql 3 (.c (.str ⟨#[109,105,110,111,114,105,116,121]⟩))⟩,
 .asg 27 28])
 (.drop [28] (.cond 27 (.seq (.reg [.bsl 29 1 [(.i 0),(.i 0),(.i 1)],
 .bsl 30 1 [(.i 1)],
 .bld 31 [.nilsl 1,.nilsl 1] [(0,1,29),(1,1,30)],
 .bsl 32 1 [(.i 0),(.i 1),(.i 0)],
 .bsl 33 1 [(.i 1)],
 .bld 34 [.nilsl 1,.nilsl 1] [(0,1,32),(1,1,33)],
 .bsl 35 1 [(.i 1),(.i 0),(.i 0)],
 .bsl 36 1 [(.i 1)],
 .bld 37 [.nilsl 1,.nilsl 1] [(0,1,35),(1,1,36)],
 .bsl 38 2 [31,34,37],
 .bld 39 [.int .i64 0,.nilsl 2] [(0,1,(.i 3)),(1,1,38)],
 .st 2 2 39])
 .ret)
 (.seq (.reg [⟨none,.bin 41 .eql 3 (.c (.str ⟨#[112,105,120,108,101,121]⟩))⟩,
 .asg 40 41])
 (.drop [41] (.cond 40 (.seq (.reg [.bsl 42 1 [(.i 0),(.i 1),(.i 1)],
 .bsl 43 1 [(.i 0)],
 .bld 44 [.nilsl 1,.nilsl 1] [(0,1,42),(1,1,43)],
 .bsl 45 1 [(.i 0),(.i 1),(.i 0)],
 .bsl 46 1 [(.i 0)],
 .bld 47 [.nilsl 1,.nilsl 1] [(0,1,45),(1,1,46)],
 .bsl 48 1 [(.i 0),(.i 0),(.i 1)],
 .bsl 49 1 [(.i 1)],
 .bld 50 [.nilsl 1,.nilsl 1] [(0,1,48),(1,1,49)],
 .bsl 51 2 [44,47,50],
 .bld 52 [.int .i64 0,.nilsl 2] [(0,1,(.i 3)),(1,1,51)],
 .st 2 2 52])
 .ret)
 (.seq (.reg [⟨none,.bin 54 .eql 3 (.c (.str ⟨#[99,111,109,109,117,116,97,116,105,118,101]⟩))⟩,
 .asg 53 54])
 (.drop [54] (.cond 53 (.seq (.reg [.bsl 55 1 [(.i 0),(.i 0)],
 .bsl 56 1 [(.i 0)],
 .bld 57 [.nilsl 1,.nilsl 1] [(0,1,55),(1,1,56)],
 .bsl 58 1 [(.i 0),(.i 1)],
 .bsl 59 1 [(.i 1),(.i 0)],
 .bld 60 [.nilsl 1,.nilsl 1] [(0,1,58),(1,1,59)],
 .bsl 61 2 [57,60],
 .bld 62 [.int .i64 0,.nilsl 2] [(0,1,(.i 2)),(1,1,61)],
 .st 2 2 62])
 .ret)
 (.seq (.reg [⟨none,.bin 64 .eql 3 (.c (.str ⟨#[119,101,97,107]⟩))⟩,
 .asg 63 64])
 (.drop [64] (.cond 63 (.seq (.reg [.bsl 65 1 [(.i 0),(.i 0),(.i 0)],
 .bsl 66 1 [(.i 0)],
 .bld 67 [.nilsl 1,.nilsl 1] [(0,1,65),(1,1,66)],
 .bsl 68 1 [(.i 0),(.i 0),(.i 1)],
 .bsl 69 1 [(.i 0),(.i 1),(.i 0)],
 .bld 70 [.nilsl 1,.nilsl 1] [(0,1,68),(1,1,69)],
 .bsl 71 1 [(.i 0),(.i 1),(.i 0)],
 .bsl 72 1 [(.i 1),(.i 0),(.i 0)],
 .bld 73 [.nilsl 1,.nilsl 1] [(0,1,71),(1,1,72)],
 .bsl 74 2 [67,70,73],
 .bld 75 [.int .i64 0,.nilsl 2] [(0,1,(.i 3)),(1,1,74)],
 .st 2 2 75])
 .ret)
 .skip))))))))))))))))))))
 (.drop [3,4,14,27,40,53,63] (.seq (.reg [.bld 76 [.int .i64 0,.nilsl 2] [],
 .st 2 2 76])
 .ret))))
abbrev Anf:List RS:=[.c 2 2 true]
theorem Am2:Bj Try.prog Tl 77 Anl Anf=true:=by kernel_rfl
def Vp:ACode:=
 (.seq (.seq (.reg [.mov 10 9,
 .mov 11 1,
 .bin 12 .lss 10 11])
 (.drop [10,11] (.cond 12 .skip
 (.exit 0))))
 (.drop [12] (.seq (.block 1 (.seq (.seq (.reg [.mov 15 2,
 .mov 16 0,
 .bin 17 .rem 15 16,
 .mov 18 3,
 .bin 19 .geq 17 18])
 (.drop [15,16,17,18] (.cond 19 (.seq (.reg [.asg 8 (.c (.bool true))])
 .ret)
 .skip)))
 (.drop [19] (.reg [.mov 20 2,
 .mov 21 0,
 .bin 22 .quo 20 21,
 .asg 2 22]))))
 (.drop [20,21,22] (.reg [.mov 13 9,
 .bin 14 .add 13 (.i 1),
 .asg 9 14])))))
def Amy:ACode:=
 (.seq (.reg [.asg 8 (.c (.bool false))])
 (.seq (.seq (.reg [.asg 9 (.i 0)])
 (.block 0 (.loop Vp)))
 (.drop [9,13,14] (.seq (.reg [.mov 23 3,
 .bin 24 .eql 23 (.i 0),
 .asg 8 24])
 .ret))))
abbrev Am6:List RS:=[.t 8]
theorem Anj:Bj Try.prog Ti 25 Amy Am6=true:=by kernel_rfl
def Oa:ACode:=
 (.seq (.reg [.bin 24 .lss 23 22])
 (.seq (.cond 24 .skip
 (.exit 2))
 (.seq (.block 3 (.seq (.reg [.iad 25 1 21 23,
 .l 26 25,
 .asg 13 26])
 (.drop [25,26] (.reg [.mov 27 11,
 .mov 28 0,
 .bin 29 .mul 27 28,
 .mov 30 13,
 .mov 31 10,
 .iad 32 1 30 31,
 .l 33 32,
 .bin 34 .add 29 33,
 .asg 11 34]))))
 (.drop [13,27,28,29,30,31,32,33,34] (.reg [.bin 35 .add 23 (.i 1),
 .asg 23 35])))))
def N8:ACode:=
 (.seq (.reg [.bin 19 .lss 18 17])
 (.seq (.cond 19 .skip
 (.exit 0))
 (.seq (.block 1 (.seq (.reg [.mov 20 18,
 .asg 10 20])
 (.drop [20] (.seq (.reg [.asg 11 (.i 0)])
 (.seq (.seq (.reg [.mov 21 2,
 .len 22 21,
 .mov 23 (.i 0)])
 (.block 2 (.loop Oa)))
 (.drop [21,22,23,24,35] (.reg [.mov 36 9,
 .mov 37 10,
 .fadr 38 1 5,
 .l 39 38,
 .mov 40 11,
 .iad 41 1 39 40,
 .l 42 41,
 .iad 43 1 36 37,
 .st 1 43 42])))))))
 (.drop [10,11,36,37,38,39,40,41,42,43] (.reg [.bin 44 .add 18 (.i 1),
 .asg 18 44])))))
def Acd:ACode:=
 (.seq (.reg [.box 5 1,
 .asg 8 (.c (.nilsl 1))])
 (.seq (.reg [.mov 14 3,
 un (.mk 15 1 (.int .i64 0) 14),
 .asg 9 15])
 (.drop [14,15] (.seq (.seq (.reg [.mov 16 9,
 .len 17 16,
 .mov 18 (.i 0)])
 (.drop [16] (.block 0 (.loop N8))))
 (.drop [17,18,19,44] (.seq (.reg [.mov 45 9,
 .asg 8 45])
 .ret))))))
abbrev Acp:List RS:=[.t 8]
theorem Acg:Bj Try.prog Gi 46 Acd Acp=true:=by kernel_rfl
def Att:ACode:=
 (.seq (.reg [.asg 2 (.c (.nilsl 1))])
 (.seq (.reg [.bsl 3 1 [],
 .mov 4 0,
 .app 5 1 3 4,
 .asg 2 5])
 .ret))
abbrev As2:List RS:=[.t 2]
theorem Aun:Bj Try.prog Jy 6 Att As2=true:=by kernel_rfl
def Acl:ACode:=
 (.seq (.dreg [(.mov 4 0,[]),
 (.nck 5 4,[]),
 (.fadr 6 1 5,[]),
 (.l 7 6,[]),
 (.mov 8 0,[4,5,6,7]),
 (.nck 9 8,[4,5,6,7]),
 (.fadr 10 0 9,[4,5,6,7]),
 (.l 11 10,[4,5,6,7]),
 (.len 12 11,[4,5,6,7])]
 [.bin 13 .lss 7 12])
 (.drop (R 4 9) (.cond 13 (.dreg [(.mov 14 0,[]),
 (.nck 15 14,[]),
 (.fadr 16 0 15,[]),
 (.l 17 16,[]),
 (.mov 18 0,[14,15,16,17]),
 (.nck 19 18,[14,15,16,17]),
 (.fadr 20 1 19,[14,15,16,17]),
 (.l 21 20,[14,15,16,17])]
 [.iad 22 1 17 21,
 .l 23 22,
 un (.cnv 24 .i64 23),
 .asg 3 24])
 .skip)))
def Ah8:ACode:=
 (.seq (.reg [.asg 2 (.i 0)])
 (.seq (.reg [.asg 3 (.i 0)])
 (.seq (.cut Acl)
 (.drop (R 13 12) (.seq (.reg [.mov 25 0,
 .nck 26 25,
 .fadr 27 1 26,
 .l 28 27,
 .bin 29 .add 28 (.i 1),
 .nck 30 25,
 .fadr 31 1 30,
 .st 1 31 29])
 (.drop (R 25 7) (.seq (.reg [.mov 32 0,
 .mov 33 0,
 .nck 34 33,
 .fadr 35 2 34,
 .l 36 35,
 .bin 37 .mul 36 (.c (.int .u64 6364136223846793005)),
 .mov 38 3,
 un (.cnv 39 .u64 38),
 .bin 40 .add 37 39,
 .bin 41 .add 40 (.c (.int .u64 550289)),
 .nck 42 32,
 .fadr 43 2 42,
 .st 1 43 41])
 (.drop (R 32 12) (.seq (.seq (.dreg [(.mov 44 0,[]),
 (.nck 45 44,[]),
 (.fadr 46 1 45,[]),
 (.l 47 46,[]),
 (.mov 48 0,[44,45,46,47]),
 (.nck 49 48,[44,45,46,47]),
 (.fadr 50 0 49,[44,45,46,47]),
 (.l 51 50,[44,45,46,47]),
 (.len 52 51,[44,45,46,47])]
 [.bin 53 .leq 47 52])
 (.drop (R 44 9) (.cond 53 (.seq (.reg [.mov 54 3,
 .asg 2 54])
 .ret)
 .skip)))
 (.drop [53] (.seq (.reg [.mov 55 0,
 .nck 56 55,
 .fadr 57 2 56,
 .l 58 57,
 .bin 59 .shr 58 (.c (.int .u64 40)),
 .bin 60 .and 59 (.c (.int .u64 255)),
 un (.cnv 61 .i64 60),
 .asg 2 61])
 .ret)))))))))))
abbrev Ahd:List RS:=[.t 2]
theorem Ai8:Bj Try.prog K7 62 Ah8 Ahd=true:=by kernel_rfl
def Aqo:ACode:=
 (.seq (.reg [.asg 4 (.i 0)])
 (.seq (.seq (.reg [.mov 5 0,
 .mov 6 1,
 .bin 7 .gtr 5 6])
 (.drop [5,6] (.cond 7 (.seq (.reg [.mov 8 0,
 .asg 4 8])
 .ret)
 .skip)))
 (.drop [7] (.seq (.reg [.mov 9 1,
 .asg 4 9])
 .ret))))
abbrev Aqd:List RS:=[.t 4]
theorem Aqu:Bj Try.prog Xc 10 Aqo Aqd=true:=by kernel_rfl
def Yk:ACode:=
 (.seq (.seq (.reg [.mov 30 12,
 .mov 31 2,
 .mov 32 8,
 .iad 33 1 31 32,
 .l 34 33,
 .len 35 34,
 .bin 36 .lss 30 35])
 (.drop (R 30 6) (.cond 36 .skip
 (.exit 6))))
 (.drop [36] (.seq (.block 7 (.reg [.mov 39 11,
 .mov 40 0,
 .bin 41 .mul 39 40,
 .mov 42 9,
 .mov 43 10,
 .bsl 44 1 [42,43],
 .mov 45 2,
 .mov 46 8,
 .iad 47 1 45 46,
 .l 48 47,
 .mov 49 12,
 .iad 50 1 48 49,
 .l 51 50,
 .iad 52 1 44 51,
 .l 53 52,
 .bin 54 .add 41 53,
 .asg 11 54]))
 (.drop (R 39 16) (.reg [.mov 37 12,
 .bin 38 .add 37 (.i 1),
 .asg 12 38])))))
def Yo:ACode:=
 (.seq (.seq (.reg [.mov 25 10,
 .mov 26 0,
 .bin 27 .lss 25 26])
 (.drop [25,26] (.cond 27 .skip
 (.exit 4))))
 (.drop [27] (.seq (.block 5 (.seq (.reg [.asg 11 (.i 0)])
 (.seq (.seq (.reg [.asg 12 (.i 0)])
 (.block 6 (.loop Yk)))
 (.drop [12,37,38] (.reg [.mov 55 7,
 .fadr 56 1 4,
 .l 57 56,
 .mov 58 11,
 .iad 59 1 57 58,
 .l 60 59,
 .bsl 61 1 [60],
 .app 62 1 55 61,
 .asg 7 62])))))
 (.drop [11,55,56,57,58,59,60,61,62] (.reg [.mov 28 10,
 .bin 29 .add 28 (.i 1),
 .asg 10 29])))))
def Xw:ACode:=
 (.seq (.seq (.reg [.mov 20 9,
 .mov 21 0,
 .bin 22 .lss 20 21])
 (.drop [20,21] (.cond 22 .skip
 (.exit 2))))
 (.drop [22] (.seq (.block 3 (.seq (.reg [.asg 10 (.i 0)])
 (.block 4 (.loop Yo))))
 (.drop [10,28,29] (.reg [.mov 23 9,
 .bin 24 .add 23 (.i 1),
 .asg 9 24])))))
def Y3:ACode:=
 (.seq (.seq (.reg [.mov 14 8,
 .mov 15 2,
 .len 16 15,
 .bin 17 .lss 14 16])
 (.drop [14,15,16] (.cond 17 .skip
 (.exit 0))))
 (.drop [17] (.seq (.block 1 (.seq (.reg [.asg 9 (.i 0)])
 (.block 2 (.loop Xw))))
 (.drop [9,23,24] (.reg [.mov 18 8,
 .bin 19 .add 18 (.i 1),
 .asg 8 19])))))
def Aqx:ACode:=
 (.seq (.reg [.box 4 1,
 .asg 6 (.c (.nilsl 1))])
 (.seq (.reg [.bsl 13 1 [],
 .asg 7 13])
 (.drop [13] (.seq (.seq (.reg [.asg 8 (.i 0)])
 (.block 0 (.loop Y3)))
 (.drop [8,18,19] (.seq (.reg [.mov 63 7,
 .asg 6 63])
 .ret))))))
abbrev Aqz:List RS:=[.t 6]
theorem Aq4:Bj Try.prog Xl 64 Aqx Aqz=true:=by kernel_rfl
def Xu:ACode:=
 (.seq (.seq (.reg [.mov 11 5,
 .mov 12 0,
 .len 13 12,
 .bin 14 .lss 11 13])
 (.drop [11,12,13] (.cond 14 .skip
 (.exit 0))))
 (.drop [14] (.seq (.block 1 (.seq (.dreg [(.mov 17 0,[]),
 (.mov 18 5,[17]),
 (.iad 19 1 17 18,[]),
 (.l 20 19,[]),
 (.mov 21 1,[17,18,19,20]),
 (.mov 22 5,[17,18,19,20,21]),
 (.iad 23 1 21 22,[17,18,19,20]),
 (.l 24 23,[17,18,19,20])]
 [.bin 25 .neq 20 24])
 (.drop (R 17 8) (.cond 25 (.seq (.reg [.asg 4 (.c (.bool false))])
 .ret)
 .skip))))
 (.drop [25] (.reg [.mov 15 5,
 .bin 16 .add 15 (.i 1),
 .asg 5 16])))))
def Aq5:ACode:=
 (.seq (.reg [.asg 4 (.c (.bool false))])
 (.seq (.seq (.reg [.mov 6 0,
 .len 7 6,
 .mov 8 1,
 .len 9 8,
 .bin 10 .neq 7 9])
 (.drop [6,7,8,9] (.cond 10 (.seq (.reg [.asg 4 (.c (.bool false))])
 .ret)
 .skip)))
 (.drop [10] (.seq (.seq (.reg [.asg 5 (.i 0)])
 (.block 0 (.loop Xu)))
 (.drop [5,15,16] (.seq (.reg [.asg 4 (.c (.bool true))])
 .ret))))))
abbrev Aq6:List RS:=[.t 4]
theorem Aqj:Bj Try.prog Xg 26 Aq5 Aq6=true:=by kernel_rfl
def Vb:ACode:=
 (.seq (.seq (.reg [.mov 6 4,
 .mov 7 0,
 un (.slen 8 7),
 .bin 9 .lss 6 8])
 (.drop [6,7,8] (.cond 9 .skip
 (.exit 0))))
 (.drop [9] (.seq (.block 1 (.dreg [(.fadr 12 1 3,[18]),
 (.l 13 12,[18]),
 (.mov 14 0,[12,13]),
 (.mov 15 4,[12,13,14]),
 (un (.sidx 16 14 15),[12,13]),
 (.bin 17 .sub 16 (.c (.int .u8 48)),[12,13]),
 (un (.cnv 18 .i64 17),[12,13]),
 (.bsl 19 1 [18],[12,13])]
 [.app 20 1 13 19,
 .fadr 21 1 3,
 .st 1 21 20]))
 (.drop (R 12 10) (.reg [.mov 10 4,
 .bin 11 .add 10 (.i 1),
 .asg 4 11])))))
def Al0:ACode:=
 (.seq (.reg [.alc 2 (.agg [.int .i64 0,.nilsl 1])])
 (.seq (.reg [.bld 5 [.int .i64 0,.nilsl 1] [(0,1,(.i 2))],
 .alc 3 (.agg [.int .i64 0,.nilsl 1]),
 .st 2 3 5])
 (.drop [5] (.seq (.seq (.reg [.asg 4 (.i 0)])
 (.block 0 (.loop Vb)))
 (.drop [4,10,11] (.seq (.reg [.ld 22 2 true 3,
 .st 2 2 22])
 .ret))))))
abbrev Amr:List RS:=[.c 2 2 true]
theorem Alx:Bj Try.prog Bs 23 Al0 Amr=true:=by kernel_rfl
def U0:ACode:=
 (.seq (.seq (.reg [.mov 6 4,
 .mov 7 0,
 .mov 8 0,
 .bin 9 .mul 7 8,
 .mov 10 0,
 .bin 11 .mul 9 10,
 .bin 12 .lss 6 11])
 (.drop (R 6 6) (.cond 12 .skip
 (.exit 0))))
 (.drop [12] (.seq (.block 1 (.dreg [(.fadr 15 1 3,[35]),
 (.l 16 15,[35]),
 (.mov 17 4,[15,16]),
 (.mov 18 0,[15,16,17]),
 (.mov 19 0,[15,16,17,18]),
 (.bin 20 .mul 18 19,[15,16,17]),
 (.bin 21 .quo 17 20,[15,16]),
 (.mov 22 0,[15,16,17,18,19,20,21]),
 (.bin 23 .add 21 22,[15,16]),
 (.mov 24 4,[15,16,17,18,19,20,21,22,23]),
 (.mov 25 0,[15,16,17,18,19,20,21,22,23,24]),
 (.bin 26 .quo 24 25,[15,16,17,18,19,20,21,22,23]),
 (.mov 27 0,[15,16,17,18,19,20,21,22,23,24,25,26]),
 (.bin 28 .rem 26 27,[15,16,17,18,19,20,21,22,23]),
 (.bin 29 .sub 23 28,[15,16]),
 (.mov 30 4,[15,16,17,18,19,20,21,22,23,24,25,26,27,28,29]),
 (.mov 31 0,[15,16,17,18,19,20,21,22,23,24,25,26,27,28,29,30]),
 (.bin 32 .rem 30 31,[15,16,17,18,19,20,21,22,23,24,25,26,27,28,29]),
 (.bin 33 .add 29 32,[15,16]),
 (.mov 34 0,[15,16,17,18,19,20,21,22,23,24,25,26,27,28,29,30,31,32,33]),
 (.bin 35 .rem 33 34,[15,16]),
 (.bsl 36 1 [35],[15,16])]
 [.app 37 1 16 36,
 .fadr 38 1 3,
 .st 1 38 37]))
 (.drop (R 15 24) (.reg [.mov 13 4,
 .bin 14 .add 13 (.i 1),
 .asg 4 14])))))
def Ani:ACode:=
 (.seq (.reg [.alc 2 (.agg [.int .i64 0,.nilsl 1])])
 (.seq (.reg [.bld 5 [.int .i64 0,.nilsl 1] [(0,1,(.i 3))],
 .alc 3 (.agg [.int .i64 0,.nilsl 1]),
 .st 2 3 5])
 (.drop [5] (.seq (.seq (.reg [.asg 4 (.i 0)])
 (.block 0 (.loop U0)))
 (.drop [4,13,14] (.seq (.reg [.ld 39 2 true 3,
 .st 2 2 39])
 .ret))))))
abbrev Anb:List RS:=[.c 2 2 true]
theorem Am7:Bj Try.prog Nn 40 Ani Anb=true:=by kernel_rfl
def W2:ACode:=
 (.seq (.reg [.bin 14 .lss 13 12])
 (.seq (.cond 14 .skip
 (.exit 0))
 (.seq (.block 1 (.seq (.reg [.mov 15 13,
 .iad 16 1 11 13,
 .l 17 16,
 .asg 6 15,
 .asg 7 17])
 (.drop [15,16,17] (.reg [.mov 18 5,
 .mov 19 6,
 .mov 20 1,
 .mov 21 7,
 .iad 22 1 20 21,
 .l 23 22,
 .iad 24 1 18 19,
 .st 1 24 23]))))
 (.drop [6,7,18,19,20,21,22,23,24] (.reg [.bin 25 .add 13 (.i 1),
 .asg 13 25])))))
def An1:ACode:=
 (.seq (.reg [.asg 4 (.c (.nilsl 1))])
 (.seq (.reg [.mov 8 0,
 .len 9 8,
 un (.mk 10 1 (.int .i64 0) 9),
 .asg 5 10])
 (.drop [8,9,10] (.seq (.seq (.reg [.mov 11 0,
 .len 12 11,
 .mov 13 (.i 0)])
 (.block 0 (.loop W2)))
 (.drop [11,12,13,14,25] (.seq (.reg [.mov 26 5,
 .asg 4 26])
 .ret))))))
abbrev Apj:List RS:=[.t 4]
theorem Apo:Bj Try.prog Uk 27 An1 Apj=true:=by kernel_rfl
def Vg:ACode:=
 (.seq (.reg [.bin 15 .lss 14 13])
 (.seq (.cond 15 .skip
 (.exit 0))
 (.seq (.block 1 (.seq (.reg [.mov 16 14,
 .iad 17 1 12 14,
 .l 18 17,
 .asg 5 16,
 .asg 6 18])
 (.drop [16,17,18] (.seq (.reg [.mov 19 1,
 .mov 20 5,
 .iad 21 1 19 20,
 .l 22 21,
 .mov 23 6,
 .bin 24 .neq 22 23])
 (.drop (R 19 5) (.cond 24 (.seq (.reg [.asg 4 (.c (.bool false))])
 .ret)
 .skip))))))
 (.drop [5,6,24] (.reg [.bin 25 .add 14 (.i 1),
 .asg 14 25])))))
def Amx:ACode:=
 (.seq (.reg [.asg 4 (.c (.bool false))])
 (.seq (.seq (.reg [.mov 7 0,
 .len 8 7,
 .mov 9 1,
 .len 10 9,
 .bin 11 .neq 8 10])
 (.drop [7,8,9,10] (.cond 11 (.seq (.reg [.asg 4 (.c (.bool false))])
 .ret)
 .skip)))
 (.drop [11] (.seq (.seq (.reg [.mov 12 0,
 .len 13 12,
 .mov 14 (.i 0)])
 (.block 0 (.loop Vg)))
 (.drop [12,13,14,15,25] (.seq (.reg [.asg 4 (.c (.bool true))])
 .ret))))))
abbrev Ank:List RS:=[.t 4]
theorem Am5:Bj Try.prog Te 26 Amx Ank=true:=by kernel_rfl
def Ya:ACode:=
 (.seq (.seq (.reg [.mov 11 5,
 .mov 12 0,
 .len 13 12,
 .bin 14 .lss 11 13])
 (.drop [11,12,13] (.cond 14 .skip
 (.exit 0))))
 (.drop [14] (.seq (.block 1 (.seq (.dreg [(.mov 17 0,[]),
 (.mov 18 5,[17]),
 (.iad 19 2 17 18,[]),
 (.fadr 20 0 19,[]),
 (.l 21 20,[]),
 (.mov 22 1,[17,18,19,20,21]),
 (.mov 23 5,[17,18,19,20,21,22]),
 (.iad 24 2 22 23,[17,18,19,20,21]),
 (.fadr 25 0 24,[17,18,19,20,21]),
 (.l 26 25,[17,18,19,20,21]),
 (.bin 27 .neq 21 26,[]),
 (.asg 28 27,[]),
 (.n 28 (.mov 29 0),[27]),
 (.n 28 (.mov 30 5),[29,27]),
 (.n 28 (.iad 31 2 29 30),[27]),
 (.n 28 (.fadr 32 1 31),[27]),
 (.n 28 (.ld 33 1 false 32),[27]),
 (.n 28 (.mov 34 1),[29,30,31,32,33,27]),
 (.n 28 (.mov 35 5),[29,30,31,32,33,34,27]),
 (.n 28 (.iad 36 2 34 35),[29,30,31,32,33,27]),
 (.n 28 (.fadr 37 1 36),[29,30,31,32,33,27]),
 (.n 28 (.ld 38 1 false 37),[29,30,31,32,33,27])]
 [.n 28 (.call 39 T9 [(33,false),(38,false)]),
 .n 28 (.un 40 .not 39),
 .pick 41 28 (.c (.bool true)) 40])
 (.drop (R 17 24) (.cond 41 (.seq (.reg [.asg 4 (.c (.bool false))])
 .ret)
 .skip))))
 (.drop [41] (.reg [.mov 15 5,
 .bin 16 .add 15 (.i 1),
 .asg 5 16])))))
def Aq3:ACode:=
 (.seq (.reg [.asg 4 (.c (.bool false))])
 (.seq (.seq (.reg [.mov 6 0,
 .len 7 6,
 .mov 8 1,
 .len 9 8,
 .bin 10 .neq 7 9])
 (.drop [6,7,8,9] (.cond 10 (.seq (.reg [.asg 4 (.c (.bool false))])
 .ret)
 .skip)))
 (.drop [10] (.seq (.seq (.reg [.asg 5 (.i 0)])
 (.block 0 (.loop Ya)))
 (.drop [5,15,16] (.seq (.reg [.asg 4 (.c (.bool true))])
 .ret))))))
abbrev Aqg:List RS:=[.t 4]
theorem Aqm:Bj Try.prog Xk 42 Aq3 Aqg=true:=by kernel_rfl
def Y4:ACode:=
 (.seq (.seq (.reg [.mov 11 5,
 .mov 12 0,
 .len 13 12,
 .bin 14 .lss 11 13])
 (.drop [11,12,13] (.cond 14 .skip
 (.exit 0))))
 (.drop [14] (.seq (.block 1 (.seq (.dreg [(.mov 17 0,[]),
 (.mov 18 5,[17]),
 (.iad 19 1 17 18,[]),
 (.l 20 19,[]),
 (.mov 21 1,[17,18,19,20]),
 (.mov 22 5,[17,18,19,20,21]),
 (.iad 23 1 21 22,[17,18,19,20]),
 (.l 24 23,[17,18,19,20])]
 [.call 25 T9 [(20,false),(24,false)],
 .un 26 .not 25])
 (.drop (R 17 9) (.cond 26 (.seq (.reg [.asg 4 (.c (.bool false))])
 .ret)
 .skip))))
 (.drop [26] (.reg [.mov 15 5,
 .bin 16 .add 15 (.i 1),
 .asg 5 16])))))
def Aqk:ACode:=
 (.seq (.reg [.asg 4 (.c (.bool false))])
 (.seq (.seq (.reg [.mov 6 0,
 .len 7 6,
 .mov 8 1,
 .len 9 8,
 .bin 10 .neq 7 9])
 (.drop [6,7,8,9] (.cond 10 (.seq (.reg [.asg 4 (.c (.bool false))])
 .ret)
 .skip)))
 (.drop [10] (.seq (.seq (.reg [.asg 5 (.i 0)])
 (.block 0 (.loop Y4)))
 (.drop [5,15,16] (.seq (.reg [.asg 4 (.c (.bool true))])
 .ret))))))
abbrev Aqy:List RS:=[.t 4]
theorem Are:Bj Try.prog Xh 27 Aqk Aqy=true:=by kernel_rfl
def Wh:ACode:=
 (.seq (.seq (.reg [.mov 6 4,
 .mov 7 0,
 .len 8 7,
 .bin 9 .lss 6 8])
 (.drop [6,7,8] (.cond 9 .skip
 (.exit 0))))
 (.drop [9] (.seq (.block 1 (.dregl [(0,.mov 12 3),
 (1,.mov 13 0),
 (2,.mov 14 4),
 (3,.iad 15 2 13 14),
 (4,.fadr 16 0 15),
 (5,.ld 17 1 false 16),
 (6,.mov 18 0),
 (7,.mov 19 4),
 (8,.iad 20 2 18 19),
 (9,.fadr 21 1 20),
 (10,.ld 22 1 false 21)]
 (.alt 11 (.call 23 Jz [(22,false)]) [0,1,2,3,4,5,6,7,8,9,10] [] (.alt 12 (.bld 24 [.int .i64 0,.nilsl 1] [(0,1,17),(1,1,23)]) [0,1,2,3,4,5] [] (.alt 13 (.bsl 25 2 [24]) [0] [] (.alt 14 (.app 26 2 12 25) [0] [12] (.alt 15 (.asg 3 26) [] [] .nil .nil) .nil) .nil) .nil) .nil)))
 (.drop (R 12 15) (.reg [.mov 10 4,
 .bin 11 .add 10 (.i 1),
 .asg 4 11])))))
def Aou:ACode:=
 (.seq (.reg [.asg 2 (.c (.nilsl 2))])
 (.seq (.reg [.bsl 5 2 [],
 .asg 3 5])
 (.drop [5] (.seq (.seq (.reg [.asg 4 (.i 0)])
 (.block 0 (.loop Wh)))
 (.drop [4,10,11] (.seq (.reg [.mov 27 3,
 .asg 2 27])
 .ret))))))
abbrev Anv:List RS:=[.t 2]
theorem Apa:Bj Try.prog Ow 28 Aou Anv=true:=by kernel_rfl
def Abj:ACode:=
 (.seq (.reg [.fadr 25 1 10,
 .l 26 25,
 .len 27 26,
 .bin 28 .neq 27 (.i 1),
 .asg 29 28,
 .n 29 (.fadr 30 1 10),
 .n 29 (.ld 31 1 false 30),
 .n 29 (.mov 32 1),
 .n 29 (.len 33 32),
 .n 29 (.call 34 Iq [(31,false),(33,false)]),
 .n 29 (.un 35 .not 34),
 .pick 36 29 (.c (.bool true)) 35])
 (.drop (R 25 11) (.cond 36 (.seq (.reg [.asg 6 (.c (.nilsl 1)),
 .asg 7 (.c (.bool false))])
 .ret)
 .skip)))
def Abm:ACode:=
 (.seq (.dreg [(.fadr 47 0 10,[]),
 (.l 48 47,[]),
 (.bin 49 .lss 48 (.i 0),[]),
 (.asg 50 49,[]),
 (.n 50 (.fadr 51 0 10),[49]),
 (.n 50 (.ld 52 1 false 51),[49]),
 (.n 50 (.fadr 53 1 3),[51,52,49]),
 (.n 50 (.ld 54 1 false 53),[51,52,49]),
 (.n 50 (.len 55 54),[51,52,49]),
 (.n 50 (.bin 56 .geq 52 55),[49]),
 (.pick 57 50 (.c (.bool true)) 56,[49]),
 (.asg 58 57,[49]),
 (.n 58 (.fadr 59 1 10),[49,57]),
 (.n 58 (.ld 60 1 false 59),[49,57]),
 (.n 58 (.len 61 60),[49,57]),
 (.n 58 (.fadr 62 1 3),[59,60,61,49,57]),
 (.n 58 (.ld 63 1 false 62),[59,60,61,49,57]),
 (.n 58 (.fadr 64 0 10),[59,60,61,62,63,49,57]),
 (.n 58 (.ld 65 1 false 64),[59,60,61,62,63,49,57]),
 (.n 58 (.iad 66 2 63 65),[59,60,61,49,57]),
 (.n 58 (.fadr 67 0 66),[59,60,61,49,57]),
 (.n 58 (.ld 68 1 false 67),[59,60,61,49,57]),
 (.n 58 (.bin 69 .neq 61 68),[49,57]),
 (.pick 70 58 (.c (.bool true)) 69,[49,57]),
 (.asg 71 70,[49,57]),
 (.n 71 (.fadr 72 1 10),[49,57,70]),
 (.n 71 (.ld 73 1 false 72),[49,57,70]),
 (.n 71 (.mov 74 9),[72,73,49,57,70])]
 [.n 71 (.call 75 Iq [(73,false),(74,false)]),
 .n 71 (.un 76 .not 75),
 .pick 77 71 (.c (.bool true)) 76])
 (.drop (R 47 30) (.cond 77 (.seq (.reg [.asg 6 (.c (.nilsl 1)),
 .asg 7 (.c (.bool false))])
 .ret)
 .skip)))
def Qz:ACode:=
 (.seq (.reg [.bin 83 .lss 82 81])
 (.seq (.cond 83 .skip
 (.exit 2))
 (.seq (.block 3 (.seq (.reg [.iad 84 1 80 82,
 .l 85 84,
 .asg 13 85])
 (.drop [84,85] (.reg [.mov 86 11,
 .mov 87 8,
 .mov 88 13,
 .iad 89 1 87 88,
 .l 90 89,
 .bsl 91 1 [90],
 .app 92 1 86 91,
 .asg 11 92]))))
 (.drop [13,86,87,88,89,90,91,92] (.reg [.bin 93 .add 82 (.i 1),
 .asg 82 93])))))
def Q0:ACode:=
 (.seq (.reg [.bin 18 .lss 17 16])
 (.seq (.cond 18 .skip
 (.exit 0))
 (.seq (.block 1 (.seq (.reg [.mov 19 17,
 .iad 20 2 15 17,
 .ld 21 2 true 20,
 .alc 10 (.agg [.int .i64 0,.nilsl 1]),
 .asg 9 19,
 .st 2 10 21])
 (.drop [19,20,21] (.seq (.seq (.reg [.fadr 22 0 10,
 .l 23 22,
 .bin 24 .eql 23 (.i (-1))])
 (.drop [22,23] (.cond 24 (.seq (.cut Abj)
 (.drop [36] (.seq (.reg [.mov 37 8,
 .mov 38 1,
 .fadr 39 1 10,
 .l 40 39,
 .iad 41 1 40 (.i 0),
 .l 42 41,
 .iad 43 1 38 42,
 .l 44 43,
 .bsl 45 1 [44],
 .app 46 1 37 45,
 .asg 8 46])
 (.drop (R 37 10) (.exit 1)))))
 .skip)))
 (.drop [24] (.seq (.cut Abm)
 (.drop [77] (.seq (.reg [.bsl 78 1 [],
 .asg 11 78])
 (.drop [78] (.seq (.seq (.reg [.fadr 79 1 10,
 .l 80 79,
 .len 81 80,
 .mov 82 (.i 0)])
 (.drop [79] (.block 2 (.loop Qz))))
 (.drop [80,81,82,83,93] (.frz [11] (.dreg [(.mov 94 8,[108]),
 (.fadr 95 0 3,[94]),
 (.l 96 95,[94]),
 (.fadr 97 1 3,[94,95,96]),
 (.l 98 97,[94,95,96]),
 (.fadr 99 0 10,[94,95,96,97,98]),
 (.l 100 99,[94,95,96,97,98]),
 (.iad 101 2 98 100,[94,95,96]),
 (.ld 102 2 true 101,[94,95,96]),
 (.mov 103 11,[94,95,96,97,98,99,100,101,102]),
 (.mov 104 1,[94,95,96,97,98,99,100,101,102,103]),
 (.iad 105 1 104 (.i 0),[94,95,96,97,98,99,100,101,102,103]),
 (.l 106 105,[94,95,96,97,98,99,100,101,102,103]),
 (.len 107 106,[94,95,96,97,98,99,100,101,102,103]),
 (.call 108 Gi [(96,false),(102,false),(103,false),(107,false)],[94]),
 (.bsl 109 1 [108],[94])]
 [.app 110 1 94 109,
 .asg 8 110])))))))))))))
 (.drop [10,9,11,94,95,96,97,98,99,100,101,102,103,104,105,106,107,108,109,110] (.reg [.bin 111 .add 17 (.i 1),
 .asg 17 111])))))
def Afj:ACode:=
 (.seq (.reg [.box 3 0,
 .asg 6 (.c (.nilsl 1)),
 .asg 7 (.c (.bool false))])
 (.seq (.reg [.bsl 14 1 [],
 .asg 8 14])
 (.drop [14] (.seq (.seq (.reg [.mov 15 2,
 .len 16 15,
 .mov 17 (.i 0)])
 (.block 0 (.loop Q0)))
 (.drop [15,16,17,18,111] (.seq (.reg [.mov 112 8,
 .asg 6 112,
 .asg 7 (.c (.bool true))])
 .ret))))))
abbrev Agd:List RS:=[.t 6,.t 7]
theorem Afh:Bj Try.prog Np 113 Afj Agd=true:=by kernel_rfl
def O9:ACode:=
 (.seq (.reg [.bin 22 .lss 21 20])
 (.seq (.cond 22 .skip
 (.exit 0))
 (.seq (.block 1 (.seq (.reg [.iad 23 1 19 21,
 .l 24 23,
 .asg 9 24])
 (.drop [23,24] (.reg [.mov 25 7,
 .mov 26 9,
 .call 27 L7 [(26,false)],
 un (.mup 25 27 (.c (.bool true)) false)]))))
 (.drop [9,25,26,27] (.reg [.bin 28 .add 21 (.i 1),
 .asg 21 28])))))
def Pw:ACode:=
 (.seq (.reg [.bin 32 .lss 31 30])
 (.seq (.cond 32 .skip
 (.exit 2))
 (.seq (.block 3 (.seq (.reg [.iad 33 1 29 31,
 .l 34 33,
 .asg 11 34])
 (.drop [33,34] (.seq (.reg [.mov 35 7,
 .mov 36 11,
 .call 37 L7 [(36,false)],
 un (.mlk 38 35 37 (.bool false) false false),
 .un 39 .not 38])
 (.drop [35,36,37,38] (.cond 39 (.seq (.reg [.asg 6 (.c (.bool false))])
 .ret)
 .skip))))))
 (.drop [11,39] (.reg [.bin 40 .add 31 (.i 1),
 .asg 31 40])))))
def Qp:ACode:=
 (.seq (.reg [.bin 68 .lss 67 66])
 (.seq (.cond 68 .skip
 (.exit 8))
 (.seq (.block 9 (.seq (.reg [.mov 69 67,
 .iad 70 1 65 67,
 .l 71 70,
 .asg 16 69,
 .asg 17 71])
 (.drop [69,70,71] (.reg [.mov 72 14,
 .mov 73 16,
 .mov 74 2,
 .mov 75 17,
 .iad 76 1 74 75,
 .l 77 76,
 .iad 78 1 72 73,
 .st 1 78 77]))))
 (.drop [16,17,72,73,74,75,76,77,78] (.reg [.bin 79 .add 67 (.i 1),
 .asg 67 79])))))
def Pl:ACode:=
 (.seq (.seq (.reg [.mov 51 15,
 .mov 52 2,
 .len 53 52,
 .fadr 54 0 13,
 .l 55 54,
 .call 56 Mb [(53,false),(55,false)],
 .bin 57 .lss 51 56])
 (.drop (R 51 6) (.cond 57 .skip
 (.exit 6))))
 (.drop [57] (.seq (.block 7 (.seq (.seq (.reg [.mov 60 15,
 .fadr 61 0 13,
 .l 62 61,
 .mov 63 2,
 .len 64 63,
 .call 65 M6 [(60,false),(62,false),(64,false)],
 .len 66 65,
 .mov 67 (.i 0)])
 (.drop (R 60 5) (.block 8 (.loop Qp))))
 (.drop [65,66,67,68,79] (.seq (.dreg [(.mov 80 7,[]),
 (.fadr 81 0 3,[80]),
 (.l 82 81,[80]),
 (.ld 83 2 true 13,[80,81,82]),
 (.mov 84 14,[80,81,82,83]),
 (.mov 85 1,[80,81,82,83,84]),
 (.iad 86 1 85 (.i 0),[80,81,82,83,84]),
 (.l 87 86,[80,81,82,83,84]),
 (.len 88 87,[80,81,82,83,84]),
 (.call 89 Gi [(82,false),(83,false),(84,false),(88,false)],[80]),
 (.call 90 L7 [(89,false)],[80])]
 [un (.mlk 91 80 90 (.bool false) false false),
 .un 92 .not 91])
 (.drop (R 80 12) (.cond 92 (.seq (.reg [.asg 6 (.c (.bool false))])
 .ret)
 .skip))))))
 (.drop [92] (.reg [.mov 58 15,
 .bin 59 .add 58 (.i 1),
 .asg 15 59])))))
def Qq:ACode:=
 (.seq (.reg [.bin 45 .lss 44 43])
 (.seq (.cond 45 .skip
 (.exit 4))
 (.seq (.block 5 (.seq (.reg [.iad 46 2 42 44,
 .ld 47 2 true 46,
 .alc 13 (.agg [.int .i64 0,.nilsl 1]),
 .st 2 13 47])
 (.drop [46,47] (.seq (.reg [.fadr 48 0 13,
 .l 49 48,
 un (.mk 50 1 (.nilsl 1) 49),
 .asg 14 50])
 (.drop [48,49,50] (.seq (.reg [.asg 15 (.i 0)])
 (.frz [100014] (.block 6 (.loop Pl)))))))))
 (.drop [13,14,15,58,59] (.reg [.bin 93 .add 44 (.i 1),
 .asg 44 93])))))
def Ad0:ACode:=
 (.seq (.reg [.box 3 0,
 .asg 6 (.c (.bool false))])
 (.seq (.reg [un (.mkm 18 false),
 .asg 7 18])
 (.drop [18] (.seq (.seq (.reg [.mov 19 2,
 .len 20 19,
 .mov 21 (.i 0)])
 (.block 0 (.loop O9)))
 (.drop [19,20,21,22,28] (.seq (.seq (.reg [.mov 29 1,
 .len 30 29,
 .mov 31 (.i 0)])
 (.block 2 (.loop Pw)))
 (.drop [29,30,31,32,40] (.seq (.seq (.reg [.fadr 41 1 3,
 .l 42 41,
 .len 43 42,
 .mov 44 (.i 0)])
 (.drop [41] (.block 4 (.loop Qq))))
 (.drop [42,43,44,45,93] (.seq (.reg [.asg 6 (.c (.bool true))])
 .ret))))))))))
abbrev Ael:List RS:=[.t 6]
theorem Aeg:Bj Try.prog Mx 94 Ad0 Ael=true:=by kernel_rfl
def Ag9:ACode:=
 (.seq (.reg [.asg 4 (.i 0)])
 (.seq (.seq (.reg [.mov 6 1,
 .bin 7 .leq 6 (.i 1)])
 (.drop [6] (.cond 7 (.seq (.reg [.asg 4 (.i 0)])
 .ret)
 .skip)))
 (.drop [7] (.seq (.reg [.mov 8 0,
 .call 9 K7 [(8,true)],
 .asg 5 9])
 (.drop [8,9] (.seq (.seq (.reg [.mov 10 1,
 .bin 11 .gtr 10 (.i 200)])
 (.drop [10] (.cond 11 (.reg [.mov 12 5,
 .bin 13 .mul 12 (.i 256),
 .mov 14 0,
 .call 15 K7 [(14,true)],
 .bin 16 .add 13 15,
 .asg 5 16])
 .skip)))
 (.drop (R 11 6) (.seq (.reg [.mov 17 5,
 .mov 18 1,
 .bin 19 .rem 17 18,
 .asg 4 19])
 .ret))))))))
abbrev Aif:List RS:=[.t 4]
theorem Ahc:Bj Try.prog Ar 20 Ag9 Aif=true:=by kernel_rfl
def Uo:ACode:=
 (.seq (.seq (.reg [.mov 6 5,
 .mov 7 0,
 .len 8 7,
 .bin 9 .lss 6 8])
 (.drop [6,7,8] (.cond 9 .skip
 (.exit 0))))
 (.drop [9] (.seq (.block 1 (.seq (.reg [.mov 12 0,
 .mov 13 5,
 .iad 14 1 12 13,
 .l 15 14,
 .mov 16 1,
 .call 17 Xg [(15,false),(16,false)]])
 (.drop (R 12 5) (.cond 17 (.seq (.reg [.mov 18 5,
 .asg 4 18])
 .ret)
 .skip))))
 (.drop [17] (.reg [.mov 10 5,
 .bin 11 .add 10 (.i 1),
 .asg 5 11])))))
def Amc:ACode:=
 (.seq (.reg [.asg 4 (.i 0)])
 (.seq (.seq (.reg [.asg 5 (.i 0)])
 (.block 0 (.loop Uo)))
 (.drop [5,10,11] (.seq (.reg [.asg 4 (.i (-1))])
 .ret))))
abbrev Amf:List RS:=[.t 4]
theorem Anh:Bj Try.prog Ev 19 Amc Amf=true:=by kernel_rfl
def Aoo:ACode:=
 (.seq (.reg [.alc 2 (.agg [.int .i64 0,.nilsl 2])])
 (.seq (.seq (.reg [.mov 3 0])
 (.block 0 (.seq (.reg [.bin 5 .eql 3 (.i 0),
 .asg 4 5])
 (.drop [5] (.cond 4 (.seq (.reg [⟨none,.call 6 Bs [((.c (.str ⟨#[48,48,48,49]⟩)),false)]⟩,
 .bsl 7 2 [6],
 .bld 8 [.int .i64 0,.nilsl 2] [(0,1,(.i 2)),(1,1,7)],
 .st 2 2 8])
 .ret)
 (.seq (.reg [.bin 10 .eql 3 (.i 1),
 .asg 9 10])
 (.drop [10] (.cond 9 (.seq (.reg [⟨none,.call 11 Bs [((.c (.str ⟨#[48,48,48,49]⟩)),false)]⟩,
 ⟨none,.call 12 Bs [((.c (.str ⟨#[48,49,49,49]⟩)),false)]⟩,
 .bsl 13 2 [11,12],
 .bld 14 [.int .i64 0,.nilsl 2] [(0,1,(.i 2)),(1,1,13)],
 .st 2 2 14])
 .ret)
 (.seq (.reg [.bin 16 .eql 3 (.i 2),
 .asg 15 16])
 (.drop [16] (.cond 15 (.seq (.reg [⟨none,.call 17 Bs [((.c (.str ⟨#[48,48,48,49]⟩)),false)]⟩,
 ⟨none,.call 18 Bs [((.c (.str ⟨#[48,49,49,49]⟩)),false)]⟩,
 .bsl 19 1 [(.i 1),(.i 0)],
 .bld 20 [.int .i64 0,.nilsl 1] [(0,1,(.i 1)),(1,1,19)],
 .bsl 21 2 [17,18,20],
 .bld 22 [.int .i64 0,.nilsl 2] [(0,1,(.i 2)),(1,1,21)],
 .st 2 2 22])
 .ret)
 (.seq (.reg [.bin 24 .eql 3 (.i 3),
 .asg 23 24])
 (.drop [24] (.cond 23 (.seq (.reg [.call 25 Nn [((.i 2),false)],
 .bsl 26 2 [25],
 .bld 27 [.int .i64 0,.nilsl 2] [(0,1,(.i 2)),(1,1,26)],
 .st 2 2 27])
 .ret)
 (.seq (.reg [.bin 29 .eql 3 (.i 4),
 .asg 28 29])
 (.drop [29] (.cond 28 (.seq (.reg [⟨none,.call 30 Bs [((.c (.str ⟨#[48,49,50,49,50,48,50,48,49]⟩)),false)]⟩,
 .bsl 31 2 [30],
 .bld 32 [.int .i64 0,.nilsl 2] [(0,1,(.i 3)),(1,1,31)],
 .st 2 2 32])
 .ret)
 (.seq (.reg [.bin 34 .eql 3 (.i 5),
 .asg 33 34])
 (.drop [34] (.cond 33 (.seq (.reg [⟨none,.call 35 Bs [((.c (.str ⟨#[48,49,48,49,49,50,48,50,50]⟩)),false)]⟩,
 .bsl 36 2 [35],
 .bld 37 [.int .i64 0,.nilsl 2] [(0,1,(.i 3)),(1,1,36)],
 .st 2 2 37])
 .ret)
 (.seq (.reg [.bin 39 .eql 3 (.i 6),
 .asg 38 39])
 (.drop [39] (.cond 38 (.seq (.reg [⟨none,.call 40 Bs [((.c (.str ⟨#[48,49,50,51,49,48,51,50,50,51,48,49,51,50,49,48]⟩)),false)]⟩,
 .bsl 41 2 [40],
 .bld 42 [.int .i64 0,.nilsl 2] [(0,1,(.i 4)),(1,1,41)],
 .st 2 2 42])
 .ret)
 (.seq (.reg [.bin 44 .eql 3 (.i 7),
 .asg 43 44])
 (.drop [44] (.cond 43 (.seq (.reg [⟨none,.call 45 Bs [((.c (.str ⟨#[48,48,48,48,49,49,48,49,50]⟩)),false)]⟩,
 ⟨none,.call 46 Bs [((.c (.str ⟨#[48,49,50,49,49,50,50,50,50]⟩)),false)]⟩,
 .bsl 47 2 [45,46],
 .bld 48 [.int .i64 0,.nilsl 2] [(0,1,(.i 3)),(1,1,47)],
 .st 2 2 48])
 .ret)
 (.seq (.reg [.bin 50 .eql 3 (.i 8),
 .asg 49 50])
 (.drop [50] (.cond 49 (.seq (.reg [.bsl 51 1 [(.i 1),(.i 2),(.i 3),(.i 0)],
 .bld 52 [.int .i64 0,.nilsl 1] [(0,1,(.i 1)),(1,1,51)],
 .bsl 53 2 [52],
 .bld 54 [.int .i64 0,.nilsl 2] [(0,1,(.i 4)),(1,1,53)],
 .st 2 2 54])
 .ret)
 (.seq (.reg [.bin 56 .eql 3 (.i 9),
 .asg 55 56])
 (.drop [56] (.cond 55 (.seq (.reg [.bsl 57 1 [(.i 0),(.i 0),(.i 0),(.i 1),(.i 0),(.i 1),(.i 1),(.i 1)],
 .bld 58 [.int .i64 0,.nilsl 1] [(0,1,(.i 3)),(1,1,57)],
 .bsl 59 2 [58],
 .bld 60 [.int .i64 0,.nilsl 2] [(0,1,(.i 2)),(1,1,59)],
 .st 2 2 60])
 .ret)
 (.seq (.reg [.bin 62 .eql 3 (.i 10),
 .asg 61 62])
 (.drop [62] (.cond 61 (.seq (.reg [⟨none,.call 63 Bs [((.c (.str ⟨#[48,48,48,49,49,49,50,50,50]⟩)),false)]⟩,
 .bsl 64 2 [63],
 .bld 65 [.int .i64 0,.nilsl 2] [(0,1,(.i 3)),(1,1,64)],
 .st 2 2 65])
 .ret)
 (.seq (.reg [.bin 67 .eql 3 (.i 11),
 .asg 66 67])
 (.drop [67] (.cond 66 (.seq (.reg [⟨none,.call 68 Bs [((.c (.str ⟨#[48,48,48,48,48,48,49,48,48,49,48,48,50,48,50,48,48,48,51,51,48,49,50,51,52]⟩)),false)]⟩,
 ⟨none,.call 69 Bs [((.c (.str ⟨#[48,49,50,51,52,49,49,52,52,52,50,52,50,52,52,51,52,52,51,52,52,52,52,52,52]⟩)),false)]⟩,
 .bsl 70 2 [68,69],
 .bld 71 [.int .i64 0,.nilsl 2] [(0,1,(.i 5)),(1,1,70)],
 .st 2 2 71])
 .ret)
 (.seq (.reg [.bin 73 .eql 3 (.i 12),
 .asg 72 73])
 (.drop [73] (.cond 72 (.seq (.reg [⟨none,.call 74 Bs [((.c (.str ⟨#[48,49,50,51,49,50,51,48,50,51,48,49,51,48,49,50]⟩)),false)]⟩,
 .bsl 75 2 [74],
 .bld 76 [.int .i64 0,.nilsl 2] [(0,1,(.i 4)),(1,1,75)],
 .st 2 2 76])
 .ret)
 (.seq (.reg [.bin 78 .eql 3 (.i 13),
 .asg 77 78])
 (.drop [78] (.cond 77 (.seq (.reg [.bsl 79 1 [(.i 0),(.i 0),(.i 1)],
 .bld 80 [.int .i64 0,.nilsl 1] [(0,1,(.i 1)),(1,1,79)],
 .bsl 81 1 [(.i 2)],
 .bld 82 [.int .i64 0,.nilsl 1] [(0,1,(.i 0)),(1,1,81)],
 .bsl 83 2 [80,82],
 .bld 84 [.int .i64 0,.nilsl 2] [(0,1,(.i 3)),(1,1,83)],
 .st 2 2 84])
 .ret)
 (.seq (.reg [.bin 86 .eql 3 (.i 14),
 .asg 85 86])
 (.drop [86] (.cond 85 (.seq (.reg [⟨none,.call 87 Bs [((.c (.str ⟨#[48]⟩)),false)]⟩,
 .bsl 88 2 [87],
 .bld 89 [.int .i64 0,.nilsl 2] [(0,1,(.i 1)),(1,1,88)],
 .st 2 2 89])
 .ret)
 (.seq (.reg [.bin 91 .eql 3 (.i 15),
 .asg 90 91])
 (.drop [91] (.cond 90 (.seq (.reg [.call 92 Nn [((.i 3),false)],
 .bsl 93 2 [92],
 .bld 94 [.int .i64 0,.nilsl 2] [(0,1,(.i 3)),(1,1,93)],
 .st 2 2 94])
 .ret)
 .skip))))))))))))))))))))))))))))))))))))))))))))))))))
 (.drop [3,4,9,15,23,28,33,38,43,49,55,61,66,72,77,85,90] (.seq (.reg [.bld 95 [.int .i64 0,.nilsl 2] [(0,1,(.i 2))],
 .st 2 2 95])
 .ret))))
abbrev Apg:List RS:=[.c 2 2 true]
theorem Apb:Bj Try.prog Pb 96 Aoo Apg=true:=by kernel_rfl
def So:ACode:=
 (.seq (.reg [.bin 16 .lss 15 14])
 (.seq (.cond 16 .skip
 (.exit 0))
 (.seq (.block 1 (.seq (.reg [.mov 17 15,
 .asg 8 17])
 (.drop [17] (.reg [.mov 18 7,
 .mov 19 8,
 .mov 20 8,
 .mov 21 1,
 .mov 22 0,
 .call 23 M6 [(20,false),(21,false),(22,false)],
 .mov 24 2,
 .iad 25 1 23 24,
 .l 26 25,
 .iad 27 1 18 19,
 .st 1 27 26]))))
 (.drop [8,18,19,20,21,22,23,24,25,26,27] (.reg [.bin 28 .add 15 (.i 1),
 .asg 15 28])))))
def Aih:ACode:=
 (.seq (.reg [.asg 6 (.c (.nilsl 1))])
 (.seq (.reg [.mov 9 0,
 .mov 10 1,
 .call 11 Mb [(9,false),(10,false)],
 un (.mk 12 1 (.int .i64 0) 11),
 .asg 7 12])
 (.drop [9,10,11,12] (.seq (.seq (.reg [.mov 13 7,
 .len 14 13,
 .mov 15 (.i 0)])
 (.drop [13] (.block 0 (.loop So))))
 (.drop [14,15,16,28] (.seq (.reg [.mov 29 7,
 .asg 6 29])
 .ret))))))
abbrev Aio:List RS:=[.t 6]
theorem Aje:Bj Try.prog Qt 30 Aih Aio=true:=by kernel_rfl
def Tz:ACode:=
 (.seq (.reg [.bin 10 .lss 9 8])
 (.seq (.cond 10 .skip
 (.exit 0))
 (.seq (.block 1 (.seq (.reg [.mov 11 9,
 .iad 12 1 7 9,
 .l 13 12,
 .asg 5 11,
 .asg 6 13])
 (.drop [11,12,13] (.seq (.reg [.mov 14 1,
 .mov 15 6,
 .call 16 Te [(14,false),(15,false)]])
 (.drop [14,15] (.cond 16 (.seq (.reg [.mov 17 5,
 .asg 4 17])
 .ret)
 .skip))))))
 (.drop [5,6,16] (.reg [.bin 18 .add 9 (.i 1),
 .asg 9 18])))))
def Aj8:ACode:=
 (.seq (.reg [.asg 4 (.i 0)])
 (.seq (.seq (.reg [.mov 7 0,
 .len 8 7,
 .mov 9 (.i 0)])
 (.block 0 (.loop Tz)))
 (.drop [7,8,9,10,18] (.seq (.reg [.asg 4 (.i (-1))])
 .ret))))
abbrev Ako:List RS:=[.t 4]
theorem Aki:Bj Try.prog I5 19 Aj8 Ako=true:=by kernel_rfl
def Oj:ACode:=
 (.seq (.seq (.reg [.mov 10 8,
 .mov 11 0,
 .mov 12 1,
 .call 13 Jw [(11,false),(12,false)],
 .bin 14 .lss 10 13])
 (.drop [10,11,12,13] (.cond 14 .skip
 (.exit 0))))
 (.drop [14] (.seq (.block 1 (.reg [.mov 17 7,
 .mov 18 0,
 .mov 19 1,
 .mov 20 8,
 .call 21 M4 [(18,false),(19,false),(20,false)],
 .mov 22 2,
 .iad 23 1 21 22,
 .l 24 23,
 .bsl 25 1 [24],
 .app 26 1 17 25,
 .asg 7 26]))
 (.drop (R 17 10) (.reg [.mov 15 8,
 .bin 16 .add 15 (.i 1),
 .asg 8 16])))))
def Acm:ACode:=
 (.seq (.reg [.asg 6 (.c (.nilsl 1))])
 (.seq (.reg [.bsl 9 1 [],
 .asg 7 9])
 (.drop [9] (.seq (.seq (.reg [.asg 8 (.i 0)])
 (.block 0 (.loop Oj)))
 (.drop [8,15,16] (.seq (.reg [.mov 27 7,
 .asg 6 27])
 .ret))))))
abbrev Ab8:List RS:=[.t 6]
theorem Acc:Bj Try.prog Lz 28 Acm Ab8=true:=by kernel_rfl
def Sw:ACode:=
 (.seq (.seq (.reg [.mov 6 5,
 .mov 7 1,
 .len 8 7,
 .bin 9 .lss 6 8])
 (.drop [6,7,8] (.cond 9 .skip
 (.exit 0))))
 (.drop [9] (.seq (.block 1 (.seq (.reg [.mov 12 1,
 .mov 13 5,
 .iad 14 1 12 13,
 .l 15 14,
 .mov 16 0,
 .bin 17 .sub 16 (.i 1),
 .call 18 Fv [(15,false),((.i 0),false),(17,false)],
 .un 19 .not 18])
 (.drop (R 12 7) (.cond 19 (.seq (.reg [.asg 4 (.c (.bool false))])
 .ret)
 .skip))))
 (.drop [19] (.reg [.mov 10 5,
 .bin 11 .add 10 (.i 1),
 .asg 5 11])))))
def Aid:ACode:=
 (.seq (.reg [.asg 4 (.c (.bool false))])
 (.seq (.seq (.reg [.asg 5 (.i 0)])
 (.block 0 (.loop Sw)))
 (.drop [5,10,11] (.seq (.reg [.asg 4 (.c (.bool true))])
 .ret))))
abbrev Ai7:List RS:=[.t 4]
theorem Ai3:Bj Try.prog Ig 20 Aid Ai7=true:=by kernel_rfl
def Av6:ACode:=
 (.seq (.reg [.box 2 0,
 .asg 4 (.c (.bool false))])
 (.seq (.dreg [(.fadr 5 0 2,[]),
 (.l 6 5,[]),
 (.bin 7 .geq 6 (.i 0),[]),
 (.asg 8 7,[]),
 (.y 8 (.fadr 9 0 2),[7]),
 (.y 8 (.ld 10 1 false 9),[7]),
 (.y 8 (.bin 11 .leq 10 (.i 3)),[7]),
 (.pick 12 8 11 (.c (.bool false)),[7]),
 (.asg 13 12,[7]),
 (.y 13 (.fadr 14 1 2),[7,12]),
 (.y 13 (.ld 15 1 false 14),[7,12]),
 (.y 13 (.len 16 15),[7,12]),
 (.y 13 (.mov 17 1),[14,15,16,7,12]),
 (.y 13 (.fadr 18 0 2),[14,15,16,17,7,12]),
 (.y 13 (.ld 19 1 false 18),[14,15,16,17,7,12]),
 (.y 13 (.call 20 Mb [(17,false),(19,false)]),[14,15,16,7,12]),
 (.y 13 (.bin 21 .eql 16 20),[7,12]),
 (.pick 22 13 21 (.c (.bool false)),[7,12]),
 (.asg 23 22,[7,12]),
 (.y 23 (.fadr 24 1 2),[7,12,22]),
 (.y 23 (.ld 25 1 false 24),[7,12,22]),
 (.y 23 (.mov 26 1),[24,25,7,12,22])]
 [.y 23 (.call 27 Iq [(25,false),(26,false)]),
 .pick 28 23 27 (.c (.bool false)),
 .asg 4 28])
 .ret))
abbrev Avo:List RS:=[.t 4]
theorem Awr:Bj Try.prog Aco 29 Av6 Avo=true:=by kernel_rfl
def Aps:ACode:=
 (.seq (.reg [.asg 2 (.c (.bool false))])
 (.seq (.reg [.mov 3 0,
 .call 4 Iq [(3,false),((.i 2),false)],
 .asg 2 4])
 .ret))
abbrev Aoh:List RS:=[.t 2]
theorem Aov:Bj Try.prog P1 5 Aps Aoh=true:=by kernel_rfl
def Aop:ACode:=
 (.seq (.dreg [(.fadr 6 0 3,[]),
 (.l 7 6,[]),
 (.call 8 Fv [(7,false),((.i 0),false),((.i 3),false)],[]),
 (.un 9 .not 8,[]),
 (.asg 10 9,[]),
 (.n 10 (.fadr 11 1 3),[9]),
 (.n 10 (.ld 12 1 false 11),[9]),
 (.n 10 (.len 13 12),[9]),
 (.n 10 (.mov 14 0),[11,12,13,9]),
 (.n 10 (.fadr 15 0 3),[11,12,13,14,9]),
 (.n 10 (.ld 16 1 false 15),[11,12,13,14,9]),
 (.n 10 (.call 17 Jw [(14,false),(16,false)]),[11,12,13,9])]
 [.n 10 (.bin 18 .neq 13 17),
 .pick 19 10 (.c (.bool true)) 18])
 (.drop (R 6 13) (.cond 19 (.seq (.reg [.asg 4 (.c (.bool false))])
 .ret)
 .skip)))
def Acj:ACode:=
 (.seq (.seq (.reg [.mov 20 5,
 .fadr 21 1 3,
 .l 22 21,
 .len 23 22,
 .bin 24 .lss 20 23])
 (.drop [20,21,22,23] (.cond 24 .skip
 (.exit 0))))
 (.drop [24] (.seq (.block 1 (.seq (.reg [.fadr 27 1 3,
 .l 28 27,
 .mov 29 5,
 .iad 30 1 28 29,
 .l 31 30,
 .mov 32 0,
 .bin 33 .sub 32 (.i 1),
 .call 34 Fv [(31,false),((.i 0),false),(33,false)],
 .un 35 .not 34])
 (.drop (R 27 8) (.cond 35 (.seq (.reg [.asg 4 (.c (.bool false))])
 .ret)
 .skip))))
 (.drop [35] (.reg [.mov 25 5,
 .bin 26 .add 25 (.i 1),
 .asg 5 26])))))
def Avs:ACode:=
 (.seq (.reg [.box 3 1,
 .asg 4 (.c (.bool false))])
 (.seq (.cut Aop)
 (.drop [19] (.seq (.seq (.reg [.asg 5 (.i 0)])
 (.block 0 (.loop Acj)))
 (.drop [5,25,26] (.seq (.reg [.asg 4 (.c (.bool true))])
 .ret))))))
abbrev Au8:List RS:=[.t 4]
theorem Aw5:Bj Try.prog Ace 36 Avs Au8=true:=by kernel_rfl
def Afv:ACode:=
 (.seq (.reg [.fadr 26 1 10,
 .l 27 26,
 .len 28 27,
 .fadr 29 0 6,
 .l 30 29,
 .bin 31 .eql 28 30])
 (.drop (R 26 5) (.cond 31 (.reg [.mov 32 3,
 .fadr 33 1 10,
 .l 34 33,
 .call 35 I5 [(32,false),(34,false)],
 .asg 12 35])
 .skip)))
def Afo:ACode:=
 (.seq (.reg [.mov 56 12,
 .bin 57 .geq 56 (.i 0)])
 (.drop [56] (.cond 57 (.reg [.mov 58 1,
 .mov 59 12,
 .mov 60 0,
 .bin 61 .mul 59 60,
 .mov 62 0,
 .bin 63 .mul 61 62,
 .mov 64 13,
 .bin 65 .add 63 64,
 .iad 66 1 58 65,
 .l 67 66,
 .asg 14 67])
 .skip)))
def U7:ACode:=
 (.seq (.seq (.reg [.mov 36 13,
 .mov 37 0,
 .mov 38 0,
 .bin 39 .mul 37 38,
 .bin 40 .lss 36 39])
 (.drop [36,37,38,39] (.cond 40 .skip
 (.exit 2))))
 (.drop [40] (.seq (.block 3 (.seq (.dreg [(.mov 43 13,[]),
 (.mov 44 0,[43]),
 (.bin 45 .quo 43 44,[]),
 (.mov 46 13,[43,44,45]),
 (.mov 47 0,[43,44,45,46]),
 (.bin 48 .rem 46 47,[43,44,45]),
 (.bsl 49 1 [45,48],[]),
 (.fadr 50 1 10,[43,44,45,46,47,48,49,45,48]),
 (.l 51 50,[43,44,45,46,47,48,49,45,48]),
 (.iad 52 1 51 (.i 0),[43,44,45,46,47,48,49,45,48]),
 (.l 53 52,[43,44,45,46,47,48,49,45,48])]
 [.iad 54 1 49 53,
 .l 55 54,
 .asg 14 55])
 (.drop (R 43 13) (.seq (.cut Afo)
 (.drop (R 57 11) (.seq (.reg [.mov 68 1,
 .mov 69 11,
 .mov 70 0,
 .bin 71 .mul 69 70,
 .mov 72 0,
 .bin 73 .mul 71 72,
 .mov 74 13,
 .bin 75 .add 73 74,
 .iad 76 1 68 75,
 .l 77 76,
 .mov 78 14,
 .bin 79 .neq 77 78])
 (.drop (R 68 11) (.cond 79 (.seq (.reg [.asg 8 (.c (.bool false))])
 .ret)
 .skip))))))))
 (.drop [14,79] (.reg [.mov 41 13,
 .bin 42 .add 41 (.i 1),
 .asg 13 42])))))
def Vz:ACode:=
 (.seq (.reg [.bin 19 .lss 18 17])
 (.seq (.cond 19 .skip
 (.exit 0))
 (.seq (.block 1 (.seq (.reg [.iad 20 2 16 18,
 .ld 21 2 true 20,
 .alc 10 (.agg [.nilsl 1,.nilsl 1]),
 .st 2 10 21])
 (.drop [20,21] (.seq (.reg [.mov 22 3,
 .fadr 23 0 10,
 .l 24 23,
 .call 25 I5 [(22,false),(24,false)],
 .asg 11 25,
 .asg 12 (.i (-1))])
 (.drop [22,23,24,25] (.seq (.cut Afv)
 (.drop (R 31 5) (.seq (.reg [.asg 13 (.i 0)])
 (.block 2 (.loop U7))))))))))
 (.drop [10,11,12,13,41,42] (.reg [.bin 80 .add 18 (.i 1),
 .asg 18 80])))))
def Am1:ACode:=
 (.seq (.reg [.box 6 2,
 .asg 8 (.c (.bool false))])
 (.seq (.seq (.reg [.fadr 15 1 6,
 .l 16 15,
 .len 17 16,
 .mov 18 (.i 0)])
 (.drop [15] (.block 0 (.loop Vz))))
 (.drop [16,17,18,19,80] (.seq (.reg [.asg 8 (.c (.bool true))])
 .ret))))
abbrev Ams:List RS:=[.t 8]
theorem Amd:Bj Try.prog Ki 81 Am1 Ams=true:=by kernel_rfl
def Aky:ACode:=
 (.seq (.reg [.asg 4 (.c (.bool false))])
 (.seq (.reg [.mov 5 0,
 .mov 6 1,
 .call 7 Ar [(5,true),(6,false)],
 .bin 8 .eql 7 (.i 0),
 .asg 4 8])
 .ret))
abbrev Akb:List RS:=[.t 4]
theorem Ajs:Bj Try.prog Cb 9 Aky Akb=true:=by kernel_rfl
def Ah4:ACode:=
 (.seq (.reg [.fadr 15 1 7,
 .l 16 15,
 .len 17 16,
 .bin 18 .neq 17 (.i 1),
 .asg 19 18,
 .n 19 (.fadr 20 1 7),
 .n 19 (.ld 21 1 false 20),
 .n 19 (.iad 22 1 21 (.i 0)),
 .n 19 (.ld 23 1 false 22),
 .n 19 (.mov 24 1),
 .n 19 (.len 25 24),
 .n 19 (.bin 26 .sub 25 (.i 1)),
 .n 19 (.call 27 Fv [(23,false),((.i 0),false),(26,false)]),
 .n 19 (.un 28 .not 27),
 .pick 29 19 (.c (.bool true)) 28])
 (.drop (R 15 14) (.cond 29 (.seq (.reg [.bsl 30 1 [],
 .asg 8 30,
 .asg 9 (.c (.bool false))])
 .ret)
 .skip)))
def Ait:ACode:=
 (.seq (.dreg [(.fadr 38 0 7,[]),
 (.l 39 38,[]),
 (.fadr 40 1 4,[38,39]),
 (.l 41 40,[38,39]),
 (.len 42 41,[38,39]),
 (.bin 43 .sub 42 (.i 1),[38,39]),
 (.call 44 Fv [(39,false),((.i 0),false),(43,false)],[]),
 (.un 45 .not 44,[]),
 (.asg 46 45,[]),
 (.n 46 (.fadr 47 1 7),[45]),
 (.n 46 (.ld 48 1 false 47),[45]),
 (.n 46 (.len 49 48),[45]),
 (.n 46 (.fadr 50 1 4),[47,48,49,45]),
 (.n 46 (.ld 51 1 false 50),[47,48,49,45]),
 (.n 46 (.fadr 52 0 7),[47,48,49,50,51,45]),
 (.n 46 (.ld 53 1 false 52),[47,48,49,50,51,45]),
 (.n 46 (.iad 54 2 51 53),[47,48,49,45]),
 (.n 46 (.fadr 55 0 54),[47,48,49,45]),
 (.n 46 (.ld 56 1 false 55),[47,48,49,45]),
 (.n 46 (.bin 57 .neq 49 56),[45]),
 (.pick 58 46 (.c (.bool true)) 57,[45]),
 (.asg 59 58,[45]),
 (.n 59 (.mov 60 2),[45,58]),
 (.n 59 (.len 61 60),[45,58]),
 (.n 59 (.fadr 62 1 7),[60,61,45,58]),
 (.n 59 (.ld 63 1 false 62),[60,61,45,58])]
 [.n 59 (.call 64 Ig [(61,false),(63,false)]),
 .n 59 (.un 65 .not 64),
 .pick 66 59 (.c (.bool true)) 65])
 (.drop (R 38 28) (.cond 66 (.seq (.reg [.bsl 67 1 [],
 .asg 8 67,
 .asg 9 (.c (.bool false))])
 .ret)
 .skip)))
def Wt:ACode:=
 (.seq (.seq (.reg [.mov 69 11,
 .fadr 70 1 7,
 .l 71 70,
 .len 72 71,
 .bin 73 .lss 69 72])
 (.drop [69,70,71,72] (.cond 73 .skip
 (.exit 0))))
 (.drop [73] (.seq (.block 1 (.reg [.mov 76 10,
 .mov 77 2,
 .fadr 78 1 7,
 .l 79 78,
 .mov 80 11,
 .iad 81 1 79 80,
 .l 82 81,
 .iad 83 1 77 82,
 .l 84 83,
 .bsl 85 1 [84],
 .app 86 1 76 85,
 .asg 10 86]))
 (.drop (R 76 11) (.reg [.mov 74 11,
 .bin 75 .add 74 (.i 1),
 .asg 11 75])))))
def An6:ACode:=
 (.seq (.reg [.box 4 0,
 .box 7 3,
 .asg 8 (.c (.nilsl 1)),
 .asg 9 (.c (.bool false))])
 (.seq (.seq (.reg [.fadr 12 0 7,
 .l 13 12,
 .bin 14 .eql 13 (.i (-1))])
 (.drop [12,13] (.cond 14 (.seq (.cut Ah4)
 (.drop [29] (.seq (.reg [.mov 31 1,
 .fadr 32 1 7,
 .l 33 32,
 .iad 34 1 33 (.i 0),
 .l 35 34,
 .iad 36 1 31 35,
 .l 37 36,
 .asg 8 37,
 .asg 9 (.c (.bool true))])
 .ret)))
 .skip)))
 (.drop [14] (.seq (.cut Ait)
 (.drop [66] (.seq (.reg [.bsl 68 1 [],
 .asg 10 68])
 (.drop [68] (.seq (.seq (.reg [.asg 11 (.i 0)])
 (.block 0 (.loop Wt)))
 (.drop [11,74,75] (.seq (.frz [10] (.dreg [(.fadr 87 0 4,[]),
 (.l 88 87,[]),
 (.fadr 89 1 4,[87,88]),
 (.l 90 89,[87,88]),
 (.fadr 91 0 7,[87,88,89,90]),
 (.l 92 91,[87,88,89,90]),
 (.iad 93 2 90 92,[87,88]),
 (.ld 94 2 true 93,[87,88]),
 (.mov 95 10,[87,88,89,90,91,92,93,94]),
 (.mov 96 1,[87,88,89,90,91,92,93,94,95]),
 (.iad 97 1 96 (.i 0),[87,88,89,90,91,92,93,94,95]),
 (.l 98 97,[87,88,89,90,91,92,93,94,95]),
 (.len 99 98,[87,88,89,90,91,92,93,94,95])]
 [.call 100 Ih [(88,false),(94,false),(95,false),(99,false)],
 .asg 8 100,
 .asg 9 (.c (.bool true))]))
 .ret))))))))))
abbrev Aos:List RS:=[.t 8,.t 9]
theorem Aok:Bj Try.prog Vo 101 An6 Aos=true:=by kernel_rfl
def Ag6:ACode:=
 (.seq (.reg [.fadr 69 1 6,
 .l 70 69,
 .mov 71 9,
 .iad 72 2 70 71,
 .fadr 73 1 72,
 .l 74 73,
 .len 75 74,
 .bin 76 .gtr 75 (.i 1)])
 (.drop (R 69 7) (.cond 76 (.reg [.mov 77 1,
 .mov 78 11,
 .mov 79 12,
 .mov 80 0,
 .bin 81 .mul 79 80,
 .bin 82 .add 78 81,
 .mov 83 13,
 .bin 84 .add 82 83,
 .iad 85 1 77 84,
 .l 86 85,
 .asg 14 86])
 .skip)))
def Uz:ACode:=
 (.seq (.seq (.reg [.mov 51 13,
 .mov 52 0,
 .bin 53 .lss 51 52])
 (.drop [51,52] (.cond 53 .skip
 (.exit 4))))
 (.drop [53] (.seq (.block 5 (.seq (.reg [.mov 56 12,
 .mov 57 13,
 .bsl 58 1 [56,57],
 .fadr 59 1 6,
 .l 60 59,
 .mov 61 9,
 .iad 62 2 60 61,
 .fadr 63 1 62,
 .l 64 63,
 .iad 65 1 64 (.i 0),
 .l 66 65,
 .iad 67 1 58 66,
 .l 68 67,
 .asg 14 68])
 (.drop (R 56 13) (.seq (.cut Ag6)
 (.drop (R 76 11) (.seq (.reg [.mov 87 1,
 .mov 88 10,
 .mov 89 12,
 .mov 90 0,
 .bin 91 .mul 89 90,
 .bin 92 .add 88 91,
 .mov 93 13,
 .bin 94 .add 92 93,
 .iad 95 1 87 94,
 .l 96 95,
 .mov 97 14,
 .bin 98 .neq 96 97])
 (.drop (R 87 11) (.cond 98 (.seq (.reg [.asg 8 (.c (.bool false))])
 .ret)
 .skip))))))))
 (.drop [14,98] (.reg [.mov 54 13,
 .bin 55 .add 54 (.i 1),
 .asg 13 55])))))
def Vx:ACode:=
 (.seq (.seq (.reg [.mov 46 12,
 .mov 47 0,
 .bin 48 .lss 46 47])
 (.drop [46,47] (.cond 48 .skip
 (.exit 2))))
 (.drop [48] (.seq (.block 3 (.seq (.reg [.asg 13 (.i 0)])
 (.block 4 (.loop Uz))))
 (.drop [13,54,55] (.reg [.mov 49 12,
 .bin 50 .add 49 (.i 1),
 .asg 12 50])))))
def Uq:ACode:=
 (.seq (.seq (.reg [.mov 15 9,
 .fadr 16 1 6,
 .l 17 16,
 .len 18 17,
 .bin 19 .lss 15 18])
 (.drop [15,16,17,18] (.cond 19 .skip
 (.exit 0))))
 (.drop [19] (.seq (.block 1 (.seq (.reg [.mov 22 3,
 .fadr 23 1 6,
 .l 24 23,
 .mov 25 9,
 .iad 26 2 24 25,
 .fadr 27 0 26,
 .l 28 27,
 .call 29 Ev [(22,false),(28,false)],
 .mov 30 0,
 .bin 31 .mul 29 30,
 .mov 32 0,
 .bin 33 .mul 31 32,
 .asg 10 33])
 (.drop (R 22 12) (.seq (.reg [.mov 34 3,
 .fadr 35 1 6,
 .l 36 35,
 .mov 37 9,
 .iad 38 2 36 37,
 .fadr 39 1 38,
 .l 40 39,
 .call 41 Ev [(34,false),(40,false)],
 .mov 42 0,
 .bin 43 .mul 41 42,
 .mov 44 0,
 .bin 45 .mul 43 44,
 .asg 11 45])
 (.drop (R 34 12) (.seq (.reg [.asg 12 (.i 0)])
 (.block 2 (.loop Vx))))))))
 (.drop [10,11,12,49,50] (.reg [.mov 20 9,
 .bin 21 .add 20 (.i 1),
 .asg 9 21])))))
def Al1:ACode:=
 (.seq (.reg [.box 6 2,
 .asg 8 (.c (.bool false))])
 (.seq (.seq (.reg [.asg 9 (.i 0)])
 (.block 0 (.loop Uq)))
 (.drop [9,20,21] (.seq (.reg [.asg 8 (.c (.bool true))])
 .ret))))
abbrev Amq:List RS:=[.t 8]
theorem Alz:Bj Try.prog Kh 99 Al1 Amq=true:=by kernel_rfl
def Abp:ACode:=
 (.seq (.reg [.mov 13 3,
 .fadr 14 1 1,
 .l 15 14,
 .mov 16 4,
 .iad 17 2 15 16,
 .fadr 18 0 17,
 .l 19 18,
 .call 20 Ev [(13,false),(19,false)],
 .bin 21 .lss 20 (.i 0)])
 (.drop (R 13 8) (.cond 21 (.reg [.mov 22 3,
 .fadr 23 1 1,
 .l 24 23,
 .mov 25 4,
 .iad 26 2 24 25,
 .fadr 27 0 26,
 .l 28 27,
 .call 29 Jz [(28,false)],
 .bsl 30 1 [29],
 .app 31 1 22 30,
 .asg 3 31])
 .skip)))
def Abf:ACode:=
 (.reg [.fadr 32 1 1,
 .l 33 32,
 .mov 34 4,
 .iad 35 2 33 34,
 .fadr 36 1 35,
 .l 37 36,
 .len 38 37,
 .bin 39 .gtr 38 (.i 1),
 .asg 40 39,
 .y 40 (.mov 41 3),
 .y 40 (.fadr 42 1 1),
 .y 40 (.ld 43 1 false 42),
 .y 40 (.mov 44 4),
 .y 40 (.iad 45 2 43 44),
 .y 40 (.fadr 46 1 45),
 .y 40 (.ld 47 1 false 46),
 .y 40 (.call 48 Ev [(41,false),(47,false)]),
 .y 40 (.bin 49 .lss 48 (.i 0)),
 .pick 50 40 49 (.c (.bool false))])
def Q5:ACode:=
 (.seq (.seq (.reg [.mov 6 4,
 .fadr 7 1 1,
 .l 8 7,
 .len 9 8,
 .bin 10 .lss 6 9])
 (.drop [6,7,8,9] (.cond 10 .skip
 (.exit 0))))
 (.drop [10] (.seq (.block 1 (.seq (.cut Abp)
 (.drop (R 21 11) (.seq (.cut Abf)
 (.drop (R 32 18) (.cond 50 (.reg [.mov 51 3,
 .fadr 52 1 1,
 .l 53 52,
 .mov 54 4,
 .iad 55 2 53 54,
 .fadr 56 1 55,
 .l 57 56,
 .call 58 Jz [(57,false)],
 .bsl 59 1 [58],
 .app 60 1 51 59,
 .asg 3 60])
 .skip))))))
 (.drop (R 50 11) (.reg [.mov 11 4,
 .bin 12 .add 11 (.i 1),
 .asg 4 12])))))
def Agn:ACode:=
 (.seq (.reg [.box 1 0,
 .asg 2 (.c (.nilsl 1))])
 (.seq (.reg [.bsl 5 1 [],
 .asg 3 5])
 (.drop [5] (.seq (.seq (.reg [.asg 4 (.i 0)])
 (.block 0 (.loop Q5)))
 (.drop [4,11,12] (.seq (.reg [.mov 61 3,
 .asg 2 61])
 .ret))))))
abbrev Af7:List RS:=[.t 2]
theorem Af6:Bj Try.prog Gc 62 Agn Af7=true:=by kernel_rfl
def Agp:ACode:=
 (.seq (.reg [.asg 4 (.i 0)])
 (.seq (.reg [.mov 5 1,
 .mov 6 0,
 .mov 7 1,
 .len 8 7,
 .call 9 Ar [(6,true),(8,false)],
 .iad 10 1 5 9,
 .l 11 10,
 .asg 4 11])
 .ret))
abbrev Afn:List RS:=[.t 4]
theorem Ag1:Bj Try.prog A6 12 Agp Afn=true:=by kernel_rfl
def And:ACode:=
 (.seq (.reg [.asg 6 (.c (.bool false))])
 (.seq (.reg [.mov 7 1,
 .len 8 7,
 .mov 9 2,
 .len 10 9,
 .mov 11 0,
 .bin 12 .mul 10 11,
 .mov 13 0,
 .bin 14 .mul 12 13,
 .bin 15 .eql 8 14,
 .asg 16 15,
 .y 16 (.mov 17 0),
 .y 16 (.mov 18 1),
 .y 16 (.call 19 Ig [(17,false),(18,false)]),
 .pick 20 16 19 (.c (.bool false)),
 .asg 6 20])
 .ret))
abbrev Al3:List RS:=[.t 6]
theorem Amu:Bj Try.prog Tm 21 And Al3=true:=by kernel_rfl
def Amg:ACode:=
 (.seq (.reg [⟨none,.asg 4 (.c (.str ⟨#[]⟩))⟩])
 (.seq (.reg [.mov 5 1,
 .mov 6 0,
 .mov 7 1,
 .len 8 7,
 .call 9 Ar [(6,true),(8,false)],
 .iad 10 1 5 9,
 .l 11 10,
 .asg 4 11])
 .ret))
abbrev Al4:List RS:=[.t 4]
theorem Am4:Bj Try.prog Tr 12 Amg Al4=true:=by kernel_rfl
def Aef:ACode:=
 (.seq (.reg [.fadr 5 0 1,
 .l 6 5,
 .bin 7 .lss 6 (.i 1),
 .asg 8 7,
 .n 8 (.fadr 9 0 1),
 .n 8 (.ld 10 1 false 9),
 .n 8 (.bin 11 .gtr 10 (.i 8)),
 .pick 12 8 (.c (.bool true)) 11,
 .asg 13 12,
 .n 13 (.fadr 14 1 1),
 .n 13 (.ld 15 1 false 14),
 .n 13 (.len 16 15),
 .n 13 (.bin 17 .gtr 16 (.i 4)),
 .pick 18 13 (.c (.bool true)) 17])
 (.drop (R 5 13) (.cond 18 (.seq (.reg [.asg 2 (.c (.bool false))])
 .ret)
 .skip)))
def Ty:ACode:=
 (.seq (.reg [.bin 23 .lss 22 21])
 (.seq (.cond 23 .skip
 (.exit 0))
 (.seq (.block 1 (.seq (.reg [.iad 24 2 20 22,
 .ld 25 2 true 24,
 .alc 4 (.agg [.int .i64 0,.nilsl 1]),
 .st 2 4 25])
 (.drop [24,25] (.seq (.reg [.ld 26 2 true 4,
 .fadr 27 0 1,
 .l 28 27,
 .call 29 Aco [(26,false),(28,false)],
 .un 30 .not 29])
 (.drop [26,27,28,29] (.cond 30 (.seq (.reg [.asg 2 (.c (.bool false))])
 .ret)
 .skip))))))
 (.drop [4,30] (.reg [.bin 31 .add 22 (.i 1),
 .asg 22 31])))))
def Ajy:ACode:=
 (.seq (.reg [.box 1 0,
 .asg 2 (.c (.bool false))])
 (.seq (.cut Aef)
 (.drop [18] (.seq (.seq (.reg [.fadr 19 1 1,
 .l 20 19,
 .len 21 20,
 .mov 22 (.i 0)])
 (.drop [19] (.block 0 (.loop Ty))))
 (.drop [20,21,22,23,31] (.seq (.reg [.asg 2 (.c (.bool true))])
 .ret))))))
abbrev Akm:List RS:=[.t 2]
theorem Ajx:Bj Try.prog Rj 32 Ajy Akm=true:=by kernel_rfl
def Abr:ACode:=
 (.seq (.reg [.fadr 5 0 1,
 .l 6 5,
 .bin 7 .lss 6 (.i 2),
 .asg 8 7,
 .n 8 (.fadr 9 0 1),
 .n 8 (.ld 10 1 false 9),
 .n 8 (.bin 11 .gtr 10 (.i 3)),
 .pick 12 8 (.c (.bool true)) 11,
 .asg 13 12,
 .n 13 (.fadr 14 1 1),
 .n 13 (.ld 15 1 false 14),
 .n 13 (.len 16 15),
 .n 13 (.bin 17 .lss 16 (.i 1)),
 .pick 18 13 (.c (.bool true)) 17,
 .asg 19 18,
 .n 19 (.fadr 20 1 1),
 .n 19 (.ld 21 1 false 20),
 .n 19 (.len 22 21),
 .n 19 (.bin 23 .gtr 22 (.i 6)),
 .pick 24 19 (.c (.bool true)) 23])
 (.drop (R 5 19) (.cond 24 (.seq (.reg [.asg 2 (.c (.bool false))])
 .ret)
 .skip)))
def Q2:ACode:=
 (.seq (.reg [.bin 29 .lss 28 27])
 (.seq (.cond 29 .skip
 (.exit 0))
 (.seq (.block 1 (.seq (.reg [.iad 30 2 26 28,
 .ld 31 2 true 30,
 .alc 4 (.agg [.nilsl 1,.nilsl 1]),
 .st 2 4 31])
 (.drop [30,31] (.seq (.reg [.fadr 32 0 4,
 .l 33 32,
 .len 34 33,
 .fadr 35 0 1,
 .l 36 35,
 .bin 37 .neq 34 36,
 .asg 38 37,
 .n 38 (.fadr 39 1 4),
 .n 38 (.ld 40 1 false 39),
 .n 38 (.len 41 40),
 .n 38 (.fadr 42 0 1),
 .n 38 (.ld 43 1 false 42),
 .n 38 (.bin 44 .neq 41 43),
 .n 38 (.asg 45 44),
 .y 45 (.fadr 46 1 4),
 .y 45 (.ld 47 1 false 46),
 .y 45 (.len 48 47),
 .y 45 (.bin 49 .neq 48 (.i 1)),
 .n 38 (.pick 50 45 49 (.c (.bool false))),
 .pick 51 38 (.c (.bool true)) 50,
 .asg 52 51,
 .n 52 (.fadr 53 0 4),
 .n 52 (.ld 54 1 false 53),
 .n 52 (.call 55 P1 [(54,false)]),
 .n 52 (.un 56 .not 55),
 .pick 57 52 (.c (.bool true)) 56,
 .asg 58 57,
 .n 58 (.fadr 59 1 4),
 .n 58 (.ld 60 1 false 59),
 .n 58 (.call 61 P1 [(60,false)]),
 .n 58 (.un 62 .not 61),
 .pick 63 58 (.c (.bool true)) 62])
 (.drop (R 32 31) (.cond 63 (.seq (.reg [.asg 2 (.c (.bool false))])
 .ret)
 .skip))))))
 (.drop [4,63] (.reg [.bin 64 .add 28 (.i 1),
 .asg 28 64])))))
def Af9:ACode:=
 (.seq (.reg [.box 1 0,
 .asg 2 (.c (.bool false))])
 (.seq (.cut Abr)
 (.drop [24] (.seq (.seq (.reg [.fadr 25 1 1,
 .l 26 25,
 .len 27 26,
 .mov 28 (.i 0)])
 (.drop [25] (.block 0 (.loop Q2))))
 (.drop [26,27,28,29,64] (.seq (.reg [.asg 2 (.c (.bool true))])
 .ret))))))
abbrev Af3:List RS:=[.t 2]
theorem Agk:Bj Try.prog Nx 65 Af9 Af3=true:=by kernel_rfl
def Aj5:ACode:=
 (.seq (.reg [.fadr 4 0 1,
 .l 5 4,
 .call 6 Fv [(5,false),((.i 1),false),((.i 8),false)],
 .un 7 .not 6,
 .asg 8 7,
 .n 8 (.fadr 9 1 1),
 .n 8 (.ld 10 1 false 9),
 .n 8 (.len 11 10),
 .n 8 (.bin 12 .gtr 11 (.i 4)),
 .pick 13 8 (.c (.bool true)) 12])
 (.drop (R 4 9) (.cond 13 (.seq (.reg [.asg 2 (.c (.bool false))])
 .ret)
 .skip)))
def Yu:ACode:=
 (.seq (.seq (.reg [.mov 14 3,
 .fadr 15 1 1,
 .l 16 15,
 .len 17 16,
 .bin 18 .lss 14 17])
 (.drop [14,15,16,17] (.cond 18 .skip
 (.exit 0))))
 (.drop [18] (.seq (.block 1 (.seq (.dreg [(.fadr 21 0 1,[]),
 (.l 22 21,[]),
 (.fadr 23 1 1,[21,22]),
 (.l 24 23,[21,22]),
 (.mov 25 3,[21,22,23,24]),
 (.iad 26 2 24 25,[21,22]),
 (.ld 27 2 true 26,[21,22])]
 [.call 28 Ace [(22,false),(27,false)],
 .un 29 .not 28])
 (.drop (R 21 8) (.cond 29 (.seq (.reg [.asg 2 (.c (.bool false))])
 .ret)
 .skip))))
 (.drop [29] (.reg [.mov 19 3,
 .bin 20 .add 19 (.i 1),
 .asg 3 20])))))
def Aqe:ACode:=
 (.seq (.reg [.box 1 0,
 .asg 2 (.c (.bool false))])
 (.seq (.cut Aj5)
 (.drop [13] (.seq (.seq (.reg [.asg 3 (.i 0)])
 (.block 0 (.loop Yu)))
 (.drop [3,19,20] (.seq (.reg [.asg 2 (.c (.bool true))])
 .ret))))))
abbrev Aq0:List RS:=[.t 2]
theorem Ari:Bj Try.prog Xe 30 Aqe Aq0=true:=by kernel_rfl
def Adt:ACode:=
 (.seq (.reg [.mov 4 0,
 .len 5 4,
 .fadr 6 0 1,
 .l 7 6,
 .bin 8 .eql 5 7,
 .asg 9 8,
 .y 9 (.ld 10 1 false 2),
 .y 9 (.mov 11 0),
 .y 9 (.call 12 I5 [(10,false),(11,false)]),
 .y 9 (.bin 13 .lss 12 (.i 0)),
 .pick 14 9 13 (.c (.bool false))])
 (.drop (R 4 10) (.cond 14 (.dreg [(.l 15 2,[17]),
 (.mov 16 0,[15]),
 (.call 17 Jy [(16,false)],[15]),
 (.bsl 18 1 [17],[15])]
 [.app 19 1 15 18,
 .st 1 2 19])
 .skip)))
abbrev Aer:List RS:=[]
theorem Aeb:Bj Try.prog Iv 20 Adt Aer=true:=by kernel_rfl
def Ad6:ACode:=
 (.seq (.reg [.asg 4 (.c (.bool false))])
 (.seq (.reg [.mov 5 0,
 .len 6 5,
 .mov 7 1,
 .bin 8 .eql 6 7,
 .asg 9 8,
 .y 9 (.mov 10 0),
 .y 9 (.call 11 Ig [((.i 2),false),(10,false)]),
 .pick 12 9 11 (.c (.bool false)),
 .asg 4 12])
 .ret))
abbrev Adx:List RS:=[.t 4]
theorem Aed:Bj Try.prog G2 13 Ad6 Adx=true:=by kernel_rfl
def Mi:ACode:=
 (.seq (.seq (.reg [.mov 31 6,
 .fadr 32 0 3,
 .l 33 32,
 .bin 34 .lss 31 33])
 (.drop [31,32,33] (.cond 34 .skip
 (.exit 2))))
 (.drop [34] (.seq (.block 3 (.dreg [(.fadr 37 0 5,[113,40]),
 (.l 38 37,[113,40]),
 (.mov 39 0,[37,38]),
 (.call 40 Ar [(39,true),((.i 2),false)],[113,37,38]),
 (.bsl 41 1 [40],[37,38])]
 [.app 42 1 38 41,
 .fadr 43 0 5,
 .st 1 43 42]))
 (.drop (R 37 7) (.reg [.mov 35 6,
 .bin 36 .add 35 (.i 1),
 .asg 6 36])))))
def Mg:ACode:=
 (.seq (.seq (.reg [.mov 46 7,
 .fadr 47 0 3,
 .l 48 47,
 .bin 49 .lss 46 48])
 (.drop [46,47,48] (.cond 49 .skip
 (.exit 4))))
 (.drop [49] (.seq (.block 5 (.dreg [(.fadr 52 1 5,[113,55]),
 (.l 53 52,[113,55]),
 (.mov 54 0,[52,53]),
 (.call 55 Ar [(54,true),((.i 2),false)],[113,52,53]),
 (.bsl 56 1 [55],[52,53])]
 [.app 57 1 53 56,
 .fadr 58 1 5,
 .st 1 58 57]))
 (.drop (R 52 7) (.reg [.mov 50 7,
 .bin 51 .add 50 (.i 1),
 .asg 7 51])))))
def Mq:ACode:=
 (.seq (.seq (.reg [.mov 22 4,
 .bin 23 .gtr 22 (.i 0)])
 (.drop [22] (.cond 23 .skip
 (.exit 0))))
 (.drop [23] (.seq (.block 1 (.seq (.reg [.bsl 26 1 [],
 .mov 27 0,
 .call 28 Ar [(27,true),((.i 2),false)],
 .bsl 29 1 [28],
 .bld 30 [.nilsl 1,.nilsl 1] [(0,1,26),(1,1,29)],
 .alc 5 (.agg [.nilsl 1,.nilsl 1]),
 .st 2 5 30])
 (.drop (R 26 5) (.seq (.seq (.reg [.asg 6 (.i 0)])
 (.block 2 (.loop Mi)))
 (.drop [6,35,36] (.seq (.seq (.reg [.mov 44 0,
 .call 45 Cb [(44,true),((.i 2),false)]])
 (.drop [44] (.cond 45 (.seq (.reg [.asg 7 (.i 1)])
 (.block 4 (.loop Mg)))
 .skip)))
 (.drop [45,7,50,51] (.reg [.fadr 59 1 3,
 .l 60 59,
 .ld 61 2 true 5,
 .bsl 62 2 [61],
 .app 63 2 60 62,
 .fadr 64 1 3,
 .st 1 64 63]))))))))
 (.drop [5,59,60,61,62,63,64] (.reg [.mov 24 4,
 .bin 25 .sub 24 (.i 1),
 .asg 4 25])))))
def Mn:ACode:=
 (.seq (.seq (.dreg [(.fadr 96 1 3,[113]),
 (.l 97 96,[113]),
 (.len 98 97,[113]),
 (.mov 99 0,[96,97,98]),
 (.call 100 Ar [(99,true),((.i 2),false)],[113,96,97,98]),
 (.bin 101 .add (.i 6) 100,[96,97,98])]
 [.bin 102 .lss 98 101])
 (.drop (R 96 6) (.cond 102 .skip
 (.exit 7))))
 (.drop [102] (.block 8 (.dreg [(.fadr 103 1 3,[108]),
 (.l 104 103,[108]),
 (.fadr 105 1 3,[103,104]),
 (.l 106 105,[103,104]),
 (.iad 107 2 106 (.i 0),[103,104]),
 (.ld 108 2 true 107,[103,104]),
 (.bsl 109 2 [108],[103,104])]
 [.app 110 2 104 109,
 .fadr 111 1 3,
 .st 1 111 110]))))
def Aad:ACode:=
 (.seq (.reg [.alc 2 (.agg [.int .i64 0,.nilsl 2])])
 (.seq (.seq (.reg [.mov 8 0,
 .call 9 Cb [(8,true),((.i 4),false)],
 .un 10 .not 9])
 (.drop [8,9] (.cond 10 (.seq (.reg [.mov 11 0,
 ⟨none,.bsl 12 1 [(.c (.str ⟨#[109,97,108,99,101,118]⟩)),(.c (.str ⟨#[109,97,106,111,114,105,116,121]⟩)),(.c (.str ⟨#[109,105,110,111,114,105,116,121]⟩)),(.c (.str ⟨#[112,105,120,108,101,121]⟩)),(.c (.str ⟨#[99,111,109,109,117,116,97,116,105,118,101]⟩)),(.c (.str ⟨#[119,101,97,107]⟩))]⟩,
 .call 13 Tr [(11,true),(12,false)],
 .call 14 Tl [(13,false)],
 .st 2 2 14])
 .ret)
 .skip)))
 (.drop [10] (.seq (.reg [.mov 15 0,
 .bsl 16 1 [(.i 2),(.i 2),(.i 3)],
 .call 17 A6 [(15,true),(16,false)],
 .bld 18 [.int .i64 0,.nilsl 2] [(0,1,17)],
 .alc 3 (.agg [.int .i64 0,.nilsl 2]),
 .st 2 3 18])
 (.drop [15,16,17,18] (.seq (.seq (.reg [.mov 19 0,
 .bsl 20 1 [(.i 1),(.i 1),(.i 2),(.i 3)],
 .call 21 A6 [(19,true),(20,false)],
 .asg 4 21])
 (.drop [19,20,21] (.block 0 (.loop Mq))))
 (.drop [4,24,25] (.seq (.seq (.reg [.mov 65 0,
 .call 66 Ar [(65,true),((.i 12),false)]])
 (.drop [65] (.block 6 (.seq (.reg [.bin 68 .eql 66 (.i 0),
 .asg 67 68])
 (.drop [68] (.cond 67 (.reg [.mov 69 0,
 .fadr 70 0 3,
 .l 71 70,
 .bin 72 .sub (.i 5) 71,
 .bsl 73 1 [(.i 1),(.i 4),72],
 .call 74 A6 [(69,true),(73,false)],
 .fadr 75 0 3,
 .st 1 75 74])
 (.seq (.reg [.bin 77 .eql 66 (.i 1),
 .asg 76 77])
 (.drop [77] (.cond 76 (.dregl [(0,.fadr 78 1 3),
 (1,.ld 79 1 false 78),
 (2,.iad 80 2 79 (.i 0)),
 (3,.fadr 81 0 80),
 (4,.ld 82 1 false 81),
 (5,.mov 83 0)]
 (.alt 6 (.bsl 84 1 [(.i (-1)),(.i 2)]) [0,1,2,3,4,5] [] (.alt 7 (.call 85 A6 [(83,true),(84,false)]) [0,1,2,3,4,5] [] (.alt 8 (.iad 86 1 82 (.i 0)) [0,1,2,3,4] [] (.alt 9 (.st 1 86 85) [] [] .nil .nil) .nil) .nil) .nil))
 (.seq (.reg [.bin 88 .eql 66 (.i 2),
 .asg 87 88])
 (.drop [88] (.cond 87 (.reg [.fadr 89 1 3,
 .l 90 89,
 .bsl 91 1 [],
 .iad 92 2 90 (.i 0),
 .fadr 93 1 92,
 .st 1 93 91])
 (.seq (.reg [.bin 95 .eql 66 (.i 3),
 .asg 94 95])
 (.drop [95] (.cond 94 (.frz [200003] (.block 7 (.loop Mn)))
 .skip)))))))))))))))
 (.drop [66,67,69,70,71,72,73,74,75,76,78,79,80,81,82,83,84,85,86,87,89,90,91,92,93,94,103,104,105,106,107,108,109,110,111] (.seq (.reg [.ld 112 2 true 3,
 .st 2 2 112])
 .ret))))))))))
abbrev Zl:List RS:=[.c 2 2 true]
theorem Ze:Bj Try.prog Fe 113 Aad Zl=true:=by kernel_rfl
def Aka:ACode:=
 (.seq (.reg [.box 2 0,
 .box 3 1,
 .asg 4 (.c (.bool false))])
 (.seq (.reg [.ld 5 2 true 2,
 .call 6 Rj [(5,false)],
 .asg 7 6,
 .y 7 (.fadr 8 0 2),
 .y 7 (.ld 9 1 false 8),
 .y 7 (.bin 10 .leq 9 (.i 4)),
 .pick 11 7 10 (.c (.bool false)),
 .asg 12 11,
 .y 12 (.ld 13 2 true 3),
 .y 12 (.call 14 Nx [(13,false)]),
 .pick 15 12 14 (.c (.bool false)),
 .asg 4 15])
 .ret))
abbrev Akp:List RS:=[.t 4]
theorem Ajt:Bj Try.prog Hi 16 Aka Akp=true:=by kernel_rfl
def R9:ACode:=
 (.seq (.reg [.bin 13 .lss 12 11])
 (.seq (.cond 13 .skip
 (.exit 0))
 (.seq (.block 1 (.seq (.reg [.iad 14 2 10 12,
 .ld 15 2 true 14,
 .alc 6 (.agg [.nilsl 1,.nilsl 1]),
 .st 2 6 15])
 (.drop [14,15] (.seq (.reg [.mov 16 4,
 .fadr 17 0 6,
 .l 18 17,
 un (.cally 19 16 [18] [false,true])])
 (.drop [16,17,18,19] (.reg [.mov 20 4,
 .fadr 21 1 6,
 .l 22 21,
 un (.cally 23 20 [22] [false,true])]))))))
 (.drop [6,20,21,22,23] (.reg [.bin 24 .add 12 (.i 1),
 .asg 12 24])))))
def Ah0:ACode:=
 (.seq (.reg [.box 1 0,
 .asg 2 (.c (.nilsl 1))])
 (.seq (.reg [.bsl 7 1 [],
 .alc 3 (.nilsl 1),
 .st 1 3 7])
 (.drop [7] (.seq (.reg [un (.mkf 8 Iv [1,3]),
 .asg 4 8])
 (.drop [8] (.seq (.seq (.reg [.fadr 9 1 1,
 .l 10 9,
 .len 11 10,
 .mov 12 (.i 0)])
 (.drop [9] (.block 0 (.loop R9))))
 (.drop [10,11,12,13,24] (.seq (.reg [.l 25 3,
 .asg 2 25])
 .ret))))))))
abbrev Aht:List RS:=[.t 2]
theorem Ahw:Bj Try.prog Gq 26 Ah0 Aht=true:=by kernel_rfl
def Vf:ACode:=
 (.seq (.seq (.reg [.mov 11 7,
 .fadr 12 0 3,
 .l 13 12,
 .bin 14 .lss 11 13])
 (.drop [11,12,13] (.cond 14 .skip
 (.exit 0))))
 (.drop [14] (.seq (.block 1 (.dreg [(.mov 17 5,[28]),
 (.mov 18 0,[17]),
 (.fadr 19 0 3,[17,18]),
 (.l 20 19,[17,18]),
 (.mov 21 0,[17,18,19,20]),
 (.fadr 22 0 3,[17,18,19,20,21]),
 (.l 23 22,[17,18,19,20,21]),
 (.mov 24 7,[17,18,19,20,21,22,23]),
 (.call 25 Lz [(21,false),(23,false),(24,false)],[17,18,19,20]),
 (.bld 26 [.int .i64 0,.nilsl 1] [(0,1,20),(1,1,25)],[17,18]),
 (.mov 27 6,[17,18,19,20,21,22,23,24,25,26]),
 (.call 28 Xl [(18,false),(26,false),(27,false)],[17]),
 (.bsl 29 1 [28],[17])]
 [.app 30 1 17 29,
 .asg 5 30]))
 (.drop (R 17 14) (.reg [.mov 15 7,
 .bin 16 .add 15 (.i 1),
 .asg 7 16])))))
def Alw:ACode:=
 (.seq (.reg [.box 3 1,
 .asg 4 (.c (.nilsl 1))])
 (.seq (.reg [.bsl 8 1 [],
 .asg 5 8])
 (.drop [8] (.seq (.reg [.ld 9 2 true 3,
 .call 10 Gc [(9,false)],
 .asg 6 10])
 (.drop [9,10] (.seq (.seq (.reg [.asg 7 (.i 0)])
 (.block 0 (.loop Vf)))
 (.drop [7,15,16] (.seq (.reg [.mov 31 5,
 .asg 4 31])
 .ret))))))))
abbrev Al6:List RS:=[.t 4]
theorem Al5:Bj Try.prog Kf 32 Alw Al6=true:=by kernel_rfl
def X0:ACode:=
 (.seq (.reg [.mov 32 4,
 .bin 33 .eql 32 (.i 4),
 .asg 34 33,
 .y 34 (.fadr 35 0 7),
 .y 34 (.ld 36 1 false 35),
 .y 34 (.bin 37 .eql 36 (.i 3)),
 .pick 38 34 37 (.c (.bool false))])
 (.drop (R 32 6) (.cond 38 (.reg [.fadr 39 0 7,
 .st 1 39 (.i 2)])
 .skip)))
def Oh:ACode:=
 (.seq (.seq (.reg [.mov 44 8,
 .bin 45 .gtr 44 (.i 0)])
 (.drop [44] (.cond 45 .skip
 (.exit 2))))
 (.drop [45] (.seq (.block 3 (.dreg [(.fadr 48 1 7,[132,52]),
 (.l 49 48,[132,52]),
 (.mov 50 0,[48,49]),
 (.mov 51 4,[48,49,50]),
 (.call 52 Ar [(50,true),(51,false)],[132,48,49]),
 (.bsl 53 1 [52],[48,49])]
 [.app 54 1 49 53,
 .fadr 55 1 7,
 .st 1 55 54]))
 (.drop (R 48 8) (.reg [.mov 46 8,
 .bin 47 .sub 46 (.i 1),
 .asg 8 47])))))
def On:ACode:=
 (.seq (.seq (.reg [.mov 24 6,
 .bin 25 .gtr 24 (.i 0)])
 (.drop [24] (.cond 25 .skip
 (.exit 0))))
 (.drop [25] (.seq (.block 1 (.seq (.reg [.mov 28 0,
 .bsl 29 1 [(.i 0),(.i 1),(.i 2),(.i 2),(.i 3)],
 .call 30 A6 [(28,true),(29,false)],
 .bld 31 [.int .i64 0,.nilsl 1] [(0,1,30)],
 .alc 7 (.agg [.int .i64 0,.nilsl 1]),
 .st 2 7 31])
 (.drop [28,29,30,31] (.seq (.cut X0)
 (.drop [38,39] (.seq (.seq (.reg [.mov 40 4,
 .fadr 41 0 7,
 .l 42 41,
 .call 43 Jw [(40,false),(42,false)],
 .asg 8 43])
 (.drop [40,41,42,43] (.block 2 (.loop Oh))))
 (.drop [8,46,47] (.reg [.fadr 56 1 5,
 .l 57 56,
 .ld 58 2 true 7,
 .bsl 59 2 [58],
 .app 60 2 57 59,
 .fadr 61 1 5,
 .st 1 61 60]))))))))
 (.drop [7,56,57,58,59,60,61] (.reg [.mov 26 6,
 .bin 27 .sub 26 (.i 1),
 .asg 6 27])))))
def Oo:ACode:=
 (.seq (.seq (.dreg [(.fadr 116 1 5,[132]),
 (.l 117 116,[132]),
 (.len 118 117,[132]),
 (.mov 119 0,[116,117,118]),
 (.call 120 Ar [(119,true),((.i 2),false)],[132,116,117,118]),
 (.bin 121 .add (.i 4) 120,[116,117,118])]
 [.bin 122 .lss 118 121])
 (.drop (R 116 6) (.cond 122 .skip
 (.exit 5))))
 (.drop [122] (.block 6 (.dregl [(0,.fadr 123 1 5),
 (1,.ld 124 1 false 123),
 (2,.mov 125 4)]
 (.alt 3 (.mk 126 1 (.int .i64 0) 125) [0,1,2] [] (.alt 4 (.bld 127 [.int .i64 0,.nilsl 1] [(0,1,(.i 1)),(1,1,126)]) [0,1] [] (.alt 5 (.bsl 128 2 [127]) [0,1] [] (.alt 6 (.app 129 2 124 128) [0,1] [124] (.alt 7 (.fadr 130 1 5) [] [] (.alt 8 (.st 1 130 129) [] [] .nil .nil) .nil) .nil) .nil) .nil) .nil)))))
def Ab1:ACode:=
 (.seq (.reg [.alc 2 (.agg [.int .i64 0,.nilsl 2])])
 (.seq (.seq (.reg [.mov 9 0,
 .call 10 Cb [(9,true),((.i 4),false)],
 .un 11 .not 10])
 (.drop [9,10] (.cond 11 (.seq (.reg [.mov 12 0,
 .call 13 Ar [(12,true),((.i 17),false)],
 .call 14 Pb [(13,false)],
 .alc 3 (.agg [.int .i64 0,.nilsl 2]),
 .st 2 3 14])
 (.drop [12,13,14] (.seq (.reg [.ld 15 2 true 3,
 .st 2 2 15])
 .ret)))
 .skip)))
 (.drop [11,3] (.seq (.reg [.mov 16 0,
 .bsl 17 1 [(.i 2),(.i 2),(.i 3),(.i 3),(.i 4)],
 .call 18 A6 [(16,true),(17,false)],
 .asg 4 18])
 (.drop [16,17,18] (.seq (.reg [.mov 19 4,
 .bld 20 [.int .i64 0,.nilsl 2] [(0,1,19)],
 .alc 5 (.agg [.int .i64 0,.nilsl 2]),
 .st 2 5 20])
 (.drop [19,20] (.seq (.seq (.reg [.mov 21 0,
 .bsl 22 1 [(.i 1),(.i 1),(.i 2)],
 .call 23 A6 [(21,true),(22,false)],
 .asg 6 23])
 (.drop [21,22,23] (.block 0 (.loop On))))
 (.drop [6,26,27] (.seq (.seq (.reg [.mov 62 0,
 .call 63 Ar [(62,true),((.i 16),false)]])
 (.drop [62] (.block 4 (.seq (.reg [.bin 65 .eql 63 (.i 0),
 .asg 64 65])
 (.drop [65] (.cond 64 (.reg [.mov 66 0,
 .mov 67 4,
 .bin 68 .add 67 (.i 1),
 .bsl 69 1 [(.i 0),(.i 9),68],
 .call 70 A6 [(66,true),(69,false)],
 .fadr 71 0 5,
 .st 1 71 70])
 (.seq (.reg [.bin 73 .eql 63 (.i 1),
 .asg 72 73])
 (.drop [73] (.cond 72 (.dregl [(0,.fadr 74 1 5),
 (1,.ld 75 1 false 74),
 (2,.fadr 76 1 5),
 (3,.ld 77 1 false 76),
 (4,.iad 78 2 77 (.i 0)),
 (5,.fadr 79 1 78),
 (6,.ld 80 1 false 79)]
 (.alt 7 (.bsl 81 1 [(.i 0)]) [0,1,2,3,4,5,6] [] (.alt 8 (.app 82 1 80 81) [0,1,2,3,4,5,6] [80] (.alt 9 (.iad 83 2 75 (.i 0)) [0,1] [] (.alt 10 (.fadr 84 1 83) [] [] (.alt 11 (.st 1 84 82) [] [] .nil .nil) .nil) .nil) .nil) .nil))
 (.seq (.reg [.bin 86 .eql 63 (.i 2),
 .asg 85 86])
 (.drop [86] (.cond 85 (.dregl [(0,.fadr 87 1 5),
 (1,.ld 88 1 false 87),
 (2,.iad 89 2 88 (.i 0)),
 (3,.fadr 90 1 89),
 (4,.ld 91 1 false 90),
 (5,.mov 92 0),
 (6,.fadr 93 1 5),
 (7,.ld 94 1 false 93),
 (8,.iad 95 2 94 (.i 0)),
 (9,.fadr 96 1 95),
 (10,.ld 97 1 false 96),
 (13,.mov 100 0),
 (14,.mov 101 4)]
 (.alt 11 (.len 98 97) [0,1,2,3,4,5,6,7,8,9,10,13,14] [] (.alt 12 (.call 99 Ar [(92,true),(98,false)]) [0,1,2,3,4,5,13,14] [] (.alt 15 (.bsl 102 1 [(.i (-1)),101]) [0,1,2,3,4,13,14] [] (.alt 16 (.call 103 A6 [(100,true),(102,false)]) [0,1,2,3,4,13] [] (.alt 17 (.iad 104 1 91 99) [0,1,2,3,4] [] (.alt 18 (.st 1 104 103) [] [] .nil .nil) .nil) .nil) .nil) (.alt 15 (.bsl 102 1 [(.i (-1)),101]) [0,1,2,3,4,5,13,14] [] (.alt 12 (.call 99 Ar [(92,true),(98,false)]) [0,1,2,3,4,5,13] [] (.alt 16 (.call 103 A6 [(100,true),(102,false)]) [0,1,2,3,4,13] [] (.alt 17 (.iad 104 1 91 99) [0,1,2,3,4] [] (.alt 18 (.st 1 104 103) [] [] .nil .nil) .nil) .nil) .nil) .nil)) (.alt 15 (.bsl 102 1 [(.i (-1)),101]) [0,1,2,3,4,5,6,7,8,9,10,13,14] [] (.alt 11 (.len 98 97) [0,1,2,3,4,5,6,7,8,9,10,13] [] (.alt 12 (.call 99 Ar [(92,true),(98,false)]) [0,1,2,3,4,5,13] [] (.alt 16 (.call 103 A6 [(100,true),(102,false)]) [0,1,2,3,4,13] [] (.alt 17 (.iad 104 1 91 99) [0,1,2,3,4] [] (.alt 18 (.st 1 104 103) [] [] .nil .nil) .nil) .nil) .nil) .nil) .nil)))
 (.seq (.reg [.bin 106 .eql 63 (.i 3),
 .asg 105 106])
 (.drop [106] (.cond 105 (.dregl [(0,.fadr 107 1 5),
 (1,.ld 108 1 false 107),
 (2,.mov 109 0)]
 (.alt 3 (.bsl 110 1 [(.i (-1)),(.i 4)]) [0,1,2] [] (.alt 4 (.call 111 A6 [(109,true),(110,false)]) [0,1,2] [] (.alt 5 (.iad 112 2 108 (.i 0)) [0,1] [] (.alt 6 (.fadr 113 0 112) [] [] (.alt 7 (.st 1 113 111) [] [] .nil .nil) .nil) .nil) .nil) .nil))
 (.seq (.reg [.bin 115 .eql 63 (.i 4),
 .asg 114 115])
 (.drop [115] (.cond 114 (.block 5 (.loop Oo))
 .skip))))))))))))))))))
 (.drop [63,64,66,67,68,69,70,71,72,74,75,76,77,78,79,80,81,82,83,84,85,87,88,89,90,91,92,93,94,95,96,97,98,99,100,101,102,103,104,105,107,108,109,110,111,112,113,114,123,124,125,126,127,128,129,130] (.seq (.reg [.ld 131 2 true 5,
 .st 2 2 131])
 .ret))))))))))))
abbrev Ac2:List RS:=[.c 2 2 true]
theorem Ab7:Bj Try.prog Ls 132 Ab1 Ac2=true:=by kernel_rfl
def Akt:ACode:=
 (.seq (.reg [.box 3 1,
 .asg 4 (.i 0)])
 (.seq (.seq (.reg [.fadr 5 1 3,
 .l 6 5,
 .len 7 6,
 .bin 8 .eql 7 (.i 0),
 .asg 9 8,
 .n 9 (.mov 10 0),
 .n 9 (.call 11 Cb [(10,true),((.i 16),false)]),
 .pick 12 9 (.c (.bool true)) 11])
 (.drop (R 5 7) (.cond 12 (.seq (.reg [.mov 13 0,
 .fadr 14 1 3,
 .l 15 14,
 .len 16 15,
 .bsl 17 1 [(.i (-1)),(.i 0),16],
 .call 18 A6 [(13,true),(17,false)],
 .asg 4 18])
 .ret)
 .skip)))
 (.drop [12] (.seq (.reg [.mov 19 0,
 .fadr 20 1 3,
 .l 21 20,
 .len 22 21,
 .call 23 Ar [(19,true),(22,false)],
 .asg 4 23])
 .ret))))
abbrev Akl:List RS:=[.t 4]
theorem Akf:Bj Try.prog Rq 24 Akt Akl=true:=by kernel_rfl
def Aev:ACode:=
 (.seq (.reg [.asg 5 (.c (.bool false))])
 (.seq (.reg [.fadr 6 0 1,
 .l 7 6,
 .mov 8 0,
 .ld 9 2 true 2,
 .l 10 3,
 .call 11 Ki [(7,false),(8,false),(9,false),(10,false)],
 .asg 5 11])
 .ret))
abbrev Aeq:List RS:=[.t 5]
theorem Ae2:Bj Try.prog Iw 12 Aev Aeq=true:=by kernel_rfl
def Ajd:ACode:=
 (.seq (.reg [.fadr 5 0 1,
 .l 6 5,
 .call 7 Fv [(6,false),((.i 2),false),((.i 3),false)],
 .un 8 .not 7,
 .asg 9 8,
 .n 9 (.fadr 10 1 1),
 .n 9 (.ld 11 1 false 10),
 .n 9 (.len 12 11),
 .n 9 (.call 13 Fv [(12,false),((.i 1),false),((.i 6),false)]),
 .n 9 (.un 14 .not 13),
 .pick 15 9 (.c (.bool true)) 14])
 (.drop (R 5 10) (.cond 15 (.seq (.reg [.asg 2 (.c (.bool false))])
 .ret)
 .skip)))
def Wx:ACode:=
 (.seq (.seq (.reg [.mov 16 3,
 .fadr 17 1 1,
 .l 18 17,
 .len 19 18,
 .bin 20 .lss 16 19])
 (.drop [16,17,18,19] (.cond 20 .skip
 (.exit 0))))
 (.drop [20] (.seq (.block 1 (.seq (.reg [.fadr 23 1 1,
 .l 24 23,
 .mov 25 3,
 .iad 26 2 24 25,
 .ld 27 2 true 26,
 .alc 4 (.agg [.nilsl 1,.nilsl 1]),
 .st 2 4 27])
 (.drop (R 23 5) (.seq (.reg [.fadr 28 0 4,
 .l 29 28,
 .fadr 30 0 1,
 .l 31 30,
 .call 32 G2 [(29,false),(31,false)],
 .un 33 .not 32,
 .asg 34 33,
 .n 34 (.fadr 35 1 4),
 .n 34 (.ld 36 1 false 35),
 .n 34 (.fadr 37 0 1),
 .n 34 (.ld 38 1 false 37),
 .n 34 (.call 39 G2 [(36,false),(38,false)]),
 .n 34 (.un 40 .not 39),
 .n 34 (.asg 41 40),
 .y 41 (.fadr 42 1 4),
 .y 41 (.ld 43 1 false 42),
 .y 41 (.call 44 G2 [(43,false),((.i 1),false)]),
 .y 41 (.un 45 .not 44),
 .n 34 (.pick 46 41 45 (.c (.bool false))),
 .pick 47 34 (.c (.bool true)) 46])
 (.drop (R 28 19) (.cond 47 (.seq (.reg [.asg 2 (.c (.bool false))])
 .ret)
 .skip))))))
 (.drop [4,47] (.reg [.mov 21 3,
 .bin 22 .add 21 (.i 1),
 .asg 3 22])))))
def Aog:ACode:=
 (.seq (.reg [.box 1 0,
 .asg 2 (.c (.bool false))])
 (.seq (.cut Ajd)
 (.drop [15] (.seq (.seq (.reg [.asg 3 (.i 0)])
 (.block 0 (.loop Wx)))
 (.drop [3,21,22] (.seq (.reg [.asg 2 (.c (.bool true))])
 .ret))))))
abbrev Aom:List RS:=[.t 2]
theorem Ao4:Bj Try.prog Uj 48 Aog Aom=true:=by kernel_rfl
def Akr:ACode:=
 (.seq (.reg [.fadr 13 2 6,
 .l 14 13,
 .bin 15 .geq 14 (.i 0),
 .asg 16 15,
 .n 16 (.fadr 17 4 6),
 .n 16 (.ld 18 1 false 17),
 .pick 19 16 (.c (.bool true)) 18,
 .asg 20 19,
 .n 20 (.fadr 21 0 6),
 .n 20 (.ld 22 1 false 21),
 .n 20 (.mov 23 4),
 .n 20 (.call 24 Ev [(22,false),(23,false)]),
 .n 20 (.bin 25 .geq 24 (.i 0)),
 .pick 26 20 (.c (.bool true)) 25])
 (.drop (R 13 13) (.cond 26 (.seq (.reg [.ld 27 5 true 6,
 .st 5 12 27])
 .ret)
 .skip)))
def Aq7:ACode:=
 (.seq (.reg [.box 6 0,
 .box 8 2,
 .box 11 5,
 .alc 12 (.agg [.nilsl 1,.nilsl 2,.int .i64 0,.int .i64 0,.bool false])])
 (.seq (.cut Akr)
 (.drop [26] (.seq (.seq (.reg [.fadr 28 0 6,
 .l 29 28,
 .len 30 29,
 .bin 31 .eql 30 (.i 150)])
 (.drop [28,29,30] (.cond 31 (.seq (.reg [.fadr 32 4 6,
 .st 1 32 (.c (.bool true))])
 (.drop [32] (.seq (.reg [.ld 33 5 true 6,
 .st 5 12 33])
 .ret)))
 .skip)))
 (.drop [31] (.seq (.reg [.fadr 34 0 6,
 .l 35 34,
 .mov 36 4,
 .bsl 37 1 [36],
 .app 38 1 35 37,
 .fadr 39 0 6,
 .st 1 39 38])
 (.drop (R 34 6) (.seq (.reg [.fadr 40 1 6,
 .l 41 40,
 .ld 42 2 true 11,
 .bsl 43 2 [42],
 .app 44 2 41 43,
 .fadr 45 1 6,
 .st 1 45 44])
 (.drop (R 40 6) (.seq (.seq (.reg [.mov 46 1,
 .mov 47 4,
 .ld 48 2 true 8,
 .mov 49 3,
 .call 50 Kh [(46,false),(47,false),(48,false),(49,false)]])
 (.drop [46,47,48,49] (.cond 50 (.reg [.fadr 51 0 6,
 .l 52 51,
 .len 53 52,
 .bin 54 .sub 53 (.i 1),
 .fadr 55 2 6,
 .st 1 55 54])
 .skip)))
 (.drop (R 50 6) (.seq (.reg [.ld 56 5 true 6,
 .st 5 12 56])
 .ret))))))))))))
abbrev Aq8:List RS:=[.c 12 5 true]
theorem Aqi:Bj Try.prog R4 57 Aq7 Aq8=true:=by kernel_rfl
def Zi:ACode:=
 (.seq (.reg [.alc 2 (.agg [.int .i64 0,.nilsl 2])])
 (.seq (.seq (.reg [.mov 3 0,
 .call 4 Cb [(3,true),((.i 6),false)]])
 (.drop [3] (.cond 4 (.seq (.reg [.mov 5 0,
 .call 6 Ls [(5,true)],
 .st 2 2 6])
 .ret)
 .skip)))
 (.drop [4] (.seq (.reg [.mov 7 0,
 .bsl 8 1 [(.i 0),(.i 1),(.i 2),(.i 3),(.i 4),(.i 5),(.i 6),(.i 7),(.i 8),(.i 9),(.i 10),(.i 12),(.i 13),(.i 14),(.i 15),(.i 16)],
 .call 9 A6 [(7,true),(8,false)],
 .call 10 Pb [(9,false)],
 .st 2 2 10])
 .ret))))
abbrev Zn:List RS:=[.c 2 2 true]
theorem Z2:Bj Try.prog E9 11 Zi Zn=true:=by kernel_rfl
def Ao0:ACode:=
 (.seq (.reg [.box 2 0,
 .box 3 1,
 .asg 4 (.c (.bool false))])
 (.seq (.reg [.ld 5 2 true 2,
 .call 6 Xe [(5,false)],
 .asg 7 6,
 .y 7 (.fadr 8 0 2),
 .y 7 (.ld 9 1 false 8),
 .y 7 (.bin 10 .leq 9 (.i 4)),
 .pick 11 7 10 (.c (.bool false)),
 .asg 12 11,
 .y 12 (.ld 13 2 true 3),
 .y 12 (.call 14 Uj [(13,false)]),
 .pick 15 12 14 (.c (.bool false)),
 .asg 4 15])
 .ret))
abbrev An0:List RS:=[.t 4]
theorem Apn:Bj Try.prog Gg 16 Ao0 An0=true:=by kernel_rfl
def Wg:ACode:=
 (.seq (.seq (.reg [.mov 23 8,
 .mov 24 7,
 .len 25 24,
 .bin 26 .lss 23 25])
 (.drop [23,24,25] (.cond 26 .skip
 (.exit 0))))
 (.drop [26] (.seq (.block 1 (.dreg [(.ld 29 5 true 5,[38]),
 (.fadr 30 0 2,[29,38]),
 (.l 31 30,[29,38]),
 (.ld 32 2 true 3,[29,30,31,38]),
 (.mov 33 6,[29,30,31,32,38]),
 (.mov 34 7,[29,30,31,32,33,38]),
 (.mov 35 8,[29,30,31,32,33,34,38]),
 (.iad 36 1 34 35,[29,30,31,32,33,38]),
 (.l 37 36,[29,30,31,32,33,38]),
 (.mov 38 8,[29,30,31,32,33,34,35,36,37]),
 (un (.bslr 39 1 [38]),[29,30,31,32,33,34,35,36,37]),
 (.bld 40 [.int .i64 0,.nilsl 1] [(0,1,(.i (-1))),(1,1,39)],[29,30,31,32,33,34,35,36,37,38])]
 [.call 41 R4 [(29,true),(31,false),(32,false),(33,false),(37,false),(40,false)],
 .st 5 5 41]))
 (.drop (R 29 13) (.reg [.mov 27 8,
 .bin 28 .add 27 (.i 1),
 .asg 8 28])))))
def Ain:ACode:=
 (.seq (.reg [.mov 42 9,
 .fadr 43 0 5,
 .l 44 43,
 .len 45 44,
 .bin 46 .lss 42 45,
 .asg 47 46,
 .y 47 (.fadr 48 2 5),
 .y 47 (.ld 49 1 false 48),
 .y 47 (.bin 50 .lss 49 (.i 0)),
 .pick 51 47 50 (.c (.bool false)),
 .asg 52 51,
 .y 52 (.fadr 53 4 5),
 .y 52 (.ld 54 1 false 53),
 .y 52 (.un 55 .not 54),
 .pick 56 52 55 (.c (.bool false))])
 (.drop (R 42 14) (.cond 56 .skip
 (.exit 2))))
def Aiu:ACode:=
 (.seq (.reg [.mov 67 12,
 .mov 68 10,
 .fadr 69 1 2,
 .l 70 69,
 .mov 71 11,
 .iad 72 2 70 71,
 .fadr 73 0 72,
 .l 74 73,
 .call 75 Jw [(68,false),(74,false)],
 .bin 76 .lss 67 75,
 .asg 77 76,
 .y 77 (.fadr 78 2 5),
 .y 77 (.ld 79 1 false 78),
 .y 77 (.bin 80 .lss 79 (.i 0)),
 .pick 81 77 80 (.c (.bool false)),
 .asg 82 81,
 .y 82 (.fadr 83 4 5),
 .y 82 (.ld 84 1 false 83),
 .y 82 (.un 85 .not 84),
 .pick 86 82 85 (.c (.bool false))])
 (.drop (R 67 19) (.cond 86 .skip
 (.exit 6))))
def Wy:ACode:=
 (.seq (.seq (.reg [.mov 110 15,
 .mov 111 13,
 .len 112 111,
 .bin 113 .lss 110 112])
 (.drop [110,111,112] (.cond 113 .skip
 (.exit 8))))
 (.drop [113] (.seq (.block 9 (.dreg [(.mov 116 14,[124]),
 (.fadr 117 0 5,[116]),
 (.l 118 117,[116]),
 (.mov 119 13,[116,117,118]),
 (.mov 120 15,[116,117,118,119]),
 (.iad 121 1 119 120,[116,117,118]),
 (.l 122 121,[116,117,118]),
 (.iad 123 1 118 122,[116]),
 (.l 124 123,[116]),
 (.bsl 125 1 [124],[116])]
 [.app 126 1 116 125,
 .asg 14 126]))
 (.drop (R 116 11) (.reg [.mov 114 15,
 .bin 115 .add 114 (.i 1),
 .asg 15 115])))))
def W9:ACode:=
 (.seq (.cut Aiu)
 (.drop [86] (.seq (.block 7 (.seq (.seq (.reg [.mov 89 10,
 .fadr 90 1 2,
 .l 91 90,
 .mov 92 11,
 .iad 93 2 91 92,
 .fadr 94 0 93,
 .l 95 94,
 .mov 96 12,
 .mov 97 9,
 .call 98 Ti [(89,false),(95,false),(96,false),(97,false)],
 .un 99 .not 98])
 (.drop (R 89 10) (.cond 99 (.exit 7)
 .skip)))
 (.drop [99] (.seq (.reg [.mov 100 10,
 .fadr 101 1 2,
 .l 102 101,
 .mov 103 11,
 .iad 104 2 102 103,
 .fadr 105 0 104,
 .l 106 105,
 .mov 107 12,
 .call 108 M4 [(100,false),(106,false),(107,false)],
 .asg 13 108])
 (.drop (R 100 9) (.seq (.reg [.bsl 109 1 [],
 .asg 14 109])
 (.drop [109] (.seq (.seq (.reg [.asg 15 (.i 0)])
 (.block 8 (.loop Wy)))
 (.drop [15,114,115] (.seq (.reg [.fadr 127 3 5,
 .l 128 127,
 .bin 129 .add 128 (.i 1),
 .fadr 130 3 5,
 .st 1 130 129])
 (.drop [127,128,129,130] (.seq (.reg [.fadr 131 3 5,
 .l 132 131,
 .bin 133 .gtr 132 (.i 100000),
 .fadr 134 4 5,
 .st 1 134 133])
 (.drop [131,132,133,134] (.seq (.reg [.fadr 135 4 5,
 .l 136 135,
 .un 137 .not 136])
 (.drop [135,136] (.cond 137 (.frz [14,13] (.dreg [(.ld 138 5 true 5,[]),
 (.fadr 139 0 2,[138]),
 (.l 140 139,[138]),
 (.ld 141 2 true 3,[138,139,140]),
 (.mov 142 6,[138,139,140,141]),
 (.fadr 143 0 2,[138,139,140,141,142]),
 (.l 144 143,[138,139,140,141,142]),
 (.fadr 145 1 2,[138,139,140,141,142,143,144]),
 (.l 146 145,[138,139,140,141,142,143,144]),
 (.mov 147 11,[138,139,140,141,142,143,144,145,146]),
 (.iad 148 2 146 147,[138,139,140,141,142,143,144]),
 (.ld 149 2 true 148,[138,139,140,141,142,143,144]),
 (.mov 150 14,[138,139,140,141,142,143,144,145,146,147,148,149]),
 (.mov 151 7,[138,139,140,141,142,143,144,145,146,147,148,149,150]),
 (.iad 152 1 151 (.i 0),[138,139,140,141,142,143,144,145,146,147,148,149,150]),
 (.l 153 152,[138,139,140,141,142,143,144,145,146,147,148,149,150]),
 (.len 154 153,[138,139,140,141,142,143,144,145,146,147,148,149,150]),
 (.call 155 Ih [(144,false),(149,false),(150,false),(154,false)],[138,139,140,141,142]),
 (.mov 156 11,[138,139,140,141,142,143,144,145,146,147,148,149,150,151,152,153,154,155]),
 (.mov 157 13,[138,139,140,141,142,143,144,145,146,147,148,149,150,151,152,153,154,155,156]),
 (.bld 158 [.int .i64 0,.nilsl 1] [(0,1,156),(1,1,157)],[138,139,140,141,142,143,144,145,146,147,148,149,150,151,152,153,154,155])]
 [.call 159 R4 [(138,true),(140,false),(141,false),(142,false),(155,false),(158,false)],
 .st 5 5 159]))
 .skip))))))))))))))))
 (.drop [13,14,137,138,139,140,141,142,143,144,145,146,147,148,149,150,151,152,153,154,155,156,157,158,159] (.reg [.mov 87 12,
 .bin 88 .add 87 (.i 1),
 .asg 12 88])))))
def Wu:ACode:=
 (.seq (.seq (.reg [.mov 60 11,
 .fadr 61 1 2,
 .l 62 61,
 .len 63 62,
 .bin 64 .lss 60 63])
 (.drop [60,61,62,63] (.cond 64 .skip
 (.exit 4))))
 (.drop [64] (.seq (.block 5 (.seq (.reg [.asg 12 (.i 0)])
 (.block 6 (.loop W9))))
 (.drop [12,87,88] (.reg [.mov 65 11,
 .bin 66 .add 65 (.i 1),
 .asg 11 66])))))
def Wv:ACode:=
 (.seq (.cut Ain)
 (.drop [56] (.block 3 (.seq (.reg [.fadr 57 0 5,
 .l 58 57,
 .len 59 58,
 .asg 10 59])
 (.drop [57,58,59] (.seq (.seq (.reg [.asg 11 (.i 0)])
 (.block 4 (.loop Wu)))
 (.drop [11,65,66] (.reg [.mov 160 10,
 .asg 9 160]))))))))
def Aoc:ACode:=
 (.seq (.reg [.box 2 0,
 .box 3 1,
 .alc 4 (.agg [.nilsl 1,.nilsl 2,.int .i64 0,.int .i64 0,.bool false])])
 (.seq (.reg [.bld 16 [.nilsl 1,.nilsl 2,.int .i64 0,.int .i64 0,.bool false] [(2,1,(.i (-1)))],
 .alc 5 (.agg [.nilsl 1,.nilsl 2,.int .i64 0,.int .i64 0,.bool false]),
 .st 5 5 16])
 (.drop [16] (.seq (.dreg [(.ld 17 2 true 3,[]),
 (.call 18 Gc [(17,false)],[]),
 (.fadr 19 0 2,[17,18]),
 (.l 20 19,[17,18]),
 (.ld 21 2 true 3,[17,18,19,20])]
 [.call 22 Kf [(20,false),(21,false)],
 .asg 6 18,
 .asg 7 22])
 (.drop (R 17 6) (.seq (.seq (.reg [.asg 8 (.i 0)])
 (.frz [6,7] (.block 0 (.loop Wg))))
 (.drop [8,27,28] (.seq (.reg [.asg 9 (.i 0)])
 (.seq (.block 2 (.loop Wv))
 (.drop [10,160] (.seq (.reg [.ld 161 5 true 5,
 .st 5 4 161])
 .ret)))))))))))
abbrev Aow:List RS:=[.c 4 5 true]
theorem Apy:Bj Try.prog Ja 162 Aoc Aow=true:=by kernel_rfl
end Go.Proofs.Ytaalgpkajkogkaa.Ax
