/-
  The small code of the functions, written by program; that the program's code is this one, the kernel looks at.
-/
import Derived.Test.YtmmcfdfdacpjgaaAx3
import Derived.Test.YtmmcfdfdacpjgaaProg
import Derived.KernelRfl
import Derived.Test.YtmmcfdfdacpjgaaNum
namespace Go.Proofs.Ytmmcfdfdacpjgaa.Ax
open Go
set_option maxRecDepth 100000
def Asr:ACode:=
 (.seq (.reg [.asg 2 (.c (.bool false))])
 (.seq (.reg [.mov 3 0,
 .len 4 3,
 .bin 5 .gtr 4 (.i 65536),
 .asg 2 5])
 .ret))
abbrev As2:List RS:=[.t 2]
theorem Arv:A5 Try.prog Zg 6 Asr As2=true:=by kernel_rfl
def Za:ACode:=
 (.seq (.seq (.reg [.mov 6 5,
 .mov 7 0,
 .len 8 7,
 .bin 9 .lss 6 8])
 (.drop [6,7,8] (.cond 9 .skip
 (.exit 0))))
 (.drop [9] (.seq (.block 1 (.seq (.reg [.mov 12 0,
 .mov 13 5,
 .iad 14 1 12 13,
 .l 15 14,
 .mov 16 1,
 .bin 17 .eql 15 16])
 (.drop (R 12 5) (.cond 17 (.seq (.reg [.asg 4 (.c (.bool true))])
 .ret)
 .skip))))
 (.drop [17] (.reg [.mov 10 5,
 .bin 11 .add 10 (.i 1),
 .asg 5 11])))))
def Ar0:ACode:=
 (.seq (.reg [.asg 4 (.c (.bool false))])
 (.seq (.seq (.reg [.asg 5 (.i 0)])
 (.block 0 (.loop Za)))
 (.drop [5,10,11] (.seq (.reg [.asg 4 (.c (.bool false))])
 .ret))))
abbrev Arh:List RS:=[.t 4]
theorem Asu:A5 Try.prog Yq 18 Ar0 Arh=true:=by kernel_rfl
def Xm:ACode:=
 (.seq (.seq (.reg [.mov 11 5,
 .mov 12 0,
 .len 13 12,
 .bin 14 .lss 11 13])
 (.drop [11,12,13] (.cond 14 .skip
 (.exit 0))))
 (.drop [14] (.seq (.block 1 (.seq (.dreg [(.mov 17 0,[]),
 (.mov 18 5,[17]),
 (.iad 19 1 17 18,[]),
 (.l 20 19,[]),
 (.mov 21 1,[17,18,19,20]),
 (.mov 22 5,[17,18,19,20,21]),
 (.iad 23 1 21 22,[17,18,19,20]),
 (.l 24 23,[17,18,19,20])]
 [.bin 25 .neq 20 24])
 (.drop (R 17 8) (.cond 25 (.seq (.reg [.asg 4 (.c (.bool false))])
 .ret)
 .skip))))
 (.drop [25] (.reg [.mov 15 5,
 .bin 16 .add 15 (.i 1),
 .asg 5 16])))))
def Apd:ACode:=
 (.seq (.reg [.asg 4 (.c (.bool false))])
 (.seq (.seq (.reg [.mov 6 0,
 .len 7 6,
 .mov 8 1,
 .len 9 8,
 .bin 10 .neq 7 9])
 (.drop [6,7,8,9] (.cond 10 (.seq (.reg [.asg 4 (.c (.bool false))])
 .ret)
 .skip)))
 (.drop [10] (.seq (.seq (.reg [.asg 5 (.i 0)])
 (.block 0 (.loop Xm)))
 (.drop [5,15,16] (.seq (.reg [.asg 4 (.c (.bool true))])
 .ret))))))
abbrev Aqq:List RS:=[.t 4]
theorem Ao6:A5 Try.prog Q7 26 Apd Aqq=true:=by kernel_rfl
def Xk:ACode:=
 (.seq (.reg [.bin 13 .lss 12 11])
 (.seq (.cond 13 .skip
 (.exit 0))
 (.seq (.block 1 (.seq (.reg [.iad 14 1 10 12,
 .l 15 14,
 .asg 5 15])
 (.drop [14,15] (.reg [.mov 16 3,
 .mov 17 5,
 .bin 18 .shr 17 (.c (.int .u64 8)),
 un (.cnv 19 .u8 18),
 .mov 20 5,
 un (.cnv 21 .u8 20),
 .bsl 22 1 [19,21],
 .app 23 1 16 22,
 .asg 3 23]))))
 (.drop [5,16,17,18,19,20,21,22,23] (.reg [.bin 24 .add 12 (.i 1),
 .asg 12 24])))))
def Aql:ACode:=
 (.seq (.reg [⟨none,.asg 2 (.c (.str ⟨#[]⟩))⟩])
 (.seq (.reg [.mov 6 0,
 .len 7 6,
 .bin 8 .mul (.i 2) 7,
 un (.mkc 9 1 (.int .u8 0) 8),
 .asg 3 9])
 (.drop [6,7,8,9] (.seq (.seq (.reg [.mov 10 0,
 .len 11 10,
 .mov 12 (.i 0)])
 (.block 0 (.loop Xk)))
 (.drop [10,11,12,13,24] (.seq (.reg [.mov 25 3,
 un (.bstr 26 25),
 .asg 2 26])
 .ret))))))
abbrev Aqh:List RS:=[.t 2]
theorem Aol:A5 Try.prog Kl 27 Aql Aqh=true:=by kernel_rfl
def Xb:ACode:=
 (.seq (.seq (.reg [.mov 6 1,
 .bin 7 .gtr 6 (.i 0)])
 (.drop [6] (.cond 7 .skip
 (.exit 0))))
 (.drop [7] (.seq (.block 1 (.reg [.mov 10 5,
 .mov 11 0,
 .bin 12 .mul 10 11,
 .asg 5 12]))
 (.drop [10,11,12] (.reg [.mov 8 1,
 .bin 9 .sub 8 (.i 1),
 .asg 1 9])))))
def Aot:ACode:=
 (.seq (.reg [.asg 4 (.i 0)])
 (.seq (.reg [.asg 5 (.i 1)])
 (.seq (.block 0 (.loop Xb))
 (.drop [8,9] (.seq (.reg [.mov 13 5,
 .asg 4 13])
 .ret)))))
abbrev Apw:List RS:=[.t 4]
theorem Aqn:A5 Try.prog Q3 14 Aot Apw=true:=by kernel_rfl
def Vo:ACode:=
 (.seq (.seq (.reg [.mov 13 8,
 .bin 14 .geq 13 (.i 0)])
 (.drop [13] (.cond 14 .skip
 (.exit 0))))
 (.drop [14] (.seq (.block 1 (.seq (.reg [.mov 17 7,
 .mov 18 8,
 .mov 19 0,
 .mov 20 2,
 .bin 21 .rem 19 20,
 .iad 22 1 17 18,
 .st 1 22 21])
 (.drop (R 17 6) (.reg [.mov 23 0,
 .mov 24 2,
 .bin 25 .quo 23 24,
 .asg 0 25]))))
 (.drop [23,24,25] (.reg [.mov 15 8,
 .bin 16 .sub 15 (.i 1),
 .asg 8 16])))))
def Amf:ACode:=
 (.seq (.reg [.asg 6 (.c (.nilsl 1))])
 (.seq (.reg [.mov 9 1,
 un (.mk 10 1 (.int .i64 0) 9),
 .asg 7 10])
 (.drop [9,10] (.seq (.seq (.reg [.mov 11 1,
 .bin 12 .sub 11 (.i 1),
 .asg 8 12])
 (.drop [11,12] (.block 0 (.loop Vo))))
 (.drop [8,15,16] (.seq (.reg [.mov 26 7,
 .asg 6 26])
 .ret))))))
abbrev Amn:List RS:=[.t 6]
theorem Am4:A5 Try.prog Ub 27 Amf Amn=true:=by kernel_rfl
def Nn:ACode:=
 (.seq (.reg [.bin 24 .lss 23 22])
 (.seq (.cond 24 .skip
 (.exit 2))
 (.seq (.block 3 (.seq (.reg [.iad 25 1 21 23,
 .l 26 25,
 .asg 13 26])
 (.drop [25,26] (.dreg [(.mov 27 11,[]),
 (.fadr 28 0 4,[27]),
 (.l 29 28,[27]),
 (.bin 30 .mul 27 29,[]),
 (.mov 31 13,[27,28,29,30]),
 (.mov 32 10,[27,28,29,30,31]),
 (.iad 33 1 31 32,[27,28,29,30]),
 (.l 34 33,[27,28,29,30])]
 [.bin 35 .add 30 34,
 .asg 11 35]))))
 (.drop [13,27,28,29,30,31,32,33,34,35] (.reg [.bin 36 .add 23 (.i 1),
 .asg 23 36])))))
def Nz:ACode:=
 (.seq (.reg [.bin 19 .lss 18 17])
 (.seq (.cond 19 .skip
 (.exit 0))
 (.seq (.block 1 (.seq (.reg [.mov 20 18,
 .asg 10 20])
 (.drop [20] (.seq (.reg [.asg 11 (.i 0)])
 (.seq (.seq (.reg [.mov 21 3,
 .len 22 21,
 .mov 23 (.i 0)])
 (.block 2 (.loop Nn)))
 (.drop [21,22,23,24,36] (.reg [.mov 37 9,
 .mov 38 10,
 .fadr 39 1 5,
 .l 40 39,
 .mov 41 11,
 .iad 42 1 40 41,
 .l 43 42,
 .iad 44 1 37 38,
 .st 1 44 43])))))))
 (.drop [10,11,37,38,39,40,41,42,43,44] (.reg [.bin 45 .add 18 (.i 1),
 .asg 18 45])))))
def Aba:ACode:=
 (.seq (.reg [.box 4 0,
 .box 5 1,
 .asg 8 (.c (.nilsl 1))])
 (.seq (.reg [.mov 14 2,
 un (.mk 15 1 (.int .i64 0) 14),
 .asg 9 15])
 (.drop [14,15] (.seq (.seq (.reg [.mov 16 9,
 .len 17 16,
 .mov 18 (.i 0)])
 (.drop [16] (.block 0 (.loop Nz))))
 (.drop [17,18,19,45] (.seq (.reg [.mov 46 9,
 .asg 8 46])
 .ret))))))
abbrev Abl:List RS:=[.t 8]
theorem Acj:A5 Try.prog Gm 47 Aba Abl=true:=by kernel_rfl
def Art:ACode:=
 (.seq (.reg [.asg 6 (.c (.bool false))])
 (.seq (.reg [.mov 7 0,
 .mov 8 1,
 .bin 9 .geq 7 8,
 .asg 10 9,
 .y 10 (.mov 11 0),
 .y 10 (.mov 12 2),
 .y 10 (.bin 13 .leq 11 12),
 .pick 14 10 13 (.c (.bool false)),
 .asg 6 14])
 .ret))
abbrev Ar3:List RS:=[.t 6]
theorem Ar5:A5 Try.prog F6 15 Art Ar3=true:=by kernel_rfl
def V6:ACode:=
 (.seq (.reg [.bin 10 .lss 9 8])
 (.seq (.cond 10 .skip
 (.exit 0))
 (.seq (.block 1 (.seq (.reg [.mov 11 9,
 .iad 12 1 7 9,
 .l 13 12,
 .asg 4 11,
 .asg 5 13])
 (.drop [11,12,13] (.seq (.reg [.mov 14 5])
 (.cond 14 (.reg [.mov 15 3,
 .mov 16 4,
 .bsl 17 1 [16],
 .app 18 1 15 17,
 .asg 3 18])
 .skip)))))
 (.drop [4,5,14,15,16,17,18] (.reg [.bin 19 .add 9 (.i 1),
 .asg 9 19])))))
def Amd:ACode:=
 (.seq (.reg [.asg 2 (.c (.nilsl 1))])
 (.seq (.reg [.bsl 6 1 [],
 .asg 3 6])
 (.drop [6] (.seq (.seq (.reg [.mov 7 0,
 .len 8 7,
 .mov 9 (.i 0)])
 (.block 0 (.loop V6)))
 (.drop [7,8,9,10,19] (.seq (.reg [.mov 20 3,
 .asg 2 20])
 .ret))))))
abbrev Al1:List RS:=[.t 2]
theorem Amw:A5 Try.prog Uw 21 Amd Al1=true:=by kernel_rfl
def Xe:ACode:=
 (.seq (.seq (.reg [.mov 6 5,
 .mov 7 0,
 .len 8 7,
 .bin 9 .lss 6 8,
 .asg 10 9,
 .y 10 (.mov 11 0),
 .y 10 (.mov 12 5),
 .y 10 (.iad 13 1 11 12),
 .y 10 (.ld 14 1 false 13),
 .y 10 (.mov 15 1),
 .y 10 (.bin 16 .lss 14 15),
 .pick 17 10 16 (.c (.bool false))])
 (.drop (R 6 11) (.cond 17 .skip
 (.exit 0))))
 (.drop [17] (.block 1 (.reg [.mov 18 5,
 .bin 19 .add 18 (.i 1),
 .asg 5 19]))))
def Ah6:ACode:=
 (.seq (.reg [.mov 20 5,
 .mov 21 0,
 .len 22 21,
 .bin 23 .lss 20 22,
 .asg 24 23,
 .y 24 (.mov 25 0),
 .y 24 (.mov 26 5),
 .y 24 (.iad 27 1 25 26),
 .y 24 (.ld 28 1 false 27),
 .y 24 (.mov 29 1),
 .y 24 (.bin 30 .eql 28 29),
 .pick 31 24 30 (.c (.bool false))])
 (.drop (R 20 11) (.cond 31 (.seq (.reg [.mov 32 0,
 .asg 4 32])
 .ret)
 .skip)))
def Aqr:ACode:=
 (.seq (.reg [.asg 4 (.c (.nilsl 1))])
 (.seq (.reg [.asg 5 (.i 0)])
 (.seq (.block 0 (.loop Xe))
 (.drop [18,19] (.seq (.cut Ah6)
 (.drop [31] (.seq (.dreg [(.bsl 33 1 [],[38]),
 (.mov 34 0,[33,38]),
 (.mov 35 5,[33,34,38]),
 (un (.slc 36 1 34 none (some 35)),[33,38]),
 (.app 37 1 33 36,[38]),
 (.mov 38 1,[33,34,35,36,37,33]),
 (.bsl 39 1 [38],[33,34,35,36,37,33]),
 (.app 40 1 37 39,[33,38]),
 (.mov 41 0,[33,34,35,36,37,38,39,40,33,38,37]),
 (.mov 42 5,[33,34,35,36,37,38,39,40,41,33,38,37]),
 (un (.slc 43 1 41 (some 42) none),[33,34,35,36,37,38,39,40,33,38,37])]
 [.app 44 1 40 43,
 .asg 4 44])
 .ret)))))))
abbrev Aog:List RS:=[.t 4]
theorem Ao0:A5 Try.prog Wh 45 Aqr Aog=true:=by kernel_rfl
def Ahg:ACode:=
 (.seq (.reg [.asg 2 (.c (.bool false))])
 (.seq (.reg [.mov 3 0,
 .bin 4 .geq 3 (.i 1),
 .asg 5 4,
 .y 5 (.mov 6 0),
 .y 5 (.bin 7 .leq 6 (.i 64)),
 .pick 8 5 7 (.c (.bool false)),
 .asg 2 8])
 .ret))
abbrev Ahd:List RS:=[.t 2]
theorem Ahv:A5 Try.prog Lb 9 Ahg Ahd=true:=by kernel_rfl
def Th:ACode:=
 (.seq (.seq (.reg [.mov 19 12,
 .mov 20 2,
 .len 21 20,
 .bin 22 .lss 19 21])
 (.drop [19,20,21] (.cond 22 .skip
 (.exit 2))))
 (.drop [22] (.seq (.block 3 (.dreg [(.mov 25 11,[]),
 (.fadr 26 0 4,[25]),
 (.l 27 26,[25]),
 (.bin 28 .mul 25 27,[]),
 (.mov 29 2,[25,26,27,28]),
 (.mov 30 12,[25,26,27,28,29]),
 (.iad 31 1 29 30,[25,26,27,28]),
 (.l 32 31,[25,26,27,28]),
 (.mov 33 10,[25,26,27,28,29,30,31,32]),
 (.iad 34 1 32 33,[25,26,27,28]),
 (.l 35 34,[25,26,27,28])]
 [.bin 36 .add 28 35,
 .asg 11 36]))
 (.drop (R 25 12) (.reg [.mov 23 12,
 .bin 24 .add 23 (.i 1),
 .asg 12 24])))))
def Te:ACode:=
 (.seq (.seq (.reg [.mov 14 10,
 .mov 15 3,
 .bin 16 .lss 14 15])
 (.drop [14,15] (.cond 16 .skip
 (.exit 0))))
 (.drop [16] (.seq (.block 1 (.seq (.reg [.asg 11 (.i 0)])
 (.seq (.seq (.reg [.asg 12 (.i 0)])
 (.block 2 (.loop Th)))
 (.drop [12,23,24] (.reg [.mov 37 9,
 .fadr 38 1 4,
 .l 39 38,
 .mov 40 1,
 .iad 41 2 39 40,
 .fadr 42 1 41,
 .l 43 42,
 .mov 44 11,
 .iad 45 1 43 44,
 .l 46 45,
 .bsl 47 1 [46],
 .app 48 1 37 47,
 .asg 9 48])))))
 (.drop [11,37,38,39,40,41,42,43,44,45,46,47,48] (.reg [.mov 17 10,
 .bin 18 .add 17 (.i 1),
 .asg 10 18])))))
def Ak1:ACode:=
 (.seq (.reg [.box 4 0,
 .asg 8 (.c (.nilsl 1))])
 (.seq (.reg [.bsl 13 1 [],
 .asg 9 13])
 (.drop [13] (.seq (.seq (.reg [.asg 10 (.i 0)])
 (.block 0 (.loop Te)))
 (.drop [10,17,18] (.seq (.reg [.mov 49 9,
 .asg 8 49])
 .ret))))))
abbrev Ajd:List RS:=[.t 8]
theorem Ake:A5 Try.prog Gi 50 Ak1 Ajd=true:=by kernel_rfl
def V3:ACode:=
 (.seq (.reg [.bin 10 .lss 9 8])
 (.seq (.cond 10 .skip
 (.exit 0))
 (.seq (.block 1 (.seq (.reg [.iad 11 1 7 9,
 .l 12 11,
 .asg 6 12])
 (.drop [11,12] (.seq (.reg [.mov 13 6,
 .bin 14 .lss 13 (.i 0),
 .asg 15 14,
 .n 15 (.mov 16 6),
 .n 15 (.mov 17 1),
 .n 15 (.bin 18 .geq 16 17),
 .pick 19 15 (.c (.bool true)) 18])
 (.drop (R 13 6) (.cond 19 (.seq (.reg [.asg 4 (.c (.bool false))])
 .ret)
 .skip))))))
 (.drop [6,19] (.reg [.bin 20 .add 9 (.i 1),
 .asg 9 20])))))
def Alx:ACode:=
 (.seq (.reg [.asg 4 (.c (.bool false))])
 (.seq (.seq (.reg [.mov 7 0,
 .len 8 7,
 .mov 9 (.i 0)])
 (.block 0 (.loop V3)))
 (.drop [7,8,9,10,20] (.seq (.reg [.asg 4 (.c (.bool true))])
 .ret))))
abbrev Amq:List RS:=[.t 4]
theorem Amy:A5 Try.prog I7 21 Alx Amq=true:=by kernel_rfl
def Td:ACode:=
 (.seq (.reg [.bin 11 .lss 10 9])
 (.seq (.cond 11 .skip
 (.exit 0))
 (.seq (.block 1 (.seq (.reg [.iad 12 1 8 10,
 .l 13 12,
 .asg 7 13])
 (.drop [12,13] (.reg [.mov 14 5,
 .mov 15 1,
 .bin 16 .mul 14 15,
 .mov 17 7,
 .bin 18 .add 16 17,
 .asg 5 18]))))
 (.drop [7,14,15,16,17,18] (.reg [.bin 19 .add 10 (.i 1),
 .asg 10 19])))))
def Ak0:ACode:=
 (.seq (.reg [.asg 4 (.i 0)])
 (.seq (.reg [.asg 5 (.i 0)])
 (.seq (.seq (.reg [.mov 8 0,
 .len 9 8,
 .mov 10 (.i 0)])
 (.block 0 (.loop Td)))
 (.drop [8,9,10,11,19] (.seq (.reg [.mov 20 5,
 .asg 4 20])
 .ret)))))
abbrev Ajf:List RS:=[.t 4]
theorem Akk:A5 Try.prog Ry 21 Ak0 Ajf=true:=by kernel_rfl
def Xu:ACode:=
 (.seq (.seq (.reg [.mov 6 1,
 .bin 7 .gtr 6 (.i 0)])
 (.drop [6] (.cond 7 .skip
 (.exit 0))))
 (.drop [7] (.seq (.block 1 (.reg [.mov 10 5,
 .mov 11 0,
 .bin 12 .mul 10 11,
 .asg 5 12]))
 (.drop [10,11,12] (.reg [.mov 8 1,
 .bin 9 .sub 8 (.i 1),
 .asg 1 9])))))
def Ap4:ACode:=
 (.seq (.reg [.asg 4 (.i 0)])
 (.seq (.reg [.asg 5 (.i 1)])
 (.seq (.block 0 (.loop Xu))
 (.drop [8,9] (.seq (.reg [.mov 13 5,
 .asg 4 13])
 .ret)))))
abbrev An9:List RS:=[.t 4]
theorem Apu:A5 Try.prog M5 14 Ap4 An9=true:=by kernel_rfl
def Lm:ACode:=
 (.seq (.seq (.reg [.mov 8 6,
 .mov 9 1,
 .len 10 9,
 .bin 11 .lss 8 10])
 (.drop [8,9,10] (.cond 11 .skip
 (.exit 0))))
 (.drop [11] (.seq (.block 1 (.reg [.mov 14 5,
 .mov 15 0,
 .mov 16 1,
 .mov 17 6,
 .iad 18 1 16 17,
 .l 19 18,
 .iad 20 1 15 19,
 .l 21 20,
 .bsl 22 1 [21],
 .app 23 1 14 22,
 .asg 5 23]))
 (.drop (R 14 10) (.reg [.mov 12 6,
 .bin 13 .add 12 (.i 1),
 .asg 6 13])))))
def Xj:ACode:=
 (.seq (.reg [.asg 4 (.c (.nilsl 1))])
 (.seq (.reg [.bsl 7 1 [],
 .asg 5 7])
 (.drop [7] (.seq (.seq (.reg [.asg 6 (.i 0)])
 (.block 0 (.loop Lm)))
 (.drop [6,12,13] (.seq (.reg [.mov 24 5,
 .asg 4 24])
 .ret))))))
abbrev Xt:List RS:=[.t 4]
theorem Xn:A5 Try.prog G4 25 Xj Xt=true:=by kernel_rfl
abbrev Va:Nat:=G4
abbrev Afo:ACode:=Xj
abbrev Afi:List RS:=Xt
theorem Agi:A5 Try.prog Va 25 Afo Afi=true:=Xn
def Vn:ACode:=
 (.seq (.seq (.reg [.mov 13 8,
 .bin 14 .geq 13 (.i 0)])
 (.drop [13] (.cond 14 .skip
 (.exit 0))))
 (.drop [14] (.seq (.block 1 (.seq (.reg [.mov 17 7,
 .mov 18 8,
 .mov 19 2,
 .mov 20 0,
 .bin 21 .rem 19 20,
 .iad 22 1 17 18,
 .st 1 22 21])
 (.drop (R 17 6) (.reg [.mov 23 2,
 .mov 24 0,
 .bin 25 .quo 23 24,
 .asg 2 25]))))
 (.drop [23,24,25] (.reg [.mov 15 8,
 .bin 16 .sub 15 (.i 1),
 .asg 8 16])))))
def Am2:ACode:=
 (.seq (.reg [.asg 6 (.c (.nilsl 1))])
 (.seq (.reg [.mov 9 1,
 un (.mk 10 1 (.int .i64 0) 9),
 .asg 7 10])
 (.drop [9,10] (.seq (.seq (.reg [.mov 11 1,
 .bin 12 .sub 11 (.i 1),
 .asg 8 12])
 (.drop [11,12] (.block 0 (.loop Vn))))
 (.drop [8,15,16] (.seq (.reg [.mov 26 7,
 .asg 6 26])
 .ret))))))
abbrev Ame:List RS:=[.t 6]
theorem Alt:A5 Try.prog Up 27 Am2 Ame=true:=by kernel_rfl
def Aly:ACode:=
 (.seq (.reg [.asg 4 (.i 0)])
 (.seq (.seq (.reg [.mov 5 0,
 .mov 6 1,
 .bin 7 .gtr 5 6])
 (.drop [5,6] (.cond 7 (.seq (.reg [.mov 8 0,
 .asg 4 8])
 .ret)
 .skip)))
 (.drop [7] (.seq (.reg [.mov 9 1,
 .asg 4 9])
 .ret))))
abbrev Aml:List RS:=[.t 4]
theorem Alz:A5 Try.prog Ph 10 Aly Aml=true:=by kernel_rfl
def Ajm:ACode:=
 (.seq (.reg [.asg 4 (.i 0)])
 (.seq (.seq (.reg [.mov 5 0,
 .mov 6 1,
 .bin 7 .lss 5 6])
 (.drop [5,6] (.cond 7 (.seq (.reg [.mov 8 0,
 .asg 4 8])
 .ret)
 .skip)))
 (.drop [7] (.seq (.reg [.mov 9 1,
 .asg 4 9])
 .ret))))
abbrev Ajc:List RS:=[.t 4]
theorem Ald:A5 Try.prog Mn 10 Ajm Ajc=true:=by kernel_rfl
def Po:ACode:=
 (.seq (.reg [.bin 10 .lss 9 8])
 (.seq (.cond 10 .skip
 (.exit 0))
 (.seq (.block 1 (.seq (.reg [.iad 11 2 7 9,
 .ld 12 2 true 11,
 .alc 5 (.agg [.int .i64 0,.nilsl 1]),
 .st 2 5 12])
 (.drop [11,12] (.reg [.mov 13 3,
 .fadr 14 0 5,
 .l 15 14,
 un (.max 16 13 15),
 .asg 3 16]))))
 (.drop [5,13,14,15,16] (.reg [.bin 17 .add 9 (.i 1),
 .asg 9 17])))))
def Acs:ACode:=
 (.seq (.reg [.box 1 0,
 .asg 2 (.i 0)])
 (.seq (.reg [.asg 3 (.i 0)])
 (.seq (.seq (.reg [.fadr 6 1 1,
 .l 7 6,
 .len 8 7,
 .mov 9 (.i 0)])
 (.drop [6] (.block 0 (.loop Po))))
 (.drop [7,8,9,10,17] (.seq (.seq (.reg [.mov 18 3])
 (.block 2 (.seq (.reg [.bin 20 .eql 18 (.i 3),
 .asg 19 20])
 (.drop [20] (.cond 19 (.seq (.reg [.asg 2 (.i 40)])
 .ret)
 (.seq (.reg [.bin 22 .eql 18 (.i 2),
 .asg 21 22])
 (.drop [22] (.cond 21 (.seq (.reg [.asg 2 (.i 200)])
 .ret)
 .skip))))))))
 (.drop [18,19,21] (.seq (.reg [.asg 2 (.i 300)])
 .ret)))))))
abbrev Aeh:List RS:=[.t 2]
theorem Aef:A5 Try.prog Hh 23 Acs Aeh=true:=by kernel_rfl
def W2:ACode:=
 (.seq (.reg [.mov 6 5,
 .mov 7 0,
 .len 8 7,
 .bin 9 .lss 6 8,
 .asg 10 9,
 .y 10 (.mov 11 5),
 .y 10 (.mov 12 1),
 .y 10 (.len 13 12),
 .y 10 (.bin 14 .lss 11 13),
 .pick 15 10 14 (.c (.bool false))])
 (.drop (R 6 9) (.cond 15 .skip
 (.exit 0))))
def Nc:ACode:=
 (.seq (.cut W2)
 (.drop [15] (.seq (.block 1 (.seq (.dreg [(.mov 18 0,[]),
 (.mov 19 5,[18]),
 (.iad 20 1 18 19,[]),
 (.l 21 20,[]),
 (.mov 22 1,[18,19,20,21]),
 (.mov 23 5,[18,19,20,21,22]),
 (.iad 24 1 22 23,[18,19,20,21]),
 (.l 25 24,[18,19,20,21])]
 [.bin 26 .neq 21 25])
 (.drop (R 18 8) (.cond 26 (.seq (.seq (.dreg [(.mov 27 0,[]),
 (.mov 28 5,[27]),
 (.iad 29 1 27 28,[]),
 (.l 30 29,[]),
 (.mov 31 1,[27,28,29,30]),
 (.mov 32 5,[27,28,29,30,31]),
 (.iad 33 1 31 32,[27,28,29,30]),
 (.l 34 33,[27,28,29,30])]
 [.bin 35 .lss 30 34])
 (.drop (R 27 8) (.cond 35 (.seq (.reg [.asg 4 (.i (-1))])
 .ret)
 .skip)))
 (.drop [35] (.seq (.reg [.asg 4 (.i 1)])
 .ret)))
 .skip))))
 (.drop [26] (.reg [.mov 16 5,
 .bin 17 .add 16 (.i 1),
 .asg 5 17])))))
def Aal:ACode:=
 (.seq (.reg [.asg 4 (.i 0)])
 (.seq (.seq (.reg [.asg 5 (.i 0)])
 (.block 0 (.loop Nc)))
 (.drop [5,16,17] (.seq (.block 2 (.seq (.reg [.mov 37 0,
 .len 38 37,
 .mov 39 1,
 .len 40 39,
 .bin 41 .lss 38 40,
 .asg 36 41])
 (.drop (R 37 5) (.cond 36 (.seq (.reg [.asg 4 (.i (-1))])
 .ret)
 (.seq (.reg [.mov 43 0,
 .len 44 43,
 .mov 45 1,
 .len 46 45,
 .bin 47 .gtr 44 46,
 .asg 42 47])
 (.drop (R 43 5) (.cond 42 (.seq (.reg [.asg 4 (.i 1)])
 .ret)
 .skip)))))))
 (.drop [36,42] (.seq (.reg [.asg 4 (.i 0)])
 .ret))))))
abbrev Aai:List RS:=[.t 4]
theorem Aaf:A5 Try.prog Kx 48 Aal Aai=true:=by kernel_rfl
def Vv:ACode:=
 (.seq (.seq (.reg [.mov 6 5,
 .mov 7 0,
 .len 8 7,
 .bin 9 .lss 6 8])
 (.drop [6,7,8] (.cond 9 .skip
 (.exit 0))))
 (.drop [9] (.seq (.block 1 (.seq (.dreg [(.mov 12 0,[]),
 (.mov 13 5,[12]),
 (.iad 14 1 12 13,[]),
 (.l 15 14,[]),
 (.mov 16 1,[12,13,14,15]),
 (.mov 17 5,[12,13,14,15,16]),
 (.iad 18 1 16 17,[12,13,14,15]),
 (.l 19 18,[12,13,14,15])]
 [.bin 20 .neq 15 19])
 (.drop (R 12 8) (.cond 20 (.seq (.dreg [(.mov 21 0,[]),
 (.mov 22 5,[21]),
 (.iad 23 1 21 22,[]),
 (.l 24 23,[]),
 (.mov 25 1,[21,22,23,24]),
 (.mov 26 5,[21,22,23,24,25]),
 (.iad 27 1 25 26,[21,22,23,24]),
 (.l 28 27,[21,22,23,24])]
 [.bin 29 .lss 24 28,
 .asg 4 29])
 .ret)
 .skip))))
 (.drop [20] (.reg [.mov 10 5,
 .bin 11 .add 10 (.i 1),
 .asg 5 11])))))
def Alr:ACode:=
 (.seq (.reg [.asg 4 (.c (.bool false))])
 (.seq (.seq (.reg [.asg 5 (.i 0)])
 (.block 0 (.loop Vv)))
 (.drop [5,10,11] (.seq (.reg [.asg 4 (.c (.bool false))])
 .ret))))
abbrev Ams:List RS:=[.t 4]
theorem Amx:A5 Try.prog O6 30 Alr Ams=true:=by kernel_rfl
def Vt:ACode:=
 (.seq (.seq (.reg [.mov 11 5,
 .mov 12 0,
 .len 13 12,
 .bin 14 .lss 11 13])
 (.drop [11,12,13] (.cond 14 .skip
 (.exit 0))))
 (.drop [14] (.seq (.block 1 (.seq (.dreg [(.mov 17 0,[]),
 (.mov 18 5,[17]),
 (.iad 19 1 17 18,[]),
 (.l 20 19,[]),
 (.mov 21 1,[17,18,19,20]),
 (.mov 22 5,[17,18,19,20,21]),
 (.iad 23 1 21 22,[17,18,19,20]),
 (.l 24 23,[17,18,19,20])]
 [.bin 25 .neq 20 24])
 (.drop (R 17 8) (.cond 25 (.seq (.reg [.asg 4 (.c (.bool false))])
 .ret)
 .skip))))
 (.drop [25] (.reg [.mov 15 5,
 .bin 16 .add 15 (.i 1),
 .asg 5 16])))))
def Alw:ACode:=
 (.seq (.reg [.asg 4 (.c (.bool false))])
 (.seq (.seq (.reg [.mov 6 0,
 .len 7 6,
 .mov 8 1,
 .len 9 8,
 .bin 10 .neq 7 9])
 (.drop [6,7,8,9] (.cond 10 (.seq (.reg [.asg 4 (.c (.bool false))])
 .ret)
 .skip)))
 (.drop [10] (.seq (.seq (.reg [.asg 5 (.i 0)])
 (.block 0 (.loop Vt)))
 (.drop [5,15,16] (.seq (.reg [.asg 4 (.c (.bool true))])
 .ret))))))
abbrev Amp:List RS:=[.t 4]
theorem Al2:A5 Try.prog Uf 26 Alw Amp=true:=by kernel_rfl
def Px:ACode:=
 (.seq (.seq (.reg [.mov 14 13,
 .mov 15 1,
 .bin 16 .lss 14 15])
 (.drop [14,15] (.cond 16 .skip
 (.exit 0))))
 (.drop [16] (.seq (.block 1 (.seq (.reg [.mov 19 11,
 .mov 20 4,
 .mov 21 0,
 .fadr 22 0 7,
 .l 23 22,
 .bin 24 .rem 21 23,
 .iad 25 1 20 24,
 .l 26 25,
 .mov 27 12,
 .bin 28 .mul 26 27,
 .bin 29 .add 19 28,
 .asg 11 29])
 (.drop (R 19 11) (.seq (.reg [.mov 30 0,
 .fadr 31 0 7,
 .l 32 31,
 .bin 33 .quo 30 32,
 .asg 0 33])
 (.drop [30,31,32,33] (.reg [.mov 34 12,
 .fadr 35 0 8,
 .l 36 35,
 .bin 37 .mul 34 36,
 .asg 12 37]))))))
 (.drop [34,35,36,37] (.reg [.mov 17 13,
 .bin 18 .add 17 (.i 1),
 .asg 13 18])))))
def Aei:ACode:=
 (.seq (.reg [.box 7 2,
 .box 8 3,
 .asg 10 (.i 0)])
 (.seq (.reg [.asg 11 (.i 0),
 .asg 12 (.i 1)])
 (.seq (.seq (.reg [.asg 13 (.i 0)])
 (.block 0 (.loop Px)))
 (.drop [13,17,18] (.seq (.reg [.mov 38 11,
 .asg 10 38])
 .ret)))))
abbrev Aek:List RS:=[.t 10]
theorem Ac5:A5 Try.prog Mk 39 Aei Aek=true:=by kernel_rfl
def Rt:ACode:=
 (.seq (.seq (.reg [.mov 6 4,
 .mov 7 0,
 un (.slen 8 7),
 .bin 9 .lss 6 8])
 (.drop [6,7,8] (.cond 9 .skip
 (.exit 0))))
 (.drop [9] (.seq (.block 1 (.dreg [(.fadr 12 1 3,[18]),
 (.l 13 12,[18]),
 (.mov 14 0,[12,13]),
 (.mov 15 4,[12,13,14]),
 (un (.sidx 16 14 15),[12,13]),
 (.bin 17 .sub 16 (.c (.int .u8 48)),[12,13]),
 (un (.cnv 18 .i64 17),[12,13]),
 (.bsl 19 1 [18],[12,13])]
 [.app 20 1 13 19,
 .fadr 21 1 3,
 .st 1 21 20]))
 (.drop (R 12 10) (.reg [.mov 10 4,
 .bin 11 .add 10 (.i 1),
 .asg 4 11])))))
def Ahl:ACode:=
 (.seq (.reg [.alc 2 (.agg [.int .i64 0,.nilsl 1])])
 (.seq (.reg [.bld 5 [.int .i64 0,.nilsl 1] [(0,1,(.i 2))],
 .alc 3 (.agg [.int .i64 0,.nilsl 1]),
 .st 2 3 5])
 (.drop [5] (.seq (.seq (.reg [.asg 4 (.i 0)])
 (.block 0 (.loop Rt)))
 (.drop [4,10,11] (.seq (.reg [.ld 22 2 true 3,
 .st 2 2 22])
 .ret))))))
abbrev Ah3:List RS:=[.c 2 2 true]
theorem Aha:A5 Try.prog Bm 23 Ahl Ah3=true:=by kernel_rfl
def Sp:ACode:=
 (.seq (.seq (.reg [.mov 6 4,
 .mov 7 0,
 .mov 8 0,
 .bin 9 .mul 7 8,
 .mov 10 0,
 .bin 11 .mul 9 10,
 .bin 12 .lss 6 11])
 (.drop (R 6 6) (.cond 12 .skip
 (.exit 0))))
 (.drop [12] (.seq (.block 1 (.dreg [(.fadr 15 1 3,[35]),
 (.l 16 15,[35]),
 (.mov 17 4,[15,16]),
 (.mov 18 0,[15,16,17]),
 (.mov 19 0,[15,16,17,18]),
 (.bin 20 .mul 18 19,[15,16,17]),
 (.bin 21 .quo 17 20,[15,16]),
 (.mov 22 0,[15,16,17,18,19,20,21]),
 (.bin 23 .add 21 22,[15,16]),
 (.mov 24 4,[15,16,17,18,19,20,21,22,23]),
 (.mov 25 0,[15,16,17,18,19,20,21,22,23,24]),
 (.bin 26 .quo 24 25,[15,16,17,18,19,20,21,22,23]),
 (.mov 27 0,[15,16,17,18,19,20,21,22,23,24,25,26]),
 (.bin 28 .rem 26 27,[15,16,17,18,19,20,21,22,23]),
 (.bin 29 .sub 23 28,[15,16]),
 (.mov 30 4,[15,16,17,18,19,20,21,22,23,24,25,26,27,28,29]),
 (.mov 31 0,[15,16,17,18,19,20,21,22,23,24,25,26,27,28,29,30]),
 (.bin 32 .rem 30 31,[15,16,17,18,19,20,21,22,23,24,25,26,27,28,29]),
 (.bin 33 .add 29 32,[15,16]),
 (.mov 34 0,[15,16,17,18,19,20,21,22,23,24,25,26,27,28,29,30,31,32,33]),
 (.bin 35 .rem 33 34,[15,16]),
 (.bsl 36 1 [35],[15,16])]
 [.app 37 1 16 36,
 .fadr 38 1 3,
 .st 1 38 37]))
 (.drop (R 15 24) (.reg [.mov 13 4,
 .bin 14 .add 13 (.i 1),
 .asg 4 14])))))
def Ah5:ACode:=
 (.seq (.reg [.alc 2 (.agg [.int .i64 0,.nilsl 1])])
 (.seq (.reg [.bld 5 [.int .i64 0,.nilsl 1] [(0,1,(.i 3))],
 .alc 3 (.agg [.int .i64 0,.nilsl 1]),
 .st 2 3 5])
 (.drop [5] (.seq (.seq (.reg [.asg 4 (.i 0)])
 (.block 0 (.loop Sp)))
 (.drop [4,13,14] (.seq (.reg [.ld 39 2 true 3,
 .st 2 2 39])
 .ret))))))
abbrev Ah9:List RS:=[.c 2 2 true]
theorem Ah4:A5 Try.prog La 40 Ah5 Ah9=true:=by kernel_rfl
def Yk:ACode:=
 (.seq (.dreg [(.mov 4 0,[]),
 (.nck 5 4,[]),
 (.fadr 6 1 5,[]),
 (.l 7 6,[]),
 (.mov 8 0,[4,5,6,7]),
 (.nck 9 8,[4,5,6,7]),
 (.fadr 10 0 9,[4,5,6,7]),
 (.l 11 10,[4,5,6,7]),
 (.len 12 11,[4,5,6,7])]
 [.bin 13 .lss 7 12])
 (.drop (R 4 9) (.cond 13 (.dreg [(.mov 14 0,[]),
 (.nck 15 14,[]),
 (.fadr 16 0 15,[]),
 (.l 17 16,[]),
 (.mov 18 0,[14,15,16,17]),
 (.nck 19 18,[14,15,16,17]),
 (.fadr 20 1 19,[14,15,16,17]),
 (.l 21 20,[14,15,16,17])]
 [.iad 22 1 17 21,
 .l 23 22,
 un (.cnv 24 .i64 23),
 .asg 3 24])
 .skip)))
def Adz:ACode:=
 (.seq (.reg [.asg 2 (.i 0)])
 (.seq (.reg [.asg 3 (.i 0)])
 (.seq (.cut Yk)
 (.drop (R 13 12) (.seq (.reg [.mov 25 0,
 .nck 26 25,
 .fadr 27 1 26,
 .l 28 27,
 .bin 29 .add 28 (.i 1),
 .nck 30 25,
 .fadr 31 1 30,
 .st 1 31 29])
 (.drop (R 25 7) (.seq (.reg [.mov 32 0,
 .mov 33 0,
 .nck 34 33,
 .fadr 35 2 34,
 .l 36 35,
 .bin 37 .mul 36 (.c (.int .u64 6364136223846793005)),
 .mov 38 3,
 un (.cnv 39 .u64 38),
 .bin 40 .add 37 39,
 .bin 41 .add 40 (.c (.int .u64 550289)),
 .nck 42 32,
 .fadr 43 2 42,
 .st 1 43 41])
 (.drop (R 32 12) (.seq (.seq (.dreg [(.mov 44 0,[]),
 (.nck 45 44,[]),
 (.fadr 46 1 45,[]),
 (.l 47 46,[]),
 (.mov 48 0,[44,45,46,47]),
 (.nck 49 48,[44,45,46,47]),
 (.fadr 50 0 49,[44,45,46,47]),
 (.l 51 50,[44,45,46,47]),
 (.len 52 51,[44,45,46,47])]
 [.bin 53 .leq 47 52])
 (.drop (R 44 9) (.cond 53 (.seq (.reg [.mov 54 3,
 .asg 2 54])
 .ret)
 .skip)))
 (.drop [53] (.seq (.reg [.mov 55 0,
 .nck 56 55,
 .fadr 57 2 56,
 .l 58 57,
 .bin 59 .shr 58 (.c (.int .u64 40)),
 .bin 60 .and 59 (.c (.int .u64 255)),
 un (.cnv 61 .i64 60),
 .asg 2 61])
 .ret)))))))))))
abbrev Adh:List RS:=[.t 2]
theorem Acr:A5 Try.prog Js 62 Adz Adh=true:=by kernel_rfl
def Ao2:ACode:=
 (.seq (.reg [.asg 2 (.c (.nilsl 1))])
 (.seq (.reg [.bsl 3 1 [],
 .mov 4 0,
 .app 5 1 3 4,
 .asg 2 5])
 .ret))
abbrev Apx:List RS:=[.t 2]
theorem Aqt:A5 Try.prog Rk 6 Ao2 Apx=true:=by kernel_rfl
def Xf:ACode:=
 (.seq (.seq (.reg [.mov 6 5,
 .mov 7 0,
 .len 8 7,
 .bin 9 .lss 6 8])
 (.drop [6,7,8] (.cond 9 .skip
 (.exit 0))))
 (.drop [9] (.seq (.block 1 (.seq (.reg [.mov 12 0,
 .mov 13 5,
 .iad 14 1 12 13,
 .l 15 14,
 .mov 16 1,
 .bin 17 .eql 15 16])
 (.drop (R 12 5) (.cond 17 (.seq (.reg [.asg 4 (.c (.bool true))])
 .ret)
 .skip))))
 (.drop [17] (.reg [.mov 10 5,
 .bin 11 .add 10 (.i 1),
 .asg 5 11])))))
def An4:ACode:=
 (.seq (.reg [.asg 4 (.c (.bool false))])
 (.seq (.seq (.reg [.asg 5 (.i 0)])
 (.block 0 (.loop Xf)))
 (.drop [5,10,11] (.seq (.reg [.asg 4 (.c (.bool false))])
 .ret))))
abbrev Aqs:List RS:=[.t 4]
theorem Aos:A5 Try.prog Wz 18 An4 Aqs=true:=by kernel_rfl
def Aoj:ACode:=
 (.seq (.reg [.asg 2 (.c (.nilsl 1))])
 (.seq (.reg [.bsl 3 1 [],
 .mov 4 0,
 .app 5 1 3 4,
 .asg 2 5])
 .ret))
abbrev Ape:List RS:=[.t 2]
theorem Ao1:A5 Try.prog Wa 6 Aoj Ape=true:=by kernel_rfl
def Sk:ACode:=
 (.seq (.reg [.bin 15 .lss 14 13])
 (.seq (.cond 15 .skip
 (.exit 0))
 (.seq (.block 1 (.seq (.reg [.mov 16 14,
 .iad 17 1 12 14,
 .l 18 17,
 .asg 5 16,
 .asg 6 18])
 (.drop [16,17,18] (.seq (.reg [.mov 19 1,
 .mov 20 5,
 .iad 21 1 19 20,
 .l 22 21,
 .mov 23 6,
 .bin 24 .neq 22 23])
 (.drop (R 19 5) (.cond 24 (.seq (.reg [.asg 4 (.c (.bool false))])
 .ret)
 .skip))))))
 (.drop [5,6,24] (.reg [.bin 25 .add 14 (.i 1),
 .asg 14 25])))))
def Ahy:ACode:=
 (.seq (.reg [.asg 4 (.c (.bool false))])
 (.seq (.seq (.reg [.mov 7 0,
 .len 8 7,
 .mov 9 1,
 .len 10 9,
 .bin 11 .neq 8 10])
 (.drop [7,8,9,10] (.cond 11 (.seq (.reg [.asg 4 (.c (.bool false))])
 .ret)
 .skip)))
 (.drop [11] (.seq (.seq (.reg [.mov 12 0,
 .len 13 12,
 .mov 14 (.i 0)])
 (.block 0 (.loop Sk)))
 (.drop [12,13,14,15,25] (.seq (.reg [.asg 4 (.c (.bool true))])
 .ret))))))
abbrev Aib:List RS:=[.t 4]
theorem Ahm:A5 Try.prog Qr 26 Ahy Aib=true:=by kernel_rfl
def Vd:ACode:=
 (.seq (.reg [.bin 11 .lss 10 9])
 (.seq (.cond 11 .skip
 (.exit 0))
 (.seq (.block 1 (.seq (.reg [.iad 12 2 8 10,
 .ld 13 2 true 12,
 .alc 5 (.agg [.int .i64 0,.nilsl 1]),
 .st 2 5 13])
 (.drop [12,13] (.reg [.mov 14 3,
 .fadr 15 0 5,
 .l 16 15,
 .bsl 17 1 [16],
 .app 18 1 14 17,
 .asg 3 18]))))
 (.drop [5,14,15,16,17,18] (.reg [.bin 19 .add 10 (.i 1),
 .asg 10 19])))))
def Amr:ACode:=
 (.seq (.reg [.box 1 0,
 .asg 2 (.c (.nilsl 1))])
 (.seq (.reg [.bsl 6 1 [],
 .asg 3 6])
 (.drop [6] (.seq (.seq (.reg [.fadr 7 1 1,
 .l 8 7,
 .len 9 8,
 .mov 10 (.i 0)])
 (.drop [7] (.block 0 (.loop Vd))))
 (.drop [8,9,10,11,19] (.seq (.reg [.mov 20 3,
 .asg 2 20])
 .ret))))))
abbrev Alu:List RS:=[.t 2]
theorem Ama:A5 Try.prog Pa 21 Amr Alu=true:=by kernel_rfl
def Aca:ACode:=
 (.seq (.reg [.fadr 6 0 2,
 .l 7 6,
 .fadr 8 0 3,
 .l 9 8,
 .bin 10 .neq 7 9,
 .asg 11 10,
 .n 11 (.fadr 12 1 2),
 .n 11 (.ld 13 1 false 12),
 .n 11 (.len 14 13),
 .n 11 (.fadr 15 1 3),
 .n 11 (.ld 16 1 false 15),
 .n 11 (.len 17 16),
 .n 11 (.bin 18 .neq 14 17),
 .pick 19 11 (.c (.bool true)) 18])
 (.drop (R 6 13) (.cond 19 (.seq (.reg [.asg 4 (.c (.bool false))])
 .ret)
 .skip)))
def Ru:ACode:=
 (.seq (.seq (.reg [.mov 20 5,
 .fadr 21 1 2,
 .l 22 21,
 .len 23 22,
 .bin 24 .lss 20 23])
 (.drop [20,21,22,23] (.cond 24 .skip
 (.exit 0))))
 (.drop [24] (.seq (.block 1 (.seq (.dreg [(.fadr 27 1 2,[]),
 (.l 28 27,[]),
 (.mov 29 5,[27,28]),
 (.iad 30 2 28 29,[]),
 (.fadr 31 0 30,[]),
 (.l 32 31,[]),
 (.fadr 33 1 3,[27,28,29,30,31,32]),
 (.l 34 33,[27,28,29,30,31,32]),
 (.mov 35 5,[27,28,29,30,31,32,33,34]),
 (.iad 36 2 34 35,[27,28,29,30,31,32]),
 (.fadr 37 0 36,[27,28,29,30,31,32]),
 (.l 38 37,[27,28,29,30,31,32]),
 (.bin 39 .neq 32 38,[]),
 (.asg 40 39,[]),
 (.n 40 (.fadr 41 1 2),[39]),
 (.n 40 (.ld 42 1 false 41),[39]),
 (.n 40 (.mov 43 5),[41,42,39]),
 (.n 40 (.iad 44 2 42 43),[39]),
 (.n 40 (.fadr 45 1 44),[39]),
 (.n 40 (.ld 46 1 false 45),[39]),
 (.n 40 (.fadr 47 1 3),[41,42,43,44,45,46,39]),
 (.n 40 (.ld 48 1 false 47),[41,42,43,44,45,46,39]),
 (.n 40 (.mov 49 5),[41,42,43,44,45,46,47,48,39]),
 (.n 40 (.iad 50 2 48 49),[41,42,43,44,45,46,39]),
 (.n 40 (.fadr 51 1 50),[41,42,43,44,45,46,39]),
 (.n 40 (.ld 52 1 false 51),[41,42,43,44,45,46,39])]
 [.n 40 (.call 53 Q7 [(46,false),(52,false)]),
 .n 40 (.un 54 .not 53),
 .pick 55 40 (.c (.bool true)) 54])
 (.drop (R 27 28) (.cond 55 (.seq (.reg [.asg 4 (.c (.bool false))])
 .ret)
 .skip))))
 (.drop [55] (.reg [.mov 25 5,
 .bin 26 .add 25 (.i 1),
 .asg 5 26])))))
def Ahq:ACode:=
 (.seq (.reg [.box 2 0,
 .box 3 1,
 .asg 4 (.c (.bool false))])
 (.seq (.cut Aca)
 (.drop [19] (.seq (.seq (.reg [.asg 5 (.i 0)])
 (.block 0 (.loop Ru)))
 (.drop [5,25,26] (.seq (.reg [.asg 4 (.c (.bool true))])
 .ret))))))
abbrev Ahp:List RS:=[.t 4]
theorem Ahk:A5 Try.prog Qk 56 Ahq Ahp=true:=by kernel_rfl
def Qz:ACode:=
 (.seq (.reg [.bin 12 .lss 11 10])
 (.seq (.cond 12 .skip
 (.exit 0))
 (.seq (.block 1 (.seq (.reg [.iad 13 1 9 11,
 .l 14 13,
 .asg 8 14])
 (.drop [13,14] (.seq (.reg [.mov 15 8,
 .len 16 15,
 .mov 17 1,
 .bin 18 .neq 16 17,
 .asg 19 18,
 .n 19 (.mov 20 8),
 .n 19 (.fadr 21 0 3),
 .n 19 (.ld 22 1 false 21),
 .n 19 (.call 23 I7 [(20,false),(22,false)]),
 .n 19 (.un 24 .not 23),
 .pick 25 19 (.c (.bool true)) 24])
 (.drop (R 15 10) (.cond 25 (.seq (.reg [.asg 6 (.c (.bool false))])
 .ret)
 .skip))))))
 (.drop [8,25] (.reg [.bin 26 .add 11 (.i 1),
 .asg 11 26])))))
def Aez:ACode:=
 (.seq (.reg [.box 3 0,
 .asg 6 (.c (.bool false))])
 (.seq (.seq (.reg [.mov 9 2,
 .len 10 9,
 .mov 11 (.i 0)])
 (.block 0 (.loop Qz)))
 (.drop [9,10,11,12,26] (.seq (.reg [.asg 6 (.c (.bool true))])
 .ret))))
abbrev Afx:List RS:=[.t 6]
theorem Aew:A5 Try.prog Kh 27 Aez Afx=true:=by kernel_rfl
def Vy:ACode:=
 (.seq (.seq (.reg [.mov 11 6,
 .mov 12 7,
 .bin 13 .lss 11 12])
 (.drop [11,12] (.cond 13 .skip
 (.exit 0))))
 (.drop [13] (.block 1 (.seq (.reg [.mov 14 6,
 .mov 15 7,
 .bin 16 .add 14 15,
 .bin 17 .quo 16 (.i 2),
 .asg 8 17])
 (.drop [14,15,16,17] (.seq (.reg [.mov 18 0,
 .mov 19 8,
 .iad 20 1 18 19,
 .l 21 20,
 .mov 22 1,
 .call 23 O6 [(21,false),(22,false)]])
 (.drop (R 18 5) (.cond 23 (.reg [.mov 24 8,
 .bin 25 .add 24 (.i 1),
 .asg 6 25])
 (.reg [.mov 26 8,
 .asg 7 26])))))))))
def Alv:ACode:=
 (.seq (.reg [.asg 4 (.i 0),
 .asg 5 (.c (.bool false))])
 (.seq (.reg [.mov 9 0,
 .len 10 9,
 .asg 6 (.i 0),
 .asg 7 10])
 (.drop [9,10] (.seq (.block 0 (.loop Vy))
 (.drop [8,23,24,25,26] (.seq (.reg [.mov 27 6,
 .mov 28 6,
 .mov 29 0,
 .len 30 29,
 .bin 31 .lss 28 30,
 .asg 32 31,
 .y 32 (.mov 33 0),
 .y 32 (.mov 34 6),
 .y 32 (.iad 35 1 33 34),
 .y 32 (.ld 36 1 false 35),
 .y 32 (.mov 37 1),
 .y 32 (.call 38 Uf [(36,false),(37,false)]),
 .pick 39 32 38 (.c (.bool false)),
 .asg 4 27,
 .asg 5 39])
 .ret))))))
abbrev Al4:List RS:=[.t 4,.t 5]
theorem Al3:A5 Try.prog Hl 40 Alv Al4=true:=by kernel_rfl
def Aqi:ACode:=
 (.seq (.reg [.box 3 0,
 .box 4 1,
 .asg 6 (.c (.bool false))])
 (.seq (.reg [.mov 7 2,
 .len 8 7,
 .fadr 9 0 3,
 .l 10 9,
 .bin 11 .eql 8 10,
 .asg 12 11,
 .y 12 (.mov 13 2),
 .y 12 (.fadr 14 0 4),
 .y 12 (.ld 15 1 false 14),
 .y 12 (.call 16 I7 [(13,false),(15,false)]),
 .pick 17 12 16 (.c (.bool false)),
 .asg 6 17])
 .ret))
abbrev Aqj:List RS:=[.t 6]
theorem Apk:A5 Try.prog W8 18 Aqi Aqj=true:=by kernel_rfl
def Tt:ACode:=
 (.seq (.reg [.bin 24 .lss 23 22])
 (.seq (.cond 24 .skip
 (.exit 2))
 (.seq (.block 3 (.seq (.reg [.mov 25 23,
 .iad 26 1 21 23,
 .l 27 26,
 .asg 10 25,
 .asg 11 27])
 (.drop [25,26,27] (.seq (.dreg [(.mov 28 2,[]),
 (.mov 29 11,[28]),
 (.iad 30 1 28 29,[]),
 (.l 31 30,[]),
 (.fadr 32 1 4,[28,29,30,31]),
 (.l 33 32,[28,29,30,31]),
 (.mov 34 8,[28,29,30,31,32,33]),
 (.iad 35 2 33 34,[28,29,30,31]),
 (.fadr 36 1 35,[28,29,30,31]),
 (.l 37 36,[28,29,30,31]),
 (.mov 38 10,[28,29,30,31,32,33,34,35,36,37]),
 (.fadr 39 0 9,[28,29,30,31,32,33,34,35,36,37,38]),
 (.l 40 39,[28,29,30,31,32,33,34,35,36,37,38]),
 (.ld 41 2 true 3,[28,29,30,31,32,33,34,35,36,37,38,39,40]),
 (.ld 42 2 true 4,[28,29,30,31,32,33,34,35,36,37,38,39,40,41]),
 (.mov 43 2,[28,29,30,31,32,33,34,35,36,37,38,39,40,41,42]),
 (.call 44 Mk [(38,false),(40,false),(41,false),(42,false),(43,false)],[28,29,30,31,32,33,34,35,36,37]),
 (.iad 45 1 37 44,[28,29,30,31]),
 (.l 46 45,[28,29,30,31])]
 [.bin 47 .neq 31 46])
 (.drop (R 28 19) (.cond 47 (.seq (.reg [.mov 48 8,
 .mov 49 10,
 .asg 6 48,
 .asg 7 49])
 .ret)
 .skip))))))
 (.drop [10,11,47] (.reg [.bin 50 .add 23 (.i 1),
 .asg 23 50])))))
def Tg:ACode:=
 (.seq (.reg [.bin 16 .lss 15 14])
 (.seq (.cond 16 .skip
 (.exit 0))
 (.seq (.block 1 (.seq (.reg [.mov 17 15,
 .iad 18 2 13 15,
 .ld 19 2 true 18,
 .alc 9 (.agg [.int .i64 0,.nilsl 1]),
 .asg 8 17,
 .st 2 9 19])
 (.drop [17,18,19] (.seq (.reg [.fadr 20 1 9,
 .l 21 20,
 .len 22 21,
 .mov 23 (.i 0)])
 (.drop [20] (.block 2 (.loop Tt)))))))
 (.drop [9,8,21,22,23,24,50] (.reg [.bin 51 .add 15 (.i 1),
 .asg 15 51])))))
def Aiu:ACode:=
 (.seq (.reg [.box 3 0,
 .box 4 1,
 .asg 6 (.i 0),
 .asg 7 (.i 0)])
 (.seq (.seq (.reg [.fadr 12 1 3,
 .l 13 12,
 .len 14 13,
 .mov 15 (.i 0)])
 (.drop [12] (.block 0 (.loop Tg))))
 (.drop [13,14,15,16,51] (.seq (.reg [.asg 6 (.i (-1)),
 .asg 7 (.i 0)])
 .ret))))
abbrev Aji:List RS:=[.t 6,.t 7]
theorem Ak4:A5 Try.prog Rw 52 Aiu Aji=true:=by kernel_rfl
def Ai9:ACode:=
 (.seq (.reg [.alc 2 (.agg [.int .i64 0,.nilsl 2])])
 (.seq (.seq (.reg [.mov 3 0])
 (.block 0 (.seq (.reg [.bin 5 .eql 3 (.i 0),
 .asg 4 5])
 (.drop [5] (.cond 4 (.seq (.reg [⟨none,.call 6 Bm [((.c (.str ⟨#[48,48,48,49]⟩)),false)]⟩,
 .bsl 7 2 [6],
 .bld 8 [.int .i64 0,.nilsl 2] [(0,1,(.i 2)),(1,1,7)],
 .st 2 2 8])
 .ret)
 (.seq (.reg [.bin 10 .eql 3 (.i 1),
 .asg 9 10])
 (.drop [10] (.cond 9 (.seq (.reg [⟨none,.call 11 Bm [((.c (.str ⟨#[48,48,48,49]⟩)),false)]⟩,
 ⟨none,.call 12 Bm [((.c (.str ⟨#[48,49,49,49]⟩)),false)]⟩,
 .bsl 13 2 [11,12],
 .bld 14 [.int .i64 0,.nilsl 2] [(0,1,(.i 2)),(1,1,13)],
 .st 2 2 14])
 .ret)
 (.seq (.reg [.bin 16 .eql 3 (.i 2),
 .asg 15 16])
 (.drop [16] (.cond 15 (.seq (.reg [⟨none,.call 17 Bm [((.c (.str ⟨#[48,48,48,49]⟩)),false)]⟩,
 ⟨none,.call 18 Bm [((.c (.str ⟨#[48,49,49,49]⟩)),false)]⟩,
 .bsl 19 1 [(.i 1),(.i 0)],
 .bld 20 [.int .i64 0,.nilsl 1] [(0,1,(.i 1)),(1,1,19)],
 .bsl 21 2 [17,18,20],
 .bld 22 [.int .i64 0,.nilsl 2] [(0,1,(.i 2)),(1,1,21)],
 .st 2 2 22])
 .ret)
 (.seq (.reg [.bin 24 .eql 3 (.i 3),
 .asg 23 24])
 (.drop [24] (.cond 23 (.seq (.reg [.call 25 La [((.i 2),false)],
 .bsl 26 2 [25],
 .bld 27 [.int .i64 0,.nilsl 2] [(0,1,(.i 2)),(1,1,26)],
 .st 2 2 27])
 .ret)
 (.seq (.reg [.bin 29 .eql 3 (.i 4),
 .asg 28 29])
 (.drop [29] (.cond 28 (.seq (.reg [⟨none,.call 30 Bm [((.c (.str ⟨#[48,49,50,49,50,48,50,48,49]⟩)),false)]⟩,
 .bsl 31 2 [30],
 .bld 32 [.int .i64 0,.nilsl 2] [(0,1,(.i 3)),(1,1,31)],
 .st 2 2 32])
 .ret)
 (.seq (.reg [.bin 34 .eql 3 (.i 5),
 .asg 33 34])
 (.drop [34] (.cond 33 (.seq (.reg [⟨none,.call 35 Bm [((.c (.str ⟨#[48,49,48,49,49,50,48,50,50]⟩)),false)]⟩,
 .bsl 36 2 [35],
 .bld 37 [.int .i64 0,.nilsl 2] [(0,1,(.i 3)),(1,1,36)],
 .st 2 2 37])
 .ret)
 (.seq (.reg [.bin 39 .eql 3 (.i 6),
 .asg 38 39])
 (.drop [39] (.cond 38 (.seq (.reg [⟨none,.call 40 Bm [((.c (.str ⟨#[48,49,50,51,49,48,51,50,50,51,48,49,51,50,49,48]⟩)),false)]⟩,
 .bsl 41 2 [40],
 .bld 42 [.int .i64 0,.nilsl 2] [(0,1,(.i 4)),(1,1,41)],
 .st 2 2 42])
 .ret)
 (.seq (.reg [.bin 44 .eql 3 (.i 7),
 .asg 43 44])
 (.drop [44] (.cond 43 (.seq (.reg [⟨none,.call 45 Bm [((.c (.str ⟨#[48,48,48,48,49,49,48,49,50]⟩)),false)]⟩,
 ⟨none,.call 46 Bm [((.c (.str ⟨#[48,49,50,49,49,50,50,50,50]⟩)),false)]⟩,
 .bsl 47 2 [45,46],
 .bld 48 [.int .i64 0,.nilsl 2] [(0,1,(.i 3)),(1,1,47)],
 .st 2 2 48])
 .ret)
 (.seq (.reg [.bin 50 .eql 3 (.i 8),
 .asg 49 50])
 (.drop [50] (.cond 49 (.seq (.reg [.bsl 51 1 [(.i 1),(.i 2),(.i 3),(.i 0)],
 .bld 52 [.int .i64 0,.nilsl 1] [(0,1,(.i 1)),(1,1,51)],
 .bsl 53 2 [52],
 .bld 54 [.int .i64 0,.nilsl 2] [(0,1,(.i 4)),(1,1,53)],
 .st 2 2 54])
 .ret)
 (.seq (.reg [.bin 56 .eql 3 (.i 9),
 .asg 55 56])
 (.drop [56] (.cond 55 (.seq (.reg [.bsl 57 1 [(.i 0),(.i 0),(.i 0),(.i 1),(.i 0),(.i 1),(.i 1),(.i 1)],
 .bld 58 [.int .i64 0,.nilsl 1] [(0,1,(.i 3)),(1,1,57)],
 .bsl 59 2 [58],
 .bld 60 [.int .i64 0,.nilsl 2] [(0,1,(.i 2)),(1,1,59)],
 .st 2 2 60])
 .ret)
 (.seq (.reg [.bin 62 .eql 3 (.i 10),
 .asg 61 62])
 (.drop [62] (.cond 61 (.seq (.reg [⟨none,.call 63 Bm [((.c (.str ⟨#[48,48,48,49,49,49,50,50,50]⟩)),false)]⟩,
 .bsl 64 2 [63],
 .bld 65 [.int .i64 0,.nilsl 2] [(0,1,(.i 3)),(1,1,64)],
 .st 2 2 65])
 .ret)
 (.seq (.reg [.bin 67 .eql 3 (.i 11),
 .asg 66 67])
 (.drop [67] (.cond 66 (.seq (.reg [⟨none,.call 68 Bm [((.c (.str ⟨#[48,48,48,48,48,48,49,48,48,49,48,48,50,48,50,48,48,48,51,51,48,49,50,51,52]⟩)),false)]⟩,
 ⟨none,.call 69 Bm [((.c (.str ⟨#[48,49,50,51,52,49,49,52,52,52,50,52,50,52,52,51,52,52,51,52,52,52,52,52,52]⟩)),false)]⟩,
 .bsl 70 2 [68,69],
 .bld 71 [.int .i64 0,.nilsl 2] [(0,1,(.i 5)),(1,1,70)],
 .st 2 2 71])
 .ret)
 (.seq (.reg [.bin 73 .eql 3 (.i 12),
 .asg 72 73])
 (.drop [73] (.cond 72 (.seq (.reg [⟨none,.call 74 Bm [((.c (.str ⟨#[48,49,50,51,49,50,51,48,50,51,48,49,51,48,49,50]⟩)),false)]⟩,
 .bsl 75 2 [74],
 .bld 76 [.int .i64 0,.nilsl 2] [(0,1,(.i 4)),(1,1,75)],
 .st 2 2 76])
 .ret)
 (.seq (.reg [.bin 78 .eql 3 (.i 13),
 .asg 77 78])
 (.drop [78] (.cond 77 (.seq (.reg [.bsl 79 1 [(.i 0),(.i 0),(.i 1)],
 .bld 80 [.int .i64 0,.nilsl 1] [(0,1,(.i 1)),(1,1,79)],
 .bsl 81 1 [(.i 2)],
 .bld 82 [.int .i64 0,.nilsl 1] [(0,1,(.i 0)),(1,1,81)],
 .bsl 83 2 [80,82],
 .bld 84 [.int .i64 0,.nilsl 2] [(0,1,(.i 3)),(1,1,83)],
 .st 2 2 84])
 .ret)
 (.seq (.reg [.bin 86 .eql 3 (.i 14),
 .asg 85 86])
 (.drop [86] (.cond 85 (.seq (.reg [⟨none,.call 87 Bm [((.c (.str ⟨#[48]⟩)),false)]⟩,
 .bsl 88 2 [87],
 .bld 89 [.int .i64 0,.nilsl 2] [(0,1,(.i 1)),(1,1,88)],
 .st 2 2 89])
 .ret)
 (.seq (.reg [.bin 91 .eql 3 (.i 15),
 .asg 90 91])
 (.drop [91] (.cond 90 (.seq (.reg [.call 92 La [((.i 3),false)],
 .bsl 93 2 [92],
 .bld 94 [.int .i64 0,.nilsl 2] [(0,1,(.i 3)),(1,1,93)],
 .st 2 2 94])
 .ret)
 .skip))))))))))))))))))))))))))))))))))))))))))))))))))
 (.drop [3,4,9,15,23,28,33,38,43,49,55,61,66,72,77,85,90] (.seq (.reg [.bld 95 [.int .i64 0,.nilsl 2] [(0,1,(.i 2))],
 .st 2 2 95])
 .ret))))
abbrev Akj:List RS:=[.c 2 2 true]
theorem Ai6:A5 Try.prog R9 96 Ai9 Akj=true:=by kernel_rfl
def Aer:ACode:=
 (.seq (.reg [.asg 4 (.i 0)])
 (.seq (.seq (.reg [.mov 6 1,
 .bin 7 .leq 6 (.i 1)])
 (.drop [6] (.cond 7 (.seq (.reg [.asg 4 (.i 0)])
 .ret)
 .skip)))
 (.drop [7] (.seq (.reg [.mov 8 0,
 .call 9 Js [(8,true)],
 .asg 5 9])
 (.drop [8,9] (.seq (.seq (.reg [.mov 10 1,
 .bin 11 .gtr 10 (.i 200)])
 (.drop [10] (.cond 11 (.reg [.mov 12 5,
 .bin 13 .mul 12 (.i 256),
 .mov 14 0,
 .call 15 Js [(14,true)],
 .bin 16 .add 13 15,
 .asg 5 16])
 .skip)))
 (.drop (R 11 6) (.seq (.reg [.mov 17 5,
 .mov 18 1,
 .bin 19 .rem 17 18,
 .asg 4 19])
 .ret))))))))
abbrev Acv:List RS:=[.t 4]
theorem Ac3:A5 Try.prog A6 20 Aer Acv=true:=by kernel_rfl
def Asf:ACode:=
 (.seq (.reg [.box 2 0,
 .asg 4 (.c (.bool false))])
 (.seq (.dreg [(.fadr 5 0 2,[]),
 (.l 6 5,[]),
 (.bin 7 .geq 6 (.i 0),[]),
 (.asg 8 7,[]),
 (.y 8 (.fadr 9 0 2),[7]),
 (.y 8 (.ld 10 1 false 9),[7]),
 (.y 8 (.bin 11 .leq 10 (.i 3)),[7]),
 (.pick 12 8 11 (.c (.bool false)),[7]),
 (.asg 13 12,[7]),
 (.y 13 (.fadr 14 1 2),[7,12]),
 (.y 13 (.ld 15 1 false 14),[7,12]),
 (.y 13 (.len 16 15),[7,12]),
 (.y 13 (.mov 17 1),[14,15,16,7,12]),
 (.y 13 (.fadr 18 0 2),[14,15,16,17,7,12]),
 (.y 13 (.ld 19 1 false 18),[14,15,16,17,7,12]),
 (.y 13 (.call 20 Q3 [(17,false),(19,false)]),[14,15,16,7,12]),
 (.y 13 (.bin 21 .eql 16 20),[7,12]),
 (.pick 22 13 21 (.c (.bool false)),[7,12]),
 (.asg 23 22,[7,12]),
 (.y 23 (.fadr 24 1 2),[7,12,22]),
 (.y 23 (.ld 25 1 false 24),[7,12,22]),
 (.y 23 (.mov 26 1),[24,25,7,12,22])]
 [.y 23 (.call 27 I7 [(25,false),(26,false)]),
 .pick 28 23 27 (.c (.bool false)),
 .asg 4 28])
 .ret))
abbrev Asi:List RS:=[.t 4]
theorem As6:A5 Try.prog Yu 29 Asf Asi=true:=by kernel_rfl
def Akl:ACode:=
 (.seq (.dreg [(.fadr 6 0 3,[]),
 (.l 7 6,[]),
 (.call 8 F6 [(7,false),((.i 0),false),((.i 3),false)],[]),
 (.un 9 .not 8,[]),
 (.asg 10 9,[]),
 (.n 10 (.fadr 11 1 3),[9]),
 (.n 10 (.ld 12 1 false 11),[9]),
 (.n 10 (.len 13 12),[9]),
 (.n 10 (.mov 14 0),[11,12,13,9]),
 (.n 10 (.fadr 15 0 3),[11,12,13,14,9]),
 (.n 10 (.ld 16 1 false 15),[11,12,13,14,9]),
 (.n 10 (.call 17 M5 [(14,false),(16,false)]),[11,12,13,9])]
 [.n 10 (.bin 18 .neq 13 17),
 .pick 19 10 (.c (.bool true)) 18])
 (.drop (R 6 13) (.cond 19 (.seq (.reg [.asg 4 (.c (.bool false))])
 .ret)
 .skip)))
def Y7:ACode:=
 (.seq (.seq (.reg [.mov 20 5,
 .fadr 21 1 3,
 .l 22 21,
 .len 23 22,
 .bin 24 .lss 20 23])
 (.drop [20,21,22,23] (.cond 24 .skip
 (.exit 0))))
 (.drop [24] (.seq (.block 1 (.seq (.reg [.fadr 27 1 3,
 .l 28 27,
 .mov 29 5,
 .iad 30 1 28 29,
 .l 31 30,
 .mov 32 0,
 .bin 33 .sub 32 (.i 1),
 .call 34 F6 [(31,false),((.i 0),false),(33,false)],
 .un 35 .not 34])
 (.drop (R 27 8) (.cond 35 (.seq (.reg [.asg 4 (.c (.bool false))])
 .ret)
 .skip))))
 (.drop [35] (.reg [.mov 25 5,
 .bin 26 .add 25 (.i 1),
 .asg 5 26])))))
def Ark:ACode:=
 (.seq (.reg [.box 3 1,
 .asg 4 (.c (.bool false))])
 (.seq (.cut Akl)
 (.drop [19] (.seq (.seq (.reg [.asg 5 (.i 0)])
 (.block 0 (.loop Y7)))
 (.drop [5,25,26] (.seq (.reg [.asg 4 (.c (.bool true))])
 .ret))))))
abbrev Ara:List RS:=[.t 4]
theorem As8:A5 Try.prog Zn 36 Ark Ara=true:=by kernel_rfl
def Vk:ACode:=
 (.seq (.seq (.reg [.mov 5 4,
 .fadr 6 1 1,
 .l 7 6,
 .len 8 7,
 .bin 9 .lss 5 8])
 (.drop [5,6,7,8] (.cond 9 .skip
 (.exit 0))))
 (.drop [9] (.seq (.block 1 (.reg [.mov 12 3,
 .fadr 13 1 1,
 .l 14 13,
 .mov 15 4,
 .iad 16 2 14 15,
 .fadr 17 0 16,
 .l 18 17,
 .call 19 Ph [(12,false),(18,false)],
 .asg 3 19]))
 (.drop (R 12 8) (.reg [.mov 10 4,
 .bin 11 .add 10 (.i 1),
 .asg 4 11])))))
def Alk:ACode:=
 (.seq (.reg [.box 1 0,
 .asg 2 (.i 0)])
 (.seq (.reg [.asg 3 (.i 0)])
 (.seq (.seq (.reg [.asg 4 (.i 0)])
 (.block 0 (.loop Vk)))
 (.drop [4,10,11] (.seq (.seq (.reg [.mov 20 3])
 (.block 2 (.seq (.reg [.bin 22 .eql 20 (.i 3),
 .asg 21 22])
 (.drop [22] (.cond 21 (.seq (.reg [.asg 2 (.i 40)])
 .ret)
 (.seq (.reg [.bin 24 .eql 20 (.i 2),
 .asg 23 24])
 (.drop [24] (.cond 23 (.seq (.reg [.asg 2 (.i 200)])
 .ret)
 .skip))))))))
 (.drop [20,21,23] (.seq (.reg [.asg 2 (.i 300)])
 .ret)))))))
abbrev Aln:List RS:=[.t 2]
theorem Al9:A5 Try.prog Pc 25 Alk Aln=true:=by kernel_rfl
def Vu:ACode:=
 (.seq (.seq (.reg [.mov 13 7,
 .bin 14 .geq 13 (.i 0)])
 (.drop [13] (.cond 14 .skip
 (.exit 0))))
 (.drop [14] (.seq (.block 1 (.seq (.seq (.reg [.mov 17 6,
 .mov 18 7,
 .iad 19 1 17 18,
 .l 20 19,
 .mov 21 1,
 .bin 22 .sub 21 (.i 1),
 .bin 23 .lss 20 22])
 (.drop (R 17 6) (.cond 23 (.seq (.reg [.mov 24 6,
 .mov 25 7,
 .mov 26 6,
 .mov 27 7,
 .iad 28 1 26 27,
 .l 29 28,
 .bin 30 .add 29 (.i 1),
 .iad 31 1 24 25,
 .st 1 31 30])
 (.drop (R 24 8) (.seq (.reg [.mov 32 6,
 .asg 4 32,
 .asg 5 (.c (.bool true))])
 .ret)))
 .skip)))
 (.drop [23] (.reg [.mov 33 6,
 .mov 34 7,
 .iad 35 1 33 34,
 .st 1 35 (.i 0)]))))
 (.drop [33,34,35] (.reg [.mov 15 7,
 .bin 16 .sub 15 (.i 1),
 .asg 7 16])))))
def Alj:ACode:=
 (.seq (.reg [.asg 4 (.c (.nilsl 1)),
 .asg 5 (.c (.bool false))])
 (.seq (.reg [.mov 8 0,
 .call 9 Rk [(8,false)],
 .asg 6 9])
 (.drop [8,9] (.seq (.seq (.reg [.mov 10 6,
 .len 11 10,
 .bin 12 .sub 11 (.i 1),
 .asg 7 12])
 (.drop [10,11,12] (.block 0 (.loop Vu))))
 (.drop [7,15,16] (.seq (.reg [.mov 36 6,
 .asg 4 36,
 .asg 5 (.c (.bool false))])
 .ret))))))
abbrev Am0:List RS:=[.t 4,.t 5]
theorem Alo:A5 Try.prog O8 37 Alj Am0=true:=by kernel_rfl
def Pn:ACode:=
 (.seq (.seq (.reg [.mov 6 5,
 .mov 7 1,
 .len 8 7,
 .bin 9 .lss 6 8])
 (.drop [6,7,8] (.cond 9 .skip
 (.exit 0))))
 (.drop [9] (.seq (.block 1 (.seq (.reg [.mov 12 1,
 .mov 13 5,
 .iad 14 1 12 13,
 .l 15 14,
 .mov 16 0,
 .bin 17 .sub 16 (.i 1),
 .call 18 F6 [(15,false),((.i 0),false),(17,false)],
 .un 19 .not 18])
 (.drop (R 12 7) (.cond 19 (.seq (.reg [.asg 4 (.c (.bool false))])
 .ret)
 .skip))))
 (.drop [19] (.reg [.mov 10 5,
 .bin 11 .add 10 (.i 1),
 .asg 5 11])))))
def Adb:ACode:=
 (.seq (.reg [.asg 4 (.c (.bool false))])
 (.seq (.seq (.reg [.asg 5 (.i 0)])
 (.block 0 (.loop Pn)))
 (.drop [5,10,11] (.seq (.reg [.asg 4 (.c (.bool true))])
 .ret))))
abbrev Ac6:List RS:=[.t 4]
theorem Aem:A5 Try.prog Ms 20 Adb Ac6=true:=by kernel_rfl
def Ahw:ACode:=
 (.seq (.dreg [(.mov 7 0,[]),
 (.nck 8 7,[]),
 (.fadr 9 4 8,[]),
 (.l 10 9,[]),
 (.mov 11 1,[7,8,9,10]),
 (.call 12 Kl [(11,false)],[7,8,9,10]),
 (un (.mlk 13 10 12 (.int .i64 0) true false),[]),
 (.asg 6 13,[]),
 (.ext 14 6 0,[13]),
 (.ext 15 6 1,[14,13,14])]
 [.asg 4 14,
 .asg 5 15])
 (.drop [7,8,9,10,11,12,13,6,14,15,4] (.seq (.reg [.mov 16 5,
 .un 17 .not 16])
 (.drop [16] (.cond 17 (.seq (.dreg [(.mov 18 0,[]),
 (.nck 19 18,[]),
 (.fadr 20 4 19,[]),
 (.l 21 20,[]),
 (.mov 22 1,[18,19,20,21]),
 (.call 23 Kl [(22,false)],[18,19,20,21]),
 (.mov 24 0,[18,19,20,21,22,23]),
 (.nck 25 24,[18,19,20,21,22,23]),
 (.fadr 26 3 25,[18,19,20,21,22,23]),
 (.l 27 26,[18,19,20,21,22,23]),
 (.len 28 27,[18,19,20,21,22,23])]
 [un (.mup 21 23 28 false)])
 (.drop (R 18 11) (.reg [.mov 29 0,
 .mov 30 0,
 .nck 31 30,
 .fadr 32 3 31,
 .l 33 32,
 .mov 34 1,
 .bsl 35 1 [34],
 .app 36 1 33 35,
 .nck 37 29,
 .fadr 38 3 37,
 .st 1 38 36])))
 .skip)))))
abbrev Ahr:List RS:=[]
theorem Ah7:A5 Try.prog Lh 39 Ahw Ahr=true:=by kernel_rfl
def Qu:ACode:=
 (.seq (.seq (.reg [.mov 32 10,
 .fadr 33 0 7,
 .l 34 33,
 .fadr 35 0 9,
 .l 36 35,
 .call 37 M5 [(34,false),(36,false)],
 .bin 38 .lss 32 37])
 (.drop (R 32 6) (.cond 38 .skip
 (.exit 2))))
 (.drop [38] (.seq (.block 3 (.seq (.dreg [(.mov 42 2,[]),
 (.ld 43 2 true 3,[42]),
 (.mov 44 8,[42,43]),
 (.mov 45 2,[42,43,44]),
 (.fadr 46 0 7,[42,43,44,45]),
 (.l 47 46,[42,43,44,45]),
 (.fadr 48 0 9,[42,43,44,45,46,47]),
 (.l 49 48,[42,43,44,45,46,47]),
 (.mov 50 10,[42,43,44,45,46,47,48,49]),
 (.call 51 Up [(47,false),(49,false),(50,false)],[42,43,44,45]),
 (.call 52 G4 [(45,false),(51,false)],[42,43,44]),
 (.mov 53 1,[42,43,44,45,46,47,48,49,50,51,52]),
 (.call 54 Gi [(43,false),(44,false),(52,false),(53,false)],[42]),
 (.call 55 Hl [(42,false),(54,false)],[]),
 (.asg 41 55,[]),
 (.ext 56 41 0,[55]),
 (.ext 57 41 1,[56,55,56])]
 [.asg 11 56,
 .asg 12 57])
 (.drop [42,43,44,45,46,47,48,49,50,51,52,53,54,55,41,56,57,12] (.reg [.fadr 58 1 9,
 .l 59 58,
 .mov 60 11,
 .bsl 61 1 [60],
 .app 62 1 59 61,
 .fadr 63 1 9,
 .st 1 63 62]))))
 (.drop [11,58,59,60,61,62,63] (.reg [.mov 39 10,
 .bin 40 .add 39 (.i 1),
 .asg 10 40])))))
def Q0:ACode:=
 (.seq (.seq (.reg [.mov 17 8,
 .fadr 18 1 3,
 .l 19 18,
 .len 20 19,
 .bin 21 .lss 17 20])
 (.drop [17,18,19,20] (.cond 21 .skip
 (.exit 0))))
 (.drop [21] (.seq (.block 1 (.seq (.reg [.fadr 24 1 3,
 .l 25 24,
 .mov 26 8,
 .iad 27 2 25 26,
 .fadr 28 0 27,
 .l 29 28,
 .bsl 30 1 [],
 .bld 31 [.int .i64 0,.nilsl 1] [(0,1,29),(1,1,30)],
 .alc 9 (.agg [.int .i64 0,.nilsl 1]),
 .st 2 9 31])
 (.drop (R 24 8) (.seq (.seq (.reg [.asg 10 (.i 0)])
 (.block 2 (.loop Qu)))
 (.drop [10,39,40] (.reg [.fadr 64 1 7,
 .l 65 64,
 .ld 66 2 true 9,
 .bsl 67 2 [66],
 .app 68 2 65 67,
 .fadr 69 1 7,
 .st 1 69 68]))))))
 (.drop [9,64,65,66,67,68,69] (.reg [.mov 22 8,
 .bin 23 .add 22 (.i 1),
 .asg 8 23])))))
def Afe:ACode:=
 (.seq (.reg [.box 3 0,
 .alc 6 (.agg [.int .i64 0,.nilsl 2])])
 (.seq (.reg [.mov 13 2,
 .len 14 13,
 .bsl 15 2 [],
 .bld 16 [.int .i64 0,.nilsl 2] [(0,1,14),(1,1,15)],
 .alc 7 (.agg [.int .i64 0,.nilsl 2]),
 .st 2 7 16])
 (.drop [13,14,15,16] (.seq (.seq (.reg [.asg 8 (.i 0)])
 (.block 0 (.loop Q0)))
 (.drop [8,22,23] (.seq (.reg [.ld 70 2 true 7,
 .st 2 6 70])
 .ret))))))
abbrev Af5:List RS:=[.c 6 2 true]
theorem Ae6:A5 Try.prog Oe 71 Afe Af5=true:=by kernel_rfl
def Aow:ACode:=
 (.seq (.reg [.box 3 0,
 .box 4 1,
 .asg 6 (.c (.bool false))])
 (.seq (.seq (.reg [.ld 9 2 true 3,
 .ld 10 2 true 4,
 .mov 11 2,
 .call 12 W8 [(9,false),(10,false),(11,false)],
 .un 13 .not 12])
 (.drop [9,10,11,12] (.cond 13 (.seq (.reg [.asg 6 (.c (.bool false))])
 .ret)
 .skip)))
 (.drop [13] (.seq (.reg [.ld 15 2 true 3,
 .ld 16 2 true 4,
 .mov 17 2,
 .call 18 Rw [(15,false),(16,false),(17,false)],
 .asg 14 18,
 .ext 19 14 0,
 .ext 20 14 1,
 .asg 7 19,
 .asg 8 20])
 (.drop [15,16,17,18,14,19,20,8] (.seq (.reg [.mov 21 7,
 .bin 22 .lss 21 (.i 0),
 .asg 6 22])
 .ret))))))
abbrev Aqm:List RS:=[.t 6]
theorem Aon:A5 Try.prog Wd 23 Aow Aqm=true:=by kernel_rfl
def Afw:ACode:=
 (.seq (.reg [.asg 4 (.c (.bool false))])
 (.seq (.reg [.mov 5 0,
 .mov 6 1,
 .call 7 A6 [(5,true),(6,false)],
 .bin 8 .eql 7 (.i 0),
 .asg 4 8])
 .ret))
abbrev Agd:List RS:=[.t 4]
theorem Ae3:A5 Try.prog C4 9 Afw Agd=true:=by kernel_rfl
def Aap:ACode:=
 (.seq (.reg [.fadr 5 0 1,
 .l 6 5,
 .bin 7 .lss 6 (.i 1),
 .asg 8 7,
 .n 8 (.fadr 9 0 1),
 .n 8 (.ld 10 1 false 9),
 .n 8 (.bin 11 .gtr 10 (.i 8)),
 .pick 12 8 (.c (.bool true)) 11,
 .asg 13 12,
 .n 13 (.fadr 14 1 1),
 .n 13 (.ld 15 1 false 14),
 .n 13 (.len 16 15),
 .n 13 (.bin 17 .gtr 16 (.i 4)),
 .pick 18 13 (.c (.bool true)) 17])
 (.drop (R 5 13) (.cond 18 (.seq (.reg [.asg 2 (.c (.bool false))])
 .ret)
 .skip)))
def Qs:ACode:=
 (.seq (.reg [.bin 23 .lss 22 21])
 (.seq (.cond 23 .skip
 (.exit 0))
 (.seq (.block 1 (.seq (.reg [.iad 24 2 20 22,
 .ld 25 2 true 24,
 .alc 4 (.agg [.int .i64 0,.nilsl 1]),
 .st 2 4 25])
 (.drop [24,25] (.seq (.reg [.ld 26 2 true 4,
 .fadr 27 0 1,
 .l 28 27,
 .call 29 Yu [(26,false),(28,false)],
 .un 30 .not 29])
 (.drop [26,27,28,29] (.cond 30 (.seq (.reg [.asg 2 (.c (.bool false))])
 .ret)
 .skip))))))
 (.drop [4,30] (.reg [.bin 31 .add 22 (.i 1),
 .asg 22 31])))))
def Afs:ACode:=
 (.seq (.reg [.box 1 0,
 .asg 2 (.c (.bool false))])
 (.seq (.cut Aap)
 (.drop [18] (.seq (.seq (.reg [.fadr 19 1 1,
 .l 20 19,
 .len 21 20,
 .mov 22 (.i 0)])
 (.drop [19] (.block 0 (.loop Qs))))
 (.drop [20,21,22,23,31] (.seq (.reg [.asg 2 (.c (.bool true))])
 .ret))))))
abbrev Ae7:List RS:=[.t 2]
theorem Afl:A5 Try.prog Du 32 Afs Ae7=true:=by kernel_rfl
def Agf:ACode:=
 (.seq (.reg [.fadr 4 0 1,
 .l 5 4,
 .call 6 F6 [(5,false),((.i 1),false),((.i 8),false)],
 .un 7 .not 6,
 .asg 8 7,
 .n 8 (.fadr 9 1 1),
 .n 8 (.ld 10 1 false 9),
 .n 8 (.len 11 10),
 .n 8 (.bin 12 .gtr 11 (.i 4)),
 .pick 13 8 (.c (.bool true)) 12])
 (.drop (R 4 9) (.cond 13 (.seq (.reg [.asg 2 (.c (.bool false))])
 .ret)
 .skip)))
def V7:ACode:=
 (.seq (.seq (.reg [.mov 14 3,
 .fadr 15 1 1,
 .l 16 15,
 .len 17 16,
 .bin 18 .lss 14 17])
 (.drop [14,15,16,17] (.cond 18 .skip
 (.exit 0))))
 (.drop [18] (.seq (.block 1 (.seq (.dreg [(.fadr 21 0 1,[]),
 (.l 22 21,[]),
 (.fadr 23 1 1,[21,22]),
 (.l 24 23,[21,22]),
 (.mov 25 3,[21,22,23,24]),
 (.iad 26 2 24 25,[21,22]),
 (.ld 27 2 true 26,[21,22])]
 [.call 28 Zn [(22,false),(27,false)],
 .un 29 .not 28])
 (.drop (R 21 8) (.cond 29 (.seq (.reg [.asg 2 (.c (.bool false))])
 .ret)
 .skip))))
 (.drop [29] (.reg [.mov 19 3,
 .bin 20 .add 19 (.i 1),
 .asg 3 20])))))
def Alq:ACode:=
 (.seq (.reg [.box 1 0,
 .asg 2 (.c (.bool false))])
 (.seq (.cut Agf)
 (.drop [13] (.seq (.seq (.reg [.asg 3 (.i 0)])
 (.block 0 (.loop V7)))
 (.drop [3,19,20] (.seq (.reg [.asg 2 (.c (.bool true))])
 .ret))))))
abbrev Amt:List RS:=[.t 2]
theorem Alm:A5 Try.prog K3 30 Alq Amt=true:=by kernel_rfl
def Abc:ACode:=
 (.seq (.reg [.asg 4 (.i 0)])
 (.seq (.reg [.mov 5 1,
 .mov 6 0,
 .mov 7 1,
 .len 8 7,
 .call 9 A6 [(6,true),(8,false)],
 .iad 10 1 5 9,
 .l 11 10,
 .asg 4 11])
 .ret))
abbrev Ab4:List RS:=[.t 4]
theorem Ab9:A5 Try.prog Bk 12 Abc Ab4=true:=by kernel_rfl
def Ai7:ACode:=
 (.seq (.reg [.asg 6 (.c (.bool false))])
 (.seq (.reg [.mov 7 2,
 .len 8 7,
 .mov 9 1,
 .bin 10 .eql 8 9,
 .asg 11 10,
 .y 11 (.mov 12 0),
 .y 11 (.mov 13 2),
 .y 11 (.call 14 Ms [(12,false),(13,false)]),
 .pick 15 11 14 (.c (.bool false)),
 .asg 6 15])
 .ret))
abbrev Ajk:List RS:=[.t 6]
theorem Akx:A5 Try.prog Sq 16 Ai7 Ajk=true:=by kernel_rfl
def Ao5:ACode:=
 (.seq (.reg [.asg 4 (.c (.nilsl 1))])
 (.seq (.reg [.mov 8 0,
 .mov 9 1,
 .call 10 Hl [(8,false),(9,false)],
 .asg 7 10,
 .ext 11 7 0,
 .ext 12 7 1,
 .asg 5 11,
 .asg 6 12])
 (.drop (R 7 6) (.seq (.seq (.reg [.mov 13 6])
 (.cond 13 (.seq (.reg [.mov 14 0,
 .asg 4 14])
 .ret)
 .skip))
 (.drop [13] (.seq (.frz [0] (.dreg [(.bsl 15 1 [],[20]),
 (.mov 16 0,[15,20]),
 (.mov 17 5,[15,16,20]),
 (un (.slc 18 1 16 none (some 17)),[15,20]),
 (.app 19 1 15 18,[20]),
 (.mov 20 1,[15,16,17,18,19,15]),
 (.bsl 21 1 [20],[15,16,17,18,19,15]),
 (.app 22 1 19 21,[15,20]),
 (.mov 23 0,[15,16,17,18,19,20,21,22,15,20,19]),
 (.mov 24 5,[15,16,17,18,19,20,21,22,23,15,20,19]),
 (un (.slc 25 1 23 (some 24) none),[15,16,17,18,19,20,21,22,15,20,19])]
 [.app 26 1 22 25,
 .asg 4 26]))
 .ret))))))
abbrev Aph:List RS:=[.t 4]
theorem Ao8:A5 Try.prog Ri 27 Ao5 Aph=true:=by kernel_rfl
def Uy:ACode:=
 (.reg [.mov 19 5,
 .asg 20 19,
 .n 20 (.fadr 21 0 7),
 .n 20 (.ld 22 1 false 21),
 .n 20 (.bin 23 .eql 22 (.i 0)),
 .n 20 (.asg 24 23),
 .y 24 (.mov 25 3),
 .y 24 (.bin 26 .eql 25 (.i 0)),
 .n 20 (.pick 27 24 26 (.c (.bool false))),
 .pick 28 20 (.c (.bool true)) 27])
def Vh:ACode:=
 (.seq (.cut Uy)
 (.drop (R 19 9) (.cond 28 (.dreg [(.mov 29 0,[]),
 (.mov 30 0,[29]),
 (.nck 31 30,[29]),
 (.fadr 32 0 31,[29]),
 (.ld 33 2 true 32,[29]),
 (.ld 34 2 true 7,[29,30,31,32,33]),
 (.mov 35 0,[29,30,31,32,33,34]),
 (.nck 36 35,[29,30,31,32,33,34]),
 (.fadr 37 2 36,[29,30,31,32,33,34]),
 (.l 38 37,[29,30,31,32,33,34]),
 (.mov 39 2,[29,30,31,32,33,34,35,36,37,38]),
 (.call 40 Gm [(33,false),(34,false),(38,false),(39,false)],[29])]
 [.call 41 Lh [(29,true),(40,false)]])
 .skip)))
def Lz:ACode:=
 (.seq (.seq (.reg [.mov 53 13,
 .mov 54 4,
 .bin 55 .lss 53 54])
 (.drop [53,54] (.cond 55 .skip
 (.exit 0))))
 (.drop [55] (.seq (.block 1 (.seq (.dregl [(0,.mov 58 0),
 (1,.ld 59 2 true 7),
 (2,.mov 60 2),
 (3,.mov 61 0),
 (4,.nck 62 61),
 (5,.fadr 63 3 62),
 (6,.ld 64 1 false 63),
 (7,.mov 65 13),
 (8,.iad 66 1 64 65),
 (9,.ld 67 1 false 66),
 (12,.mov 70 3),
 (13,.mov 71 4),
 (14,.mov 72 5)]
 (.alt 10 (.bsl 68 1 [67]) [0,1,2,3,4,5,6,7,8,9,12,13,14] [] (.alt 11 (un (.apk 69 1 60 68 2 190)) [0,1,2,12,13,14] [] (.alt 15 (.asg 73 72) [0,1,12,13,14] [] (.alt 16 (.n 73 (.mov 74 13)) [0,1,12,13] [] (.alt 17 (.n 73 (.mov 75 3)) [0,1,12,13] [] (.alt 18 (.n 73 (.bin 76 .geq 74 75)) [0,1,12,13] [] (.alt 19 (.pick 77 73 (.c (.bool true)) 76) [0,1,12,13] [] (.alt 20 (.call 78 B7 [(58,true),(59,false),(69,true),(70,false),(71,false),(77,false)]) [0,1,12,13] [] (.alt 21 (.un 79 .not 78) [] [] .nil .nil) .nil) .nil) .nil) .nil) (.alt 17 (.n 73 (.mov 75 3)) [0,1,12,13] [] (.alt 16 (.n 73 (.mov 74 13)) [0,1,12,13] [] (.alt 18 (.n 73 (.bin 76 .geq 74 75)) [0,1,12,13] [] (.alt 19 (.pick 77 73 (.c (.bool true)) 76) [0,1,12,13] [] (.alt 20 (.call 78 B7 [(58,true),(59,false),(69,true),(70,false),(71,false),(77,false)]) [0,1,12,13] [] (.alt 21 (.un 79 .not 78) [] [] .nil .nil) .nil) .nil) .nil) .nil) .nil)) .nil) .nil) .nil))
 (.frz [8200200190] (.drop (R 58 21) (.cond 79 (.seq (.reg [.asg 12 (.c (.bool false))])
 .ret)
 .skip)))))
 (.drop [79] (.reg [.mov 56 13,
 .bin 57 .add 56 (.i 1),
 .asg 13 57])))))
def Zo:ACode:=
 (.seq (.reg [.box 7 1,
 .asg 12 (.c (.bool false))])
 (.seq (.seq (.reg [.mov 14 2,
 .len 15 14,
 .fadr 16 0 7,
 .l 17 16,
 .bin 18 .eql 15 17])
 (.drop [14,15,16,17] (.cond 18 (.seq (.cut Vh)
 (.drop (R 28 14) (.seq (.dreg [(.mov 42 0,[]),
 (.nck 43 42,[]),
 (.fadr 44 3 43,[]),
 (.l 45 44,[]),
 (.len 46 45,[]),
 (.mov 47 0,[42,43,44,45,46]),
 (.nck 48 47,[42,43,44,45,46]),
 (.fadr 49 0 48,[42,43,44,45,46]),
 (.ld 50 2 true 49,[42,43,44,45,46]),
 (.call 51 Hh [(50,false)],[42,43,44,45,46])]
 [.bin 52 .leq 46 51,
 .asg 12 52])
 .ret)))
 .skip)))
 (.drop [18] (.seq (.seq (.reg [.asg 13 (.i 0)])
 (.block 0 (.loop Lz)))
 (.drop [13,56,57] (.seq (.reg [.asg 12 (.c (.bool true))])
 .ret))))))
abbrev Zf:List RS:=[.t 12]
theorem Zl:A5 Try.prog B7 80 Zo Zf=true:=by kernel_rfl
def Vz:ACode:=
 (.seq (.reg [.mov 32 4,
 .bin 33 .eql 32 (.i 4),
 .asg 34 33,
 .y 34 (.fadr 35 0 7),
 .y 34 (.ld 36 1 false 35),
 .y 34 (.bin 37 .eql 36 (.i 3)),
 .pick 38 34 37 (.c (.bool false))])
 (.drop (R 32 6) (.cond 38 (.reg [.fadr 39 0 7,
 .st 1 39 (.i 2)])
 .skip)))
def Lx:ACode:=
 (.seq (.seq (.reg [.mov 44 8,
 .bin 45 .gtr 44 (.i 0)])
 (.drop [44] (.cond 45 .skip
 (.exit 2))))
 (.drop [45] (.seq (.block 3 (.dreg [(.fadr 48 1 7,[132,52]),
 (.l 49 48,[132,52]),
 (.mov 50 0,[48,49]),
 (.mov 51 4,[48,49,50]),
 (.call 52 A6 [(50,true),(51,false)],[132,48,49]),
 (.bsl 53 1 [52],[48,49])]
 [.app 54 1 49 53,
 .fadr 55 1 7,
 .st 1 55 54]))
 (.drop (R 48 8) (.reg [.mov 46 8,
 .bin 47 .sub 46 (.i 1),
 .asg 8 47])))))
def L1:ACode:=
 (.seq (.seq (.reg [.mov 24 6,
 .bin 25 .gtr 24 (.i 0)])
 (.drop [24] (.cond 25 .skip
 (.exit 0))))
 (.drop [25] (.seq (.block 1 (.seq (.reg [.mov 28 0,
 .bsl 29 1 [(.i 0),(.i 1),(.i 2),(.i 2),(.i 3)],
 .call 30 Bk [(28,true),(29,false)],
 .bld 31 [.int .i64 0,.nilsl 1] [(0,1,30)],
 .alc 7 (.agg [.int .i64 0,.nilsl 1]),
 .st 2 7 31])
 (.drop [28,29,30,31] (.seq (.cut Vz)
 (.drop [38,39] (.seq (.seq (.reg [.mov 40 4,
 .fadr 41 0 7,
 .l 42 41,
 .call 43 M5 [(40,false),(42,false)],
 .asg 8 43])
 (.drop [40,41,42,43] (.block 2 (.loop Lx))))
 (.drop [8,46,47] (.reg [.fadr 56 1 5,
 .l 57 56,
 .ld 58 2 true 7,
 .bsl 59 2 [58],
 .app 60 2 57 59,
 .fadr 61 1 5,
 .st 1 61 60]))))))))
 (.drop [7,56,57,58,59,60,61] (.reg [.mov 26 6,
 .bin 27 .sub 26 (.i 1),
 .asg 6 27])))))
def Ly:ACode:=
 (.seq (.seq (.dreg [(.fadr 116 1 5,[132]),
 (.l 117 116,[132]),
 (.len 118 117,[132]),
 (.mov 119 0,[116,117,118]),
 (.call 120 A6 [(119,true),((.i 2),false)],[132,116,117,118]),
 (.bin 121 .add (.i 4) 120,[116,117,118])]
 [.bin 122 .lss 118 121])
 (.drop (R 116 6) (.cond 122 .skip
 (.exit 5))))
 (.drop [122] (.block 6 (.dregl [(0,.fadr 123 1 5),
 (1,.ld 124 1 false 123),
 (2,.mov 125 4)]
 (.alt 3 (un (.mk 126 1 (.int .i64 0) 125)) [0,1,2] [] (.alt 4 (.bld 127 [.int .i64 0,.nilsl 1] [(0,1,(.i 1)),(1,1,126)]) [0,1] [] (.alt 5 (.bsl 128 2 [127]) [0,1] [] (.alt 6 (.app 129 2 124 128) [0,1] [124] (.alt 7 (.fadr 130 1 5) [] [] (.alt 8 (.st 1 130 129) [] [] .nil .nil) .nil) .nil) .nil) .nil) .nil)))))
def Zm:ACode:=
 (.seq (.reg [.alc 2 (.agg [.int .i64 0,.nilsl 2])])
 (.seq (.seq (.reg [.mov 9 0,
 .call 10 C4 [(9,true),((.i 4),false)],
 .un 11 .not 10])
 (.drop [9,10] (.cond 11 (.seq (.reg [.mov 12 0,
 .call 13 A6 [(12,true),((.i 17),false)],
 .call 14 R9 [(13,false)],
 .alc 3 (.agg [.int .i64 0,.nilsl 2]),
 .st 2 3 14])
 (.drop [12,13,14] (.seq (.reg [.ld 15 2 true 3,
 .st 2 2 15])
 .ret)))
 .skip)))
 (.drop [11,3] (.seq (.reg [.mov 16 0,
 .bsl 17 1 [(.i 2),(.i 2),(.i 3),(.i 3),(.i 4)],
 .call 18 Bk [(16,true),(17,false)],
 .asg 4 18])
 (.drop [16,17,18] (.seq (.reg [.mov 19 4,
 .bld 20 [.int .i64 0,.nilsl 2] [(0,1,19)],
 .alc 5 (.agg [.int .i64 0,.nilsl 2]),
 .st 2 5 20])
 (.drop [19,20] (.seq (.seq (.reg [.mov 21 0,
 .bsl 22 1 [(.i 1),(.i 1),(.i 2)],
 .call 23 Bk [(21,true),(22,false)],
 .asg 6 23])
 (.drop [21,22,23] (.block 0 (.loop L1))))
 (.drop [6,26,27] (.seq (.seq (.reg [.mov 62 0,
 .call 63 A6 [(62,true),((.i 16),false)]])
 (.drop [62] (.block 4 (.seq (.reg [.bin 65 .eql 63 (.i 0),
 .asg 64 65])
 (.drop [65] (.cond 64 (.reg [.mov 66 0,
 .mov 67 4,
 .bin 68 .add 67 (.i 1),
 .bsl 69 1 [(.i 0),(.i 9),68],
 .call 70 Bk [(66,true),(69,false)],
 .fadr 71 0 5,
 .st 1 71 70])
 (.seq (.reg [.bin 73 .eql 63 (.i 1),
 .asg 72 73])
 (.drop [73] (.cond 72 (.dregl [(0,.fadr 74 1 5),
 (1,.ld 75 1 false 74),
 (2,.fadr 76 1 5),
 (3,.ld 77 1 false 76),
 (4,.iad 78 2 77 (.i 0)),
 (5,.fadr 79 1 78),
 (6,.ld 80 1 false 79)]
 (.alt 7 (.bsl 81 1 [(.i 0)]) [0,1,2,3,4,5,6] [] (.alt 8 (.app 82 1 80 81) [0,1,2,3,4,5,6] [80] (.alt 9 (.iad 83 2 75 (.i 0)) [0,1] [] (.alt 10 (.fadr 84 1 83) [] [] (.alt 11 (.st 1 84 82) [] [] .nil .nil) .nil) .nil) .nil) .nil))
 (.seq (.reg [.bin 86 .eql 63 (.i 2),
 .asg 85 86])
 (.drop [86] (.cond 85 (.dregl [(0,.fadr 87 1 5),
 (1,.ld 88 1 false 87),
 (2,.iad 89 2 88 (.i 0)),
 (3,.fadr 90 1 89),
 (4,.ld 91 1 false 90),
 (5,.mov 92 0),
 (6,.fadr 93 1 5),
 (7,.ld 94 1 false 93),
 (8,.iad 95 2 94 (.i 0)),
 (9,.fadr 96 1 95),
 (10,.ld 97 1 false 96),
 (13,.mov 100 0),
 (14,.mov 101 4)]
 (.alt 11 (.len 98 97) [0,1,2,3,4,5,6,7,8,9,10,13,14] [] (.alt 12 (.call 99 A6 [(92,true),(98,false)]) [0,1,2,3,4,5,13,14] [] (.alt 15 (.bsl 102 1 [(.i (-1)),101]) [0,1,2,3,4,13,14] [] (.alt 16 (.call 103 Bk [(100,true),(102,false)]) [0,1,2,3,4,13] [] (.alt 17 (.iad 104 1 91 99) [0,1,2,3,4] [] (.alt 18 (.st 1 104 103) [] [] .nil .nil) .nil) .nil) .nil) (.alt 15 (.bsl 102 1 [(.i (-1)),101]) [0,1,2,3,4,5,13,14] [] (.alt 12 (.call 99 A6 [(92,true),(98,false)]) [0,1,2,3,4,5,13] [] (.alt 16 (.call 103 Bk [(100,true),(102,false)]) [0,1,2,3,4,13] [] (.alt 17 (.iad 104 1 91 99) [0,1,2,3,4] [] (.alt 18 (.st 1 104 103) [] [] .nil .nil) .nil) .nil) .nil) .nil)) (.alt 15 (.bsl 102 1 [(.i (-1)),101]) [0,1,2,3,4,5,6,7,8,9,10,13,14] [] (.alt 11 (.len 98 97) [0,1,2,3,4,5,6,7,8,9,10,13] [] (.alt 12 (.call 99 A6 [(92,true),(98,false)]) [0,1,2,3,4,5,13] [] (.alt 16 (.call 103 Bk [(100,true),(102,false)]) [0,1,2,3,4,13] [] (.alt 17 (.iad 104 1 91 99) [0,1,2,3,4] [] (.alt 18 (.st 1 104 103) [] [] .nil .nil) .nil) .nil) .nil) .nil) .nil)))
 (.seq (.reg [.bin 106 .eql 63 (.i 3),
 .asg 105 106])
 (.drop [106] (.cond 105 (.dregl [(0,.fadr 107 1 5),
 (1,.ld 108 1 false 107),
 (2,.mov 109 0)]
 (.alt 3 (.bsl 110 1 [(.i (-1)),(.i 4)]) [0,1,2] [] (.alt 4 (.call 111 Bk [(109,true),(110,false)]) [0,1,2] [] (.alt 5 (.iad 112 2 108 (.i 0)) [0,1] [] (.alt 6 (.fadr 113 0 112) [] [] (.alt 7 (.st 1 113 111) [] [] .nil .nil) .nil) .nil) .nil) .nil))
 (.seq (.reg [.bin 115 .eql 63 (.i 4),
 .asg 114 115])
 (.drop [115] (.cond 114 (.block 5 (.loop Ly))
 .skip))))))))))))))))))
 (.drop [63,64,66,67,68,69,70,71,72,74,75,76,77,78,79,80,81,82,83,84,85,87,88,89,90,91,92,93,94,95,96,97,98,99,100,101,102,103,104,105,107,108,109,110,111,112,113,114,123,124,125,126,127,128,129,130] (.seq (.reg [.ld 131 2 true 5,
 .st 2 2 131])
 .ret))))))))))))
abbrev Zj:List RS:=[.c 2 2 true]
theorem Yo:A5 Try.prog Hg 132 Zm Zj=true:=by kernel_rfl
def Af6:ACode:=
 (.seq (.reg [.box 3 1,
 .asg 4 (.i 0)])
 (.seq (.seq (.reg [.fadr 5 1 3,
 .l 6 5,
 .len 7 6,
 .bin 8 .eql 7 (.i 0),
 .asg 9 8,
 .n 9 (.mov 10 0),
 .n 9 (.call 11 C4 [(10,true),((.i 16),false)]),
 .pick 12 9 (.c (.bool true)) 11])
 (.drop (R 5 7) (.cond 12 (.seq (.reg [.mov 13 0,
 .fadr 14 1 3,
 .l 15 14,
 .len 16 15,
 .bsl 17 1 [(.i (-1)),(.i 0),16],
 .call 18 Bk [(13,true),(17,false)],
 .asg 4 18])
 .ret)
 .skip)))
 (.drop [12] (.seq (.reg [.mov 19 0,
 .fadr 20 1 3,
 .l 21 20,
 .len 22 21,
 .call 23 A6 [(19,true),(22,false)],
 .asg 4 23])
 .ret))))
abbrev Af8:List RS:=[.t 4]
theorem Af3:A5 Try.prog N9 24 Af6 Af8=true:=by kernel_rfl
def Ai4:ACode:=
 (.seq (.reg [.box 2 0,
 .asg 4 (.c (.bool false))])
 (.seq (.reg [.ld 5 2 true 2,
 .call 6 K3 [(5,false)],
 .asg 7 6,
 .y 7 (.mov 8 1),
 .y 7 (.fadr 9 1 2),
 .y 7 (.ld 10 1 false 9),
 .y 7 (.len 11 10),
 .y 7 (.bin 12 .sub 11 (.i 1)),
 .y 7 (.call 13 F6 [(8,false),((.i 0),false),(12,false)]),
 .pick 14 7 13 (.c (.bool false)),
 .asg 4 14])
 .ret))
abbrev Ak2:List RS:=[.t 4]
theorem Ajr:A5 Try.prog M9 15 Ai4 Ak2=true:=by kernel_rfl
def Zt:ACode:=
 (.seq (.reg [.box 3 1,
 .asg 4 (.i 0)])
 (.seq (.seq (.reg [.fadr 5 0 3,
 .l 6 5,
 .bin 7 .lss 6 (.i 1),
 .asg 8 7,
 .n 8 (.mov 9 0),
 .n 8 (.call 10 C4 [(9,true),((.i 24),false)]),
 .pick 11 8 (.c (.bool true)) 10])
 (.drop (R 5 6) (.cond 11 (.seq (.reg [.mov 12 0,
 .fadr 13 0 3,
 .l 14 13,
 .bsl 15 1 [(.i (-1)),14],
 .call 16 Bk [(12,true),(15,false)],
 .asg 4 16])
 .ret)
 .skip)))
 (.drop [11] (.seq (.reg [.mov 17 0,
 .fadr 18 0 3,
 .l 19 18,
 .call 20 A6 [(17,true),(19,false)],
 .asg 4 20])
 .ret))))
abbrev Zv:List RS:=[.t 4]
theorem Zw:A5 Try.prog Dq 21 Zt Zv=true:=by kernel_rfl
def Aqg:ACode:=
 (.seq (.reg [.box 2 0,
 .asg 4 (.c (.bool false))])
 (.seq (.reg [.ld 5 2 true 2,
 .call 6 Du [(5,false)],
 .asg 7 6,
 .y 7 (.mov 8 1),
 .y 7 (.bin 9 .geq 8 (.i 0)),
 .pick 10 7 9 (.c (.bool false)),
 .asg 11 10,
 .y 11 (.mov 12 1),
 .y 11 (.fadr 13 1 2),
 .y 11 (.ld 14 1 false 13),
 .y 11 (.len 15 14),
 .y 11 (.bin 16 .lss 12 15),
 .pick 17 11 16 (.c (.bool false)),
 .asg 4 17])
 .ret))
abbrev An3:List RS:=[.t 4]
theorem Aqd:A5 Try.prog Rh 18 Aqg An3=true:=by kernel_rfl
def Sf:ACode:=
 (.seq (.seq (.reg [.mov 8 7,
 .mov 9 2,
 .len 10 9,
 .bin 11 .lss 8 10])
 (.drop [8,9,10] (.cond 11 .skip
 (.exit 0))))
 (.drop [11] (.seq (.block 1 (.seq (.reg [.mov 14 0,
 .mov 15 1,
 .mov 16 2,
 .mov 17 7,
 .iad 18 1 16 17,
 .l 19 18,
 .call 20 Sq [(14,false),(15,false),(19,false)],
 .un 21 .not 20])
 (.drop (R 14 7) (.cond 21 (.seq (.reg [.asg 6 (.c (.bool false))])
 .ret)
 .skip))))
 (.drop [21] (.reg [.mov 12 7,
 .bin 13 .add 12 (.i 1),
 .asg 7 13])))))
def Ahe:ACode:=
 (.seq (.reg [.asg 6 (.c (.bool false))])
 (.seq (.seq (.reg [.asg 7 (.i 0)])
 (.block 0 (.loop Sf)))
 (.drop [7,12,13] (.seq (.reg [.mov 22 1,
 .call 23 F6 [(22,false),((.i 1),false),((.i 64),false)],
 .asg 6 23])
 .ret))))
abbrev Ah0:List RS:=[.t 6]
theorem Ah1:A5 Try.prog Is 24 Ahe Ah0=true:=by kernel_rfl
def S8:ACode:=
 (.seq (.seq (.reg [.mov 29 12,
 .mov 30 2,
 .len 31 30,
 .bin 32 .lss 29 31])
 (.drop [29,30,31] (.cond 32 .skip
 (.exit 0))))
 (.drop [32] (.seq (.block 1 (.reg [.mov 35 11,
 .mov 36 2,
 .mov 37 12,
 .iad 38 1 36 37,
 .l 39 38,
 .call 40 Rk [(39,false)],
 .bsl 41 1 [40],
 .app 42 1 35 41,
 .asg 11 42]))
 (.drop (R 35 8) (.reg [.mov 33 12,
 .bin 34 .add 33 (.i 1),
 .asg 12 34])))))
def S7:ACode:=
 (.seq (.seq (.reg [.mov 43 13,
 .fadr 44 1 3,
 .l 45 44,
 .len 46 45,
 .bin 47 .lss 43 46])
 (.drop [43,44,45,46] (.cond 47 .skip
 (.exit 2))))
 (.drop [47] (.seq (.block 3 (.seq (.reg [.fadr 50 1 3,
 .l 51 50,
 .mov 52 13,
 .iad 53 2 51 52,
 .fadr 54 0 53,
 .l 55 54,
 .bin 56 .eql 55 (.i 0)])
 (.drop (R 50 6) (.cond 56 (.reg [.mov 57 11,
 .ld 58 2 true 3,
 .mov 59 13,
 .bsl 60 1 [],
 .mov 61 1,
 .call 62 Gi [(58,false),(59,false),(60,false),(61,false)],
 .bsl 63 1 [62],
 .app 64 1 57 63,
 .asg 11 64])
 .skip))))
 (.drop (R 56 9) (.reg [.mov 48 13,
 .bin 49 .add 48 (.i 1),
 .asg 13 49])))))
def Tk:ACode:=
 (.seq (.seq (.reg [.mov 65 14,
 .mov 66 11,
 .len 67 66,
 .bin 68 .lss 65 67])
 (.drop [65,66,67] (.cond 68 .skip
 (.exit 4))))
 (.drop [68] (.seq (.block 5 (.seq (.reg [.mov 72 8,
 .mov 73 11,
 .mov 74 14,
 .iad 75 1 73 74,
 .l 76 75,
 .call 77 Hl [(72,false),(76,false)],
 .asg 71 77,
 .ext 78 71 0,
 .ext 79 71 1,
 .asg 15 78,
 .asg 16 79])
 (.drop [72,73,74,75,76,77,71,78,79,15] (.seq (.reg [.mov 80 16,
 .un 81 .not 80])
 (.drop [80] (.cond 81 (.seq (.reg [.mov 82 8,
 .mov 83 11,
 .mov 84 14,
 .iad 85 1 83 84,
 .l 86 85,
 .call 87 Ri [(82,true),(86,false)],
 .asg 8 87])
 (.drop (R 82 6) (.reg [.mov 88 9,
 .mov 89 11,
 .mov 90 14,
 .iad 91 1 89 90,
 .l 92 91,
 .bsl 93 1 [92],
 .app 94 1 88 93,
 .asg 9 94])))
 .skip))))))
 (.drop [16,81,88,89,90,91,92,93,94] (.reg [.mov 69 14,
 .bin 70 .add 69 (.i 1),
 .asg 14 70])))))
def Ac4:ACode:=
 (.seq (.reg [.mov 95 17,
 .mov 96 9,
 .len 97 96,
 .bin 98 .lss 95 97,
 .asg 99 98,
 .y 99 (.mov 100 9),
 .y 99 (.len 101 100),
 .y 99 (.mov 102 10),
 .y 99 (.bin 103 .leq 101 102),
 .pick 104 99 103 (.c (.bool false))])
 (.drop (R 95 9) (.cond 104 .skip
 (.exit 6))))
def Ad2:ACode:=
 (.seq (.reg [.mov 128 20,
 .asg 129 128,
 .y 129 (.mov 130 9),
 .y 129 (.len 131 130),
 .y 129 (.mov 132 10),
 .y 129 (.bin 133 .leq 131 132),
 .pick 134 129 133 (.c (.bool false))])
 (.drop (R 128 6) (.cond 134 .skip
 (.exit 10))))
def Aec:ACode:=
 (.seq (.reg [.mov 135 19,
 .mov 136 17,
 .call 137 Wz [(135,false),(136,false)]])
 (.drop [135,136] (.cond 137 (.seq (.dreg [(.ld 138 2 true 3,[9]),
 (.mov 139 18,[9,138]),
 (.mov 140 9,[138,139]),
 (.mov 141 19,[138,139,140]),
 (.call 142 G4 [(140,true),(141,false)],[9,138,139]),
 (.mov 143 1,[9,138,139,140,141,142])]
 [.call 144 Gi [(138,false),(139,false),(142,false),(143,false)],
 un (.asgf 21 144)])
 (.drop (R 138 7) (.seq (.reg [.mov 146 8,
 .mov 147 21,
 .call 148 Hl [(146,false),(147,false)],
 .asg 145 148,
 .ext 149 145 0,
 .ext 150 145 1,
 .asg 22 149,
 .asg 23 150])
 (.drop [146,147,148,145,149,150,22] (.seq (.reg [.mov 151 23,
 .un 152 .not 151])
 (.drop [151] (.cond 152 (.seq (.reg [.mov 153 8,
 .mov 154 21,
 .call 155 Ri [(153,true),(154,false)],
 .asg 8 155])
 (.drop [153,154,155] (.reg [.mov 156 9,
 .mov 157 21,
 .bsl 158 1 [157],
 .app 159 1 156 158,
 .asg 9 159])))
 .skip)))))))
 .skip)))
def To:ACode:=
 (.seq (.cut Ad2)
 (.drop [134] (.frz [19] (.block 11 (.seq (.cut Aec)
 (.drop [137,21,23,152,156,157,158,159] (.reg [.mov 161 19,
 .mov 162 17,
 .bin 163 .add 162 (.i 1),
 .call 164 O8 [(161,false),(163,false)],
 .asg 160 164,
 .ext 165 160 0,
 .ext 166 160 1,
 .asg 19 165,
 .asg 20 166])))))))
def Tr:ACode:=
 (.seq (.seq (.reg [.mov 107 18,
 .fadr 108 1 3,
 .l 109 108,
 .len 110 109,
 .bin 111 .lss 107 110])
 (.drop [107,108,109,110] (.cond 111 .skip
 (.exit 8))))
 (.drop [111] (.seq (.block 9 (.seq (.dregp 0 [19] [(.fadr 114 1 3,[]),
 (.l 115 114,[]),
 (.mov 116 18,[114,115]),
 (.iad 117 2 115 116,[]),
 (.fadr 118 0 117,[]),
 (.l 119 118,[]),
 (un (.mk 120 1 (.int .i64 0) 119),[]),
 (.fadr 121 1 3,[114,115,116,117,118,119,120,120]),
 (.l 122 121,[114,115,116,117,118,119,120,120]),
 (.mov 123 18,[114,115,116,117,118,119,120,121,122,120]),
 (.iad 124 2 122 123,[114,115,116,117,118,119,120,120]),
 (.fadr 125 0 124,[114,115,116,117,118,119,120,120]),
 (.l 126 125,[114,115,116,117,118,119,120,120]),
 (.bin 127 .gtr 126 (.i 0),[114,115,116,117,118,119,120,120]),
 (.asg 19 120,[121,122,123,124,125,126,127])]
 [.asg 20 127])
 (.drop (R 114 14) (.block 10 (.loop To)))))
 (.drop [19,20,161,162,163,164,160,165,166] (.reg [.mov 112 18,
 .bin 113 .add 112 (.i 1),
 .asg 18 113])))))
def S3:ACode:=
 (.seq (.cut Ac4)
 (.drop [104] (.seq (.block 7 (.seq (.reg [.asg 18 (.i 0)])
 (.block 8 (.loop Tr))))
 (.drop [18,112,113] (.reg [.mov 105 17,
 .bin 106 .add 105 (.i 1),
 .asg 17 106])))))
def Ajj:ACode:=
 (.seq (.reg [.box 3 0,
 .asg 6 (.c (.nilsl 1)),
 .asg 7 (.c (.bool false))])
 (.seq (.reg [.bsl 24 1 [],
 .bsl 25 1 [],
 .ld 26 2 true 3,
 .call 27 Pc [(26,false)],
 .asg 8 24,
 .asg 9 25,
 .asg 10 27])
 (.drop [24,25,26,27] (.seq (.reg [.bsl 28 1 [],
 .asg 11 28])
 (.drop [28] (.seq (.seq (.reg [.asg 12 (.i 0)])
 (.block 0 (.loop S8)))
 (.drop [12,33,34] (.seq (.seq (.reg [.asg 13 (.i 0)])
 (.block 2 (.loop S7)))
 (.drop [13,48,49] (.seq (.seq (.reg [.asg 14 (.i 0)])
 (.frz [100011] (.block 4 (.loop Tk))))
 (.drop [14,69,70] (.seq (.seq (.reg [.asg 17 (.i 0)])
 (.block 6 (.loop S3)))
 (.drop [17,105,106] (.seq (.reg [.mov 167 8,
 .mov 168 8,
 .len 169 168,
 .mov 170 10,
 .bin 171 .leq 169 170,
 .asg 6 167,
 .asg 7 171])
 .ret))))))))))))))
abbrev Ajb:List RS:=[.t 6,.t 7]
theorem Akg:A5 Try.prog Rx 172 Ajj Ajb=true:=by kernel_rfl
def Vl:ACode:=
 (.seq (.reg [.bin 24 .lss 23 22])
 (.seq (.cond 24 .skip
 (.exit 0))
 (.seq (.block 1 (.seq (.reg [.iad 25 1 21 23,
 .l 26 25,
 .asg 10 26])
 (.drop [25,26] (.reg [.mov 27 8,
 .mov 28 10,
 .call 29 Wa [(28,false)],
 .call 30 Lh [(27,true),(29,false)]]))))
 (.drop [10,27,28,29,30] (.reg [.bin 31 .add 23 (.i 1),
 .asg 23 31])))))
def Afm:ACode:=
 (.seq (.reg [.mov 40 12,
 .asg 41 40,
 .n 41 (.mov 42 11),
 .n 41 (.mov 43 8),
 .n 41 (.nck 44 43),
 .n 41 (.fadr 45 3 44),
 .n 41 (.ld 46 1 false 45),
 .n 41 (.len 47 46),
 .n 41 (.bin 48 .lss 42 47),
 .pick 49 41 (.c (.bool true)) 48])
 (.drop (R 40 9) (.cond 49 .skip
 (.exit 2))))
def V1:ACode:=
 (.seq (.reg [.bin 59 .lss 58 57])
 (.seq (.cond 59 .skip
 (.exit 4))
 (.seq (.block 5 (.seq (.reg [.iad 60 2 56 58,
 .ld 61 2 true 60,
 .alc 15 (.agg [.int .i64 0,.nilsl 1]),
 .st 2 15 61])
 (.drop [60,61] (.seq (.dreg [(.mov 62 8,[]),
 (.ld 63 2 true 15,[62]),
 (un (.mkc 64 1 (.nilsl 1) (.i 3)),[62,63]),
 (.mov 65 11,[62,63,64]),
 (.mov 66 13,[62,63,64,65])]
 [.call 67 B7 [(62,true),(63,false),(64,true),(65,false),(66,false),((.c (.bool false)),false)],
 .un 68 .not 67])
 (.drop (R 62 6) (.cond 68 (.seq (.reg [.asg 6 (.c (.nilp)),
 .asg 7 (.c (.bool false))])
 .ret)
 .skip))))))
 (.drop [15,68] (.reg [.bin 69 .add 58 (.i 1),
 .asg 58 69])))))
def Vf:ACode:=
 (.seq (.cut Afm)
 (.drop [49] (.seq (.block 3 (.seq (.reg [.mov 50 8,
 .nck 51 50,
 .fadr 52 3 51,
 .l 53 52,
 .len 54 53,
 .asg 13 54])
 (.drop (R 50 5) (.seq (.seq (.reg [.fadr 55 1 3,
 .l 56 55,
 .len 57 56,
 .mov 58 (.i 0)])
 (.drop [55] (.block 4 (.loop V1))))
 (.drop [56,57,58,59,69] (.reg [.mov 70 13,
 .asg 11 70]))))))
 (.drop [13,70] (.reg [.asg 12 (.c (.bool false))])))))
def Al0:ACode:=
 (.seq (.reg [.box 3 0,
 .asg 6 (.c (.nilp)),
 .asg 7 (.c (.bool false))])
 (.seq (.reg [.ld 16 2 true 3,
 .mov 17 1,
 un (.mkm 18 false),
 .bld 19 [.int .i64 0,.nilsl 2,.int .i64 0,.nilsl 1,.dead] [(0,2,16),(2,1,17),(4,1,18)],
 .box 20 19,
 .asg 8 20])
 (.drop (R 16 5) (.seq (.seq (.reg [.mov 21 2,
 .len 22 21,
 .mov 23 (.i 0)])
 (.block 0 (.loop Vl)))
 (.drop [21,22,23,24,31] (.seq (.seq (.dreg [(.mov 32 8,[]),
 (.nck 33 32,[]),
 (.fadr 34 3 33,[]),
 (.l 35 34,[]),
 (.len 36 35,[]),
 (.ld 37 2 true 3,[32,33,34,35,36]),
 (.call 38 Hh [(37,false)],[32,33,34,35,36])]
 [.bin 39 .gtr 36 38])
 (.drop (R 32 7) (.cond 39 (.seq (.reg [.asg 6 (.c (.nilp)),
 .asg 7 (.c (.bool false))])
 .ret)
 .skip)))
 (.drop [39] (.seq (.seq (.reg [.asg 11 (.i 0),
 .asg 12 (.c (.bool true))])
 (.block 2 (.loop Vf)))
 (.drop [11,12] (.seq (.reg [.mov 71 8,
 .asg 6 71,
 .asg 7 (.c (.bool true))])
 .ret))))))))))
abbrev Al8:List RS:=[.t 6,.t 7]
theorem Amg:A5 Try.prog Ug 72 Al0 Al8=true:=by kernel_rfl
def Ah2:ACode:=
 (.seq (.reg [.box 2 0,
 .box 3 1,
 .asg 4 (.c (.bool false)),
 .asg 5 (.c (.bool false))])
 (.seq (.seq (.reg [.ld 6 2 true 2,
 .call 7 Du [(6,false)],
 .un 8 .not 7,
 .asg 9 8,
 .n 9 (.ld 10 2 true 3),
 .n 9 (.call 11 Du [(10,false)]),
 .n 9 (.un 12 .not 11),
 .pick 13 9 (.c (.bool true)) 12])
 (.drop (R 6 7) (.cond 13 (.seq (.reg [.asg 4 (.c (.bool false)),
 .asg 5 (.c (.bool false))])
 .ret)
 .skip)))
 (.drop [13] (.seq (.dreg [(.ld 14 2 true 2,[]),
 (.call 15 Pa [(14,false)],[]),
 (.ld 16 2 true 3,[14,15])]
 [.call 17 Pa [(16,false)],
 .call 18 Qr [(15,false),(17,false)],
 .asg 4 18,
 .asg 5 (.c (.bool true))])
 .ret))))
abbrev Ahb:List RS:=[.t 4,.t 5]
theorem Ag9:A5 Try.prog P3 19 Ah2 Ahb=true:=by kernel_rfl
def Yg:ACode:=
 (.seq (.reg [.ld 18 2 true 6,
 .mov 19 7,
 .call 20 M9 [(18,false),(19,false)],
 .asg 21 20,
 .y 21 (.mov 22 5),
 .y 21 (.call 23 C4 [(22,true),((.i 8),false)]),
 .y 21 (.un 24 .not 23),
 .pick 25 21 24 (.c (.bool false))])
 (.drop (R 18 7) (.cond 25 (.reg [.fadr 26 1 6,
 .l 27 26,
 .mov 28 7,
 .iad 29 2 27 28,
 .fadr 30 0 29,
 .l 31 30,
 .asg 8 31])
 .skip)))
def Nl:ACode:=
 (.seq (.seq (.reg [.mov 33 8,
 .bin 34 .gtr 33 (.i 0)])
 (.drop [33] (.cond 34 .skip
 (.exit 0))))
 (.drop [34] (.seq (.block 1 (.dregl [(0,.mov 37 9),
 (1,.mov 38 5),
 (2,.ld 39 2 true 6),
 (4,.mov 41 5),
 (5,.ld 42 2 true 6),
 (7,.mov 44 5),
 (8,.ld 45 2 true 6)]
 (.alt 3 (.call 40 Dq [(38,true),(39,false)]) [0,1,2,4,5,7,8] [] (.alt 6 (.call 43 Dq [(41,true),(42,false)]) [0,4,5,7,8] [] (.alt 9 (.call 46 Dq [(44,true),(45,false)]) [0,7,8] [] (.alt 10 (.bsl 47 1 [40,43,46]) [0] [] (.alt 11 (.bsl 48 1 [47]) [0] [] (.alt 12 (.app 49 1 37 48) [0] [37] (.alt 13 (.asg 9 49) [] [] .nil .nil) .nil) .nil) .nil) .nil) .nil) .nil)))
 (.drop (R 37 13) (.reg [.mov 35 8,
 .bin 36 .sub 35 (.i 1),
 .asg 8 36])))))
def Abh:ACode:=
 (.seq (.reg [.alc 2 (.agg [.int .i64 0,.nilsl 2]),
 .asg 3 (.i 0),
 .asg 4 (.c (.nilsl 1))])
 (.seq (.reg [.mov 10 0,
 .bld 11 [.nilsl 1,.int .i64 0,.int .u64 0] [(0,1,10)],
 .box 12 11,
 .asg 5 12])
 (.drop [10,11,12] (.seq (.reg [.mov 13 5,
 .call 14 Hg [(13,true)],
 .alc 6 (.agg [.int .i64 0,.nilsl 2]),
 .st 2 6 14])
 (.drop [13,14] (.seq (.reg [.mov 15 5,
 .ld 16 2 true 6,
 .call 17 N9 [(15,true),(16,false)],
 .asg 7 17])
 (.drop [15,16,17] (.seq (.reg [.asg 8 (.i 2)])
 (.seq (.cut Yg)
 (.drop (R 25 7) (.seq (.reg [.bsl 32 1 [],
 .asg 9 32])
 (.drop [32] (.seq (.block 0 (.loop Nl))
 (.drop [35,36] (.seq (.seq (.reg [.mov 50 9,
 .len 51 50,
 .bin 52 .gtr 51 (.i 1),
 .asg 53 52,
 .y 53 (.mov 54 5),
 .y 53 (.call 55 C4 [(54,true),((.i 12),false)]),
 .pick 56 53 55 (.c (.bool false))])
 (.drop (R 50 6) (.cond 56 (.frz [100009] (.reg [.mov 57 9,
 .mov 58 9,
 .iad 59 1 58 (.i 1),
 .l 60 59,
 un (.slc 61 1 60 none (some (.i 2))),
 .iad 62 1 57 (.i 1),
 .st 1 62 61]))
 .skip)))
 (.drop (R 56 7) (.seq (.reg [.ld 63 2 true 6,
 .mov 64 7,
 .mov 65 9,
 .st 2 2 63,
 .asg 3 64,
 .asg 4 65])
 .ret)))))))))))))))))
abbrev Aby:List RS:=[.c 2 2 true,.t 3,.t 4]
theorem Acc:A5 Try.prog Lr 66 Abh Aby=true:=by kernel_rfl
def Aev:ACode:=
 (.seq (.reg [.ld 9 2 true 3,
 .mov 10 1,
 .call 11 Rh [(9,false),(10,false)],
 .un 12 .not 11,
 .asg 13 12,
 .n 13 (.fadr 14 1 3),
 .n 13 (.ld 15 1 false 14),
 .n 13 (.mov 16 1),
 .n 13 (.iad 17 2 15 16),
 .n 13 (.fadr 18 0 17),
 .n 13 (.ld 19 1 false 18),
 .n 13 (.bin 20 .eql 19 (.i 0)),
 .pick 21 13 (.c (.bool true)) 20,
 .asg 22 21,
 .n 22 (.mov 23 2),
 .n 22 (.len 24 23),
 .n 22 (.fadr 25 1 3),
 .n 22 (.ld 26 1 false 25),
 .n 22 (.mov 27 1),
 .n 22 (.iad 28 2 26 27),
 .n 22 (.fadr 29 0 28),
 .n 22 (.ld 30 1 false 29),
 .n 22 (.bin 31 .neq 24 30),
 .pick 32 22 (.c (.bool true)) 31])
 (.drop (R 9 23) (.cond 32 (.seq (.reg [.bsl 33 1 [],
 .asg 6 33,
 .asg 7 (.c (.bool false))])
 .ret)
 .skip)))
def Ady:ACode:=
 (.seq (.reg [.mov 38 8,
 .call 39 Lb [(38,false)],
 .un 40 .not 39,
 .asg 41 40,
 .n 41 (.ld 42 2 true 3),
 .n 41 (.mov 43 8),
 .n 41 (.mov 44 2),
 .n 41 (.call 45 Kh [(42,false),(43,false),(44,false)]),
 .n 41 (.un 46 .not 45),
 .pick 47 41 (.c (.bool true)) 46])
 (.drop (R 38 9) (.cond 47 (.seq (.reg [.bsl 48 1 [],
 .asg 6 48,
 .asg 7 (.c (.bool false))])
 .ret)
 .skip)))
def Aiz:ACode:=
 (.seq (.reg [.box 3 0,
 .asg 6 (.c (.nilsl 1)),
 .asg 7 (.c (.bool false))])
 (.seq (.cut Aev)
 (.drop [32] (.seq (.reg [.mov 34 2,
 .iad 35 1 34 (.i 0),
 .l 36 35,
 .len 37 36,
 .asg 8 37])
 (.drop [34,35,36,37] (.seq (.cut Ady)
 (.drop [47] (.seq (.dreg [(.ld 49 2 true 3,[]),
 (.fadr 50 1 3,[49]),
 (.l 51 50,[49]),
 (.mov 52 1,[49,50,51]),
 (.iad 53 2 51 52,[49]),
 (.ld 54 2 true 53,[49]),
 (.mov 55 8,[49,50,51,52,53,54]),
 (.mov 56 2,[49,50,51,52,53,54,55])]
 [.call 57 Gm [(49,false),(54,false),(55,false),(56,false)],
 .asg 6 57,
 .asg 7 (.c (.bool true))])
 .ret))))))))
abbrev Aj9:List RS:=[.t 6,.t 7]
theorem Ak9:A5 Try.prog R4 58 Aiz Aj9=true:=by kernel_rfl
def Aeg:ACode:=
 (.seq (.dreg [(.ld 8 2 true 3,[]),
 (.mov 9 1,[8]),
 (.call 10 M9 [(8,false),(9,false)],[]),
 (.un 11 .not 10,[]),
 (.asg 12 11,[]),
 (.n 12 (.fadr 13 1 3),[11]),
 (.n 12 (.ld 14 1 false 13),[11]),
 (.n 12 (.mov 15 1),[13,14,11]),
 (.n 12 (.iad 16 2 14 15),[11]),
 (.n 12 (.fadr 17 0 16),[11]),
 (.n 12 (.ld 18 1 false 17),[11]),
 (.n 12 (.bin 19 .eql 18 (.i 0)),[11]),
 (.pick 20 12 (.c (.bool true)) 19,[11]),
 (.asg 21 20,[11]),
 (.n 21 (.mov 22 2),[11,20]),
 (.n 21 (.len 23 22),[11,20]),
 (.n 21 (.fadr 24 1 3),[22,23,11,20]),
 (.n 21 (.ld 25 1 false 24),[22,23,11,20]),
 (.n 21 (.mov 26 1),[22,23,24,25,11,20]),
 (.n 21 (.iad 27 2 25 26),[22,23,11,20]),
 (.n 21 (.fadr 28 0 27),[22,23,11,20]),
 (.n 21 (.ld 29 1 false 28),[22,23,11,20]),
 (.n 21 (.bin 30 .neq 23 29),[11,20]),
 (.pick 31 21 (.c (.bool true)) 30,[11,20]),
 (.asg 32 31,[11,20]),
 (.n 32 (.fadr 33 0 3),[11,20,31]),
 (.n 32 (.ld 34 1 false 33),[11,20,31]),
 (.n 32 (.mov 35 2),[33,34,11,20,31]),
 (.n 32 (.iad 36 1 35 (.i 0)),[33,34,11,20,31]),
 (.n 32 (.ld 37 1 false 36),[33,34,11,20,31]),
 (.n 32 (.len 38 37),[33,34,11,20,31]),
 (.n 32 (.mov 39 2),[33,34,35,36,37,38,11,20,31])]
 [.n 32 (.call 40 Is [(34,false),(38,false),(39,false)]),
 .n 32 (.un 41 .not 40),
 .pick 42 32 (.c (.bool true)) 41])
 (.drop (R 8 34) (.cond 42 (.seq (.reg [.bsl 43 1 [],
 .asg 6 43,
 .asg 7 (.c (.bool false))])
 .ret)
 .skip)))
def Ajo:ACode:=
 (.seq (.reg [.box 3 0,
 .asg 6 (.c (.nilsl 1)),
 .asg 7 (.c (.bool false))])
 (.seq (.cut Aeg)
 (.drop [42] (.seq (.dreg [(.ld 44 2 true 3,[]),
 (.mov 45 1,[44]),
 (.mov 46 2,[44,45]),
 (.mov 47 2,[44,45,46]),
 (.iad 48 1 47 (.i 0),[44,45,46]),
 (.l 49 48,[44,45,46]),
 (.len 50 49,[44,45,46])]
 [.call 51 Gi [(44,false),(45,false),(46,false),(50,false)],
 .asg 6 51,
 .asg 7 (.c (.bool true))])
 .ret))))
abbrev Alb:List RS:=[.t 6,.t 7]
theorem Aj8:A5 Try.prog Sb 52 Ajo Alb=true:=by kernel_rfl
def Ac7:ACode:=
 (.seq (.reg [.ld 8 2 true 3,
 .mov 9 1,
 .call 10 Rh [(8,false),(9,false)],
 .un 11 .not 10,
 .asg 12 11,
 .n 12 (.mov 13 2),
 .n 12 (.len 14 13),
 .n 12 (.fadr 15 1 3),
 .n 12 (.ld 16 1 false 15),
 .n 12 (.mov 17 1),
 .n 12 (.iad 18 2 16 17),
 .n 12 (.fadr 19 0 18),
 .n 12 (.ld 20 1 false 19),
 .n 12 (.bin 21 .neq 14 20),
 .pick 22 12 (.c (.bool true)) 21,
 .asg 23 22,
 .n 23 (.mov 24 2),
 .n 23 (.fadr 25 0 3),
 .n 23 (.ld 26 1 false 25),
 .n 23 (.call 27 I7 [(24,false),(26,false)]),
 .n 23 (.un 28 .not 27),
 .pick 29 23 (.c (.bool true)) 28])
 (.drop (R 8 21) (.cond 29 (.seq (.reg [.asg 6 (.i 0),
 .asg 7 (.c (.bool false))])
 .ret)
 .skip)))
def Aka:ACode:=
 (.seq (.reg [.box 3 0,
 .asg 6 (.i 0),
 .asg 7 (.c (.bool false))])
 (.seq (.cut Ac7)
 (.drop [29] (.seq (.dreg [(.fadr 30 1 3,[]),
 (.l 31 30,[]),
 (.mov 32 1,[30,31]),
 (.iad 33 2 31 32,[]),
 (.fadr 34 1 33,[]),
 (.l 35 34,[]),
 (.mov 36 2,[30,31,32,33,34,35]),
 (.fadr 37 0 3,[30,31,32,33,34,35,36]),
 (.l 38 37,[30,31,32,33,34,35,36]),
 (.call 39 Ry [(36,false),(38,false)],[30,31,32,33,34,35])]
 [.iad 40 1 35 39,
 .l 41 40,
 .asg 6 41,
 .asg 7 (.c (.bool true))])
 .ret))))
abbrev Ajh:List RS:=[.t 6,.t 7]
theorem Aip:A5 Try.prog R1 42 Aka Ajh=true:=by kernel_rfl
def Y4:ACode:=
 (.seq (.reg [.mov 10 2,
 .len 11 10,
 .ld 12 2 true 3,
 .call 13 Hh [(12,false)],
 .bin 14 .gtr 11 13,
 .asg 15 14,
 .n 15 (.ld 16 2 true 3),
 .n 15 (.mov 17 1),
 .n 15 (.mov 18 2),
 .n 15 (.call 19 Kh [(16,false),(17,false),(18,false)]),
 .n 15 (.un 20 .not 19),
 .pick 21 15 (.c (.bool true)) 20])
 (.drop (R 10 11) (.cond 21 (.seq (.reg [.asg 6 (.c (.bool false))])
 .ret)
 .skip)))
def Pv:ACode:=
 (.seq (.seq (.reg [.mov 22 7,
 .mov 23 2,
 .len 24 23,
 .bin 25 .lss 22 24])
 (.drop [22,23,24] (.cond 25 .skip
 (.exit 0))))
 (.drop [25] (.seq (.block 1 (.seq (.dreg [(.mov 28 2,[]),
 (.mov 29 7,[28]),
 (.bin 30 .sub 29 (.i 1),[28]),
 (.iad 31 1 28 30,[]),
 (.l 32 31,[]),
 (.mov 33 2,[28,29,30,31,32]),
 (.mov 34 7,[28,29,30,31,32,33]),
 (.iad 35 1 33 34,[28,29,30,31,32]),
 (.l 36 35,[28,29,30,31,32])]
 [.call 37 Kx [(32,false),(36,false)],
 .bin 38 .geq 37 (.i 0)])
 (.drop (R 28 10) (.cond 38 (.seq (.reg [.asg 6 (.c (.bool false))])
 .ret)
 .skip))))
 (.drop [38] (.reg [.mov 26 7,
 .bin 27 .add 26 (.i 1),
 .asg 7 27])))))
def Adr:ACode:=
 (.seq (.reg [.box 3 0,
 .asg 6 (.c (.bool false))])
 (.seq (.cut Y4)
 (.drop [21] (.seq (.seq (.reg [.asg 7 (.i 1)])
 (.block 0 (.loop Pv)))
 (.drop [7,26,27] (.seq (.reg [.ld 40 2 true 3,
 .mov 41 1,
 .mov 42 2,
 .call 43 Ug [(40,false),(41,false),(42,false)],
 .asg 39 43,
 .ext 44 39 0,
 .ext 45 39 1,
 .asg 8 44,
 .asg 9 45])
 (.drop (R 39 7) (.seq (.reg [.mov 46 9,
 .asg 47 46,
 .y 47 (.mov 48 8),
 .y 47 (.nck 49 48),
 .y 47 (.fadr 50 3 49),
 .y 47 (.ld 51 1 false 50),
 .y 47 (.len 52 51),
 .y 47 (.mov 53 2),
 .y 47 (.len 54 53),
 .y 47 (.bin 55 .eql 52 54),
 .pick 56 47 55 (.c (.bool false)),
 .asg 6 56])
 .ret))))))))
abbrev Ad8:List RS:=[.t 6]
theorem Aen:A5 Try.prog M4 57 Adr Ad8=true:=by kernel_rfl
def Ala:ACode:=
 (.seq (.reg [.mov 13 2,
 .len 14 13,
 .ld 15 2 true 3,
 .call 16 Pc [(15,false)],
 .bin 17 .gtr 14 16,
 .asg 18 17,
 .n 18 (.fadr 19 0 3),
 .n 18 (.ld 20 1 false 19),
 .n 18 (.mov 21 1),
 .n 18 (.mov 22 2),
 .n 18 (.call 23 Is [(20,false),(21,false),(22,false)]),
 .n 18 (.un 24 .not 23),
 .pick 25 18 (.c (.bool true)) 24])
 (.drop (R 13 12) (.cond 25 (.seq (.reg [.asg 6 (.c (.bool false))])
 .ret)
 .skip)))
def Z3:ACode:=
 (.seq (.seq (.reg [.mov 26 7,
 .mov 27 2,
 .len 28 27,
 .bin 29 .lss 26 28])
 (.drop [26,27,28] (.cond 29 .skip
 (.exit 0))))
 (.drop [29] (.seq (.block 1 (.seq (.dreg [(.mov 32 2,[]),
 (.mov 33 7,[32]),
 (.bin 34 .sub 33 (.i 1),[32]),
 (.iad 35 1 32 34,[]),
 (.l 36 35,[]),
 (.mov 37 2,[32,33,34,35,36]),
 (.mov 38 7,[32,33,34,35,36,37]),
 (.iad 39 1 37 38,[32,33,34,35,36]),
 (.l 40 39,[32,33,34,35,36])]
 [.call 41 O6 [(36,false),(40,false)],
 .un 42 .not 41])
 (.drop (R 32 10) (.cond 42 (.seq (.reg [.asg 6 (.c (.bool false))])
 .ret)
 .skip))))
 (.drop [42] (.reg [.mov 30 7,
 .bin 31 .add 30 (.i 1),
 .asg 7 31])))))
def Alc:ACode:=
 (.dregp 0 [9] [(.fadr 50 1 3,[63]),
 (.l 51 50,[63]),
 (.mov 52 8,[50,51,63]),
 (.iad 53 2 51 52,[63]),
 (.fadr 54 0 53,[63]),
 (.l 55 54,[63]),
 (un (.mk 56 1 (.int .i64 0) 55),[63]),
 (.fadr 57 1 3,[50,51,52,53,54,55,56]),
 (.l 58 57,[50,51,52,53,54,55,56]),
 (.mov 59 8,[50,51,52,53,54,55,56,57,58]),
 (.iad 60 2 58 59,[50,51,52,53,54,55,56]),
 (.fadr 61 0 60,[50,51,52,53,54,55,56]),
 (.l 62 61,[50,51,52,53,54,55,56]),
 (.bin 63 .eql 62 (.i 0),[50,51,52,53,54,55,56]),
 (.asg 64 63,[50,51,52,53,54,55,56]),
 (.n 64 (.mov 65 2),[50,51,52,53,54,55,56,63,56]),
 (.n 64 (.len 66 65),[50,51,52,53,54,55,56,63,56]),
 (.n 64 (.bin 67 .gtr 66 (.i 0)),[50,51,52,53,54,55,56,63,56]),
 (.pick 68 64 (.c (.bool true)) 67,[50,51,52,53,54,55,56,63,56]),
 (.asg 9 56,[65,66,67,68,63])]
 [.asg 10 68])
def Zi:ACode:=
 (.seq (.seq (.reg [.mov 69 10])
 (.cond 69 .skip
 (.exit 4)))
 (.drop [69] (.block 5 (.seq (.seq (.frz [9] (.dreg [(.mov 71 2,[]),
 (.ld 72 2 true 3,[71]),
 (.mov 73 8,[71,72]),
 (.mov 74 2,[71,72,73]),
 (.mov 75 9,[71,72,73,74]),
 (.call 76 G4 [(74,false),(75,false)],[71,72,73]),
 (.mov 77 1,[71,72,73,74,75,76]),
 (.call 78 Gi [(72,false),(73,false),(76,false),(77,false)],[71]),
 (.call 79 Hl [(71,false),(78,false)],[]),
 (.asg 70 79,[]),
 (.ext 80 70 0,[79]),
 (.ext 81 70 1,[80,79,80])]
 [.asg 11 80,
 .asg 12 81]))
 (.drop [71,72,73,74,75,76,77,78,79,70,80,81,11] (.seq (.reg [.mov 82 12,
 .un 83 .not 82])
 (.drop [82] (.cond 83 (.seq (.reg [.asg 6 (.c (.bool false))])
 .ret)
 .skip)))))
 (.drop [12,83] (.reg [.mov 85 9,
 .mov 86 2,
 .len 87 86,
 .call 88 O8 [(85,false),(87,false)],
 .asg 84 88,
 .ext 89 84 0,
 .ext 90 84 1,
 .asg 9 89,
 .asg 10 90]))))))
def Yt:ACode:=
 (.seq (.seq (.reg [.mov 43 8,
 .fadr 44 1 3,
 .l 45 44,
 .len 46 45,
 .bin 47 .lss 43 46])
 (.drop [43,44,45,46] (.cond 47 .skip
 (.exit 2))))
 (.drop [47] (.seq (.block 3 (.seq (.cut Alc)
 (.drop (R 50 19) (.block 4 (.loop Zi)))))
 (.drop [9,10,85,86,87,88,84,89,90] (.reg [.mov 48 8,
 .bin 49 .add 48 (.i 1),
 .asg 8 49])))))
def As5:ACode:=
 (.seq (.reg [.box 3 0,
 .asg 6 (.c (.bool false))])
 (.seq (.cut Ala)
 (.drop [25] (.seq (.seq (.reg [.asg 7 (.i 1)])
 (.block 0 (.loop Z3)))
 (.drop [7,30,31] (.seq (.seq (.reg [.asg 8 (.i 0)])
 (.block 2 (.loop Yt)))
 (.drop [8,48,49] (.seq (.reg [.asg 6 (.c (.bool true))])
 .ret))))))))
abbrev Aqz:List RS:=[.t 6]
theorem Asq:A5 Try.prog Y6 91 As5 Aqz=true:=by kernel_rfl
def Apf:ACode:=
 (.seq (.reg [.box 2 0,
 .box 3 1,
 .asg 4 (.c (.bool false))])
 (.seq (.reg [.ld 8 2 true 2,
 .ld 9 2 true 3,
 .call 10 P3 [(8,false),(9,false)],
 .asg 7 10,
 .ext 11 7 0,
 .ext 12 7 1,
 .asg 5 11,
 .asg 6 12])
 (.drop (R 7 6) (.seq (.reg [.mov 13 6,
 .asg 14 13,
 .y 14 (.mov 15 5),
 .pick 16 14 15 (.c (.bool false)),
 .asg 4 16])
 .ret))))
abbrev Aou:List RS:=[.t 4]
theorem Apr:A5 Try.prog W4 17 Apf Aou=true:=by kernel_rfl
end Go.Proofs.Ytmmcfdfdacpjgaa.Ax
