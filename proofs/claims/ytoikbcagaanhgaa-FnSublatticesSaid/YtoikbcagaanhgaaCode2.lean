/-
  The small code of the functions, written by program; that the program's code is this one, the kernel looks at.
-/
import Derived.Test.YtoikbcagaanhgaaAx3
import Derived.Test.YtoikbcagaanhgaaProg
import Derived.KernelRfl
import Derived.Test.YtoikbcagaanhgaaNum
namespace Go.Proofs.Ytoikbcagaanhgaa.Ax
open Go
set_option maxRecDepth 100000
def Aeu : ACode :=
 (.seq (.reg [un (.mov 15 (.t 5)),
 un (.un 16 .not (.t 15)),
 un (.asg 17 (.t 16)),
 ⟨some (17, false), .mov 18 (.t 4)⟩,
 ⟨some (17, false), .len 19 (.t 18)⟩,
 ⟨some (17, false), .bin 20 .eql (.t 19) (.c (.int .i64 0))⟩,
 un (.pick 21 (.t 17) (.c (.bool true)) (.t 20))])
 (.drop [15, 16, 17, 18, 19, 20] (.cond (.t 21) (.seq (.reg [un (.asg 2 (.c (.nilp))),
 un (.asg 3 (.c (.bool false)))])
 .ret)
 .skip)))
def Aky : ACode :=
 (.seq (.reg [un (.box 1 (.t 0)),
 un (.asg 2 (.c (.nilp))),
 un (.asg 3 (.c (.bool false)))])
 (.seq (.reg [un (.ld 11 1 true (.t 1)),
 un (.call 12 Ug [((.t 11), false)]),
 un (.asg 10 (.t 12)),
 un (.ext 13 (.t 10) 0),
 un (.ext 14 (.t 10) 1),
 un (.asg 4 (.t 13)),
 un (.asg 5 (.t 14))])
 (.drop [11, 12, 10, 13, 14] (.seq (.cut Aeu)
 (.drop [15, 16, 17, 18, 19, 20, 21] (.seq (.reg [un (.mov 23 (.t 4)),
 un (.call 24 Gf [((.t 23), false)]),
 un (.asg 22 (.t 24)),
 un (.ext 25 (.t 22) 0),
 un (.ext 26 (.t 22) 1),
 un (.asg 6 (.t 25)),
 un (.asg 7 (.t 26))])
 (.drop [23, 24, 22, 25, 26] (.seq (.reg [un (.mov 28 (.t 4)),
 un (.call 29 Oq [((.t 28), false)]),
 un (.call 30 Gf [((.t 29), false)]),
 un (.asg 27 (.t 30)),
 un (.ext 31 (.t 27) 0),
 un (.ext 32 (.t 27) 1),
 un (.asg 8 (.t 31)),
 un (.asg 9 (.t 32))])
 (.drop [28, 29, 30, 27, 31, 32] (.seq (.reg [un (.mov 33 (.t 4)),
 un (.mov 34 (.t 6)),
 un (.mov 35 (.t 8)),
 un (.bld 36 [.nilsl 1, .nilsl 1, .nilsl 1] [(0, 1, (.t 33)), (1, 1, (.t 34)), (2, 1, (.t 35))]),
 un (.box 37 (.t 36)),
 un (.mov 38 (.t 7)),
 un (.asg 39 (.t 38)),
 ⟨some (39, true), .mov 40 (.t 9)⟩,
 un (.pick 41 (.t 39) (.t 40) (.c (.bool false))),
 un (.asg 2 (.t 37)),
 un (.asg 3 (.t 41))])
 (.drop [33, 34, 35, 36, 37, 38, 39, 40, 41] .ret)))))))))))
abbrev Ajq : List RS := [.t 2, .t 3]
theorem Aki : Aw Try.prog Dv 42 Aky Ajq = true := by kernel_rfl
def Adg : ACode :=
 (.seq (.seq (.reg [un (.mov 11 (.t 5)),
 un (.mov 12 (.t 0)),
 un (.len 13 (.t 12)),
 un (.bin 14 .lss (.t 11) (.t 13))])
 (.drop [11, 12, 13] (.cond (.t 14) .skip
 (.exit 0))))
 (.drop [11, 12, 13, 14] (.seq (.block 1 (.seq (.dreg [(un (.mov 17 (.t 0)), []),
 (un (.mov 18 (.t 5)), [17]),
 (un (.iad 19 2 (.t 17) (.t 18)), []),
 (un (.ld 20 2 true (.t 19)), []),
 (un (.mov 21 (.t 1)), [17, 18, 19, 20]),
 (un (.mov 22 (.t 5)), [17, 18, 19, 20, 21]),
 (un (.iad 23 2 (.t 21) (.t 22)), [17, 18, 19, 20]),
 (un (.ld 24 2 true (.t 23)), [17, 18, 19, 20])]
 [un (.call 25 Af9 [((.t 20), false), ((.t 24), false)]),
 un (.un 26 .not (.t 25))])
 (.drop [17, 18, 19, 20, 21, 22, 23, 24, 25] (.cond (.t 26) (.seq (.reg [un (.asg 4 (.c (.bool false)))])
 .ret)
 .skip))))
 (.drop [17, 18, 19, 20, 21, 22, 23, 24, 25, 26] (.reg [un (.mov 15 (.t 5)),
 un (.bin 16 .add (.t 15) (.c (.int .i64 1))),
 un (.asg 5 (.t 16))])))))
def Awk : ACode :=
 (.seq (.reg [un (.asg 4 (.c (.bool false)))])
 (.seq (.seq (.reg [un (.mov 6 (.t 0)),
 un (.len 7 (.t 6)),
 un (.mov 8 (.t 1)),
 un (.len 9 (.t 8)),
 un (.bin 10 .neq (.t 7) (.t 9))])
 (.drop [6, 7, 8, 9] (.cond (.t 10) (.seq (.reg [un (.asg 4 (.c (.bool false)))])
 .ret)
 .skip)))
 (.drop [6, 7, 8, 9, 10] (.seq (.seq (.reg [un (.asg 5 (.c (.int .i64 0)))])
 (.block 0 (.loop Adg)))
 (.drop [5, 11, 12, 13, 14, 17, 18, 19, 20, 21, 22, 23, 24, 25, 26, 15, 16] (.seq (.reg [un (.asg 4 (.c (.bool true)))])
 .ret))))))
abbrev Awy : List RS := [.t 4]
theorem Avi : Aw Try.prog Adm 27 Awk Awy = true := by kernel_rfl
def Aeh : ACode :=
 (.seq (.reg [un (.fadr 5 0 (.t 1)),
 un (.ld 6 1 false (.t 5)),
 un (.bin 7 .lss (.t 6) (.c (.int .i64 1))),
 un (.asg 8 (.t 7)),
 ⟨some (8, false), .fadr 9 0 (.t 1)⟩,
 ⟨some (8, false), .ld 10 1 false (.t 9)⟩,
 ⟨some (8, false), .bin 11 .gtr (.t 10) (.c (.int .i64 8))⟩,
 un (.pick 12 (.t 8) (.c (.bool true)) (.t 11)),
 un (.asg 13 (.t 12)),
 ⟨some (13, false), .fadr 14 1 (.t 1)⟩,
 ⟨some (13, false), .ld 15 1 false (.t 14)⟩,
 ⟨some (13, false), .len 16 (.t 15)⟩,
 ⟨some (13, false), .bin 17 .gtr (.t 16) (.c (.int .i64 4))⟩,
 un (.pick 18 (.t 13) (.c (.bool true)) (.t 17))])
 (.drop [5, 6, 7, 8, 9, 10, 11, 12, 13, 14, 15, 16, 17] (.cond (.t 18) (.seq (.reg [un (.asg 2 (.c (.bool false)))])
 .ret)
 .skip)))
def Ss : ACode :=
 (.seq (.reg [un (.bin 23 .lss (.t 22) (.t 21))])
 (.seq (.cond (.t 23) .skip
 (.exit 0))
 (.seq (.block 1 (.seq (.reg [un (.iad 24 2 (.t 20) (.t 22)),
 un (.ld 25 2 true (.t 24)),
 un (.alc 4 (.agg [.int .i64 0, .nilsl 1])),
 un (.st 2 (.t 4) (.t 25))])
 (.drop [24, 25] (.seq (.reg [un (.ld 26 2 true (.t 4)),
 un (.fadr 27 0 (.t 1)),
 un (.ld 28 1 false (.t 27)),
 un (.call 29 Ac2 [((.t 26), false), ((.t 28), false)]),
 un (.un 30 .not (.t 29))])
 (.drop [26, 27, 28, 29] (.cond (.t 30) (.seq (.reg [un (.asg 2 (.c (.bool false)))])
 .ret)
 .skip))))))
 (.drop [24, 25, 4, 26, 27, 28, 29, 30] (.reg [un (.bin 31 .add (.t 22) (.c (.int .i64 1))),
 un (.asg 22 (.t 31))])))))
def Aj2 : ACode :=
 (.seq (.reg [un (.box 1 (.t 0)),
 un (.asg 2 (.c (.bool false)))])
 (.seq (.cut Aeh)
 (.drop [5, 6, 7, 8, 9, 10, 11, 12, 13, 14, 15, 16, 17, 18] (.seq (.seq (.reg [un (.fadr 19 1 (.t 1)),
 un (.ld 20 1 false (.t 19)),
 un (.len 21 (.t 20)),
 un (.mov 22 (.c (.int .i64 0)))])
 (.drop [19] (.block 0 (.loop Ss))))
 (.drop [19, 20, 21, 22, 23, 24, 25, 4, 26, 27, 28, 29, 30, 31] (.seq (.reg [un (.asg 2 (.c (.bool true)))])
 .ret))))))
abbrev Ajg : List RS := [.t 2]
theorem Ajr : Aw Try.prog P5 32 Aj2 Ajg = true := by kernel_rfl
def Vb : ACode :=
 (.seq (.seq (.reg [un (.mov 17 (.t 6)),
 un (.fadr 18 0 (.t 1)),
 un (.ld 19 1 false (.t 18)),
 un (.len 20 (.t 19)),
 un (.bin 21 .lss (.t 17) (.t 20))])
 (.drop [17, 18, 19, 20] (.cond (.t 21) .skip
 (.exit 2))))
 (.drop [17, 18, 19, 20, 21] (.seq (.block 3 (.seq (.reg [un (.ld 24 1 true (.t 1)),
 un (.mov 25 (.t 4)),
 un (.mov 26 (.t 6)),
 un (.call 27 Jk [((.t 24), false), ((.t 25), false), ((.t 26), false)])])
 (.drop [24, 25, 26] (.cond (.t 27) (.reg [un (.mov 28 (.t 5)),
 un (.mov 29 (.t 6)),
 un (.bsl 30 1 [(.t 29)]),
 un (.app 31 1 (.t 28) (.t 30)),
 un (.asg 5 (.t 31))])
 .skip))))
 (.drop [24, 25, 26, 27, 28, 29, 30, 31] (.reg [un (.mov 22 (.t 6)),
 un (.bin 23 .add (.t 22) (.c (.int .i64 1))),
 un (.asg 6 (.t 23))])))))
def Vp : ACode :=
 (.seq (.seq (.reg [un (.mov 9 (.t 4)),
 un (.fadr 10 0 (.t 1)),
 un (.ld 11 1 false (.t 10)),
 un (.len 12 (.t 11)),
 un (.bin 13 .lss (.t 9) (.t 12))])
 (.drop [9, 10, 11, 12] (.cond (.t 13) .skip
 (.exit 0))))
 (.drop [9, 10, 11, 12, 13] (.seq (.block 1 (.seq (.reg [un (.bsl 16 1 []),
 un (.asg 5 (.t 16))])
 (.drop [16] (.seq (.seq (.reg [un (.asg 6 (.c (.int .i64 0)))])
 (.block 2 (.loop Vb)))
 (.drop [6, 17, 18, 19, 20, 21, 24, 25, 26, 27, 28, 29, 30, 31, 22, 23] (.reg [un (.fadr 32 0 (.t 3)),
 un (.ld 33 1 false (.t 32)),
 un (.mov 34 (.t 5)),
 un (.bsl 35 1 [(.t 34)]),
 un (.app 36 1 (.t 33) (.t 35)),
 un (.fadr 37 0 (.t 3)),
 un (.st 1 (.t 37) (.t 36))]))))))
 (.drop [16, 5, 6, 17, 18, 19, 20, 21, 24, 25, 26, 27, 28, 29, 30, 31, 22, 23, 32, 33, 34, 35, 36, 37] (.reg [un (.mov 14 (.t 4)),
 un (.bin 15 .add (.t 14) (.c (.int .i64 1))),
 un (.asg 4 (.t 15))])))))
def Anh : ACode :=
 (.seq (.reg [un (.box 1 (.t 0)),
 un (.alc 2 (.agg [.nilsl 1]))])
 (.seq (.reg [un (.bsl 7 1 []),
 un (.bld 8 [.nilsl 1] [(0, 1, (.t 7))]),
 un (.alc 3 (.agg [.nilsl 1])),
 un (.st 1 (.t 3) (.t 8))])
 (.drop [7, 8] (.seq (.seq (.reg [un (.asg 4 (.c (.int .i64 0)))])
 (.block 0 (.loop Vp)))
 (.drop [4, 9, 10, 11, 12, 13, 16, 5, 6, 17, 18, 19, 20, 21, 24, 25, 26, 27, 28, 29, 30, 31, 22, 23, 32, 33, 34, 35, 36, 37, 14, 15] (.seq (.reg [un (.ld 38 1 true (.t 3)),
 un (.st 1 (.t 2) (.t 38))])
 (.drop [38] .ret)))))))
abbrev Apa : List RS := [.c 2 1 true]
theorem Anr : Aw Try.prog K2 39 Anh Apa = true := by kernel_rfl
def Sv : ACode :=
 (.seq (.reg [un (.asg 4 (.c (.bool false)))])
 (.seq (.reg [un (.mov 5 (.t 1)),
 un (.len 6 (.t 5)),
 un (.bin 7 .gtr (.t 6) (.c (.int .i64 0))),
 un (.asg 8 (.t 7)),
 ⟨some (8, true), .mov 9 (.t 0)⟩,
 ⟨some (8, true), .nck 10 (.t 9)⟩,
 ⟨some (8, true), .fadr 11 0 (.t 10)⟩,
 ⟨some (8, true), .ld 12 1 false (.t 11)⟩,
 ⟨some (8, true), .mov 13 (.t 1)⟩,
 ⟨some (8, true), .call 14 Ii [((.t 12), false), ((.t 13), false)]⟩,
 un (.pick 15 (.t 8) (.t 14) (.c (.bool false))),
 un (.asg 16 (.t 15)),
 ⟨some (16, true), .mov 17 (.t 1)⟩,
 ⟨some (16, true), .call 18 On [((.t 17), false)]⟩,
 un (.pick 19 (.t 16) (.t 18) (.c (.bool false))),
 un (.asg 20 (.t 19)),
 ⟨some (20, true), .mov 21 (.t 0)⟩,
 ⟨some (20, true), .mov 22 (.t 1)⟩,
 ⟨some (20, true), .call 23 Fg [((.t 21), false), ((.t 22), false)]⟩,
 ⟨some (20, true), .len 24 (.t 23)⟩,
 ⟨some (20, true), .mov 25 (.t 1)⟩,
 ⟨some (20, true), .len 26 (.t 25)⟩,
 ⟨some (20, true), .bin 27 .eql (.t 24) (.t 26)⟩,
 un (.pick 28 (.t 20) (.t 27) (.c (.bool false))),
 un (.asg 4 (.t 28))])
 (.drop [5, 6, 7, 8, 9, 10, 11, 12, 13, 14, 15, 16, 17, 18, 19, 20, 21, 22, 23, 24, 25, 26, 27, 28] .ret)))
abbrev S7 : List RS := [.t 4]
theorem S5 : Aw Try.prog D2 29 Sv S7 = true := by kernel_rfl
def Akr : ACode :=
 (.seq (.reg [un (.mov 7 (.t 0)),
 un (.len 8 (.t 7)),
 un (.mov 9 (.t 1)),
 un (.bin 10 .neq (.t 8) (.t 9)),
 un (.asg 11 (.t 10)),
 ⟨some (11, false), .mov 12 (.t 1)⟩,
 ⟨some (11, false), .mov 13 (.t 0)⟩,
 ⟨some (11, false), .call 14 J1 [((.t 12), false), ((.t 13), false)]⟩,
 ⟨some (11, false), .un 15 .not (.t 14)⟩,
 un (.pick 16 (.t 11) (.c (.bool true)) (.t 15))])
 (.drop [7, 8, 9, 10, 11, 12, 13, 14, 15] (.cond (.t 16) (.seq (.reg [un (.asg 4 (.c (.bool false)))])
 .ret)
 .skip)))
def Yp : ACode :=
 (.seq (.seq (.reg [un (.mov 19 (.t 6)),
 un (.mov 20 (.t 1)),
 un (.bin 21 .lss (.t 19) (.t 20))])
 (.drop [19, 20] (.cond (.t 21) .skip
 (.exit 0))))
 (.drop [19, 20, 21] (.seq (.block 1 (.seq (.seq (.reg [un (.mov 24 (.t 5)),
 un (.mov 25 (.t 0)),
 un (.mov 26 (.t 6)),
 un (.iad 27 1 (.t 25) (.t 26)),
 un (.ld 28 1 false (.t 27)),
 un (.iad 29 1 (.t 24) (.t 28)),
 un (.ld 30 1 false (.t 29))])
 (.drop [24, 25, 26, 27, 28, 29] (.cond (.t 30) (.seq (.reg [un (.asg 4 (.c (.bool false)))])
 .ret)
 .skip)))
 (.drop [24, 25, 26, 27, 28, 29, 30] (.reg [un (.mov 31 (.t 5)),
 un (.mov 32 (.t 0)),
 un (.mov 33 (.t 6)),
 un (.iad 34 1 (.t 32) (.t 33)),
 un (.ld 35 1 false (.t 34)),
 un (.iad 36 1 (.t 31) (.t 35)),
 un (.st 1 (.t 36) (.c (.bool true)))]))))
 (.drop [24, 25, 26, 27, 28, 29, 30, 31, 32, 33, 34, 35, 36] (.reg [un (.mov 22 (.t 6)),
 un (.bin 23 .add (.t 22) (.c (.int .i64 1))),
 un (.asg 6 (.t 23))])))))
def Aqp : ACode :=
 (.seq (.reg [un (.asg 4 (.c (.bool false)))])
 (.seq (.cut Akr)
 (.drop [7, 8, 9, 10, 11, 12, 13, 14, 15, 16] (.seq (.reg [un (.mov 17 (.t 1)),
 un (.mk 18 1 (.bool false) (.t 17)),
 un (.asg 5 (.t 18))])
 (.drop [17, 18] (.seq (.seq (.reg [un (.asg 6 (.c (.int .i64 0)))])
 (.block 0 (.loop Yp)))
 (.drop [6, 19, 20, 21, 24, 25, 26, 27, 28, 29, 30, 31, 32, 33, 34, 35, 36, 22, 23] (.seq (.reg [un (.asg 4 (.c (.bool true)))])
 .ret))))))))
abbrev Aqf : List RS := [.t 4]
theorem Arq : Aw Try.prog Qi 37 Aqp Aqf = true := by kernel_rfl
def V6 : ACode :=
 (.seq (.seq (.reg [un (.mov 13 (.t 4)),
 un (.mov 14 (.t 3)),
 un (.bin 15 .lss (.t 13) (.t 14))])
 (.drop [13, 14] (.cond (.t 15) .skip
 (.exit 0))))
 (.drop [13, 14, 15] (.seq (.block 1 (.seq (.reg [un (.fadr 18 0 (.t 1)),
 un (.ld 19 1 false (.t 18)),
 un (.mov 20 (.t 4)),
 un (.iad 21 1 (.t 19) (.t 20)),
 un (.ld 22 1 false (.t 21)),
 un (.mov 23 (.t 3)),
 un (.bin 24 .sub (.t 23) (.c (.int .i64 1))),
 un (.call 25 Jf [((.t 22), false), ((.c (.int .i64 0)), false), ((.t 24), false)]),
 un (.un 26 .not (.t 25)),
 un (.asg 27 (.t 26)),
 ⟨some (27, false), .fadr 28 0 (.t 1)⟩,
 ⟨some (27, false), .ld 29 1 false (.t 28)⟩,
 ⟨some (27, false), .mov 30 (.t 4)⟩,
 ⟨some (27, false), .iad 31 1 (.t 29) (.t 30)⟩,
 ⟨some (27, false), .ld 32 1 false (.t 31)⟩,
 ⟨some (27, false), .mov 33 (.t 4)⟩,
 ⟨some (27, false), .call 34 Lh [((.t 32), false), ((.t 33), false)]⟩,
 ⟨some (27, false), .un 35 .not (.t 34)⟩,
 un (.pick 36 (.t 27) (.c (.bool true)) (.t 35))])
 (.drop [18, 19, 20, 21, 22, 23, 24, 25, 26, 27, 28, 29, 30, 31, 32, 33, 34, 35] (.cond (.t 36) (.seq (.reg [un (.asg 2 (.c (.bool false)))])
 .ret)
 .skip))))
 (.drop [18, 19, 20, 21, 22, 23, 24, 25, 26, 27, 28, 29, 30, 31, 32, 33, 34, 35, 36] (.reg [un (.mov 16 (.t 4)),
 un (.bin 17 .add (.t 16) (.c (.int .i64 1))),
 un (.asg 4 (.t 17))])))))
def Vq : ACode :=
 (.seq (.seq (.reg [un (.mov 42 (.t 6)),
 un (.fadr 43 0 (.t 1)),
 un (.ld 44 1 false (.t 43)),
 un (.mov 45 (.t 5)),
 un (.iad 46 1 (.t 44) (.t 45)),
 un (.ld 47 1 false (.t 46)),
 un (.len 48 (.t 47)),
 un (.bin 49 .lss (.t 42) (.t 48))])
 (.drop [42, 43, 44, 45, 46, 47, 48] (.cond (.t 49) .skip
 (.exit 4))))
 (.drop [42, 43, 44, 45, 46, 47, 48, 49] (.seq (.block 5 (.seq (.reg [un (.fadr 52 0 (.t 1)),
 un (.ld 53 1 false (.t 52)),
 un (.mov 54 (.t 5)),
 un (.iad 55 1 (.t 53) (.t 54)),
 un (.ld 56 1 false (.t 55)),
 un (.mov 57 (.t 6)),
 un (.iad 58 1 (.t 56) (.t 57)),
 un (.ld 59 1 false (.t 58)),
 un (.asg 7 (.t 59))])
 (.drop [52, 53, 54, 55, 56, 57, 58, 59] (.seq (.dreg [(un (.mov 60 (.t 7)), []),
 (un (.mov 61 (.t 5)), [60]),
 (un (.bin 62 .neq (.t 60) (.t 61)), []),
 (un (.asg 63 (.t 62)), []),
 (⟨some (63, true), .fadr 64 0 (.t 1)⟩, [62]),
 (⟨some (63, true), .ld 65 1 false (.t 64)⟩, [62]),
 (⟨some (63, true), .mov 66 (.t 7)⟩, [64, 65, 62]),
 (⟨some (63, true), .iad 67 1 (.t 65) (.t 66)⟩, [62]),
 (⟨some (63, true), .ld 68 1 false (.t 67)⟩, [62]),
 (⟨some (63, true), .mov 69 (.t 5)⟩, [64, 65, 66, 67, 68, 62]),
 (⟨some (63, true), .call 70 Lh [((.t 68), false), ((.t 69), false)]⟩, [62]),
 (un (.pick 71 (.t 63) (.t 70) (.c (.bool false))), [62]),
 (un (.asg 72 (.t 71)), [62]),
 (⟨some (72, false), .fadr 73 0 (.t 1)⟩, [62, 71]),
 (⟨some (72, false), .ld 74 1 false (.t 73)⟩, [62, 71]),
 (⟨some (72, false), .mov 75 (.t 7)⟩, [73, 74, 62, 71]),
 (⟨some (72, false), .iad 76 1 (.t 74) (.t 75)⟩, [62, 71]),
 (⟨some (72, false), .ld 77 1 false (.t 76)⟩, [62, 71]),
 (⟨some (72, false), .fadr 78 0 (.t 1)⟩, [73, 74, 75, 76, 77, 62, 71]),
 (⟨some (72, false), .ld 79 1 false (.t 78)⟩, [73, 74, 75, 76, 77, 62, 71]),
 (⟨some (72, false), .mov 80 (.t 5)⟩, [73, 74, 75, 76, 77, 78, 79, 62, 71]),
 (⟨some (72, false), .iad 81 1 (.t 79) (.t 80)⟩, [73, 74, 75, 76, 77, 62, 71]),
 (⟨some (72, false), .ld 82 1 false (.t 81)⟩, [73, 74, 75, 76, 77, 62, 71])]
 [⟨some (72, false), .call 83 Mm [((.t 77), false), ((.t 82), false)]⟩,
 ⟨some (72, false), .un 84 .not (.t 83)⟩,
 un (.pick 85 (.t 72) (.c (.bool true)) (.t 84))])
 (.drop [60, 61, 62, 63, 64, 65, 66, 67, 68, 69, 70, 71, 72, 73, 74, 75, 76, 77, 78, 79, 80, 81, 82, 83, 84] (.cond (.t 85) (.seq (.reg [un (.asg 2 (.c (.bool false)))])
 .ret)
 .skip))))))
 (.drop [52, 53, 54, 55, 56, 57, 58, 59, 7, 60, 61, 62, 63, 64, 65, 66, 67, 68, 69, 70, 71, 72, 73, 74, 75, 76, 77, 78, 79, 80, 81, 82, 83, 84, 85] (.reg [un (.mov 50 (.t 6)),
 un (.bin 51 .add (.t 50) (.c (.int .i64 1))),
 un (.asg 6 (.t 51))])))))
def Wf : ACode :=
 (.seq (.seq (.reg [un (.mov 37 (.t 5)),
 un (.mov 38 (.t 3)),
 un (.bin 39 .lss (.t 37) (.t 38))])
 (.drop [37, 38] (.cond (.t 39) .skip
 (.exit 2))))
 (.drop [37, 38, 39] (.seq (.block 3 (.seq (.reg [un (.asg 6 (.c (.int .i64 0)))])
 (.block 4 (.loop Vq))))
 (.drop [6, 42, 43, 44, 45, 46, 47, 48, 49, 52, 53, 54, 55, 56, 57, 58, 59, 7, 60, 61, 62, 63, 64, 65, 66, 67, 68, 69, 70, 71, 72, 73, 74, 75, 76, 77, 78, 79, 80, 81, 82, 83, 84, 85, 50, 51] (.reg [un (.mov 40 (.t 5)),
 un (.bin 41 .add (.t 40) (.c (.int .i64 1))),
 un (.asg 5 (.t 41))])))))
def Apk : ACode :=
 (.seq (.reg [un (.box 1 (.t 0)),
 un (.asg 2 (.c (.bool false)))])
 (.seq (.reg [un (.fadr 8 0 (.t 1)),
 un (.ld 9 1 false (.t 8)),
 un (.len 10 (.t 9)),
 un (.asg 3 (.t 10))])
 (.drop [8, 9, 10] (.seq (.seq (.reg [un (.mov 11 (.t 3)),
 un (.bin 12 .gtr (.t 11) (.c (.int .i64 10)))])
 (.drop [11] (.cond (.t 12) (.seq (.reg [un (.asg 2 (.c (.bool false)))])
 .ret)
 .skip)))
 (.drop [11, 12] (.seq (.seq (.reg [un (.asg 4 (.c (.int .i64 0)))])
 (.block 0 (.loop V6)))
 (.drop [4, 13, 14, 15, 18, 19, 20, 21, 22, 23, 24, 25, 26, 27, 28, 29, 30, 31, 32, 33, 34, 35, 36, 16, 17] (.seq (.seq (.reg [un (.asg 5 (.c (.int .i64 0)))])
 (.block 2 (.loop Wf)))
 (.drop [5, 37, 38, 39, 6, 42, 43, 44, 45, 46, 47, 48, 49, 52, 53, 54, 55, 56, 57, 58, 59, 7, 60, 61, 62, 63, 64, 65, 66, 67, 68, 69, 70, 71, 72, 73, 74, 75, 76, 77, 78, 79, 80, 81, 82, 83, 84, 85, 50, 51, 40, 41] (.seq (.reg [un (.asg 2 (.c (.bool true)))])
 .ret))))))))))
abbrev Apq : List RS := [.t 2]
theorem An2 : Aw Try.prog T7 86 Apk Apq = true := by kernel_rfl
def Uo : ACode :=
 (.seq (.seq (.reg [un (.mov 18 (.t 8)),
 un (.mov 19 (.t 1)),
 un (.len 20 (.t 19)),
 un (.bin 21 .lss (.t 18) (.t 20))])
 (.drop [18, 19, 20] (.cond (.t 21) .skip
 (.exit 2))))
 (.drop [18, 19, 20, 21] (.seq (.block 3 (.dreg [(un (.mov 24 (.t 7)), []),
 (un (.asg 25 (.t 24)), []),
 (⟨some (25, true), .ld 26 1 true (.t 2)⟩, [24]),
 (⟨some (25, true), .mov 27 (.t 6)⟩, [26, 24]),
 (⟨some (25, true), .mov 28 (.t 1)⟩, [26, 27, 24]),
 (⟨some (25, true), .mov 29 (.t 8)⟩, [26, 27, 28, 24]),
 (⟨some (25, true), .iad 30 1 (.t 28) (.t 29)⟩, [26, 27, 24]),
 (⟨some (25, true), .ld 31 1 false (.t 30)⟩, [26, 27, 24])]
 [⟨some (25, true), .call 32 Jk [((.t 26), false), ((.t 27), false), ((.t 31), false)]⟩,
 un (.pick 33 (.t 25) (.t 32) (.c (.bool false))),
 un (.asg 7 (.t 33))]))
 (.drop [24, 25, 26, 27, 28, 29, 30, 31, 32, 33] (.reg [un (.mov 22 (.t 8)),
 un (.bin 23 .add (.t 22) (.c (.int .i64 1))),
 un (.asg 8 (.t 23))])))))
def Tj : ACode :=
 (.seq (.seq (.reg [un (.mov 11 (.t 6)),
 un (.fadr 12 0 (.t 2)),
 un (.ld 13 1 false (.t 12)),
 un (.len 14 (.t 13)),
 un (.bin 15 .lss (.t 11) (.t 14))])
 (.drop [11, 12, 13, 14] (.cond (.t 15) .skip
 (.exit 0))))
 (.drop [11, 12, 13, 14, 15] (.seq (.block 1 (.seq (.reg [un (.asg 7 (.c (.bool true)))])
 (.seq (.seq (.reg [un (.asg 8 (.c (.int .i64 0)))])
 (.block 2 (.loop Uo)))
 (.drop [8, 18, 19, 20, 21, 24, 25, 26, 27, 28, 29, 30, 31, 32, 33, 22, 23] (.seq (.reg [un (.mov 34 (.t 7))])
 (.cond (.t 34) (.reg [un (.mov 35 (.t 5)),
 un (.mov 36 (.t 6)),
 un (.bsl 37 1 [(.t 36)]),
 un (.app 38 1 (.t 35) (.t 37)),
 un (.asg 5 (.t 38))])
 .skip))))))
 (.drop [7, 8, 18, 19, 20, 21, 24, 25, 26, 27, 28, 29, 30, 31, 32, 33, 22, 23, 34, 35, 36, 37, 38] (.reg [un (.mov 16 (.t 6)),
 un (.bin 17 .add (.t 16) (.c (.int .i64 1))),
 un (.asg 6 (.t 17))])))))
def Th : ACode :=
 (.seq (.seq (.reg [un (.mov 39 (.t 9)),
 un (.mov 40 (.t 5)),
 un (.len 41 (.t 40)),
 un (.bin 42 .lss (.t 39) (.t 41))])
 (.drop [39, 40, 41] (.cond (.t 42) .skip
 (.exit 4))))
 (.drop [39, 40, 41, 42] (.seq (.block 5 (.seq (.dreg [(un (.mov 45 (.t 5)), []),
 (un (.fadr 46 0 (.t 2)), [45]),
 (un (.ld 47 1 false (.t 46)), [45]),
 (un (.mov 48 (.t 5)), [45, 46, 47]),
 (un (.mov 49 (.t 9)), [45, 46, 47, 48]),
 (un (.iad 50 1 (.t 48) (.t 49)), [45, 46, 47]),
 (un (.ld 51 1 false (.t 50)), [45, 46, 47]),
 (un (.iad 52 1 (.t 47) (.t 51)), [45]),
 (un (.ld 53 1 false (.t 52)), [45])]
 [un (.call 54 Mm [((.t 45), false), ((.t 53), false)])])
 (.drop [45, 46, 47, 48, 49, 50, 51, 52, 53] (.cond (.t 54) (.seq (.reg [un (.mov 55 (.t 5)),
 un (.mov 56 (.t 9)),
 un (.iad 57 1 (.t 55) (.t 56)),
 un (.ld 58 1 false (.t 57)),
 un (.asg 4 (.t 58))])
 (.drop [55, 56, 57, 58] .ret))
 .skip))))
 (.drop [45, 46, 47, 48, 49, 50, 51, 52, 53, 54, 55, 56, 57, 58] (.reg [un (.mov 43 (.t 9)),
 un (.bin 44 .add (.t 43) (.c (.int .i64 1))),
 un (.asg 9 (.t 44))])))))
def Amt : ACode :=
 (.seq (.reg [un (.box 2 (.t 0)),
 un (.asg 4 (.c (.int .i64 0)))])
 (.seq (.reg [un (.bsl 10 1 []),
 un (.asg 5 (.t 10))])
 (.drop [10] (.seq (.seq (.reg [un (.asg 6 (.c (.int .i64 0)))])
 (.block 0 (.loop Tj)))
 (.drop [6, 11, 12, 13, 14, 15, 7, 8, 18, 19, 20, 21, 24, 25, 26, 27, 28, 29, 30, 31, 32, 33, 22, 23, 34, 35, 36, 37, 38, 16, 17] (.seq (.seq (.reg [un (.asg 9 (.c (.int .i64 0)))])
 (.block 4 (.loop Th)))
 (.drop [9, 39, 40, 41, 42, 45, 46, 47, 48, 49, 50, 51, 52, 53, 54, 55, 56, 57, 58, 43, 44] (.seq (.reg [un (.asg 4 (.c (.int .i64 (-1))))])
 .ret))))))))
abbrev Al3 : List RS := [.t 4]
theorem Amn : Aw Try.prog En 59 Amt Al3 = true := by kernel_rfl
def Als : ACode :=
 (.seq (.reg [un (.box 2 (.t 0)),
 un (.asg 4 (.c (.nilsl 1)))])
 (.seq (.dreg [(un (.ld 5 2 true (.t 2)), []),
 (un (.mov 6 (.t 1)), [5]),
 (un (.fadr 7 0 (.t 2)), [5, 6]),
 (un (.ld 8 1 false (.t 7)), [5, 6]),
 (un (.call 9 Sw [((.t 6), false), ((.t 8), false)]), [5])]
 [un (.call 10 Od [((.t 5), false), ((.t 9), true)]),
 un (.call 11 Mk [((.t 10), false)]),
 un (.asg 4 (.t 11))])
 (.drop [5, 6, 7, 8, 9, 10, 11] .ret)))
abbrev Amp : List RS := [.t 4]
theorem Al4 : Aw Try.prog Sa 12 Als Amp = true := by kernel_rfl
def Vz : ACode :=
 (.seq (.seq (.reg [un (.mov 11 (.t 6)),
 un (.fadr 12 0 (.t 2)),
 un (.ld 13 1 false (.t 12)),
 un (.bin 14 .leq (.t 11) (.t 13))])
 (.drop [11, 12, 13] (.cond (.t 14) .skip
 (.exit 0))))
 (.drop [11, 12, 13, 14] (.seq (.block 1 (.reg [un (.ld 17 2 true (.t 2)),
 un (.mov 18 (.t 5)),
 un (.call 19 W5 [((.t 17), false), ((.t 18), false)]),
 un (.asg 5 (.t 19))]))
 (.drop [17, 18, 19] (.reg [un (.mov 15 (.t 6)),
 un (.bin 16 .add (.t 15) (.c (.int .i64 1))),
 un (.asg 6 (.t 16))])))))
def Aog : ACode :=
 (.seq (.reg [un (.box 2 (.t 0)),
 un (.asg 4 (.c (.nilsl 1)))])
 (.seq (.reg [un (.fadr 7 0 (.t 2)),
 un (.ld 8 1 false (.t 7)),
 un (.mov 9 (.t 1)),
 un (.call 10 Acj [((.t 8), false), ((.t 9), false)]),
 un (.asg 5 (.t 10))])
 (.drop [7, 8, 9, 10] (.seq (.seq (.reg [un (.asg 6 (.c (.int .i64 0)))])
 (.block 0 (.loop Vz)))
 (.drop [6, 11, 12, 13, 14, 17, 18, 19, 15, 16] (.seq (.reg [un (.mov 20 (.t 5)),
 un (.call 21 W3 [((.t 20), false)]),
 un (.asg 4 (.t 21))])
 (.drop [20, 21] .ret)))))))
abbrev Aob : List RS := [.t 4]
theorem Ann : Aw Try.prog Ud 22 Aog Aob = true := by kernel_rfl
def Ao7 : ACode :=
 (.seq (.reg [un (.box 3 (.t 0)),
 un (.asg 6 (.c (.bool false)))])
 (.seq (.reg [un (.mov 7 (.t 1)),
 un (.mov 8 (.t 2)),
 un (.bin 9 .neq (.t 7) (.t 8)),
 un (.asg 10 (.t 9)),
 ⟨some (10, true), .ld 11 1 true (.t 3)⟩,
 ⟨some (10, true), .mov 12 (.t 1)⟩,
 ⟨some (10, true), .mov 13 (.t 2)⟩,
 ⟨some (10, true), .call 14 Jk [((.t 11), false), ((.t 12), false), ((.t 13), false)]⟩,
 un (.pick 15 (.t 10) (.t 14) (.c (.bool false))),
 un (.asg 6 (.t 15))])
 (.drop [7, 8, 9, 10, 11, 12, 13, 14, 15] .ret)))
abbrev Ao0 : List RS := [.t 6]
theorem Anp : Aw Try.prog Kx 16 Ao7 Ao0 = true := by kernel_rfl
def Akm : ACode :=
 (.seq (.reg [un (.box 1 (.t 0)),
 un (.asg 2 (.c (.bool false)))])
 (.seq (.reg [un (.ld 6 1 true (.t 1)),
 un (.call 7 Dv [((.t 6), false)]),
 un (.asg 5 (.t 7)),
 un (.ext 8 (.t 5) 0),
 un (.ext 9 (.t 5) 1),
 un (.asg 3 (.t 8)),
 un (.asg 4 (.t 9))])
 (.drop [6, 7, 5, 8, 9, 3] (.seq (.reg [un (.mov 10 (.t 4)),
 un (.asg 2 (.t 10))])
 (.drop [10] .ret)))))
abbrev Ajv : List RS := [.t 2]
theorem Akk : Aw Try.prog Pr 11 Akm Ajv = true := by kernel_rfl
def Abl : ACode :=
 (.seq (.reg [un (.box 1 (.t 0)),
 un (.alc 2 (.agg [.int .i64 0, .nilsl 2])),
 un (.asg 3 (.c (.bool false)))])
 (.seq (.reg [un (.ld 7 1 true (.t 1)),
 un (.call 8 Dv [((.t 7), false)]),
 un (.asg 6 (.t 8)),
 un (.ext 9 (.t 6) 0),
 un (.ext 10 (.t 6) 1),
 un (.asg 4 (.t 9)),
 un (.asg 5 (.t 10))])
 (.drop [7, 8, 6, 9, 10] (.seq (.seq (.reg [un (.mov 11 (.t 5)),
 un (.un 12 .not (.t 11)),
 un (.asg 13 (.t 12)),
 ⟨some (13, false), .mov 14 (.t 4)⟩,
 ⟨some (13, false), .nck 15 (.t 14)⟩,
 ⟨some (13, false), .fadr 16 0 (.t 15)⟩,
 ⟨some (13, false), .ld 17 1 false (.t 16)⟩,
 ⟨some (13, false), .len 18 (.t 17)⟩,
 ⟨some (13, false), .bin 19 .gtr (.t 18) (.c (.int .i64 8))⟩,
 un (.pick 20 (.t 13) (.c (.bool true)) (.t 19))])
 (.drop [11, 12, 13, 14, 15, 16, 17, 18, 19] (.cond (.t 20) (.seq (.reg [un (.bld 21 [.int .i64 0, .nilsl 2] []),
 un (.st 2 (.t 2) (.t 21)),
 un (.asg 3 (.c (.bool false)))])
 (.drop [21] .ret))
 .skip)))
 (.drop [11, 12, 13, 14, 15, 16, 17, 18, 19, 20, 21] (.seq (.reg [un (.mov 22 (.t 4)),
 un (.call 23 I6 [((.t 22), false)]),
 un (.st 2 (.t 2) (.t 23)),
 un (.asg 3 (.c (.bool true)))])
 (.drop [22, 23] .ret)))))))
abbrev Aa1 : List RS := [.c 2 2 true, .t 3]
theorem Abf : Aw Try.prog Jz 24 Abl Aa1 = true := by kernel_rfl
def Amb : ACode :=
 (.seq (.reg [un (.box 2 (.t 0)),
 un (.box 3 (.t 1)),
 un (.asg 4 (.c (.bool false)))])
 (.seq (.reg [un (.fadr 5 0 (.t 2)),
 un (.ld 6 1 false (.t 5)),
 un (.fadr 7 0 (.t 3)),
 un (.ld 8 1 false (.t 7)),
 un (.bin 9 .eql (.t 6) (.t 8)),
 un (.asg 10 (.t 9)),
 ⟨some (10, true), .fadr 11 1 (.t 2)⟩,
 ⟨some (10, true), .ld 12 1 false (.t 11)⟩,
 ⟨some (10, true), .fadr 13 1 (.t 3)⟩,
 ⟨some (10, true), .ld 14 1 false (.t 13)⟩,
 ⟨some (10, true), .call 15 Adm [((.t 12), false), ((.t 14), false)]⟩,
 un (.pick 16 (.t 10) (.t 15) (.c (.bool false))),
 un (.asg 4 (.t 16))])
 (.drop [5, 6, 7, 8, 9, 10, 11, 12, 13, 14, 15, 16] .ret)))
abbrev Al2 : List RS := [.t 4]
theorem Al5 : Aw Try.prog R5 17 Amb Al2 = true := by kernel_rfl
def Akg : ACode :=
 (.seq (.reg [un (.mov 15 (.t 9)),
 un (.un 16 .not (.t 15)),
 un (.asg 17 (.t 16)),
 ⟨some (17, false), .mov 18 (.t 8)⟩,
 ⟨some (17, false), .nck 19 (.t 18)⟩,
 ⟨some (17, false), .fadr 20 0 (.t 19)⟩,
 ⟨some (17, false), .ld 21 1 false (.t 20)⟩,
 ⟨some (17, false), .mov 22 (.t 1)⟩,
 ⟨some (17, false), .mov 23 (.t 2)⟩,
 ⟨some (17, false), .bsl 24 1 [(.t 22), (.t 23)]⟩,
 ⟨some (17, false), .call 25 Ii [((.t 21), false), ((.t 24), false)]⟩,
 ⟨some (17, false), .un 26 .not (.t 25)⟩,
 un (.pick 27 (.t 17) (.c (.bool true)) (.t 26))])
 (.drop [15, 16, 17, 18, 19, 20, 21, 22, 23, 24, 25, 26] (.cond (.t 27) (.seq (.reg [un (.asg 6 (.c (.int .i64 0))),
 un (.asg 7 (.c (.bool false)))])
 .ret)
 .skip)))
def Aq2 : ACode :=
 (.seq (.reg [un (.box 3 (.t 0)),
 un (.asg 6 (.c (.int .i64 0))),
 un (.asg 7 (.c (.bool false)))])
 (.seq (.reg [un (.ld 11 1 true (.t 3)),
 un (.call 12 Dv [((.t 11), false)]),
 un (.asg 10 (.t 12)),
 un (.ext 13 (.t 10) 0),
 un (.ext 14 (.t 10) 1),
 un (.asg 8 (.t 13)),
 un (.asg 9 (.t 14))])
 (.drop [11, 12, 10, 13, 14] (.seq (.cut Akg)
 (.drop [15, 16, 17, 18, 19, 20, 21, 22, 23, 24, 25, 26, 27] (.seq (.reg [un (.mov 28 (.t 8)),
 un (.nck 29 (.t 28)),
 un (.fadr 30 1 (.t 29)),
 un (.ld 31 1 false (.t 30)),
 un (.mov 32 (.t 1)),
 un (.iad 33 1 (.t 31) (.t 32)),
 un (.ld 34 1 false (.t 33)),
 un (.mov 35 (.t 2)),
 un (.iad 36 1 (.t 34) (.t 35)),
 un (.ld 37 1 false (.t 36)),
 un (.asg 6 (.t 37)),
 un (.asg 7 (.c (.bool true)))])
 (.drop [28, 29, 30, 31, 32, 33, 34, 35, 36, 37] .ret)))))))
abbrev Aqm : List RS := [.t 6, .t 7]
theorem Aqk : Aw Try.prog Qr 38 Aq2 Aqm = true := by kernel_rfl
def Aek : ACode :=
 (.seq (.reg [un (.box 2 (.t 0)),
 un (.asg 4 (.c (.bool false))),
 un (.asg 5 (.c (.bool false)))])
 (.seq (.reg [un (.ld 9 1 true (.t 2)),
 un (.call 10 Dv [((.t 9), false)]),
 un (.asg 8 (.t 10)),
 un (.ext 11 (.t 8) 0),
 un (.ext 12 (.t 8) 1),
 un (.asg 6 (.t 11)),
 un (.asg 7 (.t 12))])
 (.drop [9, 10, 8, 11, 12] (.seq (.seq (.reg [un (.mov 13 (.t 7)),
 un (.un 14 .not (.t 13))])
 (.drop [13] (.cond (.t 14) (.seq (.reg [un (.asg 4 (.c (.bool false))),
 un (.asg 5 (.c (.bool false)))])
 .ret)
 .skip)))
 (.drop [13, 14] (.seq (.reg [un (.mov 15 (.t 6)),
 un (.mov 16 (.t 1)),
 un (.call 17 D2 [((.t 15), false), ((.t 16), false)]),
 un (.asg 4 (.t 17)),
 un (.asg 5 (.c (.bool true)))])
 (.drop [15, 16, 17] .ret)))))))
abbrev Aeg : List RS := [.t 4, .t 5]
theorem Aeq : Aw Try.prog Ig 18 Aek Aeg = true := by kernel_rfl
def U0 : ACode :=
 (.seq (.reg [un (.mov 13 (.t 7)),
 un (.un 14 .not (.t 13)),
 un (.asg 15 (.t 14)),
 ⟨some (15, false), .mov 16 (.t 6)⟩,
 ⟨some (15, false), .mov 17 (.t 1)⟩,
 ⟨some (15, false), .call 18 D2 [((.t 16), false), ((.t 17), false)]⟩,
 ⟨some (15, false), .un 19 .not (.t 18)⟩,
 un (.pick 20 (.t 15) (.c (.bool true)) (.t 19))])
 (.drop [13, 14, 15, 16, 17, 18, 19] (.cond (.t 20) (.seq (.reg [un (.bld 21 [.nilsl 1] []),
 un (.st 1 (.t 4) (.t 21)),
 un (.asg 5 (.c (.bool false)))])
 (.drop [21] .ret))
 .skip)))
def Zq : ACode :=
 (.seq (.reg [un (.box 2 (.t 0)),
 un (.alc 4 (.agg [.nilsl 1])),
 un (.asg 5 (.c (.bool false)))])
 (.seq (.reg [un (.ld 9 1 true (.t 2)),
 un (.call 10 Dv [((.t 9), false)]),
 un (.asg 8 (.t 10)),
 un (.ext 11 (.t 8) 0),
 un (.ext 12 (.t 8) 1),
 un (.asg 6 (.t 11)),
 un (.asg 7 (.t 12))])
 (.drop [9, 10, 8, 11, 12] (.seq (.cut U0)
 (.drop [13, 14, 15, 16, 17, 18, 19, 20, 21] (.seq (.reg [un (.mov 22 (.t 6)),
 un (.nck 23 (.t 22)),
 un (.fadr 24 0 (.t 23)),
 un (.ld 25 1 false (.t 24)),
 un (.mov 26 (.t 1)),
 un (.call 27 Js [((.t 25), false), ((.t 26), false)]),
 un (.call 28 M0 [((.t 27), false)]),
 un (.st 1 (.t 4) (.t 28)),
 un (.asg 5 (.c (.bool true)))])
 (.drop [22, 23, 24, 25, 26, 27, 28] .ret)))))))
abbrev Z7 : List RS := [.c 4 1 true, .t 5]
theorem Z4 : Aw Try.prog I4 29 Zq Z7 = true := by kernel_rfl
def Uz : ACode :=
 (.seq (.reg [un (.box 2 (.t 0)),
 un (.asg 4 (.c (.nilsl 1))),
 un (.asg 5 (.c (.bool false)))])
 (.seq (.reg [un (.ld 9 1 true (.t 2)),
 un (.call 10 Dv [((.t 9), false)]),
 un (.asg 8 (.t 10)),
 un (.ext 11 (.t 8) 0),
 un (.ext 12 (.t 8) 1),
 un (.asg 6 (.t 11)),
 un (.asg 7 (.t 12))])
 (.drop [9, 10, 8, 11, 12] (.seq (.seq (.reg [un (.mov 13 (.t 7)),
 un (.un 14 .not (.t 13)),
 un (.asg 15 (.t 14)),
 ⟨some (15, false), .mov 16 (.t 1)⟩,
 ⟨some (15, false), .len 17 (.t 16)⟩,
 ⟨some (15, false), .bin 18 .eql (.t 17) (.c (.int .i64 0))⟩,
 un (.pick 19 (.t 15) (.c (.bool true)) (.t 18)),
 un (.asg 20 (.t 19)),
 ⟨some (20, false), .mov 21 (.t 1)⟩,
 ⟨some (20, false), .len 22 (.t 21)⟩,
 ⟨some (20, false), .bin 23 .gtr (.t 22) (.c (.int .i64 20))⟩,
 un (.pick 24 (.t 20) (.c (.bool true)) (.t 23)),
 un (.asg 25 (.t 24)),
 ⟨some (25, false), .mov 26 (.t 6)⟩,
 ⟨some (25, false), .nck 27 (.t 26)⟩,
 ⟨some (25, false), .fadr 28 0 (.t 27)⟩,
 ⟨some (25, false), .ld 29 1 false (.t 28)⟩,
 ⟨some (25, false), .mov 30 (.t 1)⟩,
 ⟨some (25, false), .call 31 Ii [((.t 29), false), ((.t 30), false)]⟩,
 ⟨some (25, false), .un 32 .not (.t 31)⟩,
 un (.pick 33 (.t 25) (.c (.bool true)) (.t 32))])
 (.drop [13, 14, 15, 16, 17, 18, 19, 20, 21, 22, 23, 24, 25, 26, 27, 28, 29, 30, 31, 32] (.cond (.t 33) (.seq (.reg [un (.bsl 34 1 []),
 un (.asg 4 (.t 34)),
 un (.asg 5 (.c (.bool false)))])
 (.drop [34] .ret))
 .skip)))
 (.drop [13, 14, 15, 16, 17, 18, 19, 20, 21, 22, 23, 24, 25, 26, 27, 28, 29, 30, 31, 32, 33, 34] (.seq (.reg [un (.mov 35 (.t 6)),
 un (.mov 36 (.t 1)),
 un (.call 37 Fg [((.t 35), false), ((.t 36), false)]),
 un (.asg 4 (.t 37)),
 un (.asg 5 (.c (.bool true)))])
 (.drop [35, 36, 37] .ret)))))))
abbrev U1 : List RS := [.t 4, .t 5]
theorem Uu : Aw Try.prog Hf 38 Uz U1 = true := by kernel_rfl
def Ag1 : ACode :=
 (.seq (.reg [un (.ld 6 1 true (.t 1)),
 un (.call 7 T7 [((.t 6), false)]),
 un (.un 8 .not (.t 7)),
 un (.asg 9 (.t 8)),
 ⟨some (9, false), .fadr 10 0 (.t 1)⟩,
 ⟨some (9, false), .ld 11 1 false (.t 10)⟩,
 ⟨some (9, false), .len 12 (.t 11)⟩,
 ⟨some (9, false), .bin 13 .eql (.t 12) (.c (.int .i64 0))⟩,
 un (.pick 14 (.t 9) (.c (.bool true)) (.t 13))])
 (.drop [6, 7, 8, 9, 10, 11, 12, 13] (.cond (.t 14) (.seq (.reg [un (.asg 2 (.c (.bool false)))])
 .ret)
 .skip)))
def U9 : ACode :=
 (.seq (.seq (.reg [un (.mov 24 (.t 5)),
 un (.mov 25 (.t 4)),
 un (.bin 26 .lss (.t 24) (.t 25))])
 (.drop [24, 25] (.cond (.t 26) .skip
 (.exit 2))))
 (.drop [24, 25, 26] (.seq (.block 3 (.seq (.reg [un (.ld 29 1 true (.t 1)),
 un (.mov 30 (.t 4)),
 un (.mov 31 (.t 5)),
 un (.bsl 32 1 [(.t 30), (.t 31)]),
 un (.call 33 En [((.t 29), false), ((.t 32), false)]),
 un (.bin 34 .lss (.t 33) (.c (.int .i64 0))),
 un (.asg 35 (.t 34)),
 ⟨some (35, false), .ld 36 1 true (.t 3)⟩,
 ⟨some (35, false), .mov 37 (.t 4)⟩,
 ⟨some (35, false), .mov 38 (.t 5)⟩,
 ⟨some (35, false), .bsl 39 1 [(.t 37), (.t 38)]⟩,
 ⟨some (35, false), .call 40 En [((.t 36), false), ((.t 39), false)]⟩,
 ⟨some (35, false), .bin 41 .lss (.t 40) (.c (.int .i64 0))⟩,
 un (.pick 42 (.t 35) (.c (.bool true)) (.t 41))])
 (.drop [29, 30, 31, 32, 33, 34, 35, 36, 37, 38, 39, 40, 41] (.cond (.t 42) (.seq (.reg [un (.asg 2 (.c (.bool false)))])
 .ret)
 .skip))))
 (.drop [29, 30, 31, 32, 33, 34, 35, 36, 37, 38, 39, 40, 41, 42] (.reg [un (.mov 27 (.t 5)),
 un (.bin 28 .add (.t 27) (.c (.int .i64 1))),
 un (.asg 5 (.t 28))])))))
def Vd : ACode :=
 (.seq (.seq (.reg [un (.mov 17 (.t 4)),
 un (.fadr 18 0 (.t 1)),
 un (.ld 19 1 false (.t 18)),
 un (.len 20 (.t 19)),
 un (.bin 21 .lss (.t 17) (.t 20))])
 (.drop [17, 18, 19, 20] (.cond (.t 21) .skip
 (.exit 0))))
 (.drop [17, 18, 19, 20, 21] (.seq (.block 1 (.seq (.reg [un (.asg 5 (.c (.int .i64 0)))])
 (.block 2 (.loop U9))))
 (.drop [5, 24, 25, 26, 29, 30, 31, 32, 33, 34, 35, 36, 37, 38, 39, 40, 41, 42, 27, 28] (.reg [un (.mov 22 (.t 4)),
 un (.bin 23 .add (.t 22) (.c (.int .i64 1))),
 un (.asg 4 (.t 23))])))))
def Apd : ACode :=
 (.seq (.reg [un (.box 1 (.t 0)),
 un (.asg 2 (.c (.bool false)))])
 (.seq (.cut Ag1)
 (.drop [6, 7, 8, 9, 10, 11, 12, 13, 14] (.seq (.reg [un (.ld 15 1 true (.t 1)),
 un (.call 16 K2 [((.t 15), false)]),
 un (.alc 3 (.agg [.nilsl 1])),
 un (.st 1 (.t 3) (.t 16))])
 (.drop [15, 16] (.seq (.seq (.reg [un (.asg 4 (.c (.int .i64 0)))])
 (.block 0 (.loop Vd)))
 (.drop [4, 17, 18, 19, 20, 21, 5, 24, 25, 26, 29, 30, 31, 32, 33, 34, 35, 36, 37, 38, 39, 40, 41, 42, 27, 28, 22, 23] (.seq (.reg [un (.asg 2 (.c (.bool true)))])
 .ret))))))))
abbrev Ap6 : List RS := [.t 2]
theorem Anj : Aw Try.prog Ix 43 Apd Ap6 = true := by kernel_rfl
def Ru : ACode :=
 (.seq (.seq (.reg [un (.mov 21 (.t 8)),
 un (.mov 22 (.t 3)),
 un (.bin 23 .lss (.t 21) (.t 22))])
 (.drop [21, 22] (.cond (.t 23) .skip
 (.exit 2))))
 (.drop [21, 22, 23] (.seq (.block 3 (.seq (.dreg [(un (.fadr 26 1 (.t 5)), [29, 30, 32]),
 (un (.ld 27 1 false (.t 26)), [29, 30, 32]),
 (un (.ld 28 1 true (.t 1)), [26, 27, 29, 30]),
 (un (.mov 29 (.t 7)), [26, 27, 28]),
 (un (.mov 30 (.t 8)), [26, 27, 28, 29]),
 (un (.bsl 31 1 [(.t 29), (.t 30)]), [26, 27, 28]),
 (un (.call 32 En [((.t 28), false), ((.t 31), false)]), [26, 27, 29, 30]),
 (un (.bsl 33 1 [(.t 32)]), [26, 27, 29, 30])]
 [un (.app 34 1 (.t 27) (.t 33)),
 un (.fadr 35 1 (.t 5)),
 un (.st 1 (.t 35) (.t 34))])
 (.drop [26, 27, 28, 29, 30, 31, 32, 33, 34, 35] (.dreg [(un (.fadr 36 1 (.t 6)), [39, 40, 42]),
 (un (.ld 37 1 false (.t 36)), [39, 40, 42]),
 (un (.ld 38 1 true (.t 4)), [36, 37, 39, 40]),
 (un (.mov 39 (.t 7)), [36, 37, 38]),
 (un (.mov 40 (.t 8)), [36, 37, 38, 39]),
 (un (.bsl 41 1 [(.t 39), (.t 40)]), [36, 37, 38]),
 (un (.call 42 En [((.t 38), false), ((.t 41), false)]), [36, 37, 39, 40]),
 (un (.bsl 43 1 [(.t 42)]), [36, 37, 39, 40])]
 [un (.app 44 1 (.t 37) (.t 43)),
 un (.fadr 45 1 (.t 6)),
 un (.st 1 (.t 45) (.t 44))]))))
 (.drop [26, 27, 28, 29, 30, 31, 32, 33, 34, 35, 36, 37, 38, 39, 40, 41, 42, 43, 44, 45] (.reg [un (.mov 24 (.t 8)),
 un (.bin 25 .add (.t 24) (.c (.int .i64 1))),
 un (.asg 8 (.t 25))])))))
def Re : ACode :=
 (.seq (.seq (.reg [un (.mov 16 (.t 7)),
 un (.mov 17 (.t 3)),
 un (.bin 18 .lss (.t 16) (.t 17))])
 (.drop [16, 17] (.cond (.t 18) .skip
 (.exit 0))))
 (.drop [16, 17, 18] (.seq (.block 1 (.seq (.reg [un (.asg 8 (.c (.int .i64 0)))])
 (.block 2 (.loop Ru))))
 (.drop [8, 21, 22, 23, 26, 27, 28, 29, 30, 31, 32, 33, 34, 35, 36, 37, 38, 39, 40, 41, 42, 43, 44, 45, 24, 25] (.reg [un (.mov 19 (.t 7)),
 un (.bin 20 .add (.t 19) (.c (.int .i64 1))),
 un (.asg 7 (.t 20))])))))
def Aia : ACode :=
 (.seq (.reg [un (.box 1 (.t 0)),
 un (.alc 2 (.agg [.int .i64 0, .nilsl 2]))])
 (.seq (.reg [un (.fadr 9 0 (.t 1)),
 un (.ld 10 1 false (.t 9)),
 un (.len 11 (.t 10)),
 un (.asg 3 (.t 11))])
 (.drop [9, 10, 11] (.seq (.reg [un (.ld 12 1 true (.t 1)),
 un (.call 13 K2 [((.t 12), false)]),
 un (.alc 4 (.agg [.nilsl 1])),
 un (.st 1 (.t 4) (.t 13))])
 (.drop [12, 13] (.seq (.reg [un (.bld 14 [.int .i64 0, .nilsl 1] [(0, 1, (.c (.int .i64 2)))]),
 un (.bld 15 [.int .i64 0, .nilsl 1] [(0, 1, (.c (.int .i64 2)))]),
 un (.alc 5 (.agg [.int .i64 0, .nilsl 1])),
 un (.alc 6 (.agg [.int .i64 0, .nilsl 1])),
 un (.st 2 (.t 5) (.t 14)),
 un (.st 2 (.t 6) (.t 15))])
 (.drop [14, 15] (.seq (.seq (.reg [un (.asg 7 (.c (.int .i64 0)))])
 (.block 0 (.loop Re)))
 (.drop [7, 16, 17, 18, 8, 21, 22, 23, 26, 27, 28, 29, 30, 31, 32, 33, 34, 35, 36, 37, 38, 39, 40, 41, 42, 43, 44, 45, 24, 25, 19, 20] (.seq (.reg [un (.mov 46 (.t 3)),
 un (.ld 47 2 true (.t 5)),
 un (.ld 48 2 true (.t 6)),
 un (.bsl 49 2 [(.t 47), (.t 48)]),
 un (.bld 50 [.int .i64 0, .nilsl 2] [(0, 1, (.t 46)), (1, 1, (.t 49))]),
 un (.st 2 (.t 2) (.t 50))])
 (.drop [46, 47, 48, 49, 50] .ret)))))))))))
abbrev Ahj : List RS := [.c 2 2 true]
theorem Aiv : Aw Try.prog N8 51 Aia Ahj = true := by kernel_rfl
def Atf : ACode :=
 (.seq (.reg [un (.box 2 (.t 0)),
 un (.asg 4 (.c (.bool false)))])
 (.seq (.reg [un (.mov 5 (.t 1)),
 un (.fadr 6 0 (.t 2)),
 un (.ld 7 1 false (.t 6)),
 un (.call 8 Jn [((.t 5), false), ((.t 7), false)]),
 un (.asg 9 (.t 8)),
 ⟨some (9, true), .mov 10 (.t 1)⟩,
 ⟨some (9, true), .call 11 On [((.t 10), false)]⟩,
 un (.pick 12 (.t 9) (.t 11) (.c (.bool false))),
 un (.asg 13 (.t 12)),
 ⟨some (13, true), .ld 14 2 true (.t 2)⟩,
 ⟨some (13, true), .mov 15 (.t 1)⟩,
 ⟨some (13, true), .call 16 Sa [((.t 14), false), ((.t 15), false)]⟩,
 ⟨some (13, true), .len 17 (.t 16)⟩,
 ⟨some (13, true), .mov 18 (.t 1)⟩,
 ⟨some (13, true), .len 19 (.t 18)⟩,
 ⟨some (13, true), .bin 20 .eql (.t 17) (.t 19)⟩,
 un (.pick 21 (.t 13) (.t 20) (.c (.bool false))),
 un (.asg 4 (.t 21))])
 (.drop [5, 6, 7, 8, 9, 10, 11, 12, 13, 14, 15, 16, 17, 18, 19, 20, 21] .ret)))
abbrev Atp : List RS := [.t 4]
theorem As3 : Aw Try.prog Zm 22 Atf Atp = true := by kernel_rfl
def Axc : ACode :=
 (.seq (.reg [un (.box 2 (.t 0)),
 un (.asg 4 (.c (.bool false)))])
 (.seq (.reg [un (.mov 5 (.t 1)),
 un (.fadr 6 0 (.t 2)),
 un (.ld 7 1 false (.t 6)),
 un (.bin 8 .sub (.t 7) (.c (.int .i64 1))),
 un (.call 9 Jf [((.t 5), false), ((.c (.int .i64 0)), false), ((.t 8), false)]),
 un (.asg 10 (.t 9)),
 ⟨some (10, true), .ld 11 2 true (.t 2)⟩,
 ⟨some (10, true), .mov 12 (.t 1)⟩,
 ⟨some (10, true), .call 13 Ud [((.t 11), false), ((.t 12), false)]⟩,
 ⟨some (10, true), .mov 14 (.t 1)⟩,
 ⟨some (10, true), .call 15 Qk [((.t 13), false), ((.t 14), false)]⟩,
 un (.pick 16 (.t 10) (.t 15) (.c (.bool false))),
 un (.asg 4 (.t 16))])
 (.drop [5, 6, 7, 8, 9, 10, 11, 12, 13, 14, 15, 16] .ret)))
abbrev Axi : List RS := [.t 4]
theorem Awt : Aw Try.prog Acb 17 Axc Axi = true := by kernel_rfl
def Tt : ACode :=
 (.seq (.seq (.reg [un (.mov 13 (.t 6)),
 un (.mov 14 (.t 1)),
 un (.len 15 (.t 14)),
 un (.bin 16 .lss (.t 13) (.t 15))])
 (.drop [13, 14, 15] (.cond (.t 16) .skip
 (.exit 0))))
 (.drop [13, 14, 15, 16] (.seq (.block 1 (.reg [un (.mov 19 (.t 5)),
 un (.mov 20 (.t 1)),
 un (.mov 21 (.t 6)),
 un (.iad 22 1 (.t 20) (.t 21)),
 un (.ld 23 1 false (.t 22)),
 un (.call 24 Lb [((.t 19), false), ((.t 23), false)]),
 un (.asgf 5 (.t 24))]))
 (.drop [19, 20, 21, 22, 23, 24] (.reg [un (.mov 17 (.t 6)),
 un (.bin 18 .add (.t 17) (.c (.int .i64 1))),
 un (.asg 6 (.t 18))])))))
def Tl : ACode :=
 (.seq (.seq (.reg [un (.mov 42 (.t 11)),
 un (.mov 43 (.t 10)),
 un (.bin 44 .lss (.t 42) (.t 43))])
 (.drop [42, 43] (.cond (.t 44) .skip
 (.exit 6))))
 (.drop [42, 43, 44] (.seq (.block 7 (.dreg [(un (.mov 47 (.t 5)), [52, 56, 64, 68]),
 (un (.ld 48 1 true (.t 2)), [47, 52, 56, 64, 68]),
 (un (.mov 49 (.t 9)), [47, 48, 64, 68]),
 (un (.mov 50 (.t 10)), [47, 48, 49, 64, 68]),
 (un (.iad 51 1 (.t 49) (.t 50)), [47, 48, 64, 68]),
 (un (.ld 52 1 false (.t 51)), [47, 48, 64, 68]),
 (un (.mov 53 (.t 9)), [47, 48, 49, 50, 51, 52, 64, 68]),
 (un (.mov 54 (.t 11)), [47, 48, 49, 50, 51, 52, 53, 64, 68]),
 (un (.iad 55 1 (.t 53) (.t 54)), [47, 48, 49, 50, 51, 52, 64, 68]),
 (un (.ld 56 1 false (.t 55)), [47, 48, 49, 50, 51, 52, 64, 68]),
 (un (.bsl 57 1 [(.t 52), (.t 56)]), [47, 48, 64, 68]),
 (un (.call 58 En [((.t 48), false), ((.t 57), false)]), [47, 52, 56, 64, 68]),
 (un (.call 59 Lb [((.t 47), false), ((.t 58), false)]), [52, 56, 64, 68]),
 (un (.ld 60 1 true (.t 7)), [47, 48, 49, 50, 51, 52, 53, 54, 55, 56, 57, 58, 59, 52, 56, 64, 68]),
 (un (.mov 61 (.t 9)), [47, 48, 49, 50, 51, 52, 53, 54, 55, 56, 57, 58, 59, 60, 52, 56]),
 (un (.mov 62 (.t 10)), [47, 48, 49, 50, 51, 52, 53, 54, 55, 56, 57, 58, 59, 60, 61, 52, 56]),
 (un (.iad 63 1 (.t 61) (.t 62)), [47, 48, 49, 50, 51, 52, 53, 54, 55, 56, 57, 58, 59, 60, 52, 56]),
 (un (.ld 64 1 false (.t 63)), [47, 48, 49, 50, 51, 52, 53, 54, 55, 56, 57, 58, 59, 60, 52, 56]),
 (un (.mov 65 (.t 9)), [47, 48, 49, 50, 51, 52, 53, 54, 55, 56, 57, 58, 59, 60, 61, 62, 63, 64, 52, 56]),
 (un (.mov 66 (.t 11)), [47, 48, 49, 50, 51, 52, 53, 54, 55, 56, 57, 58, 59, 60, 61, 62, 63, 64, 65, 52, 56]),
 (un (.iad 67 1 (.t 65) (.t 66)), [47, 48, 49, 50, 51, 52, 53, 54, 55, 56, 57, 58, 59, 60, 61, 62, 63, 64, 52, 56]),
 (un (.ld 68 1 false (.t 67)), [47, 48, 49, 50, 51, 52, 53, 54, 55, 56, 57, 58, 59, 60, 61, 62, 63, 64, 52, 56]),
 (un (.bsl 69 1 [(.t 64), (.t 68)]), [47, 48, 49, 50, 51, 52, 53, 54, 55, 56, 57, 58, 59, 60, 52, 56])]
 [un (.call 70 En [((.t 60), false), ((.t 69), false)]),
 un (.call 71 Lb [((.t 59), false), ((.t 70), false)]),
 un (.asgf 5 (.t 71))]))
 (.drop [47, 48, 49, 50, 51, 52, 53, 54, 55, 56, 57, 58, 59, 60, 61, 62, 63, 64, 65, 66, 67, 68, 69, 70, 71] (.reg [un (.mov 45 (.t 11)),
 un (.bin 46 .add (.t 45) (.c (.int .i64 1))),
 un (.asg 11 (.t 46))])))))
def T5 : ACode :=
 (.seq (.seq (.reg [un (.mov 36 (.t 10)),
 un (.mov 37 (.t 9)),
 un (.len 38 (.t 37)),
 un (.bin 39 .lss (.t 36) (.t 38))])
 (.drop [36, 37, 38] (.cond (.t 39) .skip
 (.exit 4))))
 (.drop [36, 37, 38, 39] (.seq (.block 5 (.seq (.reg [un (.asg 11 (.c (.int .i64 0)))])
 (.block 6 (.loop Tl))))
 (.drop [11, 42, 43, 44, 47, 48, 49, 50, 51, 52, 53, 54, 55, 56, 57, 58, 59, 60, 61, 62, 63, 64, 65, 66, 67, 68, 69, 70, 71, 45, 46] (.reg [un (.mov 40 (.t 10)),
 un (.bin 41 .add (.t 40) (.c (.int .i64 1))),
 un (.asg 10 (.t 41))])))))
def Ts : ACode :=
 (.seq (.seq (.reg [un (.mov 27 (.t 8)),
 un (.fadr 28 0 (.t 2)),
 un (.ld 29 1 false (.t 28)),
 un (.len 30 (.t 29)),
 un (.bin 31 .lss (.t 27) (.t 30))])
 (.drop [27, 28, 29, 30] (.cond (.t 31) .skip
 (.exit 2))))
 (.drop [27, 28, 29, 30, 31] (.seq (.block 3 (.seq (.reg [un (.mov 34 (.t 5)),
 un (.call 35 Z8 [((.t 34), false)]),
 un (.asg 9 (.t 35))])
 (.drop [34, 35] (.seq (.reg [un (.asg 10 (.c (.int .i64 0)))])
 (.block 4 (.loop T5))))))
 (.drop [34, 35, 9, 10, 36, 37, 38, 39, 11, 42, 43, 44, 47, 48, 49, 50, 51, 52, 53, 54, 55, 56, 57, 58, 59, 60, 61, 62, 63, 64, 65, 66, 67, 68, 69, 70, 71, 45, 46, 40, 41] (.reg [un (.mov 32 (.t 8)),
 un (.bin 33 .add (.t 32) (.c (.int .i64 1))),
 un (.asg 8 (.t 33))])))))
def Al7 : ACode :=
 (.seq (.reg [un (.box 2 (.t 0)),
 un (.asg 4 (.c (.nilsl 1)))])
 (.seq (.reg [un (.bsl 12 1 []),
 un (.asgf 5 (.t 12))])
 (.drop [12] (.seq (.seq (.reg [un (.asg 6 (.c (.int .i64 0)))])
 (.block 0 (.loop Tt)))
 (.drop [6, 13, 14, 15, 16, 19, 20, 21, 22, 23, 24, 17, 18] (.seq (.reg [un (.ld 25 1 true (.t 2)),
 un (.call 26 K2 [((.t 25), false)]),
 un (.alc 7 (.agg [.nilsl 1])),
 un (.st 1 (.t 7) (.t 26))])
 (.drop [25, 26] (.seq (.seq (.reg [un (.asg 8 (.c (.int .i64 0)))])
 (.block 2 (.loop Ts)))
 (.drop [8, 27, 28, 29, 30, 31, 34, 35, 9, 10, 36, 37, 38, 39, 11, 42, 43, 44, 47, 48, 49, 50, 51, 52, 53, 54, 55, 56, 57, 58, 59, 60, 61, 62, 63, 64, 65, 66, 67, 68, 69, 70, 71, 45, 46, 40, 41, 32, 33] (.seq (.reg [un (.mov 72 (.t 5)),
 un (.asg 4 (.t 72))])
 (.drop [72] .ret)))))))))))
abbrev Alp : List RS := [.t 4]
theorem Amo : Aw Try.prog Jc 73 Al7 Alp = true := by kernel_rfl
def N0 : ACode :=
 (.seq (.seq (.reg [un (.mov 9 (.t 6)),
 un (.mov 10 (.t 1)),
 un (.bin 11 .lss (.t 9) (.t 10))])
 (.drop [9, 10] (.cond (.t 11) .skip
 (.exit 0))))
 (.drop [9, 10, 11] (.seq (.block 1 (.seq (.reg [un (.mov 14 (.t 0)),
 un (.mov 15 (.t 5)),
 un (.len 16 (.t 15)),
 un (.bin 17 .add (.t 16) (.c (.int .i64 1))),
 un (.call 18 Be [((.t 14), true), ((.t 17), false)]),
 un (.asg 7 (.t 18))])
 (.drop [14, 15, 16, 17, 18] (.frz [5] (.dreg [(un (.bsl 19 1 []), [24]),
 (un (.mov 20 (.t 5)), [19, 24]),
 (un (.mov 21 (.t 7)), [19, 20, 24]),
 (un (.slc 22 1 (.t 20) none (some (.t 21))), [19, 24]),
 (un (.app 23 1 (.t 19) (.t 22)), [24]),
 (un (.mov 24 (.t 6)), [19, 20, 21, 22, 23, 19]),
 (un (.bsl 25 1 [(.t 24)]), [19, 20, 21, 22, 23, 19]),
 (un (.app 26 1 (.t 23) (.t 25)), [19, 24]),
 (un (.mov 27 (.t 5)), [19, 20, 21, 22, 23, 24, 25, 26, 19, 24, 23]),
 (un (.mov 28 (.t 7)), [19, 20, 21, 22, 23, 24, 25, 26, 27, 19, 24, 23]),
 (un (.slc 29 1 (.t 27) (some (.t 28)) none), [19, 20, 21, 22, 23, 24, 25, 26, 19, 24, 23])]
 [un (.app 30 1 (.t 26) (.t 29)),
 un (.asg 5 (.t 30))])))))
 (.drop [14, 15, 16, 17, 18, 7, 19, 20, 21, 22, 23, 24, 25, 26, 27, 28, 29, 30] (.reg [un (.mov 12 (.t 6)),
 un (.bin 13 .add (.t 12) (.c (.int .i64 1))),
 un (.asg 6 (.t 13))])))))
def Aet : ACode :=
 (.seq (.reg [un (.asg 4 (.c (.nilsl 1)))])
 (.seq (.reg [un (.bsl 8 1 []),
 un (.asg 5 (.t 8))])
 (.drop [8] (.seq (.seq (.reg [un (.asg 6 (.c (.int .i64 0)))])
 (.block 0 (.loop N0)))
 (.drop [6, 9, 10, 11, 14, 15, 16, 17, 18, 7, 19, 20, 21, 22, 23, 24, 25, 26, 27, 28, 29, 30, 12, 13] (.seq (.seq (.reg [un (.mov 31 (.t 0)),
 un (.call 32 Be [((.t 31), true), ((.c (.int .i64 24)), false)])])
 (.drop [31] (.block 2 (.seq (.reg [un (.bin 34 .eql (.t 32) (.c (.int .i64 0))),
 un (.asg 33 (.t 34))])
 (.drop [34] (.cond (.t 33) (.reg [un (.mov 35 (.t 5)),
 un (.mov 36 (.t 1)),
 un (.bsl 37 1 [(.t 36)]),
 un (.app 38 1 (.t 35) (.t 37)),
 un (.asg 5 (.t 38))])
 (.seq (.reg [un (.bin 40 .eql (.t 32) (.c (.int .i64 1))),
 un (.asg 39 (.t 40))])
 (.drop [40] (.cond (.t 39) (.seq (.reg [un (.mov 41 (.t 1)),
 un (.bin 42 .gtr (.t 41) (.c (.int .i64 0)))])
 (.drop [41] (.cond (.t 42) (.reg [un (.mov 43 (.t 5)),
 un (.mov 44 (.t 0)),
 un (.mov 45 (.t 1)),
 un (.call 46 Be [((.t 44), true), ((.t 45), false)]),
 un (.mov 47 (.t 0)),
 un (.mov 48 (.t 1)),
 un (.bsl 49 1 [(.c (.int .i64 0)), (.c (.int .i64 (-1))), (.t 48)]),
 un (.call 50 E9 [((.t 47), true), ((.t 49), false)]),
 un (.iad 51 1 (.t 43) (.t 46)),
 un (.st 1 (.t 51) (.t 50))])
 .skip)))
 .skip)))))))))
 (.drop [31, 32, 34, 33, 35, 36, 37, 38, 40, 39, 41, 42, 43, 44, 45, 46, 47, 48, 49, 50, 51] (.seq (.reg [un (.mov 52 (.t 5)),
 un (.asg 4 (.t 52))])
 (.drop [52] .ret)))))))))
abbrev Aeo : List RS := [.t 4]
theorem Aes : Aw Try.prog Ie 53 Aet Aeo = true := by kernel_rfl
def Sm : ACode :=
 (.seq (.seq (.reg [un (.mov 13 (.t 7)),
 un (.fadr 14 0 (.t 3)),
 un (.ld 15 1 false (.t 14)),
 un (.len 16 (.t 15)),
 un (.bin 17 .lss (.t 13) (.t 16))])
 (.drop [13, 14, 15, 16] (.cond (.t 17) .skip
 (.exit 0))))
 (.drop [13, 14, 15, 16, 17] (.seq (.block 1 (.seq (.reg [un (.ld 20 1 true (.t 3)),
 un (.mov 21 (.t 1)),
 un (.mov 22 (.t 7)),
 un (.call 23 Kx [((.t 20), false), ((.t 21), false), ((.t 22), false)]),
 un (.asg 24 (.t 23)),
 ⟨some (24, true), .ld 25 1 true (.t 3)⟩,
 ⟨some (24, true), .mov 26 (.t 7)⟩,
 ⟨some (24, true), .mov 27 (.t 2)⟩,
 ⟨some (24, true), .call 28 Kx [((.t 25), false), ((.t 26), false), ((.t 27), false)]⟩,
 un (.pick 29 (.t 24) (.t 28) (.c (.bool false)))])
 (.drop [20, 21, 22, 23, 24, 25, 26, 27, 28] (.cond (.t 29) (.seq (.reg [un (.asg 6 (.c (.bool false)))])
 .ret)
 .skip))))
 (.drop [20, 21, 22, 23, 24, 25, 26, 27, 28, 29] (.reg [un (.mov 18 (.t 7)),
 un (.bin 19 .add (.t 18) (.c (.int .i64 1))),
 un (.asg 7 (.t 19))])))))
def Ajm : ACode :=
 (.seq (.reg [un (.box 3 (.t 0)),
 un (.asg 6 (.c (.bool false)))])
 (.seq (.seq (.reg [un (.ld 8 1 true (.t 3)),
 un (.mov 9 (.t 1)),
 un (.mov 10 (.t 2)),
 un (.call 11 Kx [((.t 8), false), ((.t 9), false), ((.t 10), false)]),
 un (.un 12 .not (.t 11))])
 (.drop [8, 9, 10, 11] (.cond (.t 12) (.seq (.reg [un (.asg 6 (.c (.bool false)))])
 .ret)
 .skip)))
 (.drop [8, 9, 10, 11, 12] (.seq (.seq (.reg [un (.asg 7 (.c (.int .i64 0)))])
 (.block 0 (.loop Sm)))
 (.drop [7, 13, 14, 15, 16, 17, 20, 21, 22, 23, 24, 25, 26, 27, 28, 29, 18, 19] (.seq (.reg [un (.asg 6 (.c (.bool true)))])
 .ret))))))
abbrev Aji : List RS := [.t 6]
theorem Ajj : Aw Try.prog Pw 30 Ajm Aji = true := by kernel_rfl
def Adc : ACode :=
 (.seq (.reg [un (.box 3 (.t 1)),
 un (.asg 4 (.c (.int .i64 0)))])
 (.seq (.seq (.reg [un (.fadr 5 0 (.t 3)),
 un (.ld 6 1 false (.t 5)),
 un (.len 7 (.t 6)),
 un (.bin 8 .eql (.t 7) (.c (.int .i64 0))),
 un (.asg 9 (.t 8)),
 ⟨some (9, false), .mov 10 (.t 0)⟩,
 ⟨some (9, false), .call 11 Cz [((.t 10), true), ((.c (.int .i64 24)), false)]⟩,
 un (.pick 12 (.t 9) (.c (.bool true)) (.t 11))])
 (.drop [5, 6, 7, 8, 9, 10, 11] (.cond (.t 12) (.seq (.reg [un (.mov 13 (.t 0)),
 un (.fadr 14 0 (.t 3)),
 un (.ld 15 1 false (.t 14)),
 un (.len 16 (.t 15)),
 un (.bsl 17 1 [(.c (.int .i64 (-1))), (.t 16)]),
 un (.call 18 E9 [((.t 13), true), ((.t 17), false)]),
 un (.asg 4 (.t 18))])
 (.drop [13, 14, 15, 16, 17, 18] .ret))
 .skip)))
 (.drop [5, 6, 7, 8, 9, 10, 11, 12, 13, 14, 15, 16, 17, 18] (.seq (.reg [un (.mov 19 (.t 0)),
 un (.fadr 20 0 (.t 3)),
 un (.ld 21 1 false (.t 20)),
 un (.len 22 (.t 21)),
 un (.call 23 Be [((.t 19), true), ((.t 22), false)]),
 un (.asg 4 (.t 23))])
 (.drop [19, 20, 21, 22, 23] .ret)))))
abbrev Add : List RS := [.t 4]
theorem Acq : Aw Try.prog Ky 24 Adc Add = true := by kernel_rfl
def Aa6 : ACode :=
 (.seq (.reg [un (.box 1 (.t 0)),
 un (.alc 2 (.agg [.int .i64 0, .nilsl 2])),
 un (.asg 3 (.c (.bool false)))])
 (.seq (.seq (.reg [un (.ld 4 1 true (.t 1)),
 un (.call 5 Ix [((.t 4), false)]),
 un (.un 6 .not (.t 5)),
 un (.asg 7 (.t 6)),
 ⟨some (7, false), .fadr 8 0 (.t 1)⟩,
 ⟨some (7, false), .ld 9 1 false (.t 8)⟩,
 ⟨some (7, false), .len 10 (.t 9)⟩,
 ⟨some (7, false), .bin 11 .gtr (.t 10) (.c (.int .i64 8))⟩,
 un (.pick 12 (.t 7) (.c (.bool true)) (.t 11))])
 (.drop [4, 5, 6, 7, 8, 9, 10, 11] (.cond (.t 12) (.seq (.reg [un (.bld 13 [.int .i64 0, .nilsl 2] []),
 un (.st 2 (.t 2) (.t 13)),
 un (.asg 3 (.c (.bool false)))])
 (.drop [13] .ret))
 .skip)))
 (.drop [4, 5, 6, 7, 8, 9, 10, 11, 12, 13] (.seq (.reg [un (.ld 14 1 true (.t 1)),
 un (.call 15 N8 [((.t 14), false)]),
 un (.st 2 (.t 2) (.t 15)),
 un (.asg 3 (.c (.bool true)))])
 (.drop [14, 15] .ret)))))
abbrev Aa8 : List RS := [.c 2 2 true, .t 3]
theorem Abr : Aw Try.prog Ju 16 Aa6 Aa8 = true := by kernel_rfl
def Aco : ACode :=
 (.seq (.reg [un (.box 2 (.t 0)),
 un (.asg 4 (.c (.bool false))),
 un (.asg 5 (.c (.bool false)))])
 (.seq (.seq (.reg [un (.ld 6 2 true (.t 2)),
 un (.call 7 P5 [((.t 6), false)]),
 un (.un 8 .not (.t 7))])
 (.drop [6, 7] (.cond (.t 8) (.seq (.reg [un (.asg 4 (.c (.bool false))),
 un (.asg 5 (.c (.bool false)))])
 .ret)
 .skip)))
 (.drop [6, 7, 8] (.seq (.reg [un (.ld 9 2 true (.t 2)),
 un (.mov 10 (.t 1)),
 un (.call 11 Zm [((.t 9), false), ((.t 10), false)]),
 un (.asg 4 (.t 11)),
 un (.asg 5 (.c (.bool true)))])
 (.drop [9, 10, 11] .ret)))))
abbrev Adp : List RS := [.t 4, .t 5]
theorem Acp : Aw Try.prog K7 12 Aco Adp = true := by kernel_rfl
def Ab6 : ACode :=
 (.seq (.reg [un (.box 2 (.t 0)),
 un (.asg 4 (.c (.bool false))),
 un (.asg 5 (.c (.bool false)))])
 (.seq (.seq (.reg [un (.ld 6 2 true (.t 2)),
 un (.call 7 Wu [((.t 6), false)]),
 un (.un 8 .not (.t 7))])
 (.drop [6, 7] (.cond (.t 8) (.seq (.reg [un (.asg 4 (.c (.bool false))),
 un (.asg 5 (.c (.bool false)))])
 .ret)
 .skip)))
 (.drop [6, 7, 8] (.seq (.reg [un (.ld 9 2 true (.t 2)),
 un (.mov 10 (.t 1)),
 un (.call 11 Acb [((.t 9), false), ((.t 10), false)]),
 un (.asg 4 (.t 11)),
 un (.asg 5 (.c (.bool true)))])
 (.drop [9, 10, 11] .ret)))))
abbrev Ab7 : List RS := [.t 4, .t 5]
theorem Aca : Aw Try.prog Ke 12 Ab6 Ab7 = true := by kernel_rfl
def Aqn : ACode :=
 (.seq (.reg [un (.box 2 (.t 0)),
 un (.asg 4 (.c (.bool false)))])
 (.seq (.reg [un (.mov 5 (.t 1)),
 un (.len 6 (.t 5)),
 un (.bin 7 .gtr (.t 6) (.c (.int .i64 0))),
 un (.asg 8 (.t 7)),
 ⟨some (8, true), .mov 9 (.t 1)⟩,
 ⟨some (8, true), .fadr 10 0 (.t 2)⟩,
 ⟨some (8, true), .ld 11 1 false (.t 10)⟩,
 ⟨some (8, true), .len 12 (.t 11)⟩,
 ⟨some (8, true), .bin 13 .sub (.t 12) (.c (.int .i64 1))⟩,
 ⟨some (8, true), .call 14 Jf [((.t 9), false), ((.c (.int .i64 0)), false), ((.t 13), false)]⟩,
 un (.pick 15 (.t 8) (.t 14) (.c (.bool false))),
 un (.asg 16 (.t 15)),
 ⟨some (16, true), .ld 17 1 true (.t 2)⟩,
 ⟨some (16, true), .mov 18 (.t 1)⟩,
 ⟨some (16, true), .call 19 Jc [((.t 17), false), ((.t 18), false)]⟩,
 ⟨some (16, true), .mov 20 (.t 1)⟩,
 ⟨some (16, true), .call 21 Qk [((.t 19), false), ((.t 20), false)]⟩,
 un (.pick 22 (.t 16) (.t 21) (.c (.bool false))),
 un (.asg 4 (.t 22))])
 (.drop [5, 6, 7, 8, 9, 10, 11, 12, 13, 14, 15, 16, 17, 18, 19, 20, 21, 22] .ret)))
abbrev Aqo : List RS := [.t 4]
theorem Aqz : Aw Try.prog Qp 23 Aqn Aqo = true := by kernel_rfl
def An0 : ACode :=
 (.seq (.reg [un (.box 2 (.t 0)),
 un (.asg 4 (.c (.bool false)))])
 (.seq (.reg [un (.ld 5 1 true (.t 2)),
 un (.call 6 Ix [((.t 5), false)]),
 un (.asg 7 (.t 6)),
 ⟨some (7, true), .mov 8 (.t 1)⟩,
 ⟨some (7, true), .len 9 (.t 8)⟩,
 ⟨some (7, true), .bin 10 .leq (.t 9) (.c (.int .i64 20))⟩,
 un (.pick 11 (.t 7) (.t 10) (.c (.bool false))),
 un (.asg 12 (.t 11)),
 ⟨some (12, true), .fadr 13 0 (.t 2)⟩,
 ⟨some (12, true), .ld 14 1 false (.t 13)⟩,
 ⟨some (12, true), .len 15 (.t 14)⟩,
 ⟨some (12, true), .mov 16 (.t 1)⟩,
 ⟨some (12, true), .call 17 J1 [((.t 15), false), ((.t 16), false)]⟩,
 un (.pick 18 (.t 12) (.t 17) (.c (.bool false))),
 un (.asg 4 (.t 18))])
 (.drop [5, 6, 7, 8, 9, 10, 11, 12, 13, 14, 15, 16, 17, 18] .ret)))
abbrev Ap1 : List RS := [.t 4]
theorem Aop : Aw Try.prog Nx 19 An0 Ap1 = true := by kernel_rfl
def Pm : ACode :=
 (.seq (.seq (.reg [un (.mov 22 (.t 6)),
 un (.mov 23 (.t 3)),
 un (.bin 24 .lss (.t 22) (.t 23))])
 (.drop [22, 23] (.cond (.t 24) .skip
 (.exit 2))))
 (.drop [22, 23, 24] (.seq (.block 3 (.seq (.reg [un (.mov 27 (.t 0)),
 un (.call 28 Cz [((.t 27), true), ((.c (.int .i64 3)), false)])])
 (.drop [27] (.cond (.t 28) (.reg [un (.mov 29 (.t 4)),
 un (.mov 30 (.t 5)),
 un (.mov 31 (.t 6)),
 un (.bld 32 [.int .i64 0, .int .i64 0] [(0, 1, (.t 30)), (1, 1, (.t 31))]),
 un (.bsl 33 2 [(.t 32)]),
 un (.app 34 2 (.t 29) (.t 33)),
 un (.asg 4 (.t 34))])
 .skip))))
 (.drop [27, 28, 29, 30, 31, 32, 33, 34] (.reg [un (.mov 25 (.t 6)),
 un (.bin 26 .add (.t 25) (.c (.int .i64 1))),
 un (.asg 6 (.t 26))])))))
def O9 : ACode :=
 (.seq (.seq (.reg [un (.mov 15 (.t 5)),
 un (.mov 16 (.t 3)),
 un (.bin 17 .lss (.t 15) (.t 16))])
 (.drop [15, 16] (.cond (.t 17) .skip
 (.exit 0))))
 (.drop [15, 16, 17] (.seq (.block 1 (.seq (.reg [un (.mov 20 (.t 5)),
 un (.bin 21 .add (.t 20) (.c (.int .i64 1))),
 un (.asg 6 (.t 21))])
 (.drop [20, 21] (.block 2 (.loop Pm)))))
 (.drop [20, 21, 6, 22, 23, 24, 27, 28, 29, 30, 31, 32, 33, 34, 25, 26] (.reg [un (.mov 18 (.t 5)),
 un (.bin 19 .add (.t 18) (.c (.int .i64 1))),
 un (.asg 5 (.t 19))])))))
def Abo : ACode :=
 (.reg [un (.mov 38 (.t 7)),
 un (.mov 39 (.t 3)),
 un (.call 40 Qi [((.t 38), false), ((.t 39), false)]),
 un (.asg 41 (.t 40)),
 ⟨some (41, true), .mov 42 (.t 0)⟩,
 ⟨some (41, true), .call 43 Cz [((.t 42), true), ((.c (.int .i64 2)), false)]⟩,
 un (.pick 44 (.t 41) (.t 43) (.c (.bool false)))])
def Pf : ACode :=
 (.seq (.seq (.reg [un (.mov 45 (.t 8)),
 un (.mov 46 (.t 4)),
 un (.len 47 (.t 46)),
 un (.bin 48 .lss (.t 45) (.t 47))])
 (.drop [45, 46, 47] (.cond (.t 48) .skip
 (.exit 4))))
 (.drop [45, 46, 47, 48] (.seq (.block 5 (.dreg [(un (.mov 51 (.t 4)), []),
 (un (.mov 52 (.t 8)), [51]),
 (un (.mov 53 (.t 7)), [51, 52]),
 (un (.mov 54 (.t 4)), [51, 52, 53]),
 (un (.mov 55 (.t 8)), [51, 52, 53, 54]),
 (un (.iad 56 2 (.t 54) (.t 55)), [51, 52, 53]),
 (un (.aad 57 1 2 (.t 56) (.c (.int .i64 0))), [51, 52, 53]),
 (un (.ld 58 1 false (.t 57)), [51, 52, 53]),
 (un (.iad 59 1 (.t 53) (.t 58)), [51, 52]),
 (un (.ld 60 1 false (.t 59)), [51, 52]),
 (un (.mov 61 (.t 7)), [51, 52, 53, 54, 55, 56, 57, 58, 59, 60]),
 (un (.mov 62 (.t 4)), [51, 52, 53, 54, 55, 56, 57, 58, 59, 60, 61]),
 (un (.mov 63 (.t 8)), [51, 52, 53, 54, 55, 56, 57, 58, 59, 60, 61, 62]),
 (un (.iad 64 2 (.t 62) (.t 63)), [51, 52, 53, 54, 55, 56, 57, 58, 59, 60, 61]),
 (un (.aad 65 1 2 (.t 64) (.c (.int .i64 1))), [51, 52, 53, 54, 55, 56, 57, 58, 59, 60, 61]),
 (un (.ld 66 1 false (.t 65)), [51, 52, 53, 54, 55, 56, 57, 58, 59, 60, 61]),
 (un (.iad 67 1 (.t 61) (.t 66)), [51, 52, 53, 54, 55, 56, 57, 58, 59, 60]),
 (un (.ld 68 1 false (.t 67)), [51, 52, 53, 54, 55, 56, 57, 58, 59, 60]),
 (un (.bld 69 [.int .i64 0, .int .i64 0] [(0, 1, (.t 60)), (1, 1, (.t 68))]), [51, 52])]
 [un (.iad 70 2 (.t 51) (.t 52)),
 un (.st 2 (.t 70) (.t 69))]))
 (.drop [51, 52, 53, 54, 55, 56, 57, 58, 59, 60, 61, 62, 63, 64, 65, 66, 67, 68, 69, 70] (.reg [un (.mov 49 (.t 8)),
 un (.bin 50 .add (.t 49) (.c (.int .i64 1))),
 un (.asg 8 (.t 50))])))))
def Aa9 : ACode :=
 (.seq (.reg [un (.mov 35 (.t 0)),
 un (.mov 36 (.t 3)),
 un (.call 37 Ie [((.t 35), true), ((.t 36), false)]),
 un (.asg 7 (.t 37))])
 (.drop [35, 36, 37] (.seq (.cut Abo)
 (.drop [38, 39, 40, 41, 42, 43] (.cond (.t 44) (.seq (.reg [un (.asg 8 (.c (.int .i64 0)))])
 (.block 4 (.loop Pf)))
 .skip)))))
def Aa0 : ACode :=
 (.seq (.reg [un (.mov 74 (.t 3)),
 un (.bin 75 .eql (.t 74) (.c (.int .i64 0))),
 un (.asg 76 (.t 75)),
 ⟨some (76, false), .mov 77 (.t 0)⟩,
 ⟨some (76, false), .call 78 Cz [((.t 77), true), ((.c (.int .i64 16)), false)]⟩,
 ⟨some (76, false), .un 79 .not (.t 78)⟩,
 un (.pick 80 (.t 76) (.c (.bool true)) (.t 79))])
 (.drop [74, 75, 76, 77, 78, 79] (.cond (.t 80) (.seq (.reg [un (.ld 81 1 true (.t 9)),
 un (.st 1 (.t 2) (.t 81))])
 (.drop [81] .ret))
 .skip)))
def Pk : ACode :=
 (.seq (.seq (.dreg [(un (.fadr 130 0 (.t 9)), [147]),
 (un (.ld 131 1 false (.t 130)), [147]),
 (un (.len 132 (.t 131)), [147]),
 (un (.mov 133 (.t 0)), [130, 131, 132]),
 (un (.call 134 Be [((.t 133), true), ((.c (.int .i64 2)), false)]), [147, 130, 131, 132]),
 (un (.bin 135 .add (.c (.int .i64 10)) (.t 134)), [130, 131, 132])]
 [un (.bin 136 .lss (.t 132) (.t 135))])
 (.drop [130, 131, 132, 133, 134, 135] (.cond (.t 136) .skip
 (.exit 7))))
 (.drop [130, 131, 132, 133, 134, 135, 136] (.block 8 (.reg [un (.fadr 137 0 (.t 9)),
 un (.ld 138 1 false (.t 137)),
 un (.fadr 139 0 (.t 9)),
 un (.ld 140 1 false (.t 139)),
 un (.len 141 (.t 140)),
 un (.bsl 142 1 [(.t 141)]),
 un (.bsl 143 1 [(.t 142)]),
 un (.app 144 1 (.t 138) (.t 143)),
 un (.fadr 145 0 (.t 9)),
 un (.st 1 (.t 145) (.t 144))]))))
def Agg : ACode :=
 (.seq (.reg [un (.alc 2 (.agg [.nilsl 1]))])
 (.seq (.reg [un (.mov 11 (.t 0)),
 un (.bsl 12 1 [(.c (.int .i64 0)), (.c (.int .i64 1)), (.c (.int .i64 2)), (.c (.int .i64 3)), (.c (.int .i64 4)), (.c (.int .i64 4)), (.c (.int .i64 5)), (.c (.int .i64 5)), (.c (.int .i64 6)), (.c (.int .i64 7))]),
 un (.call 13 E9 [((.t 11), true), ((.t 12), false)]),
 un (.asg 3 (.t 13))])
 (.drop [11, 12, 13] (.seq (.reg [un (.bsl 14 2 []),
 un (.asg 4 (.t 14))])
 (.drop [14] (.seq (.seq (.reg [un (.asg 5 (.c (.int .i64 0)))])
 (.block 0 (.loop O9)))
 (.drop [5, 15, 16, 17, 20, 21, 6, 22, 23, 24, 27, 28, 29, 30, 31, 32, 33, 34, 25, 26, 18, 19] (.seq (.cut Aa9)
 (.drop [35, 36, 37, 7, 38, 39, 40, 41, 42, 43, 44, 8, 45, 46, 47, 48, 51, 52, 53, 54, 55, 56, 57, 58, 59, 60, 61, 62, 63, 64, 65, 66, 67, 68, 69, 70, 49, 50] (.seq (.reg [un (.mov 71 (.t 3)),
 un (.mov 72 (.t 4)),
 un (.call 73 Bg [((.t 71), false), ((.t 72), false)]),
 un (.alc 9 (.agg [.nilsl 1])),
 un (.st 1 (.t 9) (.t 73))])
 (.drop [71, 72, 73] (.seq (.cut Aa0)
 (.drop [74, 75, 76, 77, 78, 79, 80, 81] (.seq (.reg [un (.mov 82 (.t 0)),
 un (.mov 83 (.t 3)),
 un (.call 84 Be [((.t 82), true), ((.t 83), false)]),
 un (.asg 10 (.t 84))])
 (.drop [82, 83, 84] (.seq (.seq (.reg [un (.mov 85 (.t 0)),
 un (.call 86 Be [((.t 85), true), ((.c (.int .i64 4)), false)])])
 (.drop [85] (.block 6 (.seq (.reg [un (.bin 88 .eql (.t 86) (.c (.int .i64 0))),
 un (.asg 87 (.t 88))])
 (.drop [88] (.cond (.t 87) (.frz [200009] (.dreg [(un (.fadr 89 0 (.t 9)), []),
 (un (.ld 90 1 false (.t 89)), []),
 (un (.mov 91 (.t 10)), [89, 90]),
 (un (.fadr 92 0 (.t 9)), [89, 90, 91]),
 (un (.ld 93 1 false (.t 92)), [89, 90, 91]),
 (un (.mov 94 (.t 10)), [89, 90, 91, 92, 93]),
 (un (.iad 95 1 (.t 93) (.t 94)), [89, 90, 91]),
 (un (.ld 96 1 false (.t 95)), [89, 90, 91]),
 (un (.slc 97 1 (.t 96) (some (.c (.int .i64 1))) none), [89, 90, 91])]
 [un (.iad 98 1 (.t 90) (.t 91)),
 un (.st 1 (.t 98) (.t 97))]))
 (.seq (.reg [un (.bin 100 .eql (.t 86) (.c (.int .i64 1))),
 un (.asg 99 (.t 100))])
 (.drop [100] (.cond (.t 99) (.dregl [(0, .fadr 101 0 (.t 9)),
 (1, .ld 102 1 false (.t 101)),
 (2, .mov 103 (.t 10)),
 (3, .fadr 104 0 (.t 9)),
 (4, .ld 105 1 false (.t 104)),
 (5, .mov 106 (.t 10)),
 (6, .iad 107 1 (.t 105) (.t 106)),
 (7, .ld 108 1 false (.t 107)),
 (8, .mov 109 (.t 3))]
 [(9, .bsl 110 1 [(.t 109)], [0, 1, 2, 3, 4, 5, 6, 7, 8], []),
 (10, .app 111 1 (.t 108) (.t 110), [0, 1, 2, 3, 4, 5, 6, 7], [108]),
 (11, .iad 112 1 (.t 102) (.t 103), [0, 1, 2], []),
 (12, .st 1 (.t 112) (.t 111), [], [])])
 (.seq (.reg [un (.bin 114 .eql (.t 86) (.c (.int .i64 2))),
 un (.asg 113 (.t 114))])
 (.drop [114] (.cond (.t 113) (.frz [200009] (.dreg [(un (.fadr 115 0 (.t 9)), [147]),
 (un (.ld 116 1 false (.t 115)), [147]),
 (un (.mov 117 (.t 10)), [147, 115, 116]),
 (un (.fadr 118 0 (.t 9)), [147, 115, 116, 117]),
 (un (.ld 119 1 false (.t 118)), [147, 115, 116, 117]),
 (un (.mov 120 (.t 10)), [147, 115, 116, 117, 118, 119]),
 (un (.iad 121 1 (.t 119) (.t 120)), [147, 115, 116, 117]),
 (un (.ld 122 1 false (.t 121)), [147, 115, 116, 117]),
 (un (.mov 123 (.t 0)), [115, 116, 117, 118, 119, 120, 121, 122]),
 (un (.mov 124 (.t 3)), [115, 116, 117, 118, 119, 120, 121, 122, 123]),
 (un (.call 125 Be [((.t 123), true), ((.t 124), false)]), [147, 115, 116, 117, 118, 119, 120, 121, 122]),
 (un (.call 126 Lb [((.t 122), false), ((.t 125), false)]), [115, 116, 117])]
 [un (.iad 127 1 (.t 116) (.t 117)),
 un (.st 1 (.t 127) (.t 126))]))
 (.seq (.reg [un (.bin 129 .eql (.t 86) (.c (.int .i64 3))),
 un (.asg 128 (.t 129))])
 (.drop [129] (.cond (.t 128) (.block 7 (.loop Pk))
 .skip)))))))))))))))
 (.drop [85, 86, 88, 87, 89, 90, 91, 92, 93, 94, 95, 96, 97, 98, 100, 99, 101, 102, 103, 104, 105, 106, 107, 108, 109, 110, 111, 112, 114, 113, 115, 116, 117, 118, 119, 120, 121, 122, 123, 124, 125, 126, 127, 129, 128, 130, 131, 132, 133, 134, 135, 136, 137, 138, 139, 140, 141, 142, 143, 144, 145] (.seq (.reg [un (.ld 146 1 true (.t 9)),
 un (.st 1 (.t 2) (.t 146))])
 (.drop [146] .ret)))))))))))))))))))
abbrev Afx : List RS := [.c 2 1 true]
theorem Af6 : Aw Try.prog M4 147 Agg Afx = true := by kernel_rfl
def Ur : ACode :=
 (.seq (.seq (.reg [un (.mov 14 (.t 5)),
 un (.fadr 15 0 (.t 1)),
 un (.ld 16 1 false (.t 15)),
 un (.len 17 (.t 16)),
 un (.bin 18 .lss (.t 14) (.t 17))])
 (.drop [14, 15, 16, 17] (.cond (.t 18) .skip
 (.exit 2))))
 (.drop [14, 15, 16, 17, 18] (.seq (.block 3 (.seq (.reg [un (.ld 21 1 true (.t 1)),
 un (.mov 22 (.t 4)),
 un (.mov 23 (.t 5)),
 un (.call 24 Pw [((.t 21), false), ((.t 22), false), ((.t 23), false)])])
 (.drop [21, 22, 23] (.cond (.t 24) (.reg [un (.mov 25 (.t 3)),
 un (.mov 26 (.t 4)),
 un (.mov 27 (.t 5)),
 un (.bld 28 [.int .i64 0, .int .i64 0] [(0, 1, (.t 26)), (1, 1, (.t 27))]),
 un (.bsl 29 2 [(.t 28)]),
 un (.app 30 2 (.t 25) (.t 29)),
 un (.asg 3 (.t 30))])
 .skip))))
 (.drop [21, 22, 23, 24, 25, 26, 27, 28, 29, 30] (.reg [un (.mov 19 (.t 5)),
 un (.bin 20 .add (.t 19) (.c (.int .i64 1))),
 un (.asg 5 (.t 20))])))))
def Um : ACode :=
 (.seq (.seq (.reg [un (.mov 7 (.t 4)),
 un (.fadr 8 0 (.t 1)),
 un (.ld 9 1 false (.t 8)),
 un (.len 10 (.t 9)),
 un (.bin 11 .lss (.t 7) (.t 10))])
 (.drop [7, 8, 9, 10] (.cond (.t 11) .skip
 (.exit 0))))
 (.drop [7, 8, 9, 10, 11] (.seq (.block 1 (.seq (.reg [un (.asg 5 (.c (.int .i64 0)))])
 (.block 2 (.loop Ur))))
 (.drop [5, 14, 15, 16, 17, 18, 21, 22, 23, 24, 25, 26, 27, 28, 29, 30, 19, 20] (.reg [un (.mov 12 (.t 4)),
 un (.bin 13 .add (.t 12) (.c (.int .i64 1))),
 un (.asg 4 (.t 13))])))))
def Al8 : ACode :=
 (.seq (.reg [un (.box 1 (.t 0)),
 un (.asg 2 (.c (.nilsl 2)))])
 (.seq (.reg [un (.bsl 6 2 []),
 un (.asg 3 (.t 6))])
 (.drop [6] (.seq (.seq (.reg [un (.asg 4 (.c (.int .i64 0)))])
 (.block 0 (.loop Um)))
 (.drop [4, 7, 8, 9, 10, 11, 5, 14, 15, 16, 17, 18, 21, 22, 23, 24, 25, 26, 27, 28, 29, 30, 19, 20, 12, 13] (.seq (.reg [un (.mov 31 (.t 3)),
 un (.asg 2 (.t 31))])
 (.drop [31] .ret)))))))
abbrev Alt : List RS := [.t 2]
theorem Amd : Aw Try.prog Se 32 Al8 Alt = true := by kernel_rfl
def L3 : ACode :=
 (.seq (.seq (.reg [un (.mov 16 (.t 6)),
 un (.bin 17 .gtr (.t 16) (.c (.int .i64 0)))])
 (.drop [16] (.cond (.t 17) .skip
 (.exit 0))))
 (.drop [16, 17] (.seq (.block 1 (.reg [un (.mov 20 (.t 5)),
 un (.mov 21 (.t 0)),
 un (.ld 22 1 true (.t 3)),
 un (.call 23 Ky [((.t 21), true), ((.t 22), false)]),
 un (.bsl 24 1 [(.t 23)]),
 un (.app 25 1 (.t 20) (.t 24)),
 un (.asg 5 (.t 25))]))
 (.drop [20, 21, 22, 23, 24, 25] (.reg [un (.mov 18 (.t 6)),
 un (.bin 19 .sub (.t 18) (.c (.int .i64 1))),
 un (.asg 6 (.t 19))])))))
def Aa3 : ACode :=
 (.seq (.reg [un (.box 3 (.t 1)),
 un (.asg 4 (.c (.nilsl 1)))])
 (.seq (.reg [un (.bsl 7 1 []),
 un (.asg 5 (.t 7))])
 (.drop [7] (.seq (.seq (.reg [un (.mov 8 (.t 0)),
 un (.bsl 9 1 [(.c (.int .i64 0)), (.c (.int .i64 1)), (.c (.int .i64 2)), (.c (.int .i64 2)), (.c (.int .i64 3)), (.c (.int .i64 3)), (.c (.int .i64 20)), (.c (.int .i64 21))]),
 un (.mov 10 (.t 0)),
 un (.call 11 Be [((.t 10), true), ((.c (.int .i64 24)), false)]),
 un (.bin 12 .quo (.t 11) (.c (.int .i64 11))),
 un (.bin 13 .add (.c (.int .i64 6)) (.t 12)),
 un (.slc 14 1 (.t 9) none (some (.t 13))),
 un (.call 15 E9 [((.t 8), true), ((.t 14), false)]),
 un (.asg 6 (.t 15))])
 (.drop [8, 9, 10, 11, 12, 13, 14, 15] (.block 0 (.loop L3))))
 (.drop [8, 9, 10, 11, 12, 13, 14, 15, 6, 16, 17, 20, 21, 22, 23, 24, 25, 18, 19] (.seq (.reg [un (.mov 26 (.t 5)),
 un (.asg 4 (.t 26))])
 (.drop [26] .ret)))))))
abbrev Abj : List RS := [.t 4]
theorem Aa4 : Aw Try.prog G5 27 Aa3 Abj = true := by kernel_rfl
def Aep : ACode :=
 (.seq (.reg [un (.box 2 (.t 0)),
 un (.asg 4 (.c (.bool false))),
 un (.asg 5 (.c (.bool false)))])
 (.seq (.seq (.reg [un (.ld 6 1 true (.t 2)),
 un (.call 7 Ix [((.t 6), false)]),
 un (.un 8 .not (.t 7))])
 (.drop [6, 7] (.cond (.t 8) (.seq (.reg [un (.asg 4 (.c (.bool false))),
 un (.asg 5 (.c (.bool false)))])
 .ret)
 .skip)))
 (.drop [6, 7, 8] (.seq (.reg [un (.ld 9 1 true (.t 2)),
 un (.mov 10 (.t 1)),
 un (.call 11 Qp [((.t 9), false), ((.t 10), false)]),
 un (.asg 4 (.t 11)),
 un (.asg 5 (.c (.bool true)))])
 (.drop [9, 10, 11] .ret)))))
abbrev Aej : List RS := [.t 4, .t 5]
theorem Aen : Aw Try.prog Lu 12 Aep Aej = true := by kernel_rfl
def Ux : ACode :=
 (.seq (.reg [un (.ld 10 1 true (.t 2)),
 un (.call 11 Ix [((.t 10), false)]),
 un (.un 12 .not (.t 11)),
 un (.asg 13 (.t 12)),
 ⟨some (13, false), .ld 14 1 true (.t 2)⟩,
 ⟨some (13, false), .mov 15 (.t 1)⟩,
 ⟨some (13, false), .call 16 Qp [((.t 14), false), ((.t 15), false)]⟩,
 ⟨some (13, false), .un 17 .not (.t 16)⟩,
 un (.pick 18 (.t 13) (.c (.bool true)) (.t 17))])
 (.drop [10, 11, 12, 13, 14, 15, 16, 17] (.cond (.t 18) (.seq (.reg [un (.bld 19 [.nilsl 1] []),
 un (.st 1 (.t 4) (.t 19)),
 un (.asg 5 (.c (.bool false)))])
 (.drop [19] .ret))
 .skip)))
def Lm : ACode :=
 (.seq (.seq (.reg [un (.mov 29 (.t 9)),
 un (.mov 30 (.t 1)),
 un (.len 31 (.t 30)),
 un (.bin 32 .lss (.t 29) (.t 31))])
 (.drop [29, 30, 31] (.cond (.t 32) .skip
 (.exit 2))))
 (.drop [29, 30, 31, 32] (.seq (.block 3 (.seq (.dreg [(un (.ld 35 1 true (.t 2)), []),
 (un (.mov 36 (.t 1)), [35]),
 (un (.mov 37 (.t 9)), [35, 36]),
 (un (.iad 38 1 (.t 36) (.t 37)), [35]),
 (un (.ld 39 1 false (.t 38)), [35]),
 (un (.mov 40 (.t 1)), [35, 36, 37, 38, 39]),
 (un (.mov 41 (.t 7)), [35, 36, 37, 38, 39, 40]),
 (un (.iad 42 1 (.t 40) (.t 41)), [35, 36, 37, 38, 39]),
 (un (.ld 43 1 false (.t 42)), [35, 36, 37, 38, 39])]
 [un (.call 44 Jk [((.t 35), false), ((.t 39), false), ((.t 43), false)])])
 (.drop [35, 36, 37, 38, 39, 40, 41, 42, 43] (.cond (.t 44) (.reg [un (.mov 45 (.t 8)),
 un (.mov 46 (.t 9)),
 un (.bsl 47 1 [(.t 46)]),
 un (.app 48 1 (.t 45) (.t 47)),
 un (.asg 8 (.t 48))])
 .skip))))
 (.drop [35, 36, 37, 38, 39, 40, 41, 42, 43, 44, 45, 46, 47, 48] (.reg [un (.mov 33 (.t 9)),
 un (.bin 34 .add (.t 33) (.c (.int .i64 1))),
 un (.asg 9 (.t 34))])))))
def Lq : ACode :=
 (.seq (.seq (.reg [un (.mov 22 (.t 7)),
 un (.mov 23 (.t 1)),
 un (.len 24 (.t 23)),
 un (.bin 25 .lss (.t 22) (.t 24))])
 (.drop [22, 23, 24] (.cond (.t 25) .skip
 (.exit 0))))
 (.drop [22, 23, 24, 25] (.seq (.block 1 (.seq (.reg [un (.bsl 28 1 []),
 un (.asg 8 (.t 28))])
 (.drop [28] (.seq (.seq (.reg [un (.asg 9 (.c (.int .i64 0)))])
 (.block 2 (.loop Lm)))
 (.drop [9, 29, 30, 31, 32, 35, 36, 37, 38, 39, 40, 41, 42, 43, 44, 45, 46, 47, 48, 33, 34] (.reg [un (.fadr 49 0 (.t 6)),
 un (.ld 50 1 false (.t 49)),
 un (.mov 51 (.t 8)),
 un (.bsl 52 1 [(.t 51)]),
 un (.app 53 1 (.t 50) (.t 52)),
 un (.fadr 54 0 (.t 6)),
 un (.st 1 (.t 54) (.t 53))]))))))
 (.drop [28, 8, 9, 29, 30, 31, 32, 35, 36, 37, 38, 39, 40, 41, 42, 43, 44, 45, 46, 47, 48, 33, 34, 49, 50, 51, 52, 53, 54] (.reg [un (.mov 26 (.t 7)),
 un (.bin 27 .add (.t 26) (.c (.int .i64 1))),
 un (.asg 7 (.t 27))])))))
def Aab : ACode :=
 (.seq (.reg [un (.box 2 (.t 0)),
 un (.alc 4 (.agg [.nilsl 1])),
 un (.asg 5 (.c (.bool false)))])
 (.seq (.cut Ux)
 (.drop [10, 11, 12, 13, 14, 15, 16, 17, 18, 19] (.seq (.reg [un (.bsl 20 1 []),
 un (.bld 21 [.nilsl 1] [(0, 1, (.t 20))]),
 un (.alc 6 (.agg [.nilsl 1])),
 un (.st 1 (.t 6) (.t 21))])
 (.drop [20, 21] (.seq (.seq (.reg [un (.asg 7 (.c (.int .i64 0)))])
 (.block 0 (.loop Lq)))
 (.drop [7, 22, 23, 24, 25, 28, 8, 9, 29, 30, 31, 32, 35, 36, 37, 38, 39, 40, 41, 42, 43, 44, 45, 46, 47, 48, 33, 34, 49, 50, 51, 52, 53, 54, 26, 27] (.seq (.reg [un (.ld 55 1 true (.t 6)),
 un (.st 1 (.t 4) (.t 55)),
 un (.asg 5 (.c (.bool true)))])
 (.drop [55] .ret)))))))))
abbrev Aaa : List RS := [.c 4 1 true, .t 5]
theorem Zh : Aw Try.prog I2 56 Aab Aaa = true := by kernel_rfl
def U3 : ACode :=
 (.seq (.reg [un (.box 2 (.t 0)),
 un (.asg 4 (.c (.nilsl 1))),
 un (.asg 5 (.c (.bool false)))])
 (.seq (.seq (.reg [un (.ld 6 1 true (.t 2)),
 un (.mov 7 (.t 1)),
 un (.call 8 Nx [((.t 6), false), ((.t 7), false)]),
 un (.un 9 .not (.t 8)),
 un (.asg 10 (.t 9)),
 ⟨some (10, false), .mov 11 (.t 1)⟩,
 ⟨some (10, false), .len 12 (.t 11)⟩,
 ⟨some (10, false), .bin 13 .eql (.t 12) (.c (.int .i64 0))⟩,
 un (.pick 14 (.t 10) (.c (.bool true)) (.t 13))])
 (.drop [6, 7, 8, 9, 10, 11, 12, 13] (.cond (.t 14) (.seq (.reg [un (.bsl 15 1 []),
 un (.asg 4 (.t 15)),
 un (.asg 5 (.c (.bool false)))])
 (.drop [15] .ret))
 .skip)))
 (.drop [6, 7, 8, 9, 10, 11, 12, 13, 14, 15] (.seq (.reg [un (.ld 16 1 true (.t 2)),
 un (.mov 17 (.t 1)),
 un (.call 18 Jc [((.t 16), false), ((.t 17), false)]),
 un (.asg 4 (.t 18)),
 un (.asg 5 (.c (.bool true)))])
 (.drop [16, 17, 18] .ret)))))
abbrev U4 : List RS := [.t 4, .t 5]
theorem U7 : Aw Try.prog Hh 19 U3 U4 = true := by kernel_rfl
def Yd : ACode :=
 (.reg [un (.mov 21 (.t 5)),
 un (.mov 22 (.t 4)),
 un (.call 23 Qi [((.t 21), false), ((.t 22), false)]),
 un (.asg 24 (.t 23)),
 ⟨some (24, true), .mov 25 (.t 0)⟩,
 ⟨some (24, true), .call 26 Cz [((.t 25), true), ((.c (.int .i64 2)), false)]⟩,
 un (.pick 27 (.t 24) (.t 26) (.c (.bool false)))])
def M9 : ACode :=
 (.seq (.seq (.reg [un (.mov 30 (.t 7)),
 un (.mov 31 (.t 6)),
 un (.len 32 (.t 31)),
 un (.bin 33 .lss (.t 30) (.t 32))])
 (.drop [30, 31, 32] (.cond (.t 33) .skip
 (.exit 0))))
 (.drop [30, 31, 32, 33] (.seq (.block 1 (.dreg [(un (.mov 36 (.t 6)), []),
 (un (.mov 37 (.t 7)), [36]),
 (un (.mov 38 (.t 5)), [36, 37]),
 (un (.mov 39 (.t 6)), [36, 37, 38]),
 (un (.mov 40 (.t 7)), [36, 37, 38, 39]),
 (un (.iad 41 2 (.t 39) (.t 40)), [36, 37, 38]),
 (un (.aad 42 1 2 (.t 41) (.c (.int .i64 0))), [36, 37, 38]),
 (un (.ld 43 1 false (.t 42)), [36, 37, 38]),
 (un (.iad 44 1 (.t 38) (.t 43)), [36, 37]),
 (un (.ld 45 1 false (.t 44)), [36, 37]),
 (un (.mov 46 (.t 5)), [36, 37, 38, 39, 40, 41, 42, 43, 44, 45]),
 (un (.mov 47 (.t 6)), [36, 37, 38, 39, 40, 41, 42, 43, 44, 45, 46]),
 (un (.mov 48 (.t 7)), [36, 37, 38, 39, 40, 41, 42, 43, 44, 45, 46, 47]),
 (un (.iad 49 2 (.t 47) (.t 48)), [36, 37, 38, 39, 40, 41, 42, 43, 44, 45, 46]),
 (un (.aad 50 1 2 (.t 49) (.c (.int .i64 1))), [36, 37, 38, 39, 40, 41, 42, 43, 44, 45, 46]),
 (un (.ld 51 1 false (.t 50)), [36, 37, 38, 39, 40, 41, 42, 43, 44, 45, 46]),
 (un (.iad 52 1 (.t 46) (.t 51)), [36, 37, 38, 39, 40, 41, 42, 43, 44, 45]),
 (un (.ld 53 1 false (.t 52)), [36, 37, 38, 39, 40, 41, 42, 43, 44, 45]),
 (un (.bld 54 [.int .i64 0, .int .i64 0] [(0, 1, (.t 45)), (1, 1, (.t 53))]), [36, 37])]
 [un (.iad 55 2 (.t 36) (.t 37)),
 un (.st 2 (.t 55) (.t 54))]))
 (.drop [36, 37, 38, 39, 40, 41, 42, 43, 44, 45, 46, 47, 48, 49, 50, 51, 52, 53, 54, 55] (.reg [un (.mov 34 (.t 7)),
 un (.bin 35 .add (.t 34) (.c (.int .i64 1))),
 un (.asg 7 (.t 35))])))))
def Adt : ACode :=
 (.seq (.reg [un (.alc 2 (.agg [.nilsl 1]))])
 (.seq (.seq (.reg [un (.mov 8 (.t 0)),
 un (.call 9 Cz [((.t 8), true), ((.c (.int .i64 10)), false)])])
 (.drop [8] (.cond (.t 9) (.seq (.reg [un (.mov 10 (.t 0)),
 un (.call 11 M4 [((.t 10), true)]),
 un (.st 1 (.t 2) (.t 11))])
 (.drop [10, 11] .ret))
 .skip)))
 (.drop [8, 9, 10, 11] (.seq (.reg [un (.mov 12 (.t 0)),
 un (.call 13 Be [((.t 12), true), ((.c (.int .i64 12)), false)]),
 un (.call 14 R6 [((.t 13), false)]),
 un (.alc 3 (.agg [.nilsl 1])),
 un (.st 1 (.t 3) (.t 14))])
 (.drop [12, 13, 14] (.seq (.reg [un (.fadr 15 0 (.t 3)),
 un (.ld 16 1 false (.t 15)),
 un (.len 17 (.t 16)),
 un (.asg 4 (.t 17))])
 (.drop [15, 16, 17] (.seq (.seq (.reg [un (.mov 18 (.t 0)),
 un (.mov 19 (.t 4)),
 un (.call 20 Ie [((.t 18), true), ((.t 19), false)]),
 un (.asg 5 (.t 20))])
 (.drop [18, 19, 20] (.seq (.cut Yd)
 (.drop [21, 22, 23, 24, 25, 26] (.cond (.t 27) (.seq (.reg [un (.ld 28 1 true (.t 3)),
 un (.call 29 Se [((.t 28), false)]),
 un (.asg 6 (.t 29))])
 (.drop [28, 29] (.seq (.seq (.reg [un (.asg 7 (.c (.int .i64 0)))])
 (.block 0 (.loop M9)))
 (.drop [7, 30, 31, 32, 33, 36, 37, 38, 39, 40, 41, 42, 43, 44, 45, 46, 47, 48, 49, 50, 51, 52, 53, 54, 55, 34, 35] (.reg [un (.mov 56 (.t 4)),
 un (.mov 57 (.t 6)),
 un (.call 58 Bg [((.t 56), false), ((.t 57), false)]),
 un (.st 1 (.t 3) (.t 58))])))))
 .skip)))))
 (.drop [18, 19, 20, 5, 21, 22, 23, 24, 25, 26, 27, 28, 29, 6, 7, 30, 31, 32, 33, 36, 37, 38, 39, 40, 41, 42, 43, 44, 45, 46, 47, 48, 49, 50, 51, 52, 53, 54, 55, 34, 35, 56, 57, 58] (.seq (.reg [un (.ld 59 1 true (.t 3)),
 un (.st 1 (.t 2) (.t 59))])
 (.drop [59] .ret)))))))))))
abbrev Abu : List RS := [.c 2 1 true]
theorem Ad2 : Aw Try.prog Hz 60 Adt Abu = true := by kernel_rfl
def Afu : ACode :=
 (.seq (.reg [un (.box 3 (.t 1)),
 un (.asg 4 (.c (.nilsl 1)))])
 (.seq (.reg [un (.mov 6 (.t 0)),
 un (.ld 7 1 true (.t 3)),
 un (.call 8 G5 [((.t 6), true), ((.t 7), false)]),
 un (.asg 5 (.t 8))])
 (.drop [6, 7, 8] (.seq (.seq (.frz [5] (.reg [un (.ld 9 1 true (.t 3)),
 un (.mov 10 (.t 5)),
 un (.call 11 Nx [((.t 9), false), ((.t 10), false)]),
 un (.asg 12 (.t 11)),
 ⟨some (12, true), .mov 13 (.t 5)⟩,
 ⟨some (12, true), .len 14 (.t 13)⟩,
 ⟨some (12, true), .bin 15 .gtr (.t 14) (.c (.int .i64 0))⟩,
 un (.pick 16 (.t 12) (.t 15) (.c (.bool false))),
 un (.asg 17 (.t 16)),
 ⟨some (17, true), .mov 18 (.t 0)⟩,
 ⟨some (17, true), .call 19 Cz [((.t 18), true), ((.c (.int .i64 8)), false)]⟩,
 ⟨some (17, true), .un 20 .not (.t 19)⟩,
 un (.pick 21 (.t 17) (.t 20) (.c (.bool false)))]))
 (.drop [9, 10, 11, 12, 13, 14, 15, 16, 17, 18, 19, 20] (.cond (.t 21) (.seq (.reg [un (.ld 22 1 true (.t 3)),
 un (.mov 23 (.t 5)),
 un (.call 24 Jc [((.t 22), false), ((.t 23), false)]),
 un (.asg 4 (.t 24))])
 (.drop [22, 23, 24] .ret))
 .skip)))
 (.drop [9, 10, 11, 12, 13, 14, 15, 16, 17, 18, 19, 20, 21, 22, 23, 24] (.seq (.reg [un (.mov 25 (.t 5)),
 un (.asg 4 (.t 25))])
 (.drop [25] .ret)))))))
abbrev Afa : List RS := [.t 4]
theorem Agu : Aw Try.prog My 26 Afu Afa = true := by kernel_rfl
def Xo : ACode :=
 (.seq (.reg [un (.alc 2 (.agg [.nilsl 1])),
 un (.asg 3 (.c (.nilsl 1)))])
 (.seq (.reg [un (.mov 6 (.t 0)),
 un (.bld 7 [.nilsl 1, .int .i64 0, .int .u64 0] [(0, 1, (.t 6))]),
 un (.box 8 (.t 7)),
 un (.asg 4 (.t 8))])
 (.drop [6, 7, 8] (.seq (.reg [un (.mov 9 (.t 4)),
 un (.call 10 Hz [((.t 9), true)]),
 un (.alc 5 (.agg [.nilsl 1])),
 un (.st 1 (.t 5) (.t 10))])
 (.drop [9, 10] (.seq (.dreg [(un (.ld 11 1 true (.t 5)), [4]),
 (un (.mov 12 (.t 4)), [11]),
 (un (.ld 13 1 true (.t 5)), [11, 12]),
 (un (.call 14 My [((.t 12), true), ((.t 13), false)]), [4, 11])]
 [un (.st 1 (.t 2) (.t 11)),
 un (.asg 3 (.t 14))])
 (.drop [11, 12, 13, 14] .ret)))))))
abbrev Y1 : List RS := [.c 2 1 true, .t 3]
theorem Yf : Aw Try.prog Ij 15 Xo Y1 = true := by kernel_rfl
def Afw : ACode :=
 (.seq (.reg [un (.alc 2 (.agg [.nilsl 1])),
 un (.asg 3 (.c (.nilsl 1)))])
 (.seq (.reg [un (.mov 6 (.t 0)),
 un (.bld 7 [.nilsl 1, .int .i64 0, .int .u64 0] [(0, 1, (.t 6))]),
 un (.box 8 (.t 7)),
 un (.asg 4 (.t 8))])
 (.drop [6, 7, 8] (.seq (.reg [un (.mov 9 (.t 4)),
 un (.call 10 Hz [((.t 9), true)]),
 un (.alc 5 (.agg [.nilsl 1])),
 un (.st 1 (.t 5) (.t 10))])
 (.drop [9, 10] (.seq (.dreg [(un (.ld 11 1 true (.t 5)), [4]),
 (un (.mov 12 (.t 4)), [11]),
 (un (.ld 13 1 true (.t 5)), [11, 12]),
 (un (.call 14 G5 [((.t 12), true), ((.t 13), false)]), [4, 11])]
 [un (.st 1 (.t 2) (.t 11)),
 un (.asg 3 (.t 14))])
 (.drop [11, 12, 13, 14] .ret)))))))
abbrev Afg : List RS := [.c 2 1 true, .t 3]
theorem Agb : Aw Try.prog Mw 15 Afw Afg = true := by kernel_rfl
def Rz : ACode :=
 (.seq (.reg [un (.alc 2 (.agg [.nilsl 1])),
 un (.asg 3 (.c (.nilsl 1)))])
 (.seq (.reg [un (.mov 4 (.t 0)),
 un (.call 5 Mw [((.t 4), false)]),
 un (.ext 6 (.t 5) 0),
 un (.ext 7 (.t 5) 1),
 un (.st 1 (.t 2) (.t 6)),
 un (.asg 3 (.t 7))])
 (.drop [4, 5, 6, 7] .ret)))
abbrev Rx : List RS := [.c 2 1 true, .t 3]
theorem Q5 : Aw Try.prog Fl 8 Rz Rx = true := by kernel_rfl
def Xm : ACode :=
 (.seq (.reg [un (.ld 49 1 true (.t 3)),
 un (.mov 50 (.t 4)),
 un (.call 51 Lu [((.t 49), false), ((.t 50), false)]),
 un (.asg 48 (.t 51)),
 un (.ext 52 (.t 48) 0),
 un (.ext 53 (.t 48) 1),
 un (.asg 7 (.t 52)),
 un (.asg 8 (.t 53))])
 (.drop [49, 50, 51, 48, 52, 53] (.seq (.reg [un (.mov 54 (.t 5)),
 un (.mov 55 (.t 7)),
 un (.binb 56 .neq (.t 54) (.t 55)),
 un (.asg 57 (.t 56)),
 ⟨some (57, false), .mov 58 (.t 6)⟩,
 ⟨some (57, false), .mov 59 (.t 8)⟩,
 ⟨some (57, false), .binb 60 .neq (.t 58) (.t 59)⟩,
 un (.pick 61 (.t 57) (.c (.bool true)) (.t 60))])
 (.drop [54, 55, 56, 57, 58, 59, 60] (.cond (.t 61) (.seq (.reg [un (.asg 2 (.c (.bool false)))])
 .ret)
 .skip)))))
def Yg : ACode :=
 (.seq (.reg [un (.ld 69 1 true (.t 3)),
 un (.mov 70 (.t 4)),
 un (.call 71 I2 [((.t 69), false), ((.t 70), false)]),
 un (.asg 68 (.t 71)),
 un (.ext 72 (.t 68) 0),
 un (.ext 73 (.t 68) 1),
 un (.alc 11 (.agg [.nilsl 1])),
 un (.st 1 (.t 11) (.t 72)),
 un (.asg 12 (.t 73))])
 (.drop [69, 70, 71, 68, 72, 73] (.seq (.reg [un (.mov 74 (.t 10)),
 un (.mov 75 (.t 12)),
 un (.binb 76 .neq (.t 74) (.t 75)),
 un (.asg 77 (.t 76)),
 ⟨some (77, false), .mov 78 (.t 10)⟩,
 ⟨some (77, false), .mov 79 (.t 6)⟩,
 ⟨some (77, false), .asg 80 (.t 79)⟩,
 ⟨some (80, true), .mov 81 (.t 5)⟩,
 ⟨some (77, false), .pick 82 (.t 80) (.t 81) (.c (.bool false))⟩,
 ⟨some (77, false), .binb 83 .neq (.t 78) (.t 82)⟩,
 un (.pick 84 (.t 77) (.c (.bool true)) (.t 83)),
 un (.asg 85 (.t 84)),
 ⟨some (85, false), .fadr 86 0 (.t 9)⟩,
 ⟨some (85, false), .ld 87 1 false (.t 86)⟩,
 ⟨some (85, false), .fadr 88 0 (.t 11)⟩,
 ⟨some (85, false), .ld 89 1 false (.t 88)⟩,
 ⟨some (85, false), .call 90 Wv [((.t 87), false), ((.t 89), false)]⟩,
 ⟨some (85, false), .un 91 .not (.t 90)⟩,
 un (.pick 92 (.t 85) (.c (.bool true)) (.t 91))])
 (.drop [74, 75, 76, 77, 78, 79, 80, 81, 82, 83, 84, 85, 86, 87, 88, 89, 90, 91] (.cond (.t 92) (.seq (.reg [un (.asg 2 (.c (.bool false)))])
 .ret)
 .skip)))))
def Np : ACode :=
 (.seq (.seq (.reg [un (.mov 103 (.t 14)),
 un (.mov 104 (.t 4)),
 un (.len 105 (.t 104)),
 un (.bin 106 .lss (.t 103) (.t 105))])
 (.drop [103, 104, 105] (.cond (.t 106) .skip
 (.exit 2))))
 (.drop [103, 104, 105, 106] (.seq (.block 3 (.seq (.reg [un (.ld 110 1 true (.t 9)),
 un (.mov 111 (.t 13)),
 un (.mov 112 (.t 14)),
 un (.call 113 Qr [((.t 110), false), ((.t 111), false), ((.t 112), false)]),
 un (.asg 109 (.t 113)),
 un (.ext 114 (.t 109) 0),
 un (.ext 115 (.t 109) 1),
 un (.asg 15 (.t 114)),
 un (.asg 16 (.t 115))])
 (.drop [110, 111, 112, 113, 109, 114, 115] (.seq (.dreg [(un (.ld 117 1 true (.t 3)), []),
 (un (.mov 118 (.t 4)), [117]),
 (un (.mov 119 (.t 13)), [117, 118]),
 (un (.iad 120 1 (.t 118) (.t 119)), [117]),
 (un (.ld 121 1 false (.t 120)), [117]),
 (un (.mov 122 (.t 4)), [117, 118, 119, 120, 121]),
 (un (.mov 123 (.t 14)), [117, 118, 119, 120, 121, 122]),
 (un (.iad 124 1 (.t 122) (.t 123)), [117, 118, 119, 120, 121]),
 (un (.ld 125 1 false (.t 124)), [117, 118, 119, 120, 121]),
 (un (.call 126 Qr [((.t 117), false), ((.t 121), false), ((.t 125), false)]), []),
 (un (.asg 116 (.t 126)), []),
 (un (.ext 127 (.t 116) 0), [126]),
 (un (.ext 128 (.t 116) 1), [127, 126, 127])]
 [un (.asg 17 (.t 127)),
 un (.asg 18 (.t 128))])
 (.drop [117, 118, 119, 120, 121, 122, 123, 124, 125, 126, 116, 127, 128] (.seq (.reg [un (.mov 129 (.t 16)),
 un (.un 130 .not (.t 129)),
 un (.asg 131 (.t 130)),
 ⟨some (131, false), .mov 132 (.t 18)⟩,
 ⟨some (131, false), .un 133 .not (.t 132)⟩,
 un (.pick 134 (.t 131) (.c (.bool true)) (.t 133)),
 un (.asg 135 (.t 134)),
 ⟨some (135, false), .mov 136 (.t 15)⟩,
 ⟨some (135, false), .bin 137 .lss (.t 136) (.c (.int .i64 0))⟩,
 un (.pick 138 (.t 135) (.c (.bool true)) (.t 137)),
 un (.asg 139 (.t 138)),
 ⟨some (139, false), .mov 140 (.t 15)⟩,
 ⟨some (139, false), .mov 141 (.t 4)⟩,
 ⟨some (139, false), .len 142 (.t 141)⟩,
 ⟨some (139, false), .bin 143 .geq (.t 140) (.t 142)⟩,
 un (.pick 144 (.t 139) (.c (.bool true)) (.t 143)),
 un (.asg 145 (.t 144)),
 ⟨some (145, false), .mov 146 (.t 4)⟩,
 ⟨some (145, false), .mov 147 (.t 15)⟩,
 ⟨some (145, false), .iad 148 1 (.t 146) (.t 147)⟩,
 ⟨some (145, false), .ld 149 1 false (.t 148)⟩,
 ⟨some (145, false), .mov 150 (.t 17)⟩,
 ⟨some (145, false), .bin 151 .neq (.t 149) (.t 150)⟩,
 un (.pick 152 (.t 145) (.c (.bool true)) (.t 151))])
 (.drop [129, 130, 131, 132, 133, 134, 135, 136, 137, 138, 139, 140, 141, 142, 143, 144, 145, 146, 147, 148, 149, 150, 151] (.cond (.t 152) (.seq (.reg [un (.asg 2 (.c (.bool false)))])
 .ret)
 .skip))))))))
 (.drop [110, 111, 112, 113, 109, 114, 115, 15, 16, 117, 118, 119, 120, 121, 122, 123, 124, 125, 126, 116, 127, 128, 17, 18, 129, 130, 131, 132, 133, 134, 135, 136, 137, 138, 139, 140, 141, 142, 143, 144, 145, 146, 147, 148, 149, 150, 151, 152] (.reg [un (.mov 107 (.t 14)),
 un (.bin 108 .add (.t 107) (.c (.int .i64 1))),
 un (.asg 14 (.t 108))])))))
def Nh : ACode :=
 (.seq (.seq (.reg [un (.mov 97 (.t 13)),
 un (.mov 98 (.t 4)),
 un (.len 99 (.t 98)),
 un (.bin 100 .lss (.t 97) (.t 99))])
 (.drop [97, 98, 99] (.cond (.t 100) .skip
 (.exit 0))))
 (.drop [97, 98, 99, 100] (.seq (.block 1 (.seq (.reg [un (.asg 14 (.c (.int .i64 0)))])
 (.block 2 (.loop Np))))
 (.drop [14, 103, 104, 105, 106, 110, 111, 112, 113, 109, 114, 115, 15, 16, 117, 118, 119, 120, 121, 122, 123, 124, 125, 126, 116, 127, 128, 17, 18, 129, 130, 131, 132, 133, 134, 135, 136, 137, 138, 139, 140, 141, 142, 143, 144, 145, 146, 147, 148, 149, 150, 151, 152, 107, 108] (.reg [un (.mov 101 (.t 13)),
 un (.bin 102 .add (.t 101) (.c (.int .i64 1))),
 un (.asg 13 (.t 102))])))))
def X6 : ACode :=
 (.seq (.reg [un (.mov 93 (.t 10))])
 (.cond (.t 93) (.seq (.seq (.reg [un (.ld 94 1 true (.t 9)),
 un (.call 95 Pr [((.t 94), false)]),
 un (.un 96 .not (.t 95))])
 (.drop [94, 95] (.cond (.t 96) (.seq (.reg [un (.asg 2 (.c (.bool false)))])
 .ret)
 .skip)))
 (.drop [94, 95, 96] (.seq (.reg [un (.asg 13 (.c (.int .i64 0)))])
 (.block 0 (.loop Nh)))))
 .skip))
def Yj : ACode :=
 (.reg [un (.mov 158 (.t 6)),
 un (.asg 159 (.t 158)),
 ⟨some (159, true), .mov 160 (.t 20)⟩,
 un (.pick 161 (.t 159) (.t 160) (.c (.bool false)))])
def Yi : ACode :=
 (.seq (.reg [un (.ld 163 1 true (.t 3)),
 un (.call 164 Ju [((.t 163), false)]),
 un (.asg 162 (.t 164)),
 un (.ext 165 (.t 162) 0),
 un (.ext 166 (.t 162) 1),
 un (.alc 21 (.agg [.int .i64 0, .nilsl 2])),
 un (.st 2 (.t 21) (.t 165)),
 un (.asg 22 (.t 166))])
 (.drop [163, 164, 162, 165, 166] (.seq (.reg [un (.mov 167 (.t 20)),
 un (.mov 168 (.t 22)),
 un (.binb 169 .neq (.t 167) (.t 168)),
 un (.asg 170 (.t 169)),
 ⟨some (170, false), .ld 171 2 true (.t 19)⟩,
 ⟨some (170, false), .ld 172 2 true (.t 21)⟩,
 ⟨some (170, false), .call 173 R5 [((.t 171), false), ((.t 172), false)]⟩,
 ⟨some (170, false), .un 174 .not (.t 173)⟩,
 un (.pick 175 (.t 170) (.c (.bool true)) (.t 174))])
 (.drop [167, 168, 169, 170, 171, 172, 173, 174] (.cond (.t 175) (.seq (.reg [un (.asg 2 (.c (.bool false)))])
 .ret)
 .skip)))))
def Ys : ACode :=
 (.seq (.reg [un (.ld 154 1 true (.t 3)),
 un (.call 155 Jz [((.t 154), false)]),
 un (.asg 153 (.t 155)),
 un (.ext 156 (.t 153) 0),
 un (.ext 157 (.t 153) 1),
 un (.alc 19 (.agg [.int .i64 0, .nilsl 2])),
 un (.st 2 (.t 19) (.t 156)),
 un (.asg 20 (.t 157))])
 (.drop [154, 155, 153, 156, 157] (.seq (.cut Yj)
 (.drop [158, 159, 160] (.cond (.t 161) (.seq (.cut Yi)
 (.drop [163, 164, 162, 165, 166, 21, 22, 167, 168, 169, 170, 171, 172, 173, 174, 175] (.seq (.reg [un (.ld 177 2 true (.t 19)),
 un (.mov 178 (.t 4)),
 un (.call 179 K7 [((.t 177), false), ((.t 178), false)]),
 un (.asg 176 (.t 179)),
 un (.ext 180 (.t 176) 0),
 un (.ext 181 (.t 176) 1),
 un (.asg 23 (.t 180)),
 un (.asg 24 (.t 181))])
 (.drop [177, 178, 179, 176, 180, 181] (.seq (.reg [un (.ld 183 2 true (.t 19)),
 un (.mov 184 (.t 4)),
 un (.call 185 Ke [((.t 183), false), ((.t 184), false)]),
 un (.asg 182 (.t 185)),
 un (.ext 186 (.t 182) 0),
 un (.ext 187 (.t 182) 1),
 un (.asg 25 (.t 186)),
 un (.asg 26 (.t 187))])
 (.drop [183, 184, 185, 182, 186, 187] (.seq (.reg [un (.mov 188 (.t 23)),
 un (.mov 189 (.t 25)),
 un (.binb 190 .neq (.t 188) (.t 189)),
 un (.asg 191 (.t 190)),
 ⟨some (191, false), .mov 192 (.t 24)⟩,
 ⟨some (191, false), .mov 193 (.t 26)⟩,
 ⟨some (191, false), .binb 194 .neq (.t 192) (.t 193)⟩,
 un (.pick 195 (.t 191) (.c (.bool true)) (.t 194)),
 un (.asg 196 (.t 195)),
 ⟨some (196, false), .mov 197 (.t 24)⟩,
 ⟨some (196, false), .un 198 .not (.t 197)⟩,
 un (.pick 199 (.t 196) (.c (.bool true)) (.t 198)),
 un (.asg 200 (.t 199)),
 ⟨some (200, false), .mov 201 (.t 5)⟩,
 ⟨some (200, false), .mov 202 (.t 23)⟩,
 ⟨some (200, false), .asg 203 (.t 202)⟩,
 ⟨some (203, true), .mov 204 (.t 4)⟩,
 ⟨some (203, true), .len 205 (.t 204)⟩,
 ⟨some (203, true), .bin 206 .gtr (.t 205) (.c (.int .i64 0))⟩,
 ⟨some (200, false), .pick 207 (.t 203) (.t 206) (.c (.bool false))⟩,
 ⟨some (200, false), .binb 208 .neq (.t 201) (.t 207)⟩,
 un (.pick 209 (.t 200) (.c (.bool true)) (.t 208))])
 (.drop [188, 189, 190, 191, 192, 193, 194, 195, 196, 197, 198, 199, 200, 201, 202, 203, 204, 205, 206, 207, 208] (.cond (.t 209) (.seq (.reg [un (.asg 2 (.c (.bool false)))])
 .ret)
 .skip)))))))))
 .skip)))))
def Yk : ACode :=
 (.seq (.reg [un (.ld 222 1 true (.t 27)),
 un (.mov 223 (.t 28)),
 un (.call 224 Hh [((.t 222), false), ((.t 223), false)]),
 un (.asg 221 (.t 224)),
 un (.ext 225 (.t 221) 0),
 un (.ext 226 (.t 221) 1),
 un (.asg 31 (.t 225)),
 un (.asg 32 (.t 226))])
 (.drop [222, 223, 224, 221, 225, 226] (.seq (.reg [un (.mov 227 (.t 30)),
 un (.mov 228 (.t 32)),
 un (.binb 229 .neq (.t 227) (.t 228)),
 un (.asg 230 (.t 229)),
 ⟨some (230, false), .mov 231 (.t 29)⟩,
 ⟨some (230, false), .mov 232 (.t 31)⟩,
 ⟨some (230, false), .call 233 N7 [((.t 231), false), ((.t 232), false)]⟩,
 ⟨some (230, false), .un 234 .not (.t 233)⟩,
 un (.pick 235 (.t 230) (.c (.bool true)) (.t 234))])
 (.drop [227, 228, 229, 230, 231, 232, 233, 234] (.cond (.t 235) (.seq (.reg [un (.asg 2 (.c (.bool false)))])
 .ret)
 .skip)))))
def Ac6 : ACode :=
 (.seq (.reg [un (.asg 2 (.c (.bool false)))])
 (.seq (.seq (.reg [un (.mov 35 (.t 0)),
 un (.call 36 Ab9 [((.t 35), false)])])
 (.drop [35] (.cond (.t 36) (.seq (.reg [un (.asg 2 (.c (.bool true)))])
 .ret)
 .skip)))
 (.drop [35, 36] (.seq (.reg [un (.mov 38 (.t 0)),
 un (.call 39 Ij [((.t 38), false)]),
 un (.asg 37 (.t 39)),
 un (.ext 40 (.t 37) 0),
 un (.ext 41 (.t 37) 1),
 un (.alc 3 (.agg [.nilsl 1])),
 un (.st 1 (.t 3) (.t 40)),
 un (.asg 4 (.t 41))])
 (.drop [38, 39, 37, 40, 41] (.seq (.reg [un (.ld 43 1 true (.t 3)),
 un (.mov 44 (.t 4)),
 un (.call 45 Ig [((.t 43), false), ((.t 44), false)]),
 un (.asg 42 (.t 45)),
 un (.ext 46 (.t 42) 0),
 un (.ext 47 (.t 42) 1),
 un (.asg 5 (.t 46)),
 un (.asg 6 (.t 47))])
 (.drop [43, 44, 45, 42, 46, 47] (.seq (.cut Xm)
 (.drop [49, 50, 51, 48, 52, 53, 7, 8, 54, 55, 56, 57, 58, 59, 60, 61] (.seq (.reg [un (.ld 63 1 true (.t 3)),
 un (.mov 64 (.t 4)),
 un (.call 65 I4 [((.t 63), false), ((.t 64), false)]),
 un (.asg 62 (.t 65)),
 un (.ext 66 (.t 62) 0),
 un (.ext 67 (.t 62) 1),
 un (.alc 9 (.agg [.nilsl 1])),
 un (.st 1 (.t 9) (.t 66)),
 un (.asg 10 (.t 67))])
 (.drop [63, 64, 65, 62, 66, 67] (.seq (.cut Yg)
 (.drop [69, 70, 71, 68, 72, 73, 11, 12, 74, 75, 76, 77, 78, 79, 80, 81, 82, 83, 84, 85, 86, 87, 88, 89, 90, 91, 92] (.seq (.cut X6)
 (.drop [93, 94, 95, 96, 13, 97, 98, 99, 100, 14, 103, 104, 105, 106, 110, 111, 112, 113, 109, 114, 115, 15, 16, 117, 118, 119, 120, 121, 122, 123, 124, 125, 126, 116, 127, 128, 17, 18, 129, 130, 131, 132, 133, 134, 135, 136, 137, 138, 139, 140, 141, 142, 143, 144, 145, 146, 147, 148, 149, 150, 151, 152, 107, 108, 101, 102] (.seq (.cut Ys)
 (.drop [154, 155, 153, 156, 157, 19, 20, 158, 159, 160, 161, 163, 164, 162, 165, 166, 21, 22, 167, 168, 169, 170, 171, 172, 173, 174, 175, 177, 178, 179, 176, 180, 181, 23, 24, 183, 184, 185, 182, 186, 187, 25, 26, 188, 189, 190, 191, 192, 193, 194, 195, 196, 197, 198, 199, 200, 201, 202, 203, 204, 205, 206, 207, 208, 209] (.seq (.reg [un (.mov 211 (.t 0)),
 un (.call 212 Fl [((.t 211), false)]),
 un (.asg 210 (.t 212)),
 un (.ext 213 (.t 210) 0),
 un (.ext 214 (.t 210) 1),
 un (.alc 27 (.agg [.nilsl 1])),
 un (.st 1 (.t 27) (.t 213)),
 un (.asg 28 (.t 214))])
 (.drop [211, 212, 210, 213, 214] (.seq (.reg [un (.ld 216 1 true (.t 27)),
 un (.mov 217 (.t 28)),
 un (.call 218 Hf [((.t 216), false), ((.t 217), false)]),
 un (.asg 215 (.t 218)),
 un (.ext 219 (.t 215) 0),
 un (.ext 220 (.t 215) 1),
 un (.asg 29 (.t 219)),
 un (.asg 30 (.t 220))])
 (.drop [216, 217, 218, 215, 219, 220] (.seq (.cut Yk)
 (.drop [222, 223, 224, 221, 225, 226, 31, 32, 227, 228, 229, 230, 231, 232, 233, 234, 235] (.seq (.seq (.reg [un (.mov 236 (.t 30))])
 (.cond (.t 236) (.seq (.reg [un (.ld 238 1 true (.t 27)),
 un (.mov 239 (.t 29)),
 un (.call 240 Ig [((.t 238), false), ((.t 239), false)]),
 un (.asg 237 (.t 240)),
 un (.ext 241 (.t 237) 0),
 un (.ext 242 (.t 237) 1),
 un (.asg 33 (.t 241)),
 un (.asg 34 (.t 242))])
 (.drop [238, 239, 240, 237, 241, 242] (.seq (.reg [un (.mov 243 (.t 34)),
 un (.un 244 .not (.t 243)),
 un (.asg 245 (.t 244)),
 ⟨some (245, false), .mov 246 (.t 33)⟩,
 ⟨some (245, false), .un 247 .not (.t 246)⟩,
 un (.pick 248 (.t 245) (.c (.bool true)) (.t 247)),
 un (.asg 249 (.t 248)),
 ⟨some (249, false), .mov 250 (.t 28)⟩,
 ⟨some (249, false), .mov 251 (.t 29)⟩,
 ⟨some (249, false), .call 252 T8 [((.t 250), false), ((.t 251), false)]⟩,
 ⟨some (249, false), .un 253 .not (.t 252)⟩,
 un (.pick 254 (.t 249) (.c (.bool true)) (.t 253))])
 (.drop [243, 244, 245, 246, 247, 248, 249, 250, 251, 252, 253] (.cond (.t 254) (.seq (.reg [un (.asg 2 (.c (.bool false)))])
 .ret)
 .skip)))))
 .skip))
 (.drop [236, 238, 239, 240, 237, 241, 242, 33, 34, 243, 244, 245, 246, 247, 248, 249, 250, 251, 252, 253, 254] (.seq (.reg [un (.asg 2 (.c (.bool true)))])
 .ret))))))))))))))))))))))))))
abbrev Adx : List RS := [.t 2]
theorem Abx : Aw Try.prog Q8 255 Ac6 Adx = true := by kernel_rfl
end Go.Proofs.Ytoikbcagaanhgaa.Ax
