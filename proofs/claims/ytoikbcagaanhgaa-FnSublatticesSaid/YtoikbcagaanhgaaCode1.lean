/-
  The small code of the functions, written by program; that the program's code is this one, the kernel looks at.
-/
import Derived.Test.YtoikbcagaanhgaaAx3
import Derived.Test.YtoikbcagaanhgaaProg
import Derived.KernelRfl
import Derived.Test.YtoikbcagaanhgaaNum
namespace Go.Proofs.Ytoikbcagaanhgaa.Ax
open Go
set_option maxRecDepth 100000
def Avl : ACode :=
 (.seq (.reg [un (.asg 2 (.c (.bool false)))])
 (.seq (.reg [un (.mov 3 (.t 0)),
 un (.len 4 (.t 3)),
 un (.bin 5 .gtr (.t 4) (.c (.int .i64 65536))),
 un (.asg 2 (.t 5))])
 (.drop [3, 4, 5] .ret)))
abbrev Awd : List RS := [.t 2]
theorem Awx : Aw Try.prog Ab9 6 Avl Awd = true := by kernel_rfl
def Aau : ACode :=
 (.seq (.seq (.reg [un (.mov 11 (.t 5)),
 un (.mov 12 (.t 0)),
 un (.len 13 (.t 12)),
 un (.bin 14 .lss (.t 11) (.t 13))])
 (.drop [11, 12, 13] (.cond (.t 14) .skip
 (.exit 0))))
 (.drop [11, 12, 13, 14] (.seq (.block 1 (.seq (.dreg [(un (.mov 17 (.t 0)), []),
 (un (.mov 18 (.t 5)), [17]),
 (un (.iad 19 1 (.t 17) (.t 18)), []),
 (un (.ld 20 1 false (.t 19)), []),
 (un (.mov 21 (.t 1)), [17, 18, 19, 20]),
 (un (.mov 22 (.t 5)), [17, 18, 19, 20, 21]),
 (un (.iad 23 1 (.t 21) (.t 22)), [17, 18, 19, 20]),
 (un (.ld 24 1 false (.t 23)), [17, 18, 19, 20])]
 [un (.bin 25 .neq (.t 20) (.t 24))])
 (.drop [17, 18, 19, 20, 21, 22, 23, 24] (.cond (.t 25) (.seq (.reg [un (.asg 4 (.c (.bool false)))])
 .ret)
 .skip))))
 (.drop [17, 18, 19, 20, 21, 22, 23, 24, 25] (.reg [un (.mov 15 (.t 5)),
 un (.bin 16 .add (.t 15) (.c (.int .i64 1))),
 un (.asg 5 (.t 16))])))))
def Asz : ACode :=
 (.seq (.reg [un (.asg 4 (.c (.bool false)))])
 (.seq (.seq (.reg [un (.mov 6 (.t 0)),
 un (.len 7 (.t 6)),
 un (.mov 8 (.t 1)),
 un (.len 9 (.t 8)),
 un (.bin 10 .neq (.t 7) (.t 9))])
 (.drop [6, 7, 8, 9] (.cond (.t 10) (.seq (.reg [un (.asg 4 (.c (.bool false)))])
 .ret)
 .skip)))
 (.drop [6, 7, 8, 9, 10] (.seq (.seq (.reg [un (.asg 5 (.c (.int .i64 0)))])
 (.block 0 (.loop Aau)))
 (.drop [5, 11, 12, 13, 14, 17, 18, 19, 20, 21, 22, 23, 24, 25, 15, 16] (.seq (.reg [un (.asg 4 (.c (.bool true)))])
 .ret))))))
abbrev Aub : List RS := [.t 4]
theorem As8 : Aw Try.prog N7 26 Asz Aub = true := by kernel_rfl
def Avh : ACode :=
 (.seq (.reg [un (.asg 6 (.c (.bool false)))])
 (.seq (.reg [un (.mov 7 (.t 0)),
 un (.mov 8 (.t 1)),
 un (.bin 9 .geq (.t 7) (.t 8)),
 un (.asg 10 (.t 9)),
 ⟨some (10, true), .mov 11 (.t 0)⟩,
 ⟨some (10, true), .mov 12 (.t 2)⟩,
 ⟨some (10, true), .bin 13 .leq (.t 11) (.t 12)⟩,
 un (.pick 14 (.t 10) (.t 13) (.c (.bool false))),
 un (.asg 6 (.t 14))])
 (.drop [7, 8, 9, 10, 11, 12, 13, 14] .ret)))
abbrev Axh : List RS := [.t 6]
theorem Av2 : Aw Try.prog Kv 15 Avh Axh = true := by kernel_rfl
def Aas : ACode :=
 (.seq (.seq (.reg [un (.mov 6 (.t 1)),
 un (.bin 7 .gtr (.t 6) (.c (.int .i64 0)))])
 (.drop [6] (.cond (.t 7) .skip
 (.exit 0))))
 (.drop [6, 7] (.seq (.block 1 (.reg [un (.mov 10 (.t 5)),
 un (.mov 11 (.t 0)),
 un (.bin 12 .mul (.t 10) (.t 11)),
 un (.asg 5 (.t 12))]))
 (.drop [10, 11, 12] (.reg [un (.mov 8 (.t 1)),
 un (.bin 9 .sub (.t 8) (.c (.int .i64 1))),
 un (.asg 1 (.t 9))])))))
def Atz : ACode :=
 (.seq (.reg [un (.asg 4 (.c (.int .i64 0)))])
 (.seq (.reg [un (.asg 5 (.c (.int .i64 1)))])
 (.seq (.block 0 (.loop Aas))
 (.drop [6, 7, 10, 11, 12, 8, 9] (.seq (.reg [un (.mov 13 (.t 5)),
 un (.asg 4 (.t 13))])
 (.drop [13] .ret))))))
abbrev Atw : List RS := [.t 4]
theorem Au4 : Aw Try.prog Aad 14 Atz Atw = true := by kernel_rfl
def X7 : ACode :=
 (.seq (.reg [un (.bin 10 .lss (.t 9) (.t 8))])
 (.seq (.cond (.t 10) .skip
 (.exit 0))
 (.seq (.block 1 (.seq (.reg [un (.iad 11 1 (.t 7) (.t 9)),
 un (.ld 12 1 false (.t 11)),
 un (.asg 6 (.t 12))])
 (.drop [11, 12] (.seq (.reg [un (.mov 13 (.t 6)),
 un (.bin 14 .lss (.t 13) (.c (.int .i64 0))),
 un (.asg 15 (.t 14)),
 ⟨some (15, false), .mov 16 (.t 6)⟩,
 ⟨some (15, false), .mov 17 (.t 1)⟩,
 ⟨some (15, false), .bin 18 .geq (.t 16) (.t 17)⟩,
 un (.pick 19 (.t 15) (.c (.bool true)) (.t 18))])
 (.drop [13, 14, 15, 16, 17, 18] (.cond (.t 19) (.seq (.reg [un (.asg 4 (.c (.bool false)))])
 .ret)
 .skip))))))
 (.drop [11, 12, 6, 13, 14, 15, 16, 17, 18, 19] (.reg [un (.bin 20 .add (.t 9) (.c (.int .i64 1))),
 un (.asg 9 (.t 20))])))))
def Ari : ACode :=
 (.seq (.reg [un (.asg 4 (.c (.bool false)))])
 (.seq (.seq (.reg [un (.mov 7 (.t 0)),
 un (.len 8 (.t 7)),
 un (.mov 9 (.c (.int .i64 0)))])
 (.block 0 (.loop X7)))
 (.drop [7, 8, 9, 10, 11, 12, 6, 13, 14, 15, 16, 17, 18, 19, 20] (.seq (.reg [un (.asg 4 (.c (.bool true)))])
 .ret))))
abbrev Ara : List RS := [.t 4]
theorem Aro : Aw Try.prog Jn 21 Ari Ara = true := by kernel_rfl
def Aaw : ACode :=
 (.seq (.seq (.reg [un (.mov 6 (.t 1)),
 un (.bin 7 .gtr (.t 6) (.c (.int .i64 0)))])
 (.drop [6] (.cond (.t 7) .skip
 (.exit 0))))
 (.drop [6, 7] (.seq (.block 1 (.reg [un (.mov 10 (.t 5)),
 un (.mov 11 (.t 0)),
 un (.bin 12 .mul (.t 10) (.t 11)),
 un (.asg 5 (.t 12))]))
 (.drop [10, 11, 12] (.reg [un (.mov 8 (.t 1)),
 un (.bin 9 .sub (.t 8) (.c (.int .i64 1))),
 un (.asg 1 (.t 9))])))))
def Aty : ACode :=
 (.seq (.reg [un (.asg 4 (.c (.int .i64 0)))])
 (.seq (.reg [un (.asg 5 (.c (.int .i64 1)))])
 (.seq (.block 0 (.loop Aaw))
 (.drop [6, 7, 10, 11, 12, 8, 9] (.seq (.reg [un (.mov 13 (.t 5)),
 un (.asg 4 (.t 13))])
 (.drop [13] .ret))))))
abbrev Atj : List RS := [.t 4]
theorem Aup : Aw Try.prog Zk 14 Aty Atj = true := by kernel_rfl
def Xu : ACode :=
 (.seq (.seq (.reg [un (.mov 13 (.t 8)),
 un (.bin 14 .geq (.t 13) (.c (.int .i64 0)))])
 (.drop [13] (.cond (.t 14) .skip
 (.exit 0))))
 (.drop [13, 14] (.seq (.block 1 (.seq (.reg [un (.mov 17 (.t 7)),
 un (.mov 18 (.t 8)),
 un (.mov 19 (.t 2)),
 un (.mov 20 (.t 0)),
 un (.bin 21 .rem (.t 19) (.t 20)),
 un (.iad 22 1 (.t 17) (.t 18)),
 un (.st 1 (.t 22) (.t 21))])
 (.drop [17, 18, 19, 20, 21, 22] (.reg [un (.mov 23 (.t 2)),
 un (.mov 24 (.t 0)),
 un (.bin 25 .quo (.t 23) (.t 24)),
 un (.asg 2 (.t 25))]))))
 (.drop [17, 18, 19, 20, 21, 22, 23, 24, 25] (.reg [un (.mov 15 (.t 8)),
 un (.bin 16 .sub (.t 15) (.c (.int .i64 1))),
 un (.asg 8 (.t 16))])))))
def Aq4 : ACode :=
 (.seq (.reg [un (.asg 6 (.c (.nilsl 1)))])
 (.seq (.reg [un (.mov 9 (.t 1)),
 un (.mk 10 1 (.int .i64 0) (.t 9)),
 un (.asg 7 (.t 10))])
 (.drop [9, 10] (.seq (.seq (.reg [un (.mov 11 (.t 1)),
 un (.bin 12 .sub (.t 11) (.c (.int .i64 1))),
 un (.asg 8 (.t 12))])
 (.drop [11, 12] (.block 0 (.loop Xu))))
 (.drop [11, 12, 8, 13, 14, 17, 18, 19, 20, 21, 22, 23, 24, 25, 15, 16] (.seq (.reg [un (.mov 26 (.t 7)),
 un (.asg 6 (.t 26))])
 (.drop [26] .ret)))))))
abbrev Aqu : List RS := [.t 6]
theorem Ard : Aw Try.prog W6 27 Aq4 Aqu = true := by kernel_rfl
def To : ACode :=
 (.seq (.reg [un (.bin 10 .lss (.t 9) (.t 8))])
 (.seq (.cond (.t 10) .skip
 (.exit 0))
 (.seq (.block 1 (.seq (.reg [un (.mov 11 (.t 9)),
 un (.asg 4 (.t 11))])
 (.drop [11] (.reg [un (.mov 12 (.t 3)),
 un (.mov 13 (.t 4)),
 un (.mov 14 (.t 0)),
 un (.mk 15 1 (.bool false) (.t 14)),
 un (.iad 16 1 (.t 12) (.t 13)),
 un (.st 1 (.t 16) (.t 15))]))))
 (.drop [11, 4, 12, 13, 14, 15, 16] (.reg [un (.bin 17 .add (.t 9) (.c (.int .i64 1))),
 un (.asg 9 (.t 17))])))))
def Alw : ACode :=
 (.seq (.reg [un (.asg 2 (.c (.nilsl 1)))])
 (.seq (.reg [un (.mov 5 (.t 0)),
 un (.mk 6 1 (.nilsl 1) (.t 5)),
 un (.asg 3 (.t 6))])
 (.drop [5, 6] (.seq (.seq (.reg [un (.mov 7 (.t 3)),
 un (.len 8 (.t 7)),
 un (.mov 9 (.c (.int .i64 0)))])
 (.drop [7] (.block 0 (.loop To))))
 (.drop [7, 8, 9, 10, 11, 4, 12, 13, 14, 15, 16, 17] (.seq (.reg [un (.mov 18 (.t 3)),
 un (.asg 2 (.t 18))])
 (.drop [18] .ret)))))))
abbrev Amg : List RS := [.t 2]
theorem Amh : Aw Try.prog Jb 19 Alw Amg = true := by kernel_rfl
def Po : ACode :=
 (.seq (.reg [un (.bin 18 .lss (.t 17) (.t 16))])
 (.seq (.cond (.t 18) .skip
 (.exit 2))
 (.seq (.block 3 (.seq (.reg [un (.mov 19 (.t 17)),
 un (.asg 6 (.t 19))])
 (.drop [19] (.seq (.reg [un (.mov 20 (.t 0)),
 un (.mov 21 (.t 6)),
 un (.iad 22 1 (.t 20) (.t 21)),
 un (.ld 23 1 false (.t 22)),
 un (.mov 24 (.t 4)),
 un (.iad 25 1 (.t 23) (.t 24)),
 un (.ld 26 1 false (.t 25))])
 (.drop [20, 21, 22, 23, 24, 25] (.cond (.t 26) (.reg [un (.mov 27 (.t 5)),
 un (.mov 28 (.t 6)),
 un (.bsl 29 1 [(.t 28)]),
 un (.app 30 1 (.t 27) (.t 29)),
 un (.asg 5 (.t 30))])
 .skip))))))
 (.drop [19, 6, 20, 21, 22, 23, 24, 25, 26, 27, 28, 29, 30] (.reg [un (.bin 31 .add (.t 17) (.c (.int .i64 1))),
 un (.asg 17 (.t 31))])))))
def Pb : ACode :=
 (.seq (.reg [un (.bin 12 .lss (.t 11) (.t 10))])
 (.seq (.cond (.t 12) .skip
 (.exit 0))
 (.seq (.block 1 (.seq (.reg [un (.mov 13 (.t 11)),
 un (.asg 4 (.t 13))])
 (.drop [13] (.seq (.reg [un (.bsl 14 1 []),
 un (.asg 5 (.t 14))])
 (.drop [14] (.seq (.seq (.reg [un (.mov 15 (.t 0)),
 un (.len 16 (.t 15)),
 un (.mov 17 (.c (.int .i64 0)))])
 (.drop [15] (.block 2 (.loop Po))))
 (.drop [15, 16, 17, 18, 19, 6, 20, 21, 22, 23, 24, 25, 26, 27, 28, 29, 30, 31] (.reg [un (.fadr 32 0 (.t 3)),
 un (.ld 33 1 false (.t 32)),
 un (.mov 34 (.t 5)),
 un (.bsl 35 1 [(.t 34)]),
 un (.app 36 1 (.t 33) (.t 35)),
 un (.fadr 37 0 (.t 3)),
 un (.st 1 (.t 37) (.t 36))]))))))))
 (.drop [13, 4, 14, 5, 15, 16, 17, 18, 19, 6, 20, 21, 22, 23, 24, 25, 26, 27, 28, 29, 30, 31, 32, 33, 34, 35, 36, 37] (.reg [un (.bin 38 .add (.t 11) (.c (.int .i64 1))),
 un (.asg 11 (.t 38))])))))
def Agq : ACode :=
 (.seq (.reg [un (.alc 2 (.agg [.nilsl 1]))])
 (.seq (.reg [un (.bsl 7 1 []),
 un (.bld 8 [.nilsl 1] [(0, 1, (.t 7))]),
 un (.alc 3 (.agg [.nilsl 1])),
 un (.st 1 (.t 3) (.t 8))])
 (.drop [7, 8] (.seq (.seq (.reg [un (.mov 9 (.t 0)),
 un (.len 10 (.t 9)),
 un (.mov 11 (.c (.int .i64 0)))])
 (.drop [9] (.block 0 (.loop Pb))))
 (.drop [9, 10, 11, 12, 13, 4, 14, 5, 15, 16, 17, 18, 19, 6, 20, 21, 22, 23, 24, 25, 26, 27, 28, 29, 30, 31, 32, 33, 34, 35, 36, 37, 38] (.seq (.reg [un (.ld 39 1 true (.t 3)),
 un (.st 1 (.t 2) (.t 39))])
 (.drop [39] .ret)))))))
abbrev Af0 : List RS := [.c 2 1 true]
theorem Agl : Aw Try.prog M0 40 Agq Af0 = true := by kernel_rfl
def Q1 : ACode :=
 (.seq (.seq (.reg [un (.mov 40 (.t 11)),
 un (.fadr 41 0 (.t 3)),
 un (.ld 42 1 false (.t 41)),
 un (.mov 43 (.t 8)),
 un (.iad 44 1 (.t 42) (.t 43)),
 un (.ld 45 1 false (.t 44)),
 un (.len 46 (.t 45)),
 un (.bin 47 .lss (.t 40) (.t 46))])
 (.drop [40, 41, 42, 43, 44, 45, 46] (.cond (.t 47) .skip
 (.exit 6))))
 (.drop [40, 41, 42, 43, 44, 45, 46, 47] (.seq (.block 7 (.dreg [(un (.mov 50 (.t 9)), [69]),
 (un (.fadr 51 0 (.t 2)), [50]),
 (un (.ld 52 1 false (.t 51)), [50]),
 (un (.mov 53 (.t 7)), [50, 51, 52]),
 (un (.iad 54 1 (.t 52) (.t 53)), [50]),
 (un (.ld 55 1 false (.t 54)), [50]),
 (un (.mov 56 (.t 10)), [50, 51, 52, 53, 54, 55]),
 (un (.iad 57 1 (.t 55) (.t 56)), [50]),
 (un (.ld 58 1 false (.t 57)), [50]),
 (un (.mov 59 (.t 6)), [50, 51, 52, 53, 54, 55, 56, 57, 58]),
 (un (.bin 60 .mul (.t 58) (.t 59)), [50]),
 (un (.fadr 61 0 (.t 3)), [50, 51, 52, 53, 54, 55, 56, 57, 58, 59, 60]),
 (un (.ld 62 1 false (.t 61)), [50, 51, 52, 53, 54, 55, 56, 57, 58, 59, 60]),
 (un (.mov 63 (.t 8)), [50, 51, 52, 53, 54, 55, 56, 57, 58, 59, 60, 61, 62]),
 (un (.iad 64 1 (.t 62) (.t 63)), [50, 51, 52, 53, 54, 55, 56, 57, 58, 59, 60]),
 (un (.ld 65 1 false (.t 64)), [50, 51, 52, 53, 54, 55, 56, 57, 58, 59, 60]),
 (un (.mov 66 (.t 11)), [50, 51, 52, 53, 54, 55, 56, 57, 58, 59, 60, 61, 62, 63, 64, 65]),
 (un (.iad 67 1 (.t 65) (.t 66)), [50, 51, 52, 53, 54, 55, 56, 57, 58, 59, 60]),
 (un (.ld 68 1 false (.t 67)), [50, 51, 52, 53, 54, 55, 56, 57, 58, 59, 60]),
 (un (.bin 69 .add (.t 60) (.t 68)), [50]),
 (un (.bsl 70 1 [(.t 69)]), [50])]
 [un (.app 71 1 (.t 50) (.t 70)),
 un (.asg 9 (.t 71))]))
 (.drop [50, 51, 52, 53, 54, 55, 56, 57, 58, 59, 60, 61, 62, 63, 64, 65, 66, 67, 68, 69, 70, 71] (.reg [un (.mov 48 (.t 11)),
 un (.bin 49 .add (.t 48) (.c (.int .i64 1))),
 un (.asg 11 (.t 49))])))))
def Q6 : ACode :=
 (.seq (.seq (.reg [un (.mov 30 (.t 10)),
 un (.fadr 31 0 (.t 2)),
 un (.ld 32 1 false (.t 31)),
 un (.mov 33 (.t 7)),
 un (.iad 34 1 (.t 32) (.t 33)),
 un (.ld 35 1 false (.t 34)),
 un (.len 36 (.t 35)),
 un (.bin 37 .lss (.t 30) (.t 36))])
 (.drop [30, 31, 32, 33, 34, 35, 36] (.cond (.t 37) .skip
 (.exit 4))))
 (.drop [30, 31, 32, 33, 34, 35, 36, 37] (.seq (.block 5 (.seq (.reg [un (.asg 11 (.c (.int .i64 0)))])
 (.block 6 (.loop Q1))))
 (.drop [11, 40, 41, 42, 43, 44, 45, 46, 47, 50, 51, 52, 53, 54, 55, 56, 57, 58, 59, 60, 61, 62, 63, 64, 65, 66, 67, 68, 69, 70, 71, 48, 49] (.reg [un (.mov 38 (.t 10)),
 un (.bin 39 .add (.t 38) (.c (.int .i64 1))),
 un (.asg 10 (.t 39))])))))
def Rv : ACode :=
 (.seq (.seq (.reg [un (.mov 24 (.t 8)),
 un (.mov 25 (.t 6)),
 un (.bin 26 .lss (.t 24) (.t 25))])
 (.drop [24, 25] (.cond (.t 26) .skip
 (.exit 2))))
 (.drop [24, 25, 26] (.seq (.block 3 (.seq (.reg [un (.bsl 29 1 []),
 un (.asg 9 (.t 29))])
 (.drop [29] (.seq (.seq (.reg [un (.asg 10 (.c (.int .i64 0)))])
 (.block 4 (.loop Q6)))
 (.drop [10, 30, 31, 32, 33, 34, 35, 36, 37, 11, 40, 41, 42, 43, 44, 45, 46, 47, 50, 51, 52, 53, 54, 55, 56, 57, 58, 59, 60, 61, 62, 63, 64, 65, 66, 67, 68, 69, 70, 71, 48, 49, 38, 39] (.reg [un (.fadr 72 0 (.t 5)),
 un (.ld 73 1 false (.t 72)),
 un (.mov 74 (.t 9)),
 un (.bsl 75 1 [(.t 74)]),
 un (.app 76 1 (.t 73) (.t 75)),
 un (.fadr 77 0 (.t 5)),
 un (.st 1 (.t 77) (.t 76))]))))))
 (.drop [29, 9, 10, 30, 31, 32, 33, 34, 35, 36, 37, 11, 40, 41, 42, 43, 44, 45, 46, 47, 50, 51, 52, 53, 54, 55, 56, 57, 58, 59, 60, 61, 62, 63, 64, 65, 66, 67, 68, 69, 70, 71, 48, 49, 38, 39, 72, 73, 74, 75, 76, 77] (.reg [un (.mov 27 (.t 8)),
 un (.bin 28 .add (.t 27) (.c (.int .i64 1))),
 un (.asg 8 (.t 28))])))))
def Qz : ACode :=
 (.seq (.seq (.reg [un (.mov 17 (.t 7)),
 un (.fadr 18 0 (.t 2)),
 un (.ld 19 1 false (.t 18)),
 un (.len 20 (.t 19)),
 un (.bin 21 .lss (.t 17) (.t 20))])
 (.drop [17, 18, 19, 20] (.cond (.t 21) .skip
 (.exit 0))))
 (.drop [17, 18, 19, 20, 21] (.seq (.block 1 (.seq (.reg [un (.asg 8 (.c (.int .i64 0)))])
 (.block 2 (.loop Rv))))
 (.drop [8, 24, 25, 26, 29, 9, 10, 30, 31, 32, 33, 34, 35, 36, 37, 11, 40, 41, 42, 43, 44, 45, 46, 47, 50, 51, 52, 53, 54, 55, 56, 57, 58, 59, 60, 61, 62, 63, 64, 65, 66, 67, 68, 69, 70, 71, 48, 49, 38, 39, 72, 73, 74, 75, 76, 77, 27, 28] (.reg [un (.mov 22 (.t 7)),
 un (.bin 23 .add (.t 22) (.c (.int .i64 1))),
 un (.asg 7 (.t 23))])))))
def Aiu : ACode :=
 (.seq (.reg [un (.box 2 (.t 0)),
 un (.box 3 (.t 1)),
 un (.alc 4 (.agg [.nilsl 1]))])
 (.seq (.reg [un (.bsl 12 1 []),
 un (.bld 13 [.nilsl 1] [(0, 1, (.t 12))]),
 un (.alc 5 (.agg [.nilsl 1])),
 un (.st 1 (.t 5) (.t 13))])
 (.drop [12, 13] (.seq (.reg [un (.fadr 14 0 (.t 3)),
 un (.ld 15 1 false (.t 14)),
 un (.len 16 (.t 15)),
 un (.asg 6 (.t 16))])
 (.drop [14, 15, 16] (.seq (.seq (.reg [un (.asg 7 (.c (.int .i64 0)))])
 (.block 0 (.loop Qz)))
 (.drop [7, 17, 18, 19, 20, 21, 8, 24, 25, 26, 29, 9, 10, 30, 31, 32, 33, 34, 35, 36, 37, 11, 40, 41, 42, 43, 44, 45, 46, 47, 50, 51, 52, 53, 54, 55, 56, 57, 58, 59, 60, 61, 62, 63, 64, 65, 66, 67, 68, 69, 70, 71, 48, 49, 38, 39, 72, 73, 74, 75, 76, 77, 27, 28, 22, 23] (.seq (.reg [un (.ld 78 1 true (.t 5)),
 un (.st 1 (.t 4) (.t 78))])
 (.drop [78] .ret)))))))))
abbrev Ais : List RS := [.c 4 1 true]
theorem Aix : Aw Try.prog N5 79 Aiu Ais = true := by kernel_rfl
def Auz : ACode :=
 (.seq (.reg [un (.asg 2 (.c (.nilsl 1)))])
 (.seq (.reg [un (.bsl 3 1 []),
 un (.mov 4 (.t 0)),
 un (.app 5 1 (.t 3) (.t 4)),
 un (.asg 2 (.t 5))])
 (.drop [3, 4, 5] .ret)))
abbrev Ava : List RS := [.t 2]
theorem Atm : Aw Try.prog Z8 6 Auz Ava = true := by kernel_rfl
def Pj : ACode :=
 (.seq (.reg [un (.bin 11 .lss (.t 10) (.t 9))])
 (.seq (.cond (.t 11) .skip
 (.exit 0))
 (.seq (.block 1 (.seq (.reg [un (.mov 12 (.t 10)),
 un (.asg 6 (.t 12))])
 (.drop [12] (.seq (.reg [un (.mov 13 (.t 1)),
 un (.mov 14 (.t 6)),
 un (.cally 15 (.t 13) [(.t 14)])])
 (.drop [13, 14] (.cond (.t 15) (.reg [un (.mov 16 (.t 5)),
 un (.mov 17 (.t 6)),
 un (.bsl 18 1 [(.t 17)]),
 un (.app 19 1 (.t 16) (.t 18)),
 un (.asg 5 (.t 19))])
 .skip))))))
 (.drop [12, 6, 13, 14, 15, 16, 17, 18, 19] (.reg [un (.bin 20 .add (.t 10) (.c (.int .i64 1))),
 un (.asg 10 (.t 20))])))))
def Af2 : ACode :=
 (.seq (.reg [un (.asg 4 (.c (.nilsl 1)))])
 (.seq (.reg [un (.bsl 7 1 []),
 un (.asg 5 (.t 7))])
 (.drop [7] (.seq (.seq (.reg [un (.mov 8 (.t 0)),
 un (.len 9 (.t 8)),
 un (.mov 10 (.c (.int .i64 0)))])
 (.drop [8] (.block 0 (.loop Pj))))
 (.drop [8, 9, 10, 11, 12, 6, 13, 14, 15, 16, 17, 18, 19, 20] (.seq (.reg [un (.mov 21 (.t 5)),
 un (.asg 4 (.t 21))])
 (.drop [21] .ret)))))))
abbrev Agk : List RS := [.t 4]
theorem Af1 : Aw Try.prog Mt 22 Af2 Agk = true := by kernel_rfl
def Ada : ACode :=
 (.seq (.seq (.reg [un (.mov 6 (.t 5)),
 un (.mov 7 (.t 0)),
 un (.len 8 (.t 7)),
 un (.bin 9 .lss (.t 6) (.t 8))])
 (.drop [6, 7, 8] (.cond (.t 9) .skip
 (.exit 0))))
 (.drop [6, 7, 8, 9] (.seq (.block 1 (.seq (.reg [un (.mov 12 (.t 0)),
 un (.mov 13 (.t 5)),
 un (.iad 14 1 (.t 12) (.t 13)),
 un (.ld 15 1 false (.t 14)),
 un (.mov 16 (.t 1)),
 un (.bin 17 .eql (.t 15) (.t 16))])
 (.drop [12, 13, 14, 15, 16] (.cond (.t 17) (.seq (.reg [un (.asg 4 (.c (.bool true)))])
 .ret)
 .skip))))
 (.drop [12, 13, 14, 15, 16, 17] (.reg [un (.mov 10 (.t 5)),
 un (.bin 11 .add (.t 10) (.c (.int .i64 1))),
 un (.asg 5 (.t 11))])))))
def Aww : ACode :=
 (.seq (.reg [un (.asg 4 (.c (.bool false)))])
 (.seq (.seq (.reg [un (.asg 5 (.c (.int .i64 0)))])
 (.block 0 (.loop Ada)))
 (.drop [5, 6, 7, 8, 9, 12, 13, 14, 15, 16, 17, 10, 11] (.seq (.reg [un (.asg 4 (.c (.bool false)))])
 .ret))))
abbrev Awp : List RS := [.t 4]
theorem Awl : Aw Try.prog Adl 18 Aww Awp = true := by kernel_rfl
def Ac3 : ACode :=
 (.seq (.dreg [(un (.mov 4 (.t 0)), []),
 (un (.nck 5 (.t 4)), []),
 (un (.fadr 6 1 (.t 5)), []),
 (un (.ld 7 1 false (.t 6)), []),
 (un (.mov 8 (.t 0)), [4, 5, 6, 7]),
 (un (.nck 9 (.t 8)), [4, 5, 6, 7]),
 (un (.fadr 10 0 (.t 9)), [4, 5, 6, 7]),
 (un (.ld 11 1 false (.t 10)), [4, 5, 6, 7]),
 (un (.len 12 (.t 11)), [4, 5, 6, 7])]
 [un (.bin 13 .lss (.t 7) (.t 12))])
 (.drop [4, 5, 6, 7, 8, 9, 10, 11, 12] (.cond (.t 13) (.dreg [(un (.mov 14 (.t 0)), []),
 (un (.nck 15 (.t 14)), []),
 (un (.fadr 16 0 (.t 15)), []),
 (un (.ld 17 1 false (.t 16)), []),
 (un (.mov 18 (.t 0)), [14, 15, 16, 17]),
 (un (.nck 19 (.t 18)), [14, 15, 16, 17]),
 (un (.fadr 20 1 (.t 19)), [14, 15, 16, 17]),
 (un (.ld 21 1 false (.t 20)), [14, 15, 16, 17])]
 [un (.iad 22 1 (.t 17) (.t 21)),
 un (.ld 23 1 false (.t 22)),
 un (.cnv 24 .i64 (.t 23)),
 un (.asg 3 (.t 24))])
 .skip)))
def Ag9 : ACode :=
 (.seq (.reg [un (.asg 2 (.c (.int .i64 0)))])
 (.seq (.reg [un (.asg 3 (.c (.int .i64 0)))])
 (.seq (.cut Ac3)
 (.drop [4, 5, 6, 7, 8, 9, 10, 11, 12, 13, 14, 15, 16, 17, 18, 19, 20, 21, 22, 23, 24] (.seq (.reg [un (.mov 25 (.t 0)),
 un (.nck 26 (.t 25)),
 un (.fadr 27 1 (.t 26)),
 un (.ld 28 1 false (.t 27)),
 un (.bin 29 .add (.t 28) (.c (.int .i64 1))),
 un (.nck 30 (.t 25)),
 un (.fadr 31 1 (.t 30)),
 un (.st 1 (.t 31) (.t 29))])
 (.drop [25, 26, 27, 28, 29, 30, 31] (.seq (.reg [un (.mov 32 (.t 0)),
 un (.mov 33 (.t 0)),
 un (.nck 34 (.t 33)),
 un (.fadr 35 2 (.t 34)),
 un (.ld 36 1 false (.t 35)),
 un (.bin 37 .mul (.t 36) (.c (.int .u64 6364136223846793005))),
 un (.mov 38 (.t 3)),
 un (.cnv 39 .u64 (.t 38)),
 un (.bin 40 .add (.t 37) (.t 39)),
 un (.bin 41 .add (.t 40) (.c (.int .u64 550289))),
 un (.nck 42 (.t 32)),
 un (.fadr 43 2 (.t 42)),
 un (.st 1 (.t 43) (.t 41))])
 (.drop [32, 33, 34, 35, 36, 37, 38, 39, 40, 41, 42, 43] (.seq (.seq (.dreg [(un (.mov 44 (.t 0)), []),
 (un (.nck 45 (.t 44)), []),
 (un (.fadr 46 1 (.t 45)), []),
 (un (.ld 47 1 false (.t 46)), []),
 (un (.mov 48 (.t 0)), [44, 45, 46, 47]),
 (un (.nck 49 (.t 48)), [44, 45, 46, 47]),
 (un (.fadr 50 0 (.t 49)), [44, 45, 46, 47]),
 (un (.ld 51 1 false (.t 50)), [44, 45, 46, 47]),
 (un (.len 52 (.t 51)), [44, 45, 46, 47])]
 [un (.bin 53 .leq (.t 47) (.t 52))])
 (.drop [44, 45, 46, 47, 48, 49, 50, 51, 52] (.cond (.t 53) (.seq (.reg [un (.mov 54 (.t 3)),
 un (.asg 2 (.t 54))])
 (.drop [54] .ret))
 .skip)))
 (.drop [44, 45, 46, 47, 48, 49, 50, 51, 52, 53, 54] (.seq (.reg [un (.mov 55 (.t 0)),
 un (.nck 56 (.t 55)),
 un (.fadr 57 2 (.t 56)),
 un (.ld 58 1 false (.t 57)),
 un (.bin 59 .shr (.t 58) (.c (.int .u64 40))),
 un (.bin 60 .and (.t 59) (.c (.int .u64 255))),
 un (.cnv 61 .i64 (.t 60)),
 un (.asg 2 (.t 61))])
 (.drop [55, 56, 57, 58, 59, 60, 61] .ret))))))))))))
abbrev Agy : List RS := [.t 2]
theorem Ajb : Aw Try.prog J5 62 Ag9 Agy = true := by kernel_rfl
def Vx : ACode :=
 (.seq (.seq (.reg [un (.mov 17 (.t 6)),
 un (.mov 18 (.t 0)),
 un (.bin 19 .lss (.t 17) (.t 18))])
 (.drop [17, 18] (.cond (.t 19) .skip
 (.exit 0))))
 (.drop [17, 18, 19] (.seq (.block 1 (.seq (.reg [un (.mov 22 (.t 0)),
 un (.mk 23 1 (.bool false) (.t 22)),
 un (.asg 7 (.t 23))])
 (.drop [22, 23] (.seq (.reg [un (.mov 24 (.t 7)),
 un (.mov 25 (.t 6)),
 un (.iad 26 1 (.t 24) (.t 25)),
 un (.st 1 (.t 26) (.c (.bool true)))])
 (.drop [24, 25, 26] (.reg [un (.mov 27 (.t 5)),
 un (.mov 28 (.t 7)),
 un (.bsl 29 1 [(.t 28)]),
 un (.app 30 1 (.t 27) (.t 29)),
 un (.asg 5 (.t 30))]))))))
 (.drop [22, 23, 7, 24, 25, 26, 27, 28, 29, 30] (.reg [un (.mov 20 (.t 6)),
 un (.bin 21 .add (.t 20) (.c (.int .i64 1))),
 un (.asg 6 (.t 21))])))))
def Wd : ACode :=
 (.seq (.seq (.reg [un (.mov 31 (.t 8)),
 un (.mov 32 (.t 1)),
 un (.len 33 (.t 32)),
 un (.bin 34 .lss (.t 31) (.t 33))])
 (.drop [31, 32, 33] (.cond (.t 34) .skip
 (.exit 2))))
 (.drop [31, 32, 33, 34] (.seq (.block 3 (.dreg [(un (.mov 37 (.t 5)), []),
 (un (.mov 38 (.t 1)), [37]),
 (un (.mov 39 (.t 8)), [37, 38]),
 (un (.iad 40 2 (.t 38) (.t 39)), [37]),
 (un (.aad 41 1 2 (.t 40) (.c (.int .i64 0))), [37]),
 (un (.ld 42 1 false (.t 41)), [37]),
 (un (.iad 43 1 (.t 37) (.t 42)), []),
 (un (.ld 44 1 false (.t 43)), []),
 (un (.mov 45 (.t 1)), [37, 38, 39, 40, 41, 42, 43, 44]),
 (un (.mov 46 (.t 8)), [37, 38, 39, 40, 41, 42, 43, 44, 45]),
 (un (.iad 47 2 (.t 45) (.t 46)), [37, 38, 39, 40, 41, 42, 43, 44]),
 (un (.aad 48 1 2 (.t 47) (.c (.int .i64 1))), [37, 38, 39, 40, 41, 42, 43, 44]),
 (un (.ld 49 1 false (.t 48)), [37, 38, 39, 40, 41, 42, 43, 44])]
 [un (.iad 50 1 (.t 44) (.t 49)),
 un (.st 1 (.t 50) (.c (.bool true)))]))
 (.drop [37, 38, 39, 40, 41, 42, 43, 44, 45, 46, 47, 48, 49, 50] (.reg [un (.mov 35 (.t 8)),
 un (.bin 36 .add (.t 35) (.c (.int .i64 1))),
 un (.asg 8 (.t 36))])))))
def Vu : ACode :=
 (.seq (.seq (.reg [un (.mov 61 (.t 11)),
 un (.mov 62 (.t 0)),
 un (.bin 63 .lss (.t 61) (.t 62))])
 (.drop [61, 62] (.cond (.t 63) .skip
 (.exit 8))))
 (.drop [61, 62, 63] (.seq (.block 9 (.dreg [(un (.mov 66 (.t 5)), [77, 85]),
 (un (.mov 67 (.t 10)), [66, 77, 85]),
 (un (.iad 68 1 (.t 66) (.t 67)), [77, 85]),
 (un (.ld 69 1 false (.t 68)), [77, 85]),
 (un (.mov 70 (.t 11)), [66, 67, 68, 69, 77, 85]),
 (un (.mov 71 (.t 5)), [66, 67, 68, 69, 70]),
 (un (.mov 72 (.t 10)), [66, 67, 68, 69, 70, 71]),
 (un (.iad 73 1 (.t 71) (.t 72)), [66, 67, 68, 69, 70]),
 (un (.ld 74 1 false (.t 73)), [66, 67, 68, 69, 70]),
 (un (.mov 75 (.t 11)), [66, 67, 68, 69, 70, 71, 72, 73, 74]),
 (un (.iad 76 1 (.t 74) (.t 75)), [66, 67, 68, 69, 70]),
 (un (.ld 77 1 false (.t 76)), [66, 67, 68, 69, 70]),
 (un (.asg 78 (.t 77)), [66, 67, 68, 69, 70]),
 (⟨some (78, false), .mov 79 (.t 5)⟩, [66, 67, 68, 69, 70, 77]),
 (⟨some (78, false), .mov 80 (.t 10)⟩, [66, 67, 68, 69, 70, 79, 77]),
 (⟨some (78, false), .iad 81 1 (.t 79) (.t 80)⟩, [66, 67, 68, 69, 70, 77]),
 (⟨some (78, false), .ld 82 1 false (.t 81)⟩, [66, 67, 68, 69, 70, 77]),
 (⟨some (78, false), .mov 83 (.t 9)⟩, [66, 67, 68, 69, 70, 79, 80, 81, 82, 77]),
 (⟨some (78, false), .iad 84 1 (.t 82) (.t 83)⟩, [66, 67, 68, 69, 70, 77]),
 (⟨some (78, false), .ld 85 1 false (.t 84)⟩, [66, 67, 68, 69, 70, 77]),
 (⟨some (78, false), .asg 86 (.t 85)⟩, [66, 67, 68, 69, 70, 77]),
 (⟨some (86, true), .mov 87 (.t 5)⟩, [66, 67, 68, 69, 70, 77, 85]),
 (⟨some (86, true), .mov 88 (.t 9)⟩, [66, 67, 68, 69, 70, 87, 77, 85]),
 (⟨some (86, true), .iad 89 1 (.t 87) (.t 88)⟩, [66, 67, 68, 69, 70, 77, 85]),
 (⟨some (86, true), .ld 90 1 false (.t 89)⟩, [66, 67, 68, 69, 70, 77, 85]),
 (⟨some (86, true), .mov 91 (.t 11)⟩, [66, 67, 68, 69, 70, 87, 88, 89, 90, 77, 85]),
 (⟨some (86, true), .iad 92 1 (.t 90) (.t 91)⟩, [66, 67, 68, 69, 70, 77, 85]),
 (⟨some (86, true), .ld 93 1 false (.t 92)⟩, [66, 67, 68, 69, 70, 77, 85]),
 (⟨some (78, false), .pick 94 (.t 86) (.t 93) (.c (.bool false))⟩, [66, 67, 68, 69, 70, 77, 85]),
 (un (.pick 95 (.t 78) (.c (.bool true)) (.t 94)), [66, 67, 68, 69, 70, 77, 85])]
 [un (.iad 96 1 (.t 69) (.t 70)),
 un (.st 1 (.t 96) (.t 95))]))
 (.drop [66, 67, 68, 69, 70, 71, 72, 73, 74, 75, 76, 77, 78, 79, 80, 81, 82, 83, 84, 85, 86, 87, 88, 89, 90, 91, 92, 93, 94, 95, 96] (.reg [un (.mov 64 (.t 11)),
 un (.bin 65 .add (.t 64) (.c (.int .i64 1))),
 un (.asg 11 (.t 65))])))))
def Wo : ACode :=
 (.seq (.seq (.reg [un (.mov 56 (.t 10)),
 un (.mov 57 (.t 0)),
 un (.bin 58 .lss (.t 56) (.t 57))])
 (.drop [56, 57] (.cond (.t 58) .skip
 (.exit 6))))
 (.drop [56, 57, 58] (.seq (.block 7 (.seq (.reg [un (.asg 11 (.c (.int .i64 0)))])
 (.block 8 (.loop Vu))))
 (.drop [11, 61, 62, 63, 66, 67, 68, 69, 70, 71, 72, 73, 74, 75, 76, 77, 78, 79, 80, 81, 82, 83, 84, 85, 86, 87, 88, 89, 90, 91, 92, 93, 94, 95, 96, 64, 65] (.reg [un (.mov 59 (.t 10)),
 un (.bin 60 .add (.t 59) (.c (.int .i64 1))),
 un (.asg 10 (.t 60))])))))
def Wj : ACode :=
 (.seq (.seq (.reg [un (.mov 51 (.t 9)),
 un (.mov 52 (.t 0)),
 un (.bin 53 .lss (.t 51) (.t 52))])
 (.drop [51, 52] (.cond (.t 53) .skip
 (.exit 4))))
 (.drop [51, 52, 53] (.seq (.block 5 (.seq (.reg [un (.asg 10 (.c (.int .i64 0)))])
 (.block 6 (.loop Wo))))
 (.drop [10, 56, 57, 58, 11, 61, 62, 63, 66, 67, 68, 69, 70, 71, 72, 73, 74, 75, 76, 77, 78, 79, 80, 81, 82, 83, 84, 85, 86, 87, 88, 89, 90, 91, 92, 93, 94, 95, 96, 64, 65, 59, 60] (.reg [un (.mov 54 (.t 9)),
 un (.bin 55 .add (.t 54) (.c (.int .i64 1))),
 un (.asg 9 (.t 55))])))))
def V9 : ACode :=
 (.seq (.seq (.reg [un (.mov 105 (.t 15)),
 un (.mov 106 (.t 0)),
 un (.bin 107 .lss (.t 105) (.t 106))])
 (.drop [105, 106] (.cond (.t 107) .skip
 (.exit 12))))
 (.drop [105, 106, 107] (.seq (.block 13 (.seq (.reg [un (.mov 110 (.t 5)),
 un (.mov 111 (.t 15)),
 un (.iad 112 1 (.t 110) (.t 111)),
 un (.ld 113 1 false (.t 112)),
 un (.mov 114 (.t 13)),
 un (.iad 115 1 (.t 113) (.t 114)),
 un (.ld 116 1 false (.t 115))])
 (.drop [110, 111, 112, 113, 114, 115] (.cond (.t 116) (.reg [un (.mov 117 (.t 14)),
 un (.mov 118 (.t 15)),
 un (.bsl 119 1 [(.t 118)]),
 un (.app 120 1 (.t 117) (.t 119)),
 un (.asg 14 (.t 120))])
 .skip))))
 (.drop [110, 111, 112, 113, 114, 115, 116, 117, 118, 119, 120] (.reg [un (.mov 108 (.t 15)),
 un (.bin 109 .add (.t 108) (.c (.int .i64 1))),
 un (.asg 15 (.t 109))])))))
def Vc : ACode :=
 (.seq (.seq (.reg [un (.mov 99 (.t 13)),
 un (.mov 100 (.t 0)),
 un (.bin 101 .lss (.t 99) (.t 100))])
 (.drop [99, 100] (.cond (.t 101) .skip
 (.exit 10))))
 (.drop [99, 100, 101] (.seq (.block 11 (.seq (.reg [un (.bsl 104 1 []),
 un (.asg 14 (.t 104))])
 (.drop [104] (.seq (.seq (.reg [un (.asg 15 (.c (.int .i64 0)))])
 (.block 12 (.loop V9)))
 (.drop [15, 105, 106, 107, 110, 111, 112, 113, 114, 115, 116, 117, 118, 119, 120, 108, 109] (.reg [un (.fadr 121 0 (.t 12)),
 un (.ld 122 1 false (.t 121)),
 un (.mov 123 (.t 14)),
 un (.bsl 124 1 [(.t 123)]),
 un (.app 125 1 (.t 122) (.t 124)),
 un (.fadr 126 0 (.t 12)),
 un (.st 1 (.t 126) (.t 125))]))))))
 (.drop [104, 14, 15, 105, 106, 107, 110, 111, 112, 113, 114, 115, 116, 117, 118, 119, 120, 108, 109, 121, 122, 123, 124, 125, 126] (.reg [un (.mov 102 (.t 13)),
 un (.bin 103 .add (.t 102) (.c (.int .i64 1))),
 un (.asg 13 (.t 103))])))))
def Aos : ACode :=
 (.seq (.reg [un (.alc 4 (.agg [.nilsl 1]))])
 (.seq (.reg [un (.bsl 16 1 []),
 un (.asg 5 (.t 16))])
 (.drop [16] (.seq (.seq (.reg [un (.asg 6 (.c (.int .i64 0)))])
 (.block 0 (.loop Vx)))
 (.drop [6, 17, 18, 19, 22, 23, 7, 24, 25, 26, 27, 28, 29, 30, 20, 21] (.seq (.seq (.reg [un (.asg 8 (.c (.int .i64 0)))])
 (.block 2 (.loop Wd)))
 (.drop [8, 31, 32, 33, 34, 37, 38, 39, 40, 41, 42, 43, 44, 45, 46, 47, 48, 49, 50, 35, 36] (.seq (.seq (.reg [un (.asg 9 (.c (.int .i64 0)))])
 (.block 4 (.loop Wj)))
 (.drop [9, 51, 52, 53, 10, 56, 57, 58, 11, 61, 62, 63, 66, 67, 68, 69, 70, 71, 72, 73, 74, 75, 76, 77, 78, 79, 80, 81, 82, 83, 84, 85, 86, 87, 88, 89, 90, 91, 92, 93, 94, 95, 96, 64, 65, 59, 60, 54, 55] (.seq (.reg [un (.bsl 97 1 []),
 un (.bld 98 [.nilsl 1] [(0, 1, (.t 97))]),
 un (.alc 12 (.agg [.nilsl 1])),
 un (.st 1 (.t 12) (.t 98))])
 (.drop [97, 98] (.seq (.seq (.reg [un (.asg 13 (.c (.int .i64 0)))])
 (.block 10 (.loop Vc)))
 (.drop [13, 99, 100, 101, 104, 14, 15, 105, 106, 107, 110, 111, 112, 113, 114, 115, 116, 117, 118, 119, 120, 108, 109, 121, 122, 123, 124, 125, 126, 102, 103] (.seq (.reg [un (.ld 127 1 true (.t 12)),
 un (.st 1 (.t 4) (.t 127))])
 (.drop [127] .ret)))))))))))))))
abbrev An8 : List RS := [.c 4 1 true]
theorem An7 : Aw Try.prog Bg 128 Aos An8 = true := by kernel_rfl
def X1 : ACode :=
 (.seq (.reg [un (.bin 10 .lss (.t 9) (.t 8))])
 (.seq (.cond (.t 10) .skip
 (.exit 0))
 (.seq (.block 1 (.seq (.reg [un (.iad 11 1 (.t 7) (.t 9)),
 un (.ld 12 1 false (.t 11)),
 un (.asg 5 (.t 12))])
 (.drop [11, 12] (.reg [un (.fadr 13 1 (.t 3)),
 un (.ld 14 1 false (.t 13)),
 un (.mov 15 (.t 5)),
 un (.app 16 1 (.t 14) (.t 15)),
 un (.fadr 17 1 (.t 3)),
 un (.st 1 (.t 17) (.t 16))]))))
 (.drop [11, 12, 5, 13, 14, 15, 16, 17] (.reg [un (.bin 18 .add (.t 9) (.c (.int .i64 1))),
 un (.asg 9 (.t 18))])))))
def Aqy : ACode :=
 (.seq (.reg [un (.alc 2 (.agg [.int .i64 0, .nilsl 1]))])
 (.seq (.reg [un (.bld 6 [.int .i64 0, .nilsl 1] [(0, 1, (.c (.int .i64 2)))]),
 un (.alc 3 (.agg [.int .i64 0, .nilsl 1])),
 un (.st 2 (.t 3) (.t 6))])
 (.drop [6] (.seq (.seq (.reg [un (.mov 7 (.t 0)),
 un (.len 8 (.t 7)),
 un (.mov 9 (.c (.int .i64 0)))])
 (.block 0 (.loop X1)))
 (.drop [7, 8, 9, 10, 11, 12, 5, 13, 14, 15, 16, 17, 18] (.seq (.reg [un (.ld 19 2 true (.t 3)),
 un (.st 2 (.t 2) (.t 19))])
 (.drop [19] .ret)))))))
abbrev Arc : List RS := [.c 2 2 true]
theorem Ap8 : Aw Try.prog Qm 20 Aqy Arc = true := by kernel_rfl
def Aaq : ACode :=
 (.seq (.seq (.reg [un (.mov 4 (.t 3)),
 un (.mov 5 (.t 0)),
 un (.len 6 (.t 5)),
 un (.bin 7 .lss (.t 4) (.t 6))])
 (.drop [4, 5, 6] (.cond (.t 7) .skip
 (.exit 0))))
 (.drop [4, 5, 6, 7] (.seq (.block 1 (.seq (.dreg [(un (.mov 10 (.t 0)), []),
 (un (.mov 11 (.t 3)), [10]),
 (un (.bin 12 .sub (.t 11) (.c (.int .i64 1))), [10]),
 (un (.iad 13 1 (.t 10) (.t 12)), []),
 (un (.ld 14 1 false (.t 13)), []),
 (un (.mov 15 (.t 0)), [10, 11, 12, 13, 14]),
 (un (.mov 16 (.t 3)), [10, 11, 12, 13, 14, 15]),
 (un (.iad 17 1 (.t 15) (.t 16)), [10, 11, 12, 13, 14]),
 (un (.ld 18 1 false (.t 17)), [10, 11, 12, 13, 14])]
 [un (.bin 19 .geq (.t 14) (.t 18))])
 (.drop [10, 11, 12, 13, 14, 15, 16, 17, 18] (.cond (.t 19) (.seq (.reg [un (.asg 2 (.c (.bool false)))])
 .ret)
 .skip))))
 (.drop [10, 11, 12, 13, 14, 15, 16, 17, 18, 19] (.reg [un (.mov 8 (.t 3)),
 un (.bin 9 .add (.t 8) (.c (.int .i64 1))),
 un (.asg 3 (.t 9))])))))
def As5 : ACode :=
 (.seq (.reg [un (.asg 2 (.c (.bool false)))])
 (.seq (.seq (.reg [un (.asg 3 (.c (.int .i64 1)))])
 (.block 0 (.loop Aaq)))
 (.drop [3, 4, 5, 6, 7, 10, 11, 12, 13, 14, 15, 16, 17, 18, 19, 8, 9] (.seq (.reg [un (.asg 2 (.c (.bool true)))])
 .ret))))
abbrev Au9 : List RS := [.t 2]
theorem Au0 : Aw Try.prog On 20 As5 Au9 = true := by kernel_rfl
def Yr : ACode :=
 (.seq (.reg [un (.mov 24 (.t 3)),
 un (.mov 25 (.t 4)),
 un (.bin 26 .neq (.t 24) (.t 25)),
 un (.asg 27 (.t 26)),
 ⟨some (27, true), .mov 28 (.t 0)⟩,
 ⟨some (27, true), .mov 29 (.t 3)⟩,
 ⟨some (27, true), .iad 30 1 (.t 28) (.t 29)⟩,
 ⟨some (27, true), .ld 31 1 false (.t 30)⟩,
 ⟨some (27, true), .mov 32 (.t 4)⟩,
 ⟨some (27, true), .iad 33 1 (.t 31) (.t 32)⟩,
 ⟨some (27, true), .ld 34 1 false (.t 33)⟩,
 un (.pick 35 (.t 27) (.t 34) (.c (.bool false))),
 un (.asg 36 (.t 35)),
 ⟨some (36, true), .mov 37 (.t 0)⟩,
 ⟨some (36, true), .mov 38 (.t 4)⟩,
 ⟨some (36, true), .iad 39 1 (.t 37) (.t 38)⟩,
 ⟨some (36, true), .ld 40 1 false (.t 39)⟩,
 ⟨some (36, true), .mov 41 (.t 3)⟩,
 ⟨some (36, true), .iad 42 1 (.t 40) (.t 41)⟩,
 ⟨some (36, true), .ld 43 1 false (.t 42)⟩,
 un (.pick 44 (.t 36) (.t 43) (.c (.bool false)))])
 (.drop [24, 25, 26, 27, 28, 29, 30, 31, 32, 33, 34, 35, 36, 37, 38, 39, 40, 41, 42, 43] (.cond (.t 44) (.seq (.reg [un (.asg 2 (.c (.bool false)))])
 .ret)
 .skip)))
def Nc : ACode :=
 (.seq (.reg [un (.bin 48 .lss (.t 47) (.t 46))])
 (.seq (.cond (.t 48) .skip
 (.exit 4))
 (.seq (.block 5 (.seq (.reg [un (.mov 49 (.t 47)),
 un (.asg 5 (.t 49))])
 (.drop [49] (.seq (.reg [un (.mov 50 (.t 0)),
 un (.mov 51 (.t 3)),
 un (.iad 52 1 (.t 50) (.t 51)),
 un (.ld 53 1 false (.t 52)),
 un (.mov 54 (.t 4)),
 un (.iad 55 1 (.t 53) (.t 54)),
 un (.ld 56 1 false (.t 55)),
 un (.asg 57 (.t 56)),
 ⟨some (57, true), .mov 58 (.t 0)⟩,
 ⟨some (57, true), .mov 59 (.t 4)⟩,
 ⟨some (57, true), .iad 60 1 (.t 58) (.t 59)⟩,
 ⟨some (57, true), .ld 61 1 false (.t 60)⟩,
 ⟨some (57, true), .mov 62 (.t 5)⟩,
 ⟨some (57, true), .iad 63 1 (.t 61) (.t 62)⟩,
 ⟨some (57, true), .ld 64 1 false (.t 63)⟩,
 un (.pick 65 (.t 57) (.t 64) (.c (.bool false))),
 un (.asg 66 (.t 65)),
 ⟨some (66, true), .mov 67 (.t 0)⟩,
 ⟨some (66, true), .mov 68 (.t 3)⟩,
 ⟨some (66, true), .iad 69 1 (.t 67) (.t 68)⟩,
 ⟨some (66, true), .ld 70 1 false (.t 69)⟩,
 ⟨some (66, true), .mov 71 (.t 5)⟩,
 ⟨some (66, true), .iad 72 1 (.t 70) (.t 71)⟩,
 ⟨some (66, true), .ld 73 1 false (.t 72)⟩,
 ⟨some (66, true), .un 74 .not (.t 73)⟩,
 un (.pick 75 (.t 66) (.t 74) (.c (.bool false)))])
 (.drop [50, 51, 52, 53, 54, 55, 56, 57, 58, 59, 60, 61, 62, 63, 64, 65, 66, 67, 68, 69, 70, 71, 72, 73, 74] (.cond (.t 75) (.seq (.reg [un (.asg 2 (.c (.bool false)))])
 .ret)
 .skip))))))
 (.drop [49, 5, 50, 51, 52, 53, 54, 55, 56, 57, 58, 59, 60, 61, 62, 63, 64, 65, 66, 67, 68, 69, 70, 71, 72, 73, 74, 75] (.reg [un (.bin 76 .add (.t 47) (.c (.int .i64 1))),
 un (.asg 47 (.t 76))])))))
def Nj : ACode :=
 (.seq (.reg [un (.bin 22 .lss (.t 21) (.t 20))])
 (.seq (.cond (.t 22) .skip
 (.exit 2))
 (.seq (.block 3 (.seq (.reg [un (.mov 23 (.t 21)),
 un (.asg 4 (.t 23))])
 (.drop [23] (.seq (.cut Yr)
 (.drop [24, 25, 26, 27, 28, 29, 30, 31, 32, 33, 34, 35, 36, 37, 38, 39, 40, 41, 42, 43, 44] (.seq (.reg [un (.mov 45 (.t 0)),
 un (.len 46 (.t 45)),
 un (.mov 47 (.c (.int .i64 0)))])
 (.drop [45] (.block 4 (.loop Nc)))))))))
 (.drop [23, 4, 24, 25, 26, 27, 28, 29, 30, 31, 32, 33, 34, 35, 36, 37, 38, 39, 40, 41, 42, 43, 44, 45, 46, 47, 48, 49, 5, 50, 51, 52, 53, 54, 55, 56, 57, 58, 59, 60, 61, 62, 63, 64, 65, 66, 67, 68, 69, 70, 71, 72, 73, 74, 75, 76] (.reg [un (.bin 77 .add (.t 21) (.c (.int .i64 1))),
 un (.asg 21 (.t 77))])))))
def Nk : ACode :=
 (.seq (.reg [un (.bin 9 .lss (.t 8) (.t 7))])
 (.seq (.cond (.t 9) .skip
 (.exit 0))
 (.seq (.block 1 (.seq (.reg [un (.mov 10 (.t 8)),
 un (.asg 3 (.t 10))])
 (.drop [10] (.seq (.seq (.reg [un (.mov 11 (.t 0)),
 un (.mov 12 (.t 3)),
 un (.iad 13 1 (.t 11) (.t 12)),
 un (.ld 14 1 false (.t 13)),
 un (.mov 15 (.t 3)),
 un (.iad 16 1 (.t 14) (.t 15)),
 un (.ld 17 1 false (.t 16)),
 un (.un 18 .not (.t 17))])
 (.drop [11, 12, 13, 14, 15, 16, 17] (.cond (.t 18) (.seq (.reg [un (.asg 2 (.c (.bool false)))])
 .ret)
 .skip)))
 (.drop [11, 12, 13, 14, 15, 16, 17, 18] (.seq (.reg [un (.mov 19 (.t 0)),
 un (.len 20 (.t 19)),
 un (.mov 21 (.c (.int .i64 0)))])
 (.drop [19] (.block 2 (.loop Nj)))))))))
 (.drop [10, 3, 11, 12, 13, 14, 15, 16, 17, 18, 19, 20, 21, 22, 23, 4, 24, 25, 26, 27, 28, 29, 30, 31, 32, 33, 34, 35, 36, 37, 38, 39, 40, 41, 42, 43, 44, 45, 46, 47, 48, 49, 5, 50, 51, 52, 53, 54, 55, 56, 57, 58, 59, 60, 61, 62, 63, 64, 65, 66, 67, 68, 69, 70, 71, 72, 73, 74, 75, 76, 77] (.reg [un (.bin 78 .add (.t 8) (.c (.int .i64 1))),
 un (.asg 8 (.t 78))])))))
def Ace : ACode :=
 (.seq (.reg [un (.asg 2 (.c (.bool false)))])
 (.seq (.seq (.reg [un (.mov 6 (.t 0)),
 un (.len 7 (.t 6)),
 un (.mov 8 (.c (.int .i64 0)))])
 (.drop [6] (.block 0 (.loop Nk))))
 (.drop [6, 7, 8, 9, 10, 3, 11, 12, 13, 14, 15, 16, 17, 18, 19, 20, 21, 22, 23, 4, 24, 25, 26, 27, 28, 29, 30, 31, 32, 33, 34, 35, 36, 37, 38, 39, 40, 41, 42, 43, 44, 45, 46, 47, 48, 49, 5, 50, 51, 52, 53, 54, 55, 56, 57, 58, 59, 60, 61, 62, 63, 64, 65, 66, 67, 68, 69, 70, 71, 72, 73, 74, 75, 76, 77, 78] (.seq (.reg [un (.asg 2 (.c (.bool true)))])
 .ret))))
abbrev Acz : List RS := [.t 2]
theorem Adb : Aw Try.prog K6 79 Ace Acz = true := by kernel_rfl
def Yy : ACode :=
 (.seq (.seq (.reg [un (.mov 11 (.t 5)),
 un (.mov 12 (.t 0)),
 un (.len 13 (.t 12)),
 un (.bin 14 .lss (.t 11) (.t 13))])
 (.drop [11, 12, 13] (.cond (.t 14) .skip
 (.exit 0))))
 (.drop [11, 12, 13, 14] (.seq (.block 1 (.seq (.dreg [(un (.mov 17 (.t 0)), []),
 (un (.mov 18 (.t 5)), [17]),
 (un (.iad 19 1 (.t 17) (.t 18)), []),
 (un (.ld 20 1 false (.t 19)), []),
 (un (.mov 21 (.t 1)), [17, 18, 19, 20]),
 (un (.mov 22 (.t 5)), [17, 18, 19, 20, 21]),
 (un (.iad 23 1 (.t 21) (.t 22)), [17, 18, 19, 20]),
 (un (.ld 24 1 false (.t 23)), [17, 18, 19, 20])]
 [un (.bin 25 .neq (.t 20) (.t 24))])
 (.drop [17, 18, 19, 20, 21, 22, 23, 24] (.cond (.t 25) (.seq (.reg [un (.asg 4 (.c (.bool false)))])
 .ret)
 .skip))))
 (.drop [17, 18, 19, 20, 21, 22, 23, 24, 25] (.reg [un (.mov 15 (.t 5)),
 un (.bin 16 .add (.t 15) (.c (.int .i64 1))),
 un (.asg 5 (.t 16))])))))
def Arr : ACode :=
 (.seq (.reg [un (.asg 4 (.c (.bool false)))])
 (.seq (.seq (.reg [un (.mov 6 (.t 0)),
 un (.len 7 (.t 6)),
 un (.mov 8 (.t 1)),
 un (.len 9 (.t 8)),
 un (.bin 10 .neq (.t 7) (.t 9))])
 (.drop [6, 7, 8, 9] (.cond (.t 10) (.seq (.reg [un (.asg 4 (.c (.bool false)))])
 .ret)
 .skip)))
 (.drop [6, 7, 8, 9, 10] (.seq (.seq (.reg [un (.asg 5 (.c (.int .i64 0)))])
 (.block 0 (.loop Yy)))
 (.drop [5, 11, 12, 13, 14, 17, 18, 19, 20, 21, 22, 23, 24, 25, 15, 16] (.seq (.reg [un (.asg 4 (.c (.bool true)))])
 .ret))))))
abbrev Aq9 : List RS := [.t 4]
theorem Aqi : Aw Try.prog Qk 26 Arr Aq9 = true := by kernel_rfl
def Aav : ACode :=
 (.seq (.seq (.reg [un (.mov 6 (.t 5)),
 un (.mov 7 (.t 0)),
 un (.len 8 (.t 7)),
 un (.bin 9 .lss (.t 6) (.t 8))])
 (.drop [6, 7, 8] (.cond (.t 9) .skip
 (.exit 0))))
 (.drop [6, 7, 8, 9] (.seq (.block 1 (.seq (.reg [un (.mov 12 (.t 0)),
 un (.mov 13 (.t 5)),
 un (.iad 14 1 (.t 12) (.t 13)),
 un (.ld 15 1 false (.t 14)),
 un (.mov 16 (.t 1)),
 un (.bin 17 .eql (.t 15) (.t 16))])
 (.drop [12, 13, 14, 15, 16] (.cond (.t 17) (.seq (.reg [un (.asg 4 (.c (.bool true)))])
 .ret)
 .skip))))
 (.drop [12, 13, 14, 15, 16, 17] (.reg [un (.mov 10 (.t 5)),
 un (.bin 11 .add (.t 10) (.c (.int .i64 1))),
 un (.asg 5 (.t 11))])))))
def Ata : ACode :=
 (.seq (.reg [un (.asg 4 (.c (.bool false)))])
 (.seq (.seq (.reg [un (.asg 5 (.c (.int .i64 0)))])
 (.block 0 (.loop Aav)))
 (.drop [5, 6, 7, 8, 9, 12, 13, 14, 15, 16, 17, 10, 11] (.seq (.reg [un (.asg 4 (.c (.bool false)))])
 .ret))))
abbrev Ate : List RS := [.t 4]
theorem Auf : Aw Try.prog Lh 18 Ata Ate = true := by kernel_rfl
def Aai : ACode :=
 (.seq (.reg [un (.bin 13 .lss (.t 12) (.t 11))])
 (.seq (.cond (.t 13) .skip
 (.exit 0))
 (.seq (.block 1 (.seq (.reg [un (.iad 14 1 (.t 10) (.t 12)),
 un (.ld 15 1 false (.t 14)),
 un (.asg 7 (.t 15))])
 (.drop [14, 15] (.reg [un (.mov 16 (.t 5)),
 un (.mov 17 (.t 7)),
 un (.iad 18 1 (.t 16) (.t 17)),
 un (.st 1 (.t 18) (.c (.bool true)))]))))
 (.drop [14, 15, 7, 16, 17, 18] (.reg [un (.bin 19 .add (.t 12) (.c (.int .i64 1))),
 un (.asg 12 (.t 19))])))))
def As2 : ACode :=
 (.seq (.reg [un (.asg 4 (.c (.nilsl 1)))])
 (.seq (.reg [un (.mov 8 (.t 1)),
 un (.mk 9 1 (.bool false) (.t 8)),
 un (.asg 5 (.t 9))])
 (.drop [8, 9] (.seq (.seq (.reg [un (.mov 10 (.t 0)),
 un (.len 11 (.t 10)),
 un (.mov 12 (.c (.int .i64 0)))])
 (.block 0 (.loop Aai)))
 (.drop [10, 11, 12, 13, 14, 15, 7, 16, 17, 18, 19] (.seq (.reg [un (.mov 20 (.t 5)),
 un (.asg 4 (.t 20))])
 (.drop [20] .ret)))))))
abbrev Au3 : List RS := [.t 4]
theorem Atc : Aw Try.prog Sw 21 As2 Au3 = true := by kernel_rfl
def X0 : ACode :=
 (.seq (.reg [un (.bin 10 .lss (.t 9) (.t 8))])
 (.seq (.cond (.t 10) .skip
 (.exit 0))
 (.seq (.block 1 (.seq (.reg [un (.mov 11 (.t 9)),
 un (.iad 12 1 (.t 7) (.t 9)),
 un (.ld 13 1 false (.t 12)),
 un (.asg 4 (.t 11)),
 un (.asg 5 (.t 13))])
 (.drop [11, 12, 13] (.seq (.reg [un (.mov 14 (.t 5))])
 (.cond (.t 14) (.reg [un (.mov 15 (.t 3)),
 un (.mov 16 (.t 4)),
 un (.bsl 17 1 [(.t 16)]),
 un (.app 18 1 (.t 15) (.t 17)),
 un (.asg 3 (.t 18))])
 .skip)))))
 (.drop [11, 12, 13, 4, 5, 14, 15, 16, 17, 18] (.reg [un (.bin 19 .add (.t 9) (.c (.int .i64 1))),
 un (.asg 9 (.t 19))])))))
def Arl : ACode :=
 (.seq (.reg [un (.asg 2 (.c (.nilsl 1)))])
 (.seq (.reg [un (.bsl 6 1 []),
 un (.asg 3 (.t 6))])
 (.drop [6] (.seq (.seq (.reg [un (.mov 7 (.t 0)),
 un (.len 8 (.t 7)),
 un (.mov 9 (.c (.int .i64 0)))])
 (.block 0 (.loop X0)))
 (.drop [7, 8, 9, 10, 11, 12, 13, 4, 5, 14, 15, 16, 17, 18, 19] (.seq (.reg [un (.mov 20 (.t 3)),
 un (.asg 2 (.t 20))])
 (.drop [20] .ret)))))))
abbrev Aqv : List RS := [.t 2]
theorem Aqj : Aw Try.prog Mk 21 Arl Aqv = true := by kernel_rfl
def Aat : ACode :=
 (.seq (.seq (.reg [un (.mov 6 (.t 5)),
 un (.mov 7 (.t 0)),
 un (.len 8 (.t 7)),
 un (.bin 9 .lss (.t 6) (.t 8)),
 un (.asg 10 (.t 9)),
 ⟨some (10, true), .mov 11 (.t 0)⟩,
 ⟨some (10, true), .mov 12 (.t 5)⟩,
 ⟨some (10, true), .iad 13 1 (.t 11) (.t 12)⟩,
 ⟨some (10, true), .ld 14 1 false (.t 13)⟩,
 ⟨some (10, true), .mov 15 (.t 1)⟩,
 ⟨some (10, true), .bin 16 .lss (.t 14) (.t 15)⟩,
 un (.pick 17 (.t 10) (.t 16) (.c (.bool false)))])
 (.drop [6, 7, 8, 9, 10, 11, 12, 13, 14, 15, 16] (.cond (.t 17) .skip
 (.exit 0))))
 (.drop [6, 7, 8, 9, 10, 11, 12, 13, 14, 15, 16, 17] (.block 1 (.reg [un (.mov 18 (.t 5)),
 un (.bin 19 .add (.t 18) (.c (.int .i64 1))),
 un (.asg 5 (.t 19))]))))
def Al0 : ACode :=
 (.seq (.reg [un (.mov 20 (.t 5)),
 un (.mov 21 (.t 0)),
 un (.len 22 (.t 21)),
 un (.bin 23 .lss (.t 20) (.t 22)),
 un (.asg 24 (.t 23)),
 ⟨some (24, true), .mov 25 (.t 0)⟩,
 ⟨some (24, true), .mov 26 (.t 5)⟩,
 ⟨some (24, true), .iad 27 1 (.t 25) (.t 26)⟩,
 ⟨some (24, true), .ld 28 1 false (.t 27)⟩,
 ⟨some (24, true), .mov 29 (.t 1)⟩,
 ⟨some (24, true), .bin 30 .eql (.t 28) (.t 29)⟩,
 un (.pick 31 (.t 24) (.t 30) (.c (.bool false)))])
 (.drop [20, 21, 22, 23, 24, 25, 26, 27, 28, 29, 30] (.cond (.t 31) (.seq (.reg [un (.mov 32 (.t 0)),
 un (.asg 4 (.t 32))])
 (.drop [32] .ret))
 .skip)))
def Atr : ACode :=
 (.seq (.reg [un (.asg 4 (.c (.nilsl 1)))])
 (.seq (.reg [un (.asg 5 (.c (.int .i64 0)))])
 (.seq (.block 0 (.loop Aat))
 (.drop [6, 7, 8, 9, 10, 11, 12, 13, 14, 15, 16, 17, 18, 19] (.seq (.cut Al0)
 (.drop [20, 21, 22, 23, 24, 25, 26, 27, 28, 29, 30, 31, 32] (.seq (.dreg [(un (.bsl 33 1 []), [38]),
 (un (.mov 34 (.t 0)), [33, 38]),
 (un (.mov 35 (.t 5)), [33, 34, 38]),
 (un (.slc 36 1 (.t 34) none (some (.t 35))), [33, 38]),
 (un (.app 37 1 (.t 33) (.t 36)), [38]),
 (un (.mov 38 (.t 1)), [33, 34, 35, 36, 37, 33]),
 (un (.bsl 39 1 [(.t 38)]), [33, 34, 35, 36, 37, 33]),
 (un (.app 40 1 (.t 37) (.t 39)), [33, 38]),
 (un (.mov 41 (.t 0)), [33, 34, 35, 36, 37, 38, 39, 40, 33, 38, 37]),
 (un (.mov 42 (.t 5)), [33, 34, 35, 36, 37, 38, 39, 40, 41, 33, 38, 37]),
 (un (.slc 43 1 (.t 41) (some (.t 42)) none), [33, 34, 35, 36, 37, 38, 39, 40, 33, 38, 37])]
 [un (.app 44 1 (.t 40) (.t 43)),
 un (.asg 4 (.t 44))])
 (.drop [33, 34, 35, 36, 37, 38, 39, 40, 41, 42, 43, 44] .ret))))))))
abbrev Aua : List RS := [.t 4]
theorem As9 : Aw Try.prog Lb 45 Atr Aua = true := by kernel_rfl
def L7 : ACode :=
 (.seq (.reg [un (.bin 19 .lss (.t 18) (.t 17))])
 (.seq (.cond (.t 19) .skip
 (.exit 2))
 (.seq (.block 3 (.seq (.reg [un (.iad 20 1 (.t 16) (.t 18)),
 un (.ld 21 1 false (.t 20)),
 un (.asg 9 (.t 21))])
 (.drop [20, 21] (.reg [un (.mov 22 (.t 7)),
 un (.asg 23 (.t 22)),
 ⟨some (23, true), .mov 24 (.t 0)⟩,
 ⟨some (23, true), .mov 25 (.t 9)⟩,
 ⟨some (23, true), .iad 26 1 (.t 24) (.t 25)⟩,
 ⟨some (23, true), .ld 27 1 false (.t 26)⟩,
 ⟨some (23, true), .mov 28 (.t 6)⟩,
 ⟨some (23, true), .iad 29 1 (.t 27) (.t 28)⟩,
 ⟨some (23, true), .ld 30 1 false (.t 29)⟩,
 un (.pick 31 (.t 23) (.t 30) (.c (.bool false))),
 un (.asg 7 (.t 31))]))))
 (.drop [20, 21, 9, 22, 23, 24, 25, 26, 27, 28, 29, 30, 31] (.reg [un (.bin 32 .add (.t 18) (.c (.int .i64 1))),
 un (.asg 18 (.t 32))])))))
def Md : ACode :=
 (.seq (.reg [un (.bin 13 .lss (.t 12) (.t 11))])
 (.seq (.cond (.t 13) .skip
 (.exit 0))
 (.seq (.block 1 (.seq (.reg [un (.iad 14 1 (.t 10) (.t 12)),
 un (.ld 15 1 false (.t 14)),
 un (.asg 6 (.t 15))])
 (.drop [14, 15] (.seq (.reg [un (.asg 7 (.c (.bool true)))])
 (.seq (.seq (.reg [un (.mov 16 (.t 1)),
 un (.len 17 (.t 16)),
 un (.mov 18 (.c (.int .i64 0)))])
 (.block 2 (.loop L7)))
 (.drop [16, 17, 18, 19, 20, 21, 9, 22, 23, 24, 25, 26, 27, 28, 29, 30, 31, 32] (.seq (.reg [un (.mov 33 (.t 7))])
 (.cond (.t 33) (.seq (.reg [un (.mov 34 (.t 6)),
 un (.asg 4 (.t 34))])
 (.drop [34] .ret))
 .skip))))))))
 (.drop [14, 15, 6, 7, 16, 17, 18, 19, 20, 21, 9, 22, 23, 24, 25, 26, 27, 28, 29, 30, 31, 32, 33, 34] (.reg [un (.bin 35 .add (.t 12) (.c (.int .i64 1))),
 un (.asg 12 (.t 35))])))))
def Abe : ACode :=
 (.seq (.reg [un (.asg 4 (.c (.int .i64 0)))])
 (.seq (.seq (.reg [un (.mov 10 (.t 1)),
 un (.len 11 (.t 10)),
 un (.mov 12 (.c (.int .i64 0)))])
 (.block 0 (.loop Md)))
 (.drop [10, 11, 12, 13, 14, 15, 6, 7, 16, 17, 18, 19, 20, 21, 9, 22, 23, 24, 25, 26, 27, 28, 29, 30, 31, 32, 33, 34, 35] (.seq (.reg [un (.asg 4 (.c (.int .i64 (-1))))])
 .ret))))
abbrev Abs : List RS := [.t 4]
theorem Abc : Aw Try.prog Jw 36 Abe Abs = true := by kernel_rfl
def W0 : ACode :=
 (.seq (.reg [un (.asg 5 (.c (.bool false)))])
 (.seq (.dreg [(un (.ld 6 1 false (.t 1)), []),
 (un (.mov 7 (.t 0)), [6]),
 (un (.iad 8 1 (.t 6) (.t 7)), []),
 (un (.ld 9 1 false (.t 8)), []),
 (un (.ld 10 1 false (.t 2)), [6, 7, 8, 9]),
 (un (.iad 11 1 (.t 9) (.t 10)), []),
 (un (.ld 12 1 false (.t 11)), []),
 (un (.asg 13 (.t 12)), []),
 (⟨some (13, true), .ld 14 1 false (.t 1)⟩, [12]),
 (⟨some (13, true), .mov 15 (.t 0)⟩, [14, 12]),
 (⟨some (13, true), .iad 16 1 (.t 14) (.t 15)⟩, [12]),
 (⟨some (13, true), .ld 17 1 false (.t 16)⟩, [12]),
 (⟨some (13, true), .ld 18 1 false (.t 3)⟩, [14, 15, 16, 17, 12])]
 [⟨some (13, true), .iad 19 1 (.t 17) (.t 18)⟩,
 ⟨some (13, true), .ld 20 1 false (.t 19)⟩,
 un (.pick 21 (.t 13) (.t 20) (.c (.bool false))),
 un (.asg 5 (.t 21))])
 (.drop [6, 7, 8, 9, 10, 11, 12, 13, 14, 15, 16, 17, 18, 19, 20, 21] .ret)))
abbrev Xa : List RS := [.t 5]
theorem Xd : Aw Try.prog Ff 22 W0 Xa = true := by kernel_rfl
def Acl : ACode :=
 (.seq (.seq (.reg [un (.mov 9 (.t 6)),
 un (.mov 10 (.t 1)),
 un (.len 11 (.t 10)),
 un (.bin 12 .lss (.t 9) (.t 11))])
 (.drop [9, 10, 11] (.cond (.t 12) .skip
 (.exit 0))))
 (.drop [9, 10, 11, 12] (.seq (.block 1 (.reg [un (.mov 15 (.t 5)),
 un (.mov 16 (.t 1)),
 un (.mov 17 (.t 6)),
 un (.iad 18 1 (.t 16) (.t 17)),
 un (.ld 19 1 false (.t 18)),
 un (.iad 20 1 (.t 15) (.t 19)),
 un (.st 1 (.t 20) (.c (.bool true)))]))
 (.drop [15, 16, 17, 18, 19, 20] (.reg [un (.mov 13 (.t 6)),
 un (.bin 14 .add (.t 13) (.c (.int .i64 1))),
 un (.asg 6 (.t 14))])))))
def Aw7 : ACode :=
 (.seq (.reg [un (.asg 4 (.c (.nilsl 1)))])
 (.seq (.reg [un (.mov 7 (.t 0)),
 un (.mk 8 1 (.bool false) (.t 7)),
 un (.asg 5 (.t 8))])
 (.drop [7, 8] (.seq (.seq (.reg [un (.asg 6 (.c (.int .i64 0)))])
 (.block 0 (.loop Acl)))
 (.drop [6, 9, 10, 11, 12, 15, 16, 17, 18, 19, 20, 13, 14] (.seq (.reg [un (.mov 21 (.t 5)),
 un (.asg 4 (.t 21))])
 (.drop [21] .ret)))))))
abbrev Ax3 : List RS := [.t 4]
theorem Awj : Aw Try.prog Acj 22 Aw7 Ax3 = true := by kernel_rfl
def X5 : ACode :=
 (.seq (.seq (.reg [un (.mov 6 (.t 4)),
 un (.mov 7 (.t 0)),
 un (.len 8 (.t 7)),
 un (.bin 9 .lss (.t 6) (.t 8))])
 (.drop [6, 7, 8] (.cond (.t 9) .skip
 (.exit 0))))
 (.drop [6, 7, 8, 9] (.seq (.block 1 (.seq (.reg [un (.mov 12 (.t 0)),
 un (.mov 13 (.t 4)),
 un (.iad 14 1 (.t 12) (.t 13)),
 un (.ld 15 1 false (.t 14))])
 (.drop [12, 13, 14] (.cond (.t 15) (.reg [un (.mov 16 (.t 3)),
 un (.mov 17 (.t 4)),
 un (.bsl 18 1 [(.t 17)]),
 un (.app 19 1 (.t 16) (.t 18)),
 un (.asg 3 (.t 19))])
 .skip))))
 (.drop [12, 13, 14, 15, 16, 17, 18, 19] (.reg [un (.mov 10 (.t 4)),
 un (.bin 11 .add (.t 10) (.c (.int .i64 1))),
 un (.asg 4 (.t 11))])))))
def Arp : ACode :=
 (.seq (.reg [un (.asg 2 (.c (.nilsl 1)))])
 (.seq (.reg [un (.bsl 5 1 []),
 un (.asg 3 (.t 5))])
 (.drop [5] (.seq (.seq (.reg [un (.asg 4 (.c (.int .i64 0)))])
 (.block 0 (.loop X5)))
 (.drop [4, 6, 7, 8, 9, 12, 13, 14, 15, 16, 17, 18, 19, 10, 11] (.seq (.reg [un (.mov 20 (.t 3)),
 un (.asg 2 (.t 20))])
 (.drop [20] .ret)))))))
abbrev Aqw : List RS := [.t 2]
theorem Aq0 : Aw Try.prog W3 21 Arp Aqw = true := by kernel_rfl
def Aam : ACode :=
 (.seq (.seq (.reg [un (.mov 9 (.t 1)),
 un (.bin 10 .gtr (.t 9) (.c (.int .i64 0)))])
 (.drop [9] (.cond (.t 10) .skip
 (.exit 0))))
 (.drop [9, 10] (.seq (.block 1 (.seq (.seq (.reg [un (.mov 13 (.t 3)),
 un (.mov 14 (.t 0)),
 un (.mov 15 (.t 2)),
 un (.bin 16 .rem (.t 14) (.t 15)),
 un (.iad 17 1 (.t 13) (.t 16)),
 un (.ld 18 1 false (.t 17)),
 un (.un 19 .not (.t 18))])
 (.drop [13, 14, 15, 16, 17, 18] (.cond (.t 19) (.seq (.reg [un (.asg 8 (.c (.bool false)))])
 .ret)
 .skip)))
 (.drop [13, 14, 15, 16, 17, 18, 19] (.reg [un (.mov 20 (.t 0)),
 un (.mov 21 (.t 2)),
 un (.bin 22 .quo (.t 20) (.t 21)),
 un (.asg 0 (.t 22))]))))
 (.drop [13, 14, 15, 16, 17, 18, 19, 20, 21, 22] (.reg [un (.mov 11 (.t 1)),
 un (.bin 12 .sub (.t 11) (.c (.int .i64 1))),
 un (.asg 1 (.t 12))])))))
def Auo : ACode :=
 (.seq (.reg [un (.asg 8 (.c (.bool false)))])
 (.seq (.block 0 (.loop Aam))
 (.drop [9, 10, 13, 14, 15, 16, 17, 18, 19, 20, 21, 22, 11, 12] (.seq (.reg [un (.asg 8 (.c (.bool true)))])
 .ret))))
abbrev Auj : List RS := [.t 8]
theorem At9 : Aw Try.prog Y9 23 Auo Auj = true := by kernel_rfl
def Xq : ACode :=
 (.seq (.seq (.reg [un (.mov 11 (.t 5)),
 un (.mov 12 (.t 0)),
 un (.len 13 (.t 12)),
 un (.bin 14 .lss (.t 11) (.t 13))])
 (.drop [11, 12, 13] (.cond (.t 14) .skip
 (.exit 0))))
 (.drop [11, 12, 13, 14] (.seq (.block 1 (.seq (.dreg [(un (.mov 17 (.t 0)), []),
 (un (.mov 18 (.t 5)), [17]),
 (un (.iad 19 1 (.t 17) (.t 18)), []),
 (un (.ld 20 1 false (.t 19)), []),
 (un (.mov 21 (.t 1)), [17, 18, 19, 20]),
 (un (.mov 22 (.t 5)), [17, 18, 19, 20, 21]),
 (un (.iad 23 1 (.t 21) (.t 22)), [17, 18, 19, 20]),
 (un (.ld 24 1 false (.t 23)), [17, 18, 19, 20])]
 [un (.call 25 N7 [((.t 20), false), ((.t 24), false)]),
 un (.un 26 .not (.t 25))])
 (.drop [17, 18, 19, 20, 21, 22, 23, 24, 25] (.cond (.t 26) (.seq (.reg [un (.asg 4 (.c (.bool false)))])
 .ret)
 .skip))))
 (.drop [17, 18, 19, 20, 21, 22, 23, 24, 25, 26] (.reg [un (.mov 15 (.t 5)),
 un (.bin 16 .add (.t 15) (.c (.int .i64 1))),
 un (.asg 5 (.t 16))])))))
def Aq3 : ACode :=
 (.seq (.reg [un (.asg 4 (.c (.bool false)))])
 (.seq (.seq (.reg [un (.mov 6 (.t 0)),
 un (.len 7 (.t 6)),
 un (.mov 8 (.t 1)),
 un (.len 9 (.t 8)),
 un (.bin 10 .neq (.t 7) (.t 9))])
 (.drop [6, 7, 8, 9] (.cond (.t 10) (.seq (.reg [un (.asg 4 (.c (.bool false)))])
 .ret)
 .skip)))
 (.drop [6, 7, 8, 9, 10] (.seq (.seq (.reg [un (.asg 5 (.c (.int .i64 0)))])
 (.block 0 (.loop Xq)))
 (.drop [5, 11, 12, 13, 14, 17, 18, 19, 20, 21, 22, 23, 24, 25, 26, 15, 16] (.seq (.reg [un (.asg 4 (.c (.bool true)))])
 .ret))))))
abbrev Aql : List RS := [.t 4]
theorem Arj : Aw Try.prog Wv 27 Aq3 Aql = true := by kernel_rfl
def V1 : ACode :=
 (.seq (.seq (.reg [un (.mov 6 (.t 5)),
 un (.mov 7 (.t 0)),
 un (.len 8 (.t 7)),
 un (.bin 9 .lss (.t 6) (.t 8))])
 (.drop [6, 7, 8] (.cond (.t 9) .skip
 (.exit 0))))
 (.drop [6, 7, 8, 9] (.seq (.block 1 (.seq (.reg [un (.mov 12 (.t 1)),
 un (.mov 13 (.t 0)),
 un (.mov 14 (.t 5)),
 un (.iad 15 1 (.t 13) (.t 14)),
 un (.ld 16 1 false (.t 15)),
 un (.call 17 Adl [((.t 12), false), ((.t 16), false)]),
 un (.un 18 .not (.t 17))])
 (.drop [12, 13, 14, 15, 16, 17] (.cond (.t 18) (.seq (.reg [un (.asg 4 (.c (.bool false)))])
 .ret)
 .skip))))
 (.drop [12, 13, 14, 15, 16, 17, 18] (.reg [un (.mov 10 (.t 5)),
 un (.bin 11 .add (.t 10) (.c (.int .i64 1))),
 un (.asg 5 (.t 11))])))))
def Apc : ACode :=
 (.seq (.reg [un (.asg 4 (.c (.bool false)))])
 (.seq (.seq (.reg [un (.asg 5 (.c (.int .i64 0)))])
 (.block 0 (.loop V1)))
 (.drop [5, 6, 7, 8, 9, 12, 13, 14, 15, 16, 17, 18, 10, 11] (.seq (.reg [un (.asg 4 (.c (.bool true)))])
 .ret))))
abbrev Aox : List RS := [.t 4]
theorem Apu : Aw Try.prog T8 19 Apc Aox = true := by kernel_rfl
def Aik : ACode :=
 (.seq (.reg [un (.asg 4 (.c (.int .i64 0)))])
 (.seq (.seq (.reg [un (.mov 6 (.t 1)),
 un (.bin 7 .leq (.t 6) (.c (.int .i64 1)))])
 (.drop [6] (.cond (.t 7) (.seq (.reg [un (.asg 4 (.c (.int .i64 0)))])
 .ret)
 .skip)))
 (.drop [6, 7] (.seq (.reg [un (.mov 8 (.t 0)),
 un (.call 9 J5 [((.t 8), true)]),
 un (.asg 5 (.t 9))])
 (.drop [8, 9] (.seq (.seq (.reg [un (.mov 10 (.t 1)),
 un (.bin 11 .gtr (.t 10) (.c (.int .i64 200)))])
 (.drop [10] (.cond (.t 11) (.reg [un (.mov 12 (.t 5)),
 un (.bin 13 .mul (.t 12) (.c (.int .i64 256))),
 un (.mov 14 (.t 0)),
 un (.call 15 J5 [((.t 14), true)]),
 un (.bin 16 .add (.t 13) (.t 15)),
 un (.asg 5 (.t 16))])
 .skip)))
 (.drop [10, 11, 12, 13, 14, 15, 16] (.seq (.reg [un (.mov 17 (.t 5)),
 un (.mov 18 (.t 1)),
 un (.bin 19 .rem (.t 17) (.t 18)),
 un (.asg 4 (.t 19))])
 (.drop [17, 18, 19] .ret)))))))))
abbrev Ah8 : List RS := [.t 4]
theorem Aim : Aw Try.prog Be 20 Aik Ah8 = true := by kernel_rfl
def Axf : ACode :=
 (.seq (.reg [un (.box 2 (.t 0)),
 un (.asg 4 (.c (.bool false)))])
 (.seq (.dreg [(un (.fadr 5 0 (.t 2)), []),
 (un (.ld 6 1 false (.t 5)), []),
 (un (.bin 7 .geq (.t 6) (.c (.int .i64 0))), []),
 (un (.asg 8 (.t 7)), []),
 (⟨some (8, true), .fadr 9 0 (.t 2)⟩, [7]),
 (⟨some (8, true), .ld 10 1 false (.t 9)⟩, [7]),
 (⟨some (8, true), .bin 11 .leq (.t 10) (.c (.int .i64 3))⟩, [7]),
 (un (.pick 12 (.t 8) (.t 11) (.c (.bool false))), [7]),
 (un (.asg 13 (.t 12)), [7]),
 (⟨some (13, true), .fadr 14 1 (.t 2)⟩, [7, 12]),
 (⟨some (13, true), .ld 15 1 false (.t 14)⟩, [7, 12]),
 (⟨some (13, true), .len 16 (.t 15)⟩, [7, 12]),
 (⟨some (13, true), .mov 17 (.t 1)⟩, [14, 15, 16, 7, 12]),
 (⟨some (13, true), .fadr 18 0 (.t 2)⟩, [14, 15, 16, 17, 7, 12]),
 (⟨some (13, true), .ld 19 1 false (.t 18)⟩, [14, 15, 16, 17, 7, 12]),
 (⟨some (13, true), .call 20 Zk [((.t 17), false), ((.t 19), false)]⟩, [14, 15, 16, 7, 12]),
 (⟨some (13, true), .bin 21 .eql (.t 16) (.t 20)⟩, [7, 12]),
 (un (.pick 22 (.t 13) (.t 21) (.c (.bool false))), [7, 12]),
 (un (.asg 23 (.t 22)), [7, 12]),
 (⟨some (23, true), .fadr 24 1 (.t 2)⟩, [7, 12, 22]),
 (⟨some (23, true), .ld 25 1 false (.t 24)⟩, [7, 12, 22]),
 (⟨some (23, true), .mov 26 (.t 1)⟩, [24, 25, 7, 12, 22])]
 [⟨some (23, true), .call 27 Jn [((.t 25), false), ((.t 26), false)]⟩,
 un (.pick 28 (.t 23) (.t 27) (.c (.bool false))),
 un (.asg 4 (.t 28))])
 (.drop [5, 6, 7, 8, 9, 10, 11, 12, 13, 14, 15, 16, 17, 18, 19, 20, 21, 22, 23, 24, 25, 26, 27, 28] .ret)))
abbrev Awq : List RS := [.t 4]
theorem Aw4 : Aw Try.prog Ac2 29 Axf Awq = true := by kernel_rfl
def Aoj : ACode :=
 (.seq (.dreg [(un (.fadr 6 0 (.t 3)), []),
 (un (.ld 7 1 false (.t 6)), []),
 (un (.call 8 Kv [((.t 7), false), ((.c (.int .i64 0)), false), ((.c (.int .i64 3)), false)]), []),
 (un (.un 9 .not (.t 8)), []),
 (un (.asg 10 (.t 9)), []),
 (⟨some (10, false), .fadr 11 1 (.t 3)⟩, [9]),
 (⟨some (10, false), .ld 12 1 false (.t 11)⟩, [9]),
 (⟨some (10, false), .len 13 (.t 12)⟩, [9]),
 (⟨some (10, false), .mov 14 (.t 0)⟩, [11, 12, 13, 9]),
 (⟨some (10, false), .fadr 15 0 (.t 3)⟩, [11, 12, 13, 14, 9]),
 (⟨some (10, false), .ld 16 1 false (.t 15)⟩, [11, 12, 13, 14, 9]),
 (⟨some (10, false), .call 17 Aad [((.t 14), false), ((.t 16), false)]⟩, [11, 12, 13, 9])]
 [⟨some (10, false), .bin 18 .neq (.t 13) (.t 17)⟩,
 un (.pick 19 (.t 10) (.c (.bool true)) (.t 18))])
 (.drop [6, 7, 8, 9, 10, 11, 12, 13, 14, 15, 16, 17, 18] (.cond (.t 19) (.seq (.reg [un (.asg 4 (.c (.bool false)))])
 .ret)
 .skip)))
def Acu : ACode :=
 (.seq (.seq (.reg [un (.mov 20 (.t 5)),
 un (.fadr 21 1 (.t 3)),
 un (.ld 22 1 false (.t 21)),
 un (.len 23 (.t 22)),
 un (.bin 24 .lss (.t 20) (.t 23))])
 (.drop [20, 21, 22, 23] (.cond (.t 24) .skip
 (.exit 0))))
 (.drop [20, 21, 22, 23, 24] (.seq (.block 1 (.seq (.reg [un (.fadr 27 1 (.t 3)),
 un (.ld 28 1 false (.t 27)),
 un (.mov 29 (.t 5)),
 un (.iad 30 1 (.t 28) (.t 29)),
 un (.ld 31 1 false (.t 30)),
 un (.mov 32 (.t 0)),
 un (.bin 33 .sub (.t 32) (.c (.int .i64 1))),
 un (.call 34 Kv [((.t 31), false), ((.c (.int .i64 0)), false), ((.t 33), false)]),
 un (.un 35 .not (.t 34))])
 (.drop [27, 28, 29, 30, 31, 32, 33, 34] (.cond (.t 35) (.seq (.reg [un (.asg 4 (.c (.bool false)))])
 .ret)
 .skip))))
 (.drop [27, 28, 29, 30, 31, 32, 33, 34, 35] (.reg [un (.mov 25 (.t 5)),
 un (.bin 26 .add (.t 25) (.c (.int .i64 1))),
 un (.asg 5 (.t 26))])))))
def Axt : ACode :=
 (.seq (.reg [un (.box 3 (.t 1)),
 un (.asg 4 (.c (.bool false)))])
 (.seq (.cut Aoj)
 (.drop [6, 7, 8, 9, 10, 11, 12, 13, 14, 15, 16, 17, 18, 19] (.seq (.seq (.reg [un (.asg 5 (.c (.int .i64 0)))])
 (.block 0 (.loop Acu)))
 (.drop [5, 20, 21, 22, 23, 24, 27, 28, 29, 30, 31, 32, 33, 34, 35, 25, 26] (.seq (.reg [un (.asg 4 (.c (.bool true)))])
 .ret))))))
abbrev Av0 : List RS := [.t 4]
theorem Aw3 : Aw Try.prog Acw 36 Axt Av0 = true := by kernel_rfl
def Amm : ACode :=
 (.seq (.reg [un (.alc 2 (.agg [.nilsl 1]))])
 (.seq (.seq (.reg [un (.mov 3 (.t 0))])
 (.block 0 (.seq (.reg [un (.bin 5 .eql (.t 3) (.c (.int .i64 0))),
 un (.asg 4 (.t 5))])
 (.drop [5] (.cond (.t 4) (.seq (.reg [un (.bsl 6 2 []),
 un (.call 7 Bg [((.c (.int .i64 1)), false), ((.t 6), false)]),
 un (.st 1 (.t 2) (.t 7))])
 (.drop [6, 7] .ret))
 (.seq (.reg [un (.bin 9 .eql (.t 3) (.c (.int .i64 1))),
 un (.asg 8 (.t 9))])
 (.drop [9] (.cond (.t 8) (.seq (.reg [un (.bld 10 [.int .i64 0, .int .i64 0] [(0, 1, (.c (.int .i64 0))), (1, 1, (.c (.int .i64 1)))]),
 un (.bsl 11 2 [(.t 10)]),
 un (.call 12 Bg [((.c (.int .i64 2)), false), ((.t 11), false)]),
 un (.st 1 (.t 2) (.t 12))])
 (.drop [10, 11, 12] .ret))
 (.seq (.reg [un (.bin 14 .eql (.t 3) (.c (.int .i64 2))),
 un (.asg 13 (.t 14))])
 (.drop [14] (.cond (.t 13) (.seq (.reg [un (.bld 15 [.int .i64 0, .int .i64 0] [(0, 1, (.c (.int .i64 0))), (1, 1, (.c (.int .i64 1)))]),
 un (.bld 16 [.int .i64 0, .int .i64 0] [(0, 1, (.c (.int .i64 1))), (1, 1, (.c (.int .i64 2)))]),
 un (.bld 17 [.int .i64 0, .int .i64 0] [(0, 1, (.c (.int .i64 2))), (1, 1, (.c (.int .i64 3)))]),
 un (.bsl 18 2 [(.t 15), (.t 16), (.t 17)]),
 un (.call 19 Bg [((.c (.int .i64 4)), false), ((.t 18), false)]),
 un (.st 1 (.t 2) (.t 19))])
 (.drop [15, 16, 17, 18, 19] .ret))
 (.seq (.reg [un (.bin 21 .eql (.t 3) (.c (.int .i64 3))),
 un (.asg 20 (.t 21))])
 (.drop [21] (.cond (.t 20) (.seq (.reg [un (.bld 22 [.int .i64 0, .int .i64 0] [(0, 1, (.c (.int .i64 0))), (1, 1, (.c (.int .i64 1)))]),
 un (.bld 23 [.int .i64 0, .int .i64 0] [(0, 1, (.c (.int .i64 0))), (1, 1, (.c (.int .i64 2)))]),
 un (.bld 24 [.int .i64 0, .int .i64 0] [(0, 1, (.c (.int .i64 1))), (1, 1, (.c (.int .i64 3)))]),
 un (.bld 25 [.int .i64 0, .int .i64 0] [(0, 1, (.c (.int .i64 2))), (1, 1, (.c (.int .i64 3)))]),
 un (.bsl 26 2 [(.t 22), (.t 23), (.t 24), (.t 25)]),
 un (.call 27 Bg [((.c (.int .i64 4)), false), ((.t 26), false)]),
 un (.st 1 (.t 2) (.t 27))])
 (.drop [22, 23, 24, 25, 26, 27] .ret))
 (.seq (.reg [un (.bin 29 .eql (.t 3) (.c (.int .i64 4))),
 un (.asg 28 (.t 29))])
 (.drop [29] (.cond (.t 28) (.seq (.reg [un (.bld 30 [.int .i64 0, .int .i64 0] [(0, 1, (.c (.int .i64 0))), (1, 1, (.c (.int .i64 1)))]),
 un (.bld 31 [.int .i64 0, .int .i64 0] [(0, 1, (.c (.int .i64 0))), (1, 1, (.c (.int .i64 2)))]),
 un (.bld 32 [.int .i64 0, .int .i64 0] [(0, 1, (.c (.int .i64 0))), (1, 1, (.c (.int .i64 3)))]),
 un (.bld 33 [.int .i64 0, .int .i64 0] [(0, 1, (.c (.int .i64 1))), (1, 1, (.c (.int .i64 4)))]),
 un (.bld 34 [.int .i64 0, .int .i64 0] [(0, 1, (.c (.int .i64 2))), (1, 1, (.c (.int .i64 4)))]),
 un (.bld 35 [.int .i64 0, .int .i64 0] [(0, 1, (.c (.int .i64 3))), (1, 1, (.c (.int .i64 4)))]),
 un (.bsl 36 2 [(.t 30), (.t 31), (.t 32), (.t 33), (.t 34), (.t 35)]),
 un (.call 37 Bg [((.c (.int .i64 5)), false), ((.t 36), false)]),
 un (.st 1 (.t 2) (.t 37))])
 (.drop [30, 31, 32, 33, 34, 35, 36, 37] .ret))
 (.seq (.reg [un (.bin 39 .eql (.t 3) (.c (.int .i64 5))),
 un (.asg 38 (.t 39))])
 (.drop [39] (.cond (.t 38) (.seq (.reg [un (.bld 40 [.int .i64 0, .int .i64 0] [(0, 1, (.c (.int .i64 0))), (1, 1, (.c (.int .i64 1)))]),
 un (.bld 41 [.int .i64 0, .int .i64 0] [(0, 1, (.c (.int .i64 1))), (1, 1, (.c (.int .i64 2)))]),
 un (.bld 42 [.int .i64 0, .int .i64 0] [(0, 1, (.c (.int .i64 0))), (1, 1, (.c (.int .i64 3)))]),
 un (.bld 43 [.int .i64 0, .int .i64 0] [(0, 1, (.c (.int .i64 2))), (1, 1, (.c (.int .i64 4)))]),
 un (.bld 44 [.int .i64 0, .int .i64 0] [(0, 1, (.c (.int .i64 3))), (1, 1, (.c (.int .i64 4)))]),
 un (.bsl 45 2 [(.t 40), (.t 41), (.t 42), (.t 43), (.t 44)]),
 un (.call 46 Bg [((.c (.int .i64 5)), false), ((.t 45), false)]),
 un (.st 1 (.t 2) (.t 46))])
 (.drop [40, 41, 42, 43, 44, 45, 46] .ret))
 (.seq (.reg [un (.bin 48 .eql (.t 3) (.c (.int .i64 6))),
 un (.asg 47 (.t 48))])
 (.drop [48] (.cond (.t 47) (.seq (.reg [un (.bld 49 [.int .i64 0, .int .i64 0] [(0, 1, (.c (.int .i64 0))), (1, 1, (.c (.int .i64 1)))]),
 un (.bld 50 [.int .i64 0, .int .i64 0] [(0, 1, (.c (.int .i64 0))), (1, 1, (.c (.int .i64 2)))]),
 un (.bld 51 [.int .i64 0, .int .i64 0] [(0, 1, (.c (.int .i64 0))), (1, 1, (.c (.int .i64 3)))]),
 un (.bld 52 [.int .i64 0, .int .i64 0] [(0, 1, (.c (.int .i64 1))), (1, 1, (.c (.int .i64 4)))]),
 un (.bld 53 [.int .i64 0, .int .i64 0] [(0, 1, (.c (.int .i64 1))), (1, 1, (.c (.int .i64 5)))]),
 un (.bld 54 [.int .i64 0, .int .i64 0] [(0, 1, (.c (.int .i64 2))), (1, 1, (.c (.int .i64 4)))]),
 un (.bld 55 [.int .i64 0, .int .i64 0] [(0, 1, (.c (.int .i64 2))), (1, 1, (.c (.int .i64 6)))]),
 un (.bld 56 [.int .i64 0, .int .i64 0] [(0, 1, (.c (.int .i64 3))), (1, 1, (.c (.int .i64 5)))]),
 un (.bld 57 [.int .i64 0, .int .i64 0] [(0, 1, (.c (.int .i64 3))), (1, 1, (.c (.int .i64 6)))]),
 un (.bld 58 [.int .i64 0, .int .i64 0] [(0, 1, (.c (.int .i64 4))), (1, 1, (.c (.int .i64 7)))]),
 un (.bld 59 [.int .i64 0, .int .i64 0] [(0, 1, (.c (.int .i64 5))), (1, 1, (.c (.int .i64 7)))]),
 un (.bld 60 [.int .i64 0, .int .i64 0] [(0, 1, (.c (.int .i64 6))), (1, 1, (.c (.int .i64 7)))]),
 un (.bsl 61 2 [(.t 49), (.t 50), (.t 51), (.t 52), (.t 53), (.t 54), (.t 55), (.t 56), (.t 57), (.t 58), (.t 59), (.t 60)]),
 un (.call 62 Bg [((.c (.int .i64 8)), false), ((.t 61), false)]),
 un (.st 1 (.t 2) (.t 62))])
 (.drop [49, 50, 51, 52, 53, 54, 55, 56, 57, 58, 59, 60, 61, 62] .ret))
 (.seq (.reg [un (.bin 64 .eql (.t 3) (.c (.int .i64 7))),
 un (.asg 63 (.t 64))])
 (.drop [64] (.cond (.t 63) (.seq (.reg [un (.bld 65 [.int .i64 0, .int .i64 0] [(0, 1, (.c (.int .i64 0))), (1, 1, (.c (.int .i64 1)))]),
 un (.bld 66 [.int .i64 0, .int .i64 0] [(0, 1, (.c (.int .i64 0))), (1, 1, (.c (.int .i64 2)))]),
 un (.bld 67 [.int .i64 0, .int .i64 0] [(0, 1, (.c (.int .i64 1))), (1, 1, (.c (.int .i64 3)))]),
 un (.bld 68 [.int .i64 0, .int .i64 0] [(0, 1, (.c (.int .i64 2))), (1, 1, (.c (.int .i64 3)))]),
 un (.bld 69 [.int .i64 0, .int .i64 0] [(0, 1, (.c (.int .i64 2))), (1, 1, (.c (.int .i64 4)))]),
 un (.bld 70 [.int .i64 0, .int .i64 0] [(0, 1, (.c (.int .i64 3))), (1, 1, (.c (.int .i64 5)))]),
 un (.bld 71 [.int .i64 0, .int .i64 0] [(0, 1, (.c (.int .i64 4))), (1, 1, (.c (.int .i64 5)))]),
 un (.bsl 72 2 [(.t 65), (.t 66), (.t 67), (.t 68), (.t 69), (.t 70), (.t 71)]),
 un (.call 73 Bg [((.c (.int .i64 6)), false), ((.t 72), false)]),
 un (.st 1 (.t 2) (.t 73))])
 (.drop [65, 66, 67, 68, 69, 70, 71, 72, 73] .ret))
 (.seq (.reg [un (.bin 75 .eql (.t 3) (.c (.int .i64 8))),
 un (.asg 74 (.t 75))])
 (.drop [75] (.cond (.t 74) (.seq (.reg [un (.bld 76 [.int .i64 0, .int .i64 0] [(0, 1, (.c (.int .i64 0))), (1, 1, (.c (.int .i64 1)))]),
 un (.bld 77 [.int .i64 0, .int .i64 0] [(0, 1, (.c (.int .i64 0))), (1, 1, (.c (.int .i64 2)))]),
 un (.bld 78 [.int .i64 0, .int .i64 0] [(0, 1, (.c (.int .i64 1))), (1, 1, (.c (.int .i64 3)))]),
 un (.bld 79 [.int .i64 0, .int .i64 0] [(0, 1, (.c (.int .i64 2))), (1, 1, (.c (.int .i64 4)))]),
 un (.bld 80 [.int .i64 0, .int .i64 0] [(0, 1, (.c (.int .i64 3))), (1, 1, (.c (.int .i64 5)))]),
 un (.bld 81 [.int .i64 0, .int .i64 0] [(0, 1, (.c (.int .i64 4))), (1, 1, (.c (.int .i64 5)))]),
 un (.bsl 82 2 [(.t 76), (.t 77), (.t 78), (.t 79), (.t 80), (.t 81)]),
 un (.call 83 Bg [((.c (.int .i64 6)), false), ((.t 82), false)]),
 un (.st 1 (.t 2) (.t 83))])
 (.drop [76, 77, 78, 79, 80, 81, 82, 83] .ret))
 (.seq (.reg [un (.bin 85 .eql (.t 3) (.c (.int .i64 9))),
 un (.asg 84 (.t 85))])
 (.drop [85] (.cond (.t 84) (.seq (.reg [un (.bld 86 [.int .i64 0, .int .i64 0] [(0, 1, (.c (.int .i64 0))), (1, 1, (.c (.int .i64 1)))]),
 un (.bld 87 [.int .i64 0, .int .i64 0] [(0, 1, (.c (.int .i64 0))), (1, 1, (.c (.int .i64 2)))]),
 un (.bld 88 [.int .i64 0, .int .i64 0] [(0, 1, (.c (.int .i64 0))), (1, 1, (.c (.int .i64 3)))]),
 un (.bld 89 [.int .i64 0, .int .i64 0] [(0, 1, (.c (.int .i64 1))), (1, 1, (.c (.int .i64 4)))]),
 un (.bld 90 [.int .i64 0, .int .i64 0] [(0, 1, (.c (.int .i64 2))), (1, 1, (.c (.int .i64 4)))]),
 un (.bld 91 [.int .i64 0, .int .i64 0] [(0, 1, (.c (.int .i64 3))), (1, 1, (.c (.int .i64 5)))]),
 un (.bld 92 [.int .i64 0, .int .i64 0] [(0, 1, (.c (.int .i64 2))), (1, 1, (.c (.int .i64 5)))]),
 un (.bld 93 [.int .i64 0, .int .i64 0] [(0, 1, (.c (.int .i64 4))), (1, 1, (.c (.int .i64 6)))]),
 un (.bld 94 [.int .i64 0, .int .i64 0] [(0, 1, (.c (.int .i64 5))), (1, 1, (.c (.int .i64 6)))]),
 un (.bsl 95 2 [(.t 86), (.t 87), (.t 88), (.t 89), (.t 90), (.t 91), (.t 92), (.t 93), (.t 94)]),
 un (.call 96 Bg [((.c (.int .i64 7)), false), ((.t 95), false)]),
 un (.st 1 (.t 2) (.t 96))])
 (.drop [86, 87, 88, 89, 90, 91, 92, 93, 94, 95, 96] .ret))
 (.seq (.reg [un (.bin 98 .eql (.t 3) (.c (.int .i64 10))),
 un (.asg 97 (.t 98))])
 (.drop [98] (.cond (.t 97) (.seq (.reg [un (.bld 99 [.int .i64 0, .int .i64 0] [(0, 1, (.c (.int .i64 0))), (1, 1, (.c (.int .i64 1)))]),
 un (.bld 100 [.int .i64 0, .int .i64 0] [(0, 1, (.c (.int .i64 1))), (1, 1, (.c (.int .i64 2)))]),
 un (.bsl 101 2 [(.t 99), (.t 100)]),
 un (.call 102 Bg [((.c (.int .i64 3)), false), ((.t 101), false)]),
 un (.bld 103 [.int .i64 0, .int .i64 0] [(0, 1, (.c (.int .i64 0))), (1, 1, (.c (.int .i64 1)))]),
 un (.bld 104 [.int .i64 0, .int .i64 0] [(0, 1, (.c (.int .i64 1))), (1, 1, (.c (.int .i64 2)))]),
 un (.bsl 105 2 [(.t 103), (.t 104)]),
 un (.call 106 Bg [((.c (.int .i64 3)), false), ((.t 105), false)]),
 un (.call 107 N5 [((.t 102), false), ((.t 106), false)]),
 un (.st 1 (.t 2) (.t 107))])
 (.drop [99, 100, 101, 102, 103, 104, 105, 106, 107] .ret))
 .skip)))))))))))))))))))))))))))))))))))
 (.drop [3, 5, 4, 6, 7, 9, 8, 10, 11, 12, 14, 13, 15, 16, 17, 18, 19, 21, 20, 22, 23, 24, 25, 26, 27, 29, 28, 30, 31, 32, 33, 34, 35, 36, 37, 39, 38, 40, 41, 42, 43, 44, 45, 46, 48, 47, 49, 50, 51, 52, 53, 54, 55, 56, 57, 58, 59, 60, 61, 62, 64, 63, 65, 66, 67, 68, 69, 70, 71, 72, 73, 75, 74, 76, 77, 78, 79, 80, 81, 82, 83, 85, 84, 86, 87, 88, 89, 90, 91, 92, 93, 94, 95, 96, 98, 97, 99, 100, 101, 102, 103, 104, 105, 106, 107] (.seq (.reg [un (.bld 108 [.int .i64 0, .int .i64 0] [(0, 1, (.c (.int .i64 0))), (1, 1, (.c (.int .i64 1)))]),
 un (.bld 109 [.int .i64 0, .int .i64 0] [(0, 1, (.c (.int .i64 1))), (1, 1, (.c (.int .i64 2)))]),
 un (.bsl 110 2 [(.t 108), (.t 109)]),
 un (.call 111 Bg [((.c (.int .i64 3)), false), ((.t 110), false)]),
 un (.st 1 (.t 2) (.t 111))])
 (.drop [108, 109, 110, 111] .ret)))))
abbrev Al6 : List RS := [.c 2 1 true]
theorem Ams : Aw Try.prog R6 112 Amm Al6 = true := by kernel_rfl
def Z0 : ACode :=
 (.seq (.reg [un (.alc 2 (.agg [.int .i64 0, .nilsl 2]))])
 (.seq (.dreg [(un (.mov 3 (.t 0)), [12, 17]),
 (un (.nck 4 (.t 3)), [12, 17]),
 (un (.fadr 5 0 (.t 4)), [12, 17]),
 (un (.ld 6 1 false (.t 5)), [12, 17]),
 (un (.len 7 (.t 6)), [12, 17]),
 (un (.mov 8 (.t 0)), [3, 4, 5, 6, 7]),
 (un (.nck 9 (.t 8)), [3, 4, 5, 6, 7]),
 (un (.fadr 10 1 (.t 9)), [3, 4, 5, 6, 7]),
 (un (.ld 11 1 false (.t 10)), [3, 4, 5, 6, 7]),
 (un (.call 12 Qm [((.t 11), false)]), [3, 4, 5, 6, 7]),
 (un (.mov 13 (.t 0)), [3, 4, 5, 6, 7, 8, 9, 10, 11, 12]),
 (un (.nck 14 (.t 13)), [3, 4, 5, 6, 7, 8, 9, 10, 11, 12]),
 (un (.fadr 15 2 (.t 14)), [3, 4, 5, 6, 7, 8, 9, 10, 11, 12]),
 (un (.ld 16 1 false (.t 15)), [3, 4, 5, 6, 7, 8, 9, 10, 11, 12]),
 (un (.call 17 Qm [((.t 16), false)]), [3, 4, 5, 6, 7]),
 (un (.bsl 18 2 [(.t 12), (.t 17)]), [3, 4, 5, 6, 7])]
 [un (.bld 19 [.int .i64 0, .nilsl 2] [(0, 1, (.t 7)), (1, 1, (.t 18))]),
 un (.st 2 (.t 2) (.t 19))])
 (.drop [3, 4, 5, 6, 7, 8, 9, 10, 11, 12, 13, 14, 15, 16, 17, 18, 19] .ret)))
abbrev Zt : List RS := [.c 2 2 true]
theorem Zp : Aw Try.prog I6 20 Z0 Zt = true := by kernel_rfl
def Ah4 : ACode :=
 (.seq (.reg [un (.mov 25 (.t 7)),
 un (.call 26 On [((.t 25), false)]),
 un (.un 27 .not (.t 26)),
 un (.asg 28 (.t 27)),
 ⟨some (28, false), .mov 29 (.t 7)⟩,
 ⟨some (28, false), .mov 30 (.t 4)⟩,
 ⟨some (28, false), .call 31 Jn [((.t 29), false), ((.t 30), false)]⟩,
 ⟨some (28, false), .un 32 .not (.t 31)⟩,
 un (.pick 33 (.t 28) (.c (.bool true)) (.t 32))])
 (.drop [25, 26, 27, 28, 29, 30, 31, 32] (.cond (.t 33) (.seq (.reg [un (.asg 2 (.c (.nilsl 1))),
 un (.asg 3 (.c (.bool false)))])
 .ret)
 .skip)))
def Ve : ACode :=
 (.seq (.reg [un (.bin 37 .lss (.t 36) (.t 35))])
 (.seq (.cond (.t 37) .skip
 (.exit 2))
 (.seq (.block 3 (.seq (.reg [un (.iad 38 1 (.t 34) (.t 36)),
 un (.ld 39 1 false (.t 38)),
 un (.asg 9 (.t 39))])
 (.drop [38, 39] (.reg [un (.mov 40 (.t 5)),
 un (.mov 41 (.t 9)),
 un (.iad 42 1 (.t 40) (.t 41)),
 un (.ld 43 1 false (.t 42)),
 un (.mov 44 (.t 6)),
 un (.iad 45 1 (.t 43) (.t 44)),
 un (.st 1 (.t 45) (.c (.bool true)))]))))
 (.drop [38, 39, 9, 40, 41, 42, 43, 44, 45] (.reg [un (.bin 46 .add (.t 36) (.c (.int .i64 1))),
 un (.asg 36 (.t 46))])))))
def U8 : ACode :=
 (.seq (.reg [un (.bin 21 .lss (.t 20) (.t 19))])
 (.seq (.cond (.t 21) .skip
 (.exit 0))
 (.seq (.block 1 (.seq (.reg [un (.mov 22 (.t 20)),
 un (.iad 23 1 (.t 18) (.t 20)),
 un (.ld 24 1 false (.t 23)),
 un (.asg 6 (.t 22)),
 un (.asg 7 (.t 24))])
 (.drop [22, 23, 24] (.seq (.cut Ah4)
 (.drop [25, 26, 27, 28, 29, 30, 31, 32, 33] (.seq (.reg [un (.mov 34 (.t 7)),
 un (.len 35 (.t 34)),
 un (.mov 36 (.c (.int .i64 0)))])
 (.block 2 (.loop Ve))))))))
 (.drop [22, 23, 24, 6, 7, 25, 26, 27, 28, 29, 30, 31, 32, 33, 34, 35, 36, 37, 38, 39, 9, 40, 41, 42, 43, 44, 45, 46] (.reg [un (.bin 47 .add (.t 20) (.c (.int .i64 1))),
 un (.asg 20 (.t 47))])))))
def Apx : ACode :=
 (.seq (.reg [un (.box 1 (.t 0)),
 un (.asg 2 (.c (.nilsl 1))),
 un (.asg 3 (.c (.bool false)))])
 (.seq (.reg [un (.fadr 10 0 (.t 1)),
 un (.ld 11 1 false (.t 10)),
 un (.len 12 (.t 11)),
 un (.asg 4 (.t 12))])
 (.drop [10, 11, 12] (.seq (.seq (.reg [un (.mov 13 (.t 4)),
 un (.bin 14 .gtr (.t 13) (.c (.int .i64 10)))])
 (.drop [13] (.cond (.t 14) (.seq (.reg [un (.asg 2 (.c (.nilsl 1))),
 un (.asg 3 (.c (.bool false)))])
 .ret)
 .skip)))
 (.drop [13, 14] (.seq (.reg [un (.mov 15 (.t 4)),
 un (.call 16 Jb [((.t 15), false)]),
 un (.asg 5 (.t 16))])
 (.drop [15, 16] (.seq (.seq (.reg [un (.fadr 17 0 (.t 1)),
 un (.ld 18 1 false (.t 17)),
 un (.len 19 (.t 18)),
 un (.mov 20 (.c (.int .i64 0)))])
 (.drop [17] (.block 0 (.loop U8))))
 (.drop [17, 18, 19, 20, 21, 22, 23, 24, 6, 7, 25, 26, 27, 28, 29, 30, 31, 32, 33, 34, 35, 36, 37, 38, 39, 9, 40, 41, 42, 43, 44, 45, 46, 47] (.seq (.reg [un (.mov 48 (.t 5)),
 un (.mov 49 (.t 5)),
 un (.call 50 K6 [((.t 49), false)]),
 un (.asg 2 (.t 48)),
 un (.asg 3 (.t 50))])
 (.drop [48, 49, 50] .ret)))))))))))
abbrev Apj : List RS := [.t 2, .t 3]
theorem Aoy : Aw Try.prog Ug 51 Apx Apj = true := by kernel_rfl
def Q0 : ACode :=
 (.seq (.reg [un (.bin 17 .lss (.t 16) (.t 15))])
 (.seq (.cond (.t 17) .skip
 (.exit 2))
 (.seq (.block 3 (.seq (.reg [un (.mov 18 (.t 16)),
 un (.asg 5 (.t 18))])
 (.drop [18] (.dreg [(un (.mov 19 (.t 3)), []),
 (un (.mov 20 (.t 4)), [19]),
 (un (.iad 21 1 (.t 19) (.t 20)), []),
 (un (.ld 22 1 false (.t 21)), []),
 (un (.mov 23 (.t 5)), [19, 20, 21, 22]),
 (un (.mov 24 (.t 0)), [19, 20, 21, 22, 23]),
 (un (.mov 25 (.t 5)), [19, 20, 21, 22, 23, 24]),
 (un (.iad 26 1 (.t 24) (.t 25)), [19, 20, 21, 22, 23]),
 (un (.ld 27 1 false (.t 26)), [19, 20, 21, 22, 23]),
 (un (.mov 28 (.t 4)), [19, 20, 21, 22, 23, 24, 25, 26, 27]),
 (un (.iad 29 1 (.t 27) (.t 28)), [19, 20, 21, 22, 23]),
 (un (.ld 30 1 false (.t 29)), [19, 20, 21, 22, 23])]
 [un (.iad 31 1 (.t 22) (.t 23)),
 un (.st 1 (.t 31) (.t 30))]))))
 (.drop [18, 5, 19, 20, 21, 22, 23, 24, 25, 26, 27, 28, 29, 30, 31] (.reg [un (.bin 32 .add (.t 16) (.c (.int .i64 1))),
 un (.asg 16 (.t 32))])))))
def Qx : ACode :=
 (.seq (.reg [un (.bin 12 .lss (.t 11) (.t 10))])
 (.seq (.cond (.t 12) .skip
 (.exit 0))
 (.seq (.block 1 (.seq (.reg [un (.mov 13 (.t 11)),
 un (.asg 4 (.t 13))])
 (.drop [13] (.seq (.reg [un (.mov 14 (.t 0)),
 un (.len 15 (.t 14)),
 un (.mov 16 (.c (.int .i64 0)))])
 (.drop [14] (.block 2 (.loop Q0)))))))
 (.drop [13, 4, 14, 15, 16, 17, 18, 5, 19, 20, 21, 22, 23, 24, 25, 26, 27, 28, 29, 30, 31, 32] (.reg [un (.bin 33 .add (.t 11) (.c (.int .i64 1))),
 un (.asg 11 (.t 33))])))))
def Ah2 : ACode :=
 (.seq (.reg [un (.asg 2 (.c (.nilsl 1)))])
 (.seq (.reg [un (.mov 6 (.t 0)),
 un (.len 7 (.t 6)),
 un (.call 8 Jb [((.t 7), false)]),
 un (.asg 3 (.t 8))])
 (.drop [6, 7, 8] (.seq (.seq (.reg [un (.mov 9 (.t 0)),
 un (.len 10 (.t 9)),
 un (.mov 11 (.c (.int .i64 0)))])
 (.drop [9] (.block 0 (.loop Qx))))
 (.drop [9, 10, 11, 12, 13, 4, 14, 15, 16, 17, 18, 5, 19, 20, 21, 22, 23, 24, 25, 26, 27, 28, 29, 30, 31, 32, 33] (.seq (.reg [un (.mov 34 (.t 3)),
 un (.asg 2 (.t 34))])
 (.drop [34] .ret)))))))
abbrev Agz : List RS := [.t 2]
theorem Ai5 : Aw Try.prog Oq 35 Ah2 Agz = true := by kernel_rfl
def Aka : ACode :=
 (.seq (.reg [un (.asg 4 (.c (.bool false)))])
 (.seq (.reg [un (.mov 5 (.t 1)),
 un (.mov 6 (.t 0)),
 un (.len 7 (.t 6)),
 un (.call 8 Jn [((.t 5), false), ((.t 7), false)]),
 un (.asg 4 (.t 8))])
 (.drop [5, 6, 7, 8] .ret)))
abbrev Akl : List RS := [.t 4]
theorem Akz : Aw Try.prog Ii 9 Aka Akl = true := by kernel_rfl
def Ma : ACode :=
 (.seq (.reg [un (.bin 23 .lss (.t 22) (.t 21))])
 (.seq (.cond (.t 23) .skip
 (.exit 2))
 (.seq (.block 3 (.seq (.reg [un (.mov 24 (.t 22)),
 un (.iad 25 1 (.t 20) (.t 22)),
 un (.ld 26 1 false (.t 25)),
 un (.asg 8 (.t 24)),
 un (.asg 9 (.t 26))])
 (.drop [24, 25, 26] (.dreg [(un (.mov 27 (.t 5)), []),
 (un (.mov 28 (.t 6)), [27]),
 (un (.iad 29 1 (.t 27) (.t 28)), []),
 (un (.ld 30 1 false (.t 29)), []),
 (un (.mov 31 (.t 8)), [27, 28, 29, 30]),
 (un (.mov 32 (.t 0)), [27, 28, 29, 30, 31]),
 (un (.mov 33 (.t 7)), [27, 28, 29, 30, 31, 32]),
 (un (.iad 34 1 (.t 32) (.t 33)), [27, 28, 29, 30, 31]),
 (un (.ld 35 1 false (.t 34)), [27, 28, 29, 30, 31]),
 (un (.mov 36 (.t 9)), [27, 28, 29, 30, 31, 32, 33, 34, 35]),
 (un (.iad 37 1 (.t 35) (.t 36)), [27, 28, 29, 30, 31]),
 (un (.ld 38 1 false (.t 37)), [27, 28, 29, 30, 31])]
 [un (.iad 39 1 (.t 30) (.t 31)),
 un (.st 1 (.t 39) (.t 38))]))))
 (.drop [24, 25, 26, 8, 9, 27, 28, 29, 30, 31, 32, 33, 34, 35, 36, 37, 38, 39] (.reg [un (.bin 40 .add (.t 22) (.c (.int .i64 1))),
 un (.asg 22 (.t 40))])))))
def Me : ACode :=
 (.seq (.reg [un (.bin 16 .lss (.t 15) (.t 14))])
 (.seq (.cond (.t 16) .skip
 (.exit 0))
 (.seq (.block 1 (.seq (.reg [un (.mov 17 (.t 15)),
 un (.iad 18 1 (.t 13) (.t 15)),
 un (.ld 19 1 false (.t 18)),
 un (.asg 6 (.t 17)),
 un (.asg 7 (.t 19))])
 (.drop [17, 18, 19] (.seq (.reg [un (.mov 20 (.t 1)),
 un (.len 21 (.t 20)),
 un (.mov 22 (.c (.int .i64 0)))])
 (.block 2 (.loop Ma))))))
 (.drop [17, 18, 19, 6, 7, 20, 21, 22, 23, 24, 25, 26, 8, 9, 27, 28, 29, 30, 31, 32, 33, 34, 35, 36, 37, 38, 39, 40] (.reg [un (.bin 41 .add (.t 15) (.c (.int .i64 1))),
 un (.asg 15 (.t 41))])))))
def Abn : ACode :=
 (.seq (.reg [un (.asg 4 (.c (.nilsl 1)))])
 (.seq (.reg [un (.mov 10 (.t 1)),
 un (.len 11 (.t 10)),
 un (.call 12 Jb [((.t 11), false)]),
 un (.asg 5 (.t 12))])
 (.drop [10, 11, 12] (.seq (.seq (.reg [un (.mov 13 (.t 1)),
 un (.len 14 (.t 13)),
 un (.mov 15 (.c (.int .i64 0)))])
 (.block 0 (.loop Me)))
 (.drop [13, 14, 15, 16, 17, 18, 19, 6, 7, 20, 21, 22, 23, 24, 25, 26, 8, 9, 27, 28, 29, 30, 31, 32, 33, 34, 35, 36, 37, 38, 39, 40, 41] (.seq (.reg [un (.mov 42 (.t 5)),
 un (.asg 4 (.t 42))])
 (.drop [42] .ret)))))))
abbrev Abq : List RS := [.t 4]
theorem Abm : Aw Try.prog Js 43 Abn Abq = true := by kernel_rfl
def Aqx : ACode :=
 (.seq (.reg [un (.box 3 (.t 0)),
 un (.asg 6 (.c (.bool false)))])
 (.seq (.reg [un (.fadr 7 0 (.t 3)),
 un (.ld 8 1 false (.t 7)),
 un (.mov 9 (.t 2)),
 un (.iad 10 1 (.t 8) (.t 9)),
 un (.ld 11 1 false (.t 10)),
 un (.mov 12 (.t 1)),
 un (.call 13 Lh [((.t 11), false), ((.t 12), false)]),
 un (.asg 6 (.t 13))])
 (.drop [7, 8, 9, 10, 11, 12, 13] .ret)))
abbrev Aqg : List RS := [.t 6]
theorem Aqd : Aw Try.prog Jk 14 Aqx Aqg = true := by kernel_rfl
def J9 : ACode :=
 (.seq (.reg [un (.bin 59 .lss (.t 58) (.t 57))])
 (.seq (.cond (.t 59) .skip
 (.exit 6))
 (.seq (.block 7 (.seq (.reg [un (.iad 60 1 (.t 56) (.t 58)),
 un (.ld 61 1 false (.t 60)),
 un (.asg 13 (.t 61))])
 (.drop [60, 61] (.seq (.reg [un (.mov 62 (.t 6)),
 un (.asg 63 (.t 62)),
 ⟨some (63, false), .mov 64 (.t 5)⟩,
 ⟨some (63, false), .mov 65 (.t 13)⟩,
 ⟨some (63, false), .iad 66 1 (.t 64) (.t 65)⟩,
 ⟨some (63, false), .ld 67 1 false (.t 66)⟩,
 ⟨some (63, false), .un 68 .not (.t 67)⟩,
 un (.pick 69 (.t 63) (.c (.bool true)) (.t 68)),
 un (.asg 6 (.t 69))])
 (.drop [62, 63, 64, 65, 66, 67, 68, 69] (.reg [un (.mov 70 (.t 5)),
 un (.mov 71 (.t 13)),
 un (.iad 72 1 (.t 70) (.t 71)),
 un (.st 1 (.t 72) (.c (.bool true)))]))))))
 (.drop [60, 61, 13, 62, 63, 64, 65, 66, 67, 68, 69, 70, 71, 72] (.reg [un (.bin 73 .add (.t 58) (.c (.int .i64 1))),
 un (.asg 58 (.t 73))])))))
def J4 : ACode :=
 (.seq (.reg [un (.bin 33 .lss (.t 32) (.t 31))])
 (.seq (.cond (.t 33) .skip
 (.exit 4))
 (.seq (.block 5 (.seq (.reg [un (.iad 34 1 (.t 30) (.t 32)),
 un (.ld 35 1 false (.t 34)),
 un (.asg 11 (.t 35))])
 (.drop [34, 35] (.seq (.dreg [(un (.mov 36 (.t 0)), []),
 (un (.nck 37 (.t 36)), []),
 (un (.fadr 38 1 (.t 37)), []),
 (un (.ld 39 1 false (.t 38)), []),
 (un (.mov 40 (.t 9)), [36, 37, 38, 39]),
 (un (.iad 41 1 (.t 39) (.t 40)), []),
 (un (.ld 42 1 false (.t 41)), []),
 (un (.mov 43 (.t 11)), [36, 37, 38, 39, 40, 41, 42]),
 (un (.iad 44 1 (.t 42) (.t 43)), []),
 (un (.ld 45 1 false (.t 44)), []),
 (un (.mov 46 (.t 0)), [36, 37, 38, 39, 40, 41, 42, 43, 44, 45]),
 (un (.nck 47 (.t 46)), [36, 37, 38, 39, 40, 41, 42, 43, 44, 45]),
 (un (.fadr 48 2 (.t 47)), [36, 37, 38, 39, 40, 41, 42, 43, 44, 45]),
 (un (.ld 49 1 false (.t 48)), [36, 37, 38, 39, 40, 41, 42, 43, 44, 45]),
 (un (.mov 50 (.t 9)), [36, 37, 38, 39, 40, 41, 42, 43, 44, 45, 46, 47, 48, 49]),
 (un (.iad 51 1 (.t 49) (.t 50)), [36, 37, 38, 39, 40, 41, 42, 43, 44, 45]),
 (un (.ld 52 1 false (.t 51)), [36, 37, 38, 39, 40, 41, 42, 43, 44, 45]),
 (un (.mov 53 (.t 11)), [36, 37, 38, 39, 40, 41, 42, 43, 44, 45, 46, 47, 48, 49, 50, 51, 52]),
 (un (.iad 54 1 (.t 52) (.t 53)), [36, 37, 38, 39, 40, 41, 42, 43, 44, 45]),
 (un (.ld 55 1 false (.t 54)), [36, 37, 38, 39, 40, 41, 42, 43, 44, 45]),
 (un (.bsl 56 1 [(.t 45), (.t 55)]), []),
 (un (.len 57 (.t 56)), [45, 55]),
 (un (.mov 58 (.c (.int .i64 0))), [36, 37, 38, 39, 40, 41, 42, 43, 44, 45, 46, 47, 48, 49, 50, 51, 52, 53, 54, 55, 56, 57, 45, 55])]
 [])
 (.drop [36, 37, 38, 39, 40, 41, 42, 43, 44, 45, 46, 47, 48, 49, 50, 51, 52, 53, 54, 55] (.block 6 (.loop J9)))))))
 (.drop [34, 35, 11, 36, 37, 38, 39, 40, 41, 42, 43, 44, 45, 46, 47, 48, 49, 50, 51, 52, 53, 54, 55, 56, 57, 58, 59, 60, 61, 13, 62, 63, 64, 65, 66, 67, 68, 69, 70, 71, 72, 73] (.reg [un (.bin 74 .add (.t 32) (.c (.int .i64 1))),
 un (.asg 32 (.t 74))])))))
def J3 : ACode :=
 (.seq (.reg [un (.bin 27 .lss (.t 26) (.t 25))])
 (.seq (.cond (.t 27) .skip
 (.exit 2))
 (.seq (.block 3 (.seq (.reg [un (.iad 28 1 (.t 24) (.t 26)),
 un (.ld 29 1 false (.t 28)),
 un (.asg 9 (.t 29))])
 (.drop [28, 29] (.seq (.reg [un (.mov 30 (.t 7)),
 un (.len 31 (.t 30)),
 un (.mov 32 (.c (.int .i64 0)))])
 (.block 4 (.loop J4))))))
 (.drop [28, 29, 9, 30, 31, 32, 33, 34, 35, 11, 36, 37, 38, 39, 40, 41, 42, 43, 44, 45, 46, 47, 48, 49, 50, 51, 52, 53, 54, 55, 56, 57, 58, 59, 60, 61, 13, 62, 63, 64, 65, 66, 67, 68, 69, 70, 71, 72, 73, 74] (.reg [un (.bin 75 .add (.t 26) (.c (.int .i64 1))),
 un (.asg 26 (.t 75))])))))
def Ka : ACode :=
 (.seq (.seq (.reg [un (.mov 21 (.t 6))])
 (.cond (.t 21) .skip
 (.exit 0)))
 (.drop [21] (.block 1 (.seq (.reg [un (.asg 6 (.c (.bool false)))])
 (.seq (.reg [un (.mov 22 (.t 5)),
 un (.call 23 Mk [((.t 22), false)]),
 un (.asg 7 (.t 23))])
 (.drop [22, 23] (.seq (.reg [un (.mov 24 (.t 7)),
 un (.len 25 (.t 24)),
 un (.mov 26 (.c (.int .i64 0)))])
 (.block 2 (.loop J3)))))))))
def Wt : ACode :=
 (.seq (.reg [un (.asg 4 (.c (.nilsl 1)))])
 (.seq (.reg [un (.mov 14 (.t 1)),
 un (.mov 15 (.t 0)),
 un (.nck 16 (.t 15)),
 un (.fadr 17 0 (.t 16)),
 un (.ld 18 1 false (.t 17)),
 un (.len 19 (.t 18)),
 un (.call 20 Sw [((.t 14), false), ((.t 19), false)]),
 un (.asg 5 (.t 20))])
 (.drop [14, 15, 16, 17, 18, 19, 20] (.seq (.seq (.reg [un (.asg 6 (.c (.bool true)))])
 (.block 0 (.loop Ka)))
 (.drop [6, 21, 22, 23, 7, 24, 25, 26, 27, 28, 29, 9, 30, 31, 32, 33, 34, 35, 11, 36, 37, 38, 39, 40, 41, 42, 43, 44, 45, 46, 47, 48, 49, 50, 51, 52, 53, 54, 55, 56, 57, 58, 59, 60, 61, 13, 62, 63, 64, 65, 66, 67, 68, 69, 70, 71, 72, 73, 74, 75] (.seq (.reg [un (.mov 76 (.t 5)),
 un (.call 77 Mk [((.t 76), false)]),
 un (.asg 4 (.t 77))])
 (.drop [76, 77] .ret)))))))
abbrev W1 : List RS := [.t 4]
theorem Xl : Aw Try.prog Fg 78 Wt W1 = true := by kernel_rfl
def Qs : ACode :=
 (.seq (.seq (.reg [un (.mov 6 (.t 5)),
 un (.mov 7 (.t 1)),
 un (.len 8 (.t 7)),
 un (.bin 9 .lss (.t 6) (.t 8))])
 (.drop [6, 7, 8] (.cond (.t 9) .skip
 (.exit 0))))
 (.drop [6, 7, 8, 9] (.seq (.block 1 (.seq (.reg [un (.mov 12 (.t 1)),
 un (.mov 13 (.t 5)),
 un (.iad 14 1 (.t 12) (.t 13)),
 un (.ld 15 1 false (.t 14)),
 un (.mov 16 (.t 0)),
 un (.bin 17 .sub (.t 16) (.c (.int .i64 1))),
 un (.call 18 Kv [((.t 15), false), ((.c (.int .i64 0)), false), ((.t 17), false)]),
 un (.un 19 .not (.t 18))])
 (.drop [12, 13, 14, 15, 16, 17, 18] (.cond (.t 19) (.seq (.reg [un (.asg 4 (.c (.bool false)))])
 .ret)
 .skip))))
 (.drop [12, 13, 14, 15, 16, 17, 18, 19] (.reg [un (.mov 10 (.t 5)),
 un (.bin 11 .add (.t 10) (.c (.int .i64 1))),
 un (.asg 5 (.t 11))])))))
def Ajc : ACode :=
 (.seq (.reg [un (.asg 4 (.c (.bool false)))])
 (.seq (.seq (.reg [un (.asg 5 (.c (.int .i64 0)))])
 (.block 0 (.loop Qs)))
 (.drop [5, 6, 7, 8, 9, 12, 13, 14, 15, 16, 17, 18, 19, 10, 11] (.seq (.reg [un (.asg 4 (.c (.bool true)))])
 .ret))))
abbrev Ahh : List RS := [.t 4]
theorem Ahb : Aw Try.prog J1 20 Ajc Ahh = true := by kernel_rfl
def Ls : ACode :=
 (.seq (.reg [un (.bin 19 .lss (.t 18) (.t 17))])
 (.seq (.cond (.t 19) .skip
 (.exit 2))
 (.seq (.block 3 (.seq (.reg [un (.mov 20 (.t 18)),
 un (.alc 7 (.int .i64 0)),
 un (.st 1 (.t 7) (.t 20))])
 (.drop [20] (.seq (.dreg [(un (.ld 21 1 false (.t 1)), []),
 (un (.ld 22 1 false (.t 1)), [21]),
 (un (.mkf 23 Ff [(.t 1), (.t 5), (.t 7)]), [21, 22]),
 (un (.call 24 Mt [((.t 22), false), ((.t 23), false)]), [21])]
 [un (.call 25 Jw [((.t 21), false), ((.t 24), false)]),
 un (.asg 8 (.t 25))])
 (.drop [21, 22, 23, 24, 25] (.seq (.seq (.reg [un (.mov 26 (.t 8)),
 un (.bin 27 .lss (.t 26) (.c (.int .i64 0)))])
 (.drop [26] (.cond (.t 27) (.seq (.reg [un (.asg 2 (.c (.nilsl 1))),
 un (.asg 3 (.c (.bool false)))])
 .ret)
 .skip)))
 (.drop [26, 27] (.reg [un (.mov 28 (.t 6)),
 un (.mov 29 (.t 8)),
 un (.bsl 30 1 [(.t 29)]),
 un (.app 31 1 (.t 28) (.t 30)),
 un (.asg 6 (.t 31))]))))))))
 (.drop [20, 7, 21, 22, 23, 24, 25, 8, 26, 27, 28, 29, 30, 31] (.reg [un (.bin 32 .add (.t 18) (.c (.int .i64 1))),
 un (.asg 18 (.t 32))])))))
def Lo : ACode :=
 (.seq (.reg [un (.bin 13 .lss (.t 12) (.t 11))])
 (.seq (.cond (.t 13) .skip
 (.exit 0))
 (.seq (.block 1 (.seq (.reg [un (.mov 14 (.t 12)),
 un (.alc 5 (.int .i64 0)),
 un (.st 1 (.t 5) (.t 14))])
 (.drop [14] (.seq (.reg [un (.bsl 15 1 []),
 un (.asg 6 (.t 15))])
 (.drop [15] (.seq (.seq (.reg [un (.ld 16 1 false (.t 1)),
 un (.len 17 (.t 16)),
 un (.mov 18 (.c (.int .i64 0)))])
 (.drop [16] (.block 2 (.loop Ls))))
 (.drop [16, 17, 18, 19, 20, 7, 21, 22, 23, 24, 25, 8, 26, 27, 28, 29, 30, 31, 32] (.reg [un (.mov 33 (.t 4)),
 un (.mov 34 (.t 6)),
 un (.bsl 35 1 [(.t 34)]),
 un (.app 36 1 (.t 33) (.t 35)),
 un (.asg 4 (.t 36))]))))))))
 (.drop [14, 5, 15, 6, 16, 17, 18, 19, 20, 7, 21, 22, 23, 24, 25, 8, 26, 27, 28, 29, 30, 31, 32, 33, 34, 35, 36] (.reg [un (.bin 37 .add (.t 12) (.c (.int .i64 1))),
 un (.asg 12 (.t 37))])))))
def Zo : ACode :=
 (.seq (.reg [un (.box 1 (.t 0)),
 un (.asg 2 (.c (.nilsl 1))),
 un (.asg 3 (.c (.bool false)))])
 (.seq (.reg [un (.bsl 9 1 []),
 un (.asg 4 (.t 9))])
 (.drop [9] (.seq (.seq (.reg [un (.ld 10 1 false (.t 1)),
 un (.len 11 (.t 10)),
 un (.mov 12 (.c (.int .i64 0)))])
 (.drop [10] (.block 0 (.loop Lo))))
 (.drop [10, 11, 12, 13, 14, 5, 15, 6, 16, 17, 18, 19, 20, 7, 21, 22, 23, 24, 25, 8, 26, 27, 28, 29, 30, 31, 32, 33, 34, 35, 36, 37] (.seq (.reg [un (.mov 38 (.t 4)),
 un (.asg 2 (.t 38)),
 un (.asg 3 (.c (.bool true)))])
 (.drop [38] .ret)))))))
abbrev Zd : List RS := [.t 2, .t 3]
theorem Aah : Aw Try.prog Gf 39 Zo Zd = true := by kernel_rfl
def Az3 : ACode :=
 (.seq (.reg [un (.box 2 (.t 0)),
 un (.box 3 (.t 1)),
 un (.asg 4 (.c (.bool false)))])
 (.seq (.reg [un (.fadr 5 0 (.t 2)),
 un (.ld 6 1 false (.t 5)),
 un (.fadr 7 0 (.t 3)),
 un (.ld 8 1 false (.t 7)),
 un (.bin 9 .eql (.t 6) (.t 8)),
 un (.asg 10 (.t 9)),
 ⟨some (10, true), .fadr 11 1 (.t 2)⟩,
 ⟨some (10, true), .ld 12 1 false (.t 11)⟩,
 ⟨some (10, true), .fadr 13 1 (.t 3)⟩,
 ⟨some (10, true), .ld 14 1 false (.t 13)⟩,
 ⟨some (10, true), .call 15 N7 [((.t 12), false), ((.t 14), false)]⟩,
 un (.pick 16 (.t 10) (.t 15) (.c (.bool false))),
 un (.asg 4 (.t 16))])
 (.drop [5, 6, 7, 8, 9, 10, 11, 12, 13, 14, 15, 16] .ret)))
abbrev Ay6 : List RS := [.t 4]
theorem Azs : Aw Try.prog Af9 17 Az3 Ay6 = true := by kernel_rfl
def Uj : ACode :=
 (.seq (.seq (.reg [un (.mov 8 (.t 7)),
 un (.mov 9 (.t 0)),
 un (.len 10 (.t 9)),
 un (.bin 11 .lss (.t 8) (.t 10))])
 (.drop [8, 9, 10] (.cond (.t 11) .skip
 (.exit 0))))
 (.drop [8, 9, 10, 11] (.seq (.block 1 (.seq (.dreg [(un (.mov 14 (.t 0)), []),
 (un (.mov 15 (.t 7)), [14]),
 (un (.iad 16 1 (.t 14) (.t 15)), []),
 (un (.ld 17 1 false (.t 16)), []),
 (un (.mov 18 (.t 1)), [14, 15, 16, 17]),
 (un (.mov 19 (.t 2)), [14, 15, 16, 17, 18]),
 (un (.call 20 Kv [((.t 17), false), ((.t 18), false), ((.t 19), false)]), []),
 (un (.un 21 .not (.t 20)), []),
 (un (.asg 22 (.t 21)), []),
 (⟨some (22, false), .mov 23 (.t 7)⟩, [21]),
 (⟨some (22, false), .bin 24 .gtr (.t 23) (.c (.int .i64 0))⟩, [21]),
 (⟨some (22, false), .asg 25 (.t 24)⟩, [21]),
 (⟨some (25, true), .mov 26 (.t 0)⟩, [21, 24]),
 (⟨some (25, true), .mov 27 (.t 7)⟩, [26, 21, 24]),
 (⟨some (25, true), .bin 28 .sub (.t 27) (.c (.int .i64 1))⟩, [26, 21, 24]),
 (⟨some (25, true), .iad 29 1 (.t 26) (.t 28)⟩, [21, 24]),
 (⟨some (25, true), .ld 30 1 false (.t 29)⟩, [21, 24]),
 (⟨some (25, true), .mov 31 (.t 0)⟩, [26, 27, 28, 29, 30, 21, 24]),
 (⟨some (25, true), .mov 32 (.t 7)⟩, [26, 27, 28, 29, 30, 31, 21, 24]),
 (⟨some (25, true), .iad 33 1 (.t 31) (.t 32)⟩, [26, 27, 28, 29, 30, 21, 24]),
 (⟨some (25, true), .ld 34 1 false (.t 33)⟩, [26, 27, 28, 29, 30, 21, 24])]
 [⟨some (25, true), .bin 35 .geq (.t 30) (.t 34)⟩,
 ⟨some (22, false), .pick 36 (.t 25) (.t 35) (.c (.bool false))⟩,
 un (.pick 37 (.t 22) (.c (.bool true)) (.t 36))])
 (.drop [14, 15, 16, 17, 18, 19, 20, 21, 22, 23, 24, 25, 26, 27, 28, 29, 30, 31, 32, 33, 34, 35, 36] (.cond (.t 37) (.seq (.reg [un (.asg 6 (.c (.bool false)))])
 .ret)
 .skip))))
 (.drop [14, 15, 16, 17, 18, 19, 20, 21, 22, 23, 24, 25, 26, 27, 28, 29, 30, 31, 32, 33, 34, 35, 36, 37] (.reg [un (.mov 12 (.t 7)),
 un (.bin 13 .add (.t 12) (.c (.int .i64 1))),
 un (.asg 7 (.t 13))])))))
def Amk : ACode :=
 (.seq (.reg [un (.asg 6 (.c (.bool false)))])
 (.seq (.seq (.reg [un (.asg 7 (.c (.int .i64 0)))])
 (.block 0 (.loop Uj)))
 (.drop [7, 8, 9, 10, 11, 14, 15, 16, 17, 18, 19, 20, 21, 22, 23, 24, 25, 26, 27, 28, 29, 30, 31, 32, 33, 34, 35, 36, 37, 12, 13] (.seq (.reg [un (.asg 6 (.c (.bool true)))])
 .ret))))
abbrev Amf : List RS := [.t 6]
theorem Ami : Aw Try.prog Jf 38 Amk Amf = true := by kernel_rfl
def Tu : ACode :=
 (.seq (.seq (.reg [un (.mov 6 (.t 5)),
 un (.mov 7 (.t 0)),
 un (.len 8 (.t 7)),
 un (.bin 9 .lss (.t 6) (.t 8))])
 (.drop [6, 7, 8] (.cond (.t 9) .skip
 (.exit 0))))
 (.drop [6, 7, 8, 9] (.seq (.block 1 (.seq (.reg [un (.mov 12 (.t 1)),
 un (.mov 13 (.t 0)),
 un (.mov 14 (.t 5)),
 un (.iad 15 1 (.t 13) (.t 14)),
 un (.ld 16 1 false (.t 15)),
 un (.call 17 Lh [((.t 12), false), ((.t 16), false)]),
 un (.un 18 .not (.t 17))])
 (.drop [12, 13, 14, 15, 16, 17] (.cond (.t 18) (.seq (.reg [un (.asg 4 (.c (.bool false)))])
 .ret)
 .skip))))
 (.drop [12, 13, 14, 15, 16, 17, 18] (.reg [un (.mov 10 (.t 5)),
 un (.bin 11 .add (.t 10) (.c (.int .i64 1))),
 un (.asg 5 (.t 11))])))))
def Alz : ACode :=
 (.seq (.reg [un (.asg 4 (.c (.bool false)))])
 (.seq (.seq (.reg [un (.asg 5 (.c (.int .i64 0)))])
 (.block 0 (.loop Tu)))
 (.drop [5, 6, 7, 8, 9, 12, 13, 14, 15, 16, 17, 18, 10, 11] (.seq (.reg [un (.asg 4 (.c (.bool true)))])
 .ret))))
abbrev Alv : List RS := [.t 4]
theorem Amj : Aw Try.prog Mm 19 Alz Alv = true := by kernel_rfl
def Rc : ACode :=
 (.seq (.reg [un (.bin 22 .lss (.t 21) (.t 20))])
 (.seq (.cond (.t 22) .skip
 (.exit 4))
 (.seq (.block 5 (.seq (.reg [un (.mov 23 (.t 21)),
 un (.iad 24 1 (.t 19) (.t 21)),
 un (.ld 25 1 false (.t 24)),
 un (.asg 8 (.t 23)),
 un (.asg 9 (.t 25))])
 (.drop [23, 24, 25] (.seq (.reg [un (.mov 26 (.t 1)),
 un (.mov 27 (.t 9)),
 un (.iad 28 1 (.t 26) (.t 27)),
 un (.ld 29 1 false (.t 28)),
 un (.un 30 .not (.t 29)),
 un (.asg 31 (.t 30)),
 ⟨some (31, true), .mov 32 (.t 8)⟩,
 ⟨some (31, true), .fadr 33 0 (.t 7)⟩,
 ⟨some (31, true), .ld 34 1 false (.t 33)⟩,
 ⟨some (31, true), .fadr 35 0 (.t 2)⟩,
 ⟨some (31, true), .ld 36 1 false (.t 35)⟩,
 ⟨some (31, true), .mov 37 (.t 1)⟩,
 ⟨some (31, true), .call 38 Y9 [((.t 32), false), ((.t 34), false), ((.t 36), false), ((.t 37), false)]⟩,
 un (.pick 39 (.t 31) (.t 38) (.c (.bool false)))])
 (.drop [26, 27, 28, 29, 30, 31, 32, 33, 34, 35, 36, 37, 38] (.cond (.t 39) (.seq (.reg [un (.mov 40 (.t 1)),
 un (.mov 41 (.t 9)),
 un (.iad 42 1 (.t 40) (.t 41)),
 un (.st 1 (.t 42) (.c (.bool true)))])
 (.drop [40, 41, 42] (.reg [un (.asg 5 (.c (.bool true)))])))
 .skip))))))
 (.drop [23, 24, 25, 8, 9, 26, 27, 28, 29, 30, 31, 32, 33, 34, 35, 36, 37, 38, 39, 40, 41, 42] (.reg [un (.bin 43 .add (.t 21) (.c (.int .i64 1))),
 un (.asg 21 (.t 43))])))))
def Rj : ACode :=
 (.seq (.reg [un (.bin 15 .lss (.t 14) (.t 13))])
 (.seq (.cond (.t 15) .skip
 (.exit 2))
 (.seq (.block 3 (.seq (.reg [un (.iad 16 2 (.t 12) (.t 14)),
 un (.ld 17 2 true (.t 16)),
 un (.alc 7 (.agg [.int .i64 0, .nilsl 1])),
 un (.st 2 (.t 7) (.t 17))])
 (.drop [16, 17] (.seq (.reg [un (.fadr 18 1 (.t 7)),
 un (.ld 19 1 false (.t 18)),
 un (.len 20 (.t 19)),
 un (.mov 21 (.c (.int .i64 0)))])
 (.drop [18] (.block 4 (.loop Rc)))))))
 (.drop [16, 17, 7, 18, 19, 20, 21, 22, 23, 24, 25, 8, 9, 26, 27, 28, 29, 30, 31, 32, 33, 34, 35, 36, 37, 38, 39, 40, 41, 42, 43] (.reg [un (.bin 44 .add (.t 14) (.c (.int .i64 1))),
 un (.asg 14 (.t 44))])))))
def Ra : ACode :=
 (.seq (.seq (.reg [un (.mov 10 (.t 5))])
 (.cond (.t 10) .skip
 (.exit 0)))
 (.drop [10] (.block 1 (.seq (.reg [un (.asg 5 (.c (.bool false)))])
 (.seq (.reg [un (.fadr 11 1 (.t 2)),
 un (.ld 12 1 false (.t 11)),
 un (.len 13 (.t 12)),
 un (.mov 14 (.c (.int .i64 0)))])
 (.drop [11] (.block 2 (.loop Rj))))))))
def Aja : ACode :=
 (.seq (.reg [un (.box 2 (.t 0)),
 un (.asg 4 (.c (.nilsl 1)))])
 (.seq (.seq (.reg [un (.asg 5 (.c (.bool true)))])
 (.block 0 (.loop Ra)))
 (.drop [5, 10, 11, 12, 13, 14, 15, 16, 17, 7, 18, 19, 20, 21, 22, 23, 24, 25, 8, 9, 26, 27, 28, 29, 30, 31, 32, 33, 34, 35, 36, 37, 38, 39, 40, 41, 42, 43, 44] (.seq (.reg [un (.mov 45 (.t 1)),
 un (.asg 4 (.t 45))])
 (.drop [45] .ret)))))
abbrev Ai0 : List RS := [.t 4]
theorem Ag4 : Aw Try.prog Od 46 Aja Ai0 = true := by kernel_rfl
def Xz : ACode :=
 (.seq (.seq (.reg [un (.mov 42 (.t 10)),
 un (.mov 43 (.t 8)),
 un (.len 44 (.t 43)),
 un (.bin 45 .lss (.t 42) (.t 44))])
 (.drop [42, 43, 44] (.cond (.t 45) .skip
 (.exit 4))))
 (.drop [42, 43, 44, 45] (.seq (.block 5 (.reg [un (.mov 48 (.t 9)),
 un (.asg 49 (.t 48)),
 ⟨some (49, true), .mov 50 (.t 1)⟩,
 ⟨some (49, true), .mov 51 (.t 8)⟩,
 ⟨some (49, true), .mov 52 (.t 10)⟩,
 ⟨some (49, true), .iad 53 1 (.t 51) (.t 52)⟩,
 ⟨some (49, true), .ld 54 1 false (.t 53)⟩,
 ⟨some (49, true), .iad 55 1 (.t 50) (.t 54)⟩,
 ⟨some (49, true), .ld 56 1 false (.t 55)⟩,
 un (.pick 57 (.t 49) (.t 56) (.c (.bool false))),
 un (.asg 9 (.t 57))]))
 (.drop [48, 49, 50, 51, 52, 53, 54, 55, 56, 57] (.reg [un (.mov 46 (.t 10)),
 un (.bin 47 .add (.t 46) (.c (.int .i64 1))),
 un (.asg 10 (.t 47))])))))
def Xw : ACode :=
 (.seq (.seq (.reg [un (.mov 21 (.t 7)),
 un (.fadr 22 1 (.t 2)),
 un (.ld 23 1 false (.t 22)),
 un (.mov 24 (.t 6)),
 un (.iad 25 2 (.t 23) (.t 24)),
 un (.fadr 26 1 (.t 25)),
 un (.ld 27 1 false (.t 26)),
 un (.len 28 (.t 27)),
 un (.bin 29 .lss (.t 21) (.t 28))])
 (.drop [21, 22, 23, 24, 25, 26, 27, 28] (.cond (.t 29) .skip
 (.exit 2))))
 (.drop [21, 22, 23, 24, 25, 26, 27, 28, 29] (.seq (.block 3 (.seq (.dreg [(un (.fadr 32 0 (.t 2)), []),
 (un (.ld 33 1 false (.t 32)), []),
 (un (.fadr 34 1 (.t 2)), [32, 33]),
 (un (.ld 35 1 false (.t 34)), [32, 33]),
 (un (.mov 36 (.t 6)), [32, 33, 34, 35]),
 (un (.iad 37 2 (.t 35) (.t 36)), [32, 33]),
 (un (.fadr 38 0 (.t 37)), [32, 33]),
 (un (.ld 39 1 false (.t 38)), [32, 33]),
 (un (.mov 40 (.t 7)), [32, 33, 34, 35, 36, 37, 38, 39])]
 [un (.call 41 W6 [((.t 33), false), ((.t 39), false), ((.t 40), false)]),
 un (.asg 8 (.t 41))])
 (.drop [32, 33, 34, 35, 36, 37, 38, 39, 40, 41] (.seq (.reg [un (.asg 9 (.c (.bool true)))])
 (.seq (.seq (.reg [un (.asg 10 (.c (.int .i64 0)))])
 (.block 4 (.loop Xz)))
 (.drop [10, 42, 43, 44, 45, 48, 49, 50, 51, 52, 53, 54, 55, 56, 57, 46, 47] (.seq (.reg [un (.mov 58 (.t 9))])
 (.cond (.t 58) (.reg [un (.mov 59 (.t 5)),
 un (.fadr 60 1 (.t 2)),
 un (.ld 61 1 false (.t 60)),
 un (.mov 62 (.t 6)),
 un (.iad 63 2 (.t 61) (.t 62)),
 un (.fadr 64 1 (.t 63)),
 un (.ld 65 1 false (.t 64)),
 un (.mov 66 (.t 7)),
 un (.iad 67 1 (.t 65) (.t 66)),
 un (.ld 68 1 false (.t 67)),
 un (.iad 69 1 (.t 59) (.t 68)),
 un (.st 1 (.t 69) (.c (.bool true)))])
 .skip))))))))
 (.drop [32, 33, 34, 35, 36, 37, 38, 39, 40, 41, 8, 9, 10, 42, 43, 44, 45, 48, 49, 50, 51, 52, 53, 54, 55, 56, 57, 46, 47, 58, 59, 60, 61, 62, 63, 64, 65, 66, 67, 68, 69] (.reg [un (.mov 30 (.t 7)),
 un (.bin 31 .add (.t 30) (.c (.int .i64 1))),
 un (.asg 7 (.t 31))])))))
def Yl : ACode :=
 (.seq (.seq (.reg [un (.mov 14 (.t 6)),
 un (.fadr 15 1 (.t 2)),
 un (.ld 16 1 false (.t 15)),
 un (.len 17 (.t 16)),
 un (.bin 18 .lss (.t 14) (.t 17))])
 (.drop [14, 15, 16, 17] (.cond (.t 18) .skip
 (.exit 0))))
 (.drop [14, 15, 16, 17, 18] (.seq (.block 1 (.seq (.reg [un (.asg 7 (.c (.int .i64 0)))])
 (.block 2 (.loop Xw))))
 (.drop [7, 21, 22, 23, 24, 25, 26, 27, 28, 29, 32, 33, 34, 35, 36, 37, 38, 39, 40, 41, 8, 9, 10, 42, 43, 44, 45, 48, 49, 50, 51, 52, 53, 54, 55, 56, 57, 46, 47, 58, 59, 60, 61, 62, 63, 64, 65, 66, 67, 68, 69, 30, 31] (.reg [un (.mov 19 (.t 6)),
 un (.bin 20 .add (.t 19) (.c (.int .i64 1))),
 un (.asg 6 (.t 20))])))))
def Aqt : ACode :=
 (.seq (.reg [un (.box 2 (.t 0)),
 un (.asg 4 (.c (.nilsl 1)))])
 (.seq (.reg [un (.bsl 11 1 []),
 un (.mov 12 (.t 1)),
 un (.app 13 1 (.t 11) (.t 12)),
 un (.asg 5 (.t 13))])
 (.drop [11, 12, 13] (.seq (.seq (.reg [un (.asg 6 (.c (.int .i64 0)))])
 (.block 0 (.loop Yl)))
 (.drop [6, 14, 15, 16, 17, 18, 7, 21, 22, 23, 24, 25, 26, 27, 28, 29, 32, 33, 34, 35, 36, 37, 38, 39, 40, 41, 8, 9, 10, 42, 43, 44, 45, 48, 49, 50, 51, 52, 53, 54, 55, 56, 57, 46, 47, 58, 59, 60, 61, 62, 63, 64, 65, 66, 67, 68, 69, 30, 31, 19, 20] (.seq (.reg [un (.mov 70 (.t 5)),
 un (.asg 4 (.t 70))])
 (.drop [70] .ret)))))))
abbrev Aq6 : List RS := [.t 4]
theorem Arg : Aw Try.prog W5 71 Aqt Aq6 = true := by kernel_rfl
def Aks : ACode :=
 (.seq (.reg [un (.asg 4 (.c (.bool false)))])
 (.seq (.reg [un (.mov 5 (.t 0)),
 un (.mov 6 (.t 1)),
 un (.call 7 Be [((.t 5), true), ((.t 6), false)]),
 un (.bin 8 .eql (.t 7) (.c (.int .i64 0))),
 un (.asg 4 (.t 8))])
 (.drop [5, 6, 7, 8] .ret)))
abbrev Ajl : List RS := [.t 4]
theorem Ajn : Aw Try.prog Cz 9 Aks Ajl = true := by kernel_rfl
def Afj : ACode :=
 (.seq (.reg [un (.asg 4 (.c (.int .i64 0)))])
 (.seq (.reg [un (.mov 5 (.t 1)),
 un (.mov 6 (.t 0)),
 un (.mov 7 (.t 1)),
 un (.len 8 (.t 7)),
 un (.call 9 Be [((.t 6), true), ((.t 8), false)]),
 un (.iad 10 1 (.t 5) (.t 9)),
 un (.ld 11 1 false (.t 10)),
 un (.asg 4 (.t 11))])
 (.drop [5, 6, 7, 8, 9, 10, 11] .ret)))
abbrev Agf : List RS := [.t 4]
theorem Aff : Aw Try.prog E9 12 Afj Agf = true := by kernel_rfl
def Ajp : ACode :=
 (.seq (.reg [un (.fadr 4 0 (.t 1)),
 un (.ld 5 1 false (.t 4)),
 un (.call 6 Kv [((.t 5), false), ((.c (.int .i64 1)), false), ((.c (.int .i64 8)), false)]),
 un (.un 7 .not (.t 6)),
 un (.asg 8 (.t 7)),
 ⟨some (8, false), .fadr 9 1 (.t 1)⟩,
 ⟨some (8, false), .ld 10 1 false (.t 9)⟩,
 ⟨some (8, false), .len 11 (.t 10)⟩,
 ⟨some (8, false), .bin 12 .gtr (.t 11) (.c (.int .i64 4))⟩,
 un (.pick 13 (.t 8) (.c (.bool true)) (.t 12))])
 (.drop [4, 5, 6, 7, 8, 9, 10, 11, 12] (.cond (.t 13) (.seq (.reg [un (.asg 2 (.c (.bool false)))])
 .ret)
 .skip)))
def X2 : ACode :=
 (.seq (.seq (.reg [un (.mov 14 (.t 3)),
 un (.fadr 15 1 (.t 1)),
 un (.ld 16 1 false (.t 15)),
 un (.len 17 (.t 16)),
 un (.bin 18 .lss (.t 14) (.t 17))])
 (.drop [14, 15, 16, 17] (.cond (.t 18) .skip
 (.exit 0))))
 (.drop [14, 15, 16, 17, 18] (.seq (.block 1 (.seq (.dreg [(un (.fadr 21 0 (.t 1)), []),
 (un (.ld 22 1 false (.t 21)), []),
 (un (.fadr 23 1 (.t 1)), [21, 22]),
 (un (.ld 24 1 false (.t 23)), [21, 22]),
 (un (.mov 25 (.t 3)), [21, 22, 23, 24]),
 (un (.iad 26 2 (.t 24) (.t 25)), [21, 22]),
 (un (.ld 27 2 true (.t 26)), [21, 22])]
 [un (.call 28 Acw [((.t 22), false), ((.t 27), false)]),
 un (.un 29 .not (.t 28))])
 (.drop [21, 22, 23, 24, 25, 26, 27, 28] (.cond (.t 29) (.seq (.reg [un (.asg 2 (.c (.bool false)))])
 .ret)
 .skip))))
 (.drop [21, 22, 23, 24, 25, 26, 27, 28, 29] (.reg [un (.mov 19 (.t 3)),
 un (.bin 20 .add (.t 19) (.c (.int .i64 1))),
 un (.asg 3 (.t 20))])))))
def Arm : ACode :=
 (.seq (.reg [un (.box 1 (.t 0)),
 un (.asg 2 (.c (.bool false)))])
 (.seq (.cut Ajp)
 (.drop [4, 5, 6, 7, 8, 9, 10, 11, 12, 13] (.seq (.seq (.reg [un (.asg 3 (.c (.int .i64 0)))])
 (.block 0 (.loop X2)))
 (.drop [3, 14, 15, 16, 17, 18, 21, 22, 23, 24, 25, 26, 27, 28, 29, 19, 20] (.seq (.reg [un (.asg 2 (.c (.bool true)))])
 .ret))))))
abbrev Aqb : List RS := [.t 2]
theorem Ap9 : Aw Try.prog Wu 30 Arm Aqb = true := by kernel_rfl
end Go.Proofs.Ytoikbcagaanhgaa.Ax
