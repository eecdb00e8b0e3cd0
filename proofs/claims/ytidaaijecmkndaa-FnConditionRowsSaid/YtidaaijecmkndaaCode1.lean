/-
  The small code of the functions, written by program; that the program's code is this one, the kernel looks at.
-/
import Derived.Test.YtidaaijecmkndaaAx3
import Derived.Test.YtidaaijecmkndaaProg
import Derived.KernelRfl
import Derived.Test.YtidaaijecmkndaaNum
namespace Go.Proofs.Ytidaaijecmkndaa.Ax
open Go
set_option maxRecDepth 100000
def Afb : ACode :=
 (.seq (.reg [un (.asg 2 (.c (.bool false)))])
 (.seq (.reg [un (.mov 3 (.t 0)),
 un (.len 4 (.t 3)),
 un (.bin 5 .gtr (.t 4) (.c (.int .i64 65536))),
 un (.asg 2 (.t 5))])
 (.drop [3, 4, 5] .ret)))
abbrev Afu : List RS := [.t 2]
theorem Afp : Be Try.prog Rp 6 Afb Afu = true := by kernel_rfl
def P7 : ACode :=
 (.seq (.seq (.reg [un (.mov 11 (.t 5)),
 un (.mov 12 (.t 0)),
 un (.len 13 (.t 12)),
 un (.bin 14 .lss (.t 11) (.t 13))])
 (.drop [11, 12, 13] (.cond (.t 14) .skip
 (.exit 0))))
 (.drop [11, 12, 13, 14] (.seq (.block 1 (.seq (.dreg [(un (.mov 17 (.t 0)), []),
 (un (.mov 18 (.t 5)), [17]),
 (un (.iad 19 1 (.t 17) (.t 18)), []),
 (un (.ld 20 1 false (.t 19)), []),
 (un (.mov 21 (.t 1)), [17, 18, 19, 20]),
 (un (.mov 22 (.t 5)), [17, 18, 19, 20, 21]),
 (un (.iad 23 1 (.t 21) (.t 22)), [17, 18, 19, 20]),
 (un (.ld 24 1 false (.t 23)), [17, 18, 19, 20])]
 [un (.bin 25 .neq (.t 20) (.t 24))])
 (.drop [17, 18, 19, 20, 21, 22, 23, 24] (.cond (.t 25) (.seq (.reg [un (.asg 4 (.c (.bool false)))])
 .ret)
 .skip))))
 (.drop [17, 18, 19, 20, 21, 22, 23, 24, 25] (.reg [un (.mov 15 (.t 5)),
 un (.bin 16 .add (.t 15) (.c (.int .i64 1))),
 un (.asg 5 (.t 16))])))))
def Aeo : ACode :=
 (.seq (.reg [un (.asg 4 (.c (.bool false)))])
 (.seq (.seq (.reg [un (.mov 6 (.t 0)),
 un (.len 7 (.t 6)),
 un (.mov 8 (.t 1)),
 un (.len 9 (.t 8)),
 un (.bin 10 .neq (.t 7) (.t 9))])
 (.drop [6, 7, 8, 9] (.cond (.t 10) (.seq (.reg [un (.asg 4 (.c (.bool false)))])
 .ret)
 .skip)))
 (.drop [6, 7, 8, 9, 10] (.seq (.seq (.reg [un (.asg 5 (.c (.int .i64 0)))])
 (.block 0 (.loop P7)))
 (.drop [5, 11, 12, 13, 14, 17, 18, 19, 20, 21, 22, 23, 24, 25, 15, 16] (.seq (.reg [un (.asg 4 (.c (.bool true)))])
 .ret))))))
abbrev Adr : List RS := [.t 4]
theorem Aem : Be Try.prog K8 26 Aeo Adr = true := by kernel_rfl
def Afl : ACode :=
 (.seq (.reg [un (.asg 6 (.c (.bool false)))])
 (.seq (.reg [un (.mov 7 (.t 0)),
 un (.mov 8 (.t 1)),
 un (.bin 9 .geq (.t 7) (.t 8)),
 un (.asg 10 (.t 9)),
 ⟨some (10, true), .mov 11 (.t 0)⟩,
 ⟨some (10, true), .mov 12 (.t 2)⟩,
 ⟨some (10, true), .bin 13 .leq (.t 11) (.t 12)⟩,
 un (.pick 14 (.t 10) (.t 13) (.c (.bool false))),
 un (.asg 6 (.t 14))])
 (.drop [7, 8, 9, 10, 11, 12, 13, 14] .ret)))
abbrev Afv : List RS := [.t 6]
theorem Aev : Be Try.prog Dh 15 Afl Afv = true := by kernel_rfl
def Px : ACode :=
 (.seq (.seq (.reg [un (.mov 6 (.t 1)),
 un (.bin 7 .gtr (.t 6) (.c (.int .i64 0)))])
 (.drop [6] (.cond (.t 7) .skip
 (.exit 0))))
 (.drop [6, 7] (.seq (.block 1 (.reg [un (.mov 10 (.t 5)),
 un (.mov 11 (.t 0)),
 un (.bin 12 .mul (.t 10) (.t 11)),
 un (.asg 5 (.t 12))]))
 (.drop [10, 11, 12] (.reg [un (.mov 8 (.t 1)),
 un (.bin 9 .sub (.t 8) (.c (.int .i64 1))),
 un (.asg 1 (.t 9))])))))
def Aec : ACode :=
 (.seq (.reg [un (.asg 4 (.c (.int .i64 0)))])
 (.seq (.reg [un (.asg 5 (.c (.int .i64 1)))])
 (.seq (.block 0 (.loop Px))
 (.drop [6, 7, 10, 11, 12, 8, 9] (.seq (.reg [un (.mov 13 (.t 5)),
 un (.asg 4 (.t 13))])
 (.drop [13] .ret))))))
abbrev Acv : List RS := [.t 4]
theorem Adl : Be Try.prog I0 14 Aec Acv = true := by kernel_rfl
def N0 : ACode :=
 (.seq (.seq (.reg [un (.mov 30 (.t 12)),
 un (.mov 31 (.t 2)),
 un (.mov 32 (.t 8)),
 un (.iad 33 1 (.t 31) (.t 32)),
 un (.ld 34 1 false (.t 33)),
 un (.len 35 (.t 34)),
 un (.bin 36 .lss (.t 30) (.t 35))])
 (.drop [30, 31, 32, 33, 34, 35] (.cond (.t 36) .skip
 (.exit 6))))
 (.drop [30, 31, 32, 33, 34, 35, 36] (.seq (.block 7 (.reg [un (.mov 39 (.t 11)),
 un (.mov 40 (.t 0)),
 un (.bin 41 .mul (.t 39) (.t 40)),
 un (.mov 42 (.t 9)),
 un (.mov 43 (.t 10)),
 un (.bsl 44 1 [(.t 42), (.t 43)]),
 un (.mov 45 (.t 2)),
 un (.mov 46 (.t 8)),
 un (.iad 47 1 (.t 45) (.t 46)),
 un (.ld 48 1 false (.t 47)),
 un (.mov 49 (.t 12)),
 un (.iad 50 1 (.t 48) (.t 49)),
 un (.ld 51 1 false (.t 50)),
 un (.iad 52 1 (.t 44) (.t 51)),
 un (.ld 53 1 false (.t 52)),
 un (.bin 54 .add (.t 41) (.t 53)),
 un (.asg 11 (.t 54))]))
 (.drop [39, 40, 41, 42, 43, 44, 45, 46, 47, 48, 49, 50, 51, 52, 53, 54] (.reg [un (.mov 37 (.t 12)),
 un (.bin 38 .add (.t 37) (.c (.int .i64 1))),
 un (.asg 12 (.t 38))])))))
def Oi : ACode :=
 (.seq (.seq (.reg [un (.mov 25 (.t 10)),
 un (.mov 26 (.t 0)),
 un (.bin 27 .lss (.t 25) (.t 26))])
 (.drop [25, 26] (.cond (.t 27) .skip
 (.exit 4))))
 (.drop [25, 26, 27] (.seq (.block 5 (.seq (.reg [un (.asg 11 (.c (.int .i64 0)))])
 (.seq (.seq (.reg [un (.asg 12 (.c (.int .i64 0)))])
 (.block 6 (.loop N0)))
 (.drop [12, 30, 31, 32, 33, 34, 35, 36, 39, 40, 41, 42, 43, 44, 45, 46, 47, 48, 49, 50, 51, 52, 53, 54, 37, 38] (.reg [un (.mov 55 (.t 7)),
 un (.fadr 56 1 (.t 4)),
 un (.ld 57 1 false (.t 56)),
 un (.mov 58 (.t 11)),
 un (.iad 59 1 (.t 57) (.t 58)),
 un (.ld 60 1 false (.t 59)),
 un (.bsl 61 1 [(.t 60)]),
 un (.app 62 1 (.t 55) (.t 61)),
 un (.asg 7 (.t 62))])))))
 (.drop [11, 12, 30, 31, 32, 33, 34, 35, 36, 39, 40, 41, 42, 43, 44, 45, 46, 47, 48, 49, 50, 51, 52, 53, 54, 37, 38, 55, 56, 57, 58, 59, 60, 61, 62] (.reg [un (.mov 28 (.t 10)),
 un (.bin 29 .add (.t 28) (.c (.int .i64 1))),
 un (.asg 10 (.t 29))])))))
def Nw : ACode :=
 (.seq (.seq (.reg [un (.mov 20 (.t 9)),
 un (.mov 21 (.t 0)),
 un (.bin 22 .lss (.t 20) (.t 21))])
 (.drop [20, 21] (.cond (.t 22) .skip
 (.exit 2))))
 (.drop [20, 21, 22] (.seq (.block 3 (.seq (.reg [un (.asg 10 (.c (.int .i64 0)))])
 (.block 4 (.loop Oi))))
 (.drop [10, 25, 26, 27, 11, 12, 30, 31, 32, 33, 34, 35, 36, 39, 40, 41, 42, 43, 44, 45, 46, 47, 48, 49, 50, 51, 52, 53, 54, 37, 38, 55, 56, 57, 58, 59, 60, 61, 62, 28, 29] (.reg [un (.mov 23 (.t 9)),
 un (.bin 24 .add (.t 23) (.c (.int .i64 1))),
 un (.asg 9 (.t 24))])))))
def Oh : ACode :=
 (.seq (.seq (.reg [un (.mov 14 (.t 8)),
 un (.mov 15 (.t 2)),
 un (.len 16 (.t 15)),
 un (.bin 17 .lss (.t 14) (.t 16))])
 (.drop [14, 15, 16] (.cond (.t 17) .skip
 (.exit 0))))
 (.drop [14, 15, 16, 17] (.seq (.block 1 (.seq (.reg [un (.asg 9 (.c (.int .i64 0)))])
 (.block 2 (.loop Nw))))
 (.drop [9, 20, 21, 22, 10, 25, 26, 27, 11, 12, 30, 31, 32, 33, 34, 35, 36, 39, 40, 41, 42, 43, 44, 45, 46, 47, 48, 49, 50, 51, 52, 53, 54, 37, 38, 55, 56, 57, 58, 59, 60, 61, 62, 28, 29, 23, 24] (.reg [un (.mov 18 (.t 8)),
 un (.bin 19 .add (.t 18) (.c (.int .i64 1))),
 un (.asg 8 (.t 19))])))))
def Abf : ACode :=
 (.seq (.reg [un (.box 4 (.t 1)),
 un (.asg 6 (.c (.nilsl 1)))])
 (.seq (.reg [un (.bsl 13 1 []),
 un (.asg 7 (.t 13))])
 (.drop [13] (.seq (.seq (.reg [un (.asg 8 (.c (.int .i64 0)))])
 (.block 0 (.loop Oh)))
 (.drop [8, 14, 15, 16, 17, 9, 20, 21, 22, 10, 25, 26, 27, 11, 12, 30, 31, 32, 33, 34, 35, 36, 39, 40, 41, 42, 43, 44, 45, 46, 47, 48, 49, 50, 51, 52, 53, 54, 37, 38, 55, 56, 57, 58, 59, 60, 61, 62, 28, 29, 23, 24, 18, 19] (.seq (.reg [un (.mov 63 (.t 7)),
 un (.asg 6 (.t 63))])
 (.drop [63] .ret)))))))
abbrev Abn : List RS := [.t 6]
theorem Aby : Be Try.prog Hs 64 Abf Abn = true := by kernel_rfl
def Qa : ACode :=
 (.seq (.reg [un (.asg 2 (.c (.bool false)))])
 (.seq (.reg [un (.mov 3 (.t 0)),
 un (.bin 4 .geq (.t 3) (.c (.int .i64 1))),
 un (.asg 5 (.t 4)),
 ⟨some (5, true), .mov 6 (.t 0)⟩,
 ⟨some (5, true), .bin 7 .leq (.t 6) (.c (.int .i64 4))⟩,
 un (.pick 8 (.t 5) (.t 7) (.c (.bool false))),
 un (.asg 2 (.t 8))])
 (.drop [3, 4, 5, 6, 7, 8] .ret)))
abbrev Qd : List RS := [.t 2]
theorem Qb : Be Try.prog Ej 9 Qa Qd = true := by kernel_rfl
def N8 : ACode :=
 (.seq (.reg [un (.bin 10 .lss (.t 9) (.t 8))])
 (.seq (.cond (.t 10) .skip
 (.exit 0))
 (.seq (.block 1 (.seq (.reg [un (.iad 11 1 (.t 7) (.t 9)),
 un (.ld 12 1 false (.t 11)),
 un (.asg 6 (.t 12))])
 (.drop [11, 12] (.seq (.reg [un (.mov 13 (.t 6)),
 un (.bin 14 .lss (.t 13) (.c (.int .i64 0))),
 un (.asg 15 (.t 14)),
 ⟨some (15, false), .mov 16 (.t 6)⟩,
 ⟨some (15, false), .mov 17 (.t 1)⟩,
 ⟨some (15, false), .bin 18 .geq (.t 16) (.t 17)⟩,
 un (.pick 19 (.t 15) (.c (.bool true)) (.t 18))])
 (.drop [13, 14, 15, 16, 17, 18] (.cond (.t 19) (.seq (.reg [un (.asg 4 (.c (.bool false)))])
 .ret)
 .skip))))))
 (.drop [11, 12, 6, 13, 14, 15, 16, 17, 18, 19] (.reg [un (.bin 20 .add (.t 9) (.c (.int .i64 1))),
 un (.asg 9 (.t 20))])))))
def Abj : ACode :=
 (.seq (.reg [un (.asg 4 (.c (.bool false)))])
 (.seq (.seq (.reg [un (.mov 7 (.t 0)),
 un (.len 8 (.t 7)),
 un (.mov 9 (.c (.int .i64 0)))])
 (.block 0 (.loop N8)))
 (.drop [7, 8, 9, 10, 11, 12, 6, 13, 14, 15, 16, 17, 18, 19, 20] (.seq (.reg [un (.asg 4 (.c (.bool true)))])
 .ret))))
abbrev Abi : List RS := [.t 4]
theorem Abl : Be Try.prog Hn 21 Abj Abi = true := by kernel_rfl
def My : ACode :=
 (.seq (.reg [un (.bin 11 .lss (.t 10) (.t 9))])
 (.seq (.cond (.t 11) .skip
 (.exit 0))
 (.seq (.block 1 (.seq (.reg [un (.iad 12 1 (.t 8) (.t 10)),
 un (.ld 13 1 false (.t 12)),
 un (.asg 7 (.t 13))])
 (.drop [12, 13] (.reg [un (.mov 14 (.t 5)),
 un (.mov 15 (.t 1)),
 un (.bin 16 .mul (.t 14) (.t 15)),
 un (.mov 17 (.t 7)),
 un (.bin 18 .add (.t 16) (.t 17)),
 un (.asg 5 (.t 18))]))))
 (.drop [12, 13, 7, 14, 15, 16, 17, 18] (.reg [un (.bin 19 .add (.t 10) (.c (.int .i64 1))),
 un (.asg 10 (.t 19))])))))
def Aaq : ACode :=
 (.seq (.reg [un (.asg 4 (.c (.int .i64 0)))])
 (.seq (.reg [un (.asg 5 (.c (.int .i64 0)))])
 (.seq (.seq (.reg [un (.mov 8 (.t 0)),
 un (.len 9 (.t 8)),
 un (.mov 10 (.c (.int .i64 0)))])
 (.block 0 (.loop My)))
 (.drop [8, 9, 10, 11, 12, 13, 7, 14, 15, 16, 17, 18, 19] (.seq (.reg [un (.mov 20 (.t 5)),
 un (.asg 4 (.t 20))])
 (.drop [20] .ret))))))
abbrev Aak : List RS := [.t 4]
theorem Zs : Be Try.prog Ly 21 Aaq Aak = true := by kernel_rfl
def M9 : ACode :=
 (.seq (.reg [un (.bin 14 .lss (.t 13) (.t 12))])
 (.seq (.cond (.t 14) .skip
 (.exit 0))
 (.seq (.block 1 (.seq (.reg [un (.mov 15 (.t 13)),
 un (.iad 16 1 (.t 11) (.t 13)),
 un (.ld 17 1 false (.t 16)),
 un (.asg 6 (.t 15)),
 un (.asg 7 (.t 17))])
 (.drop [15, 16, 17] (.reg [un (.mov 18 (.t 5)),
 un (.mov 19 (.t 6)),
 un (.mov 20 (.t 1)),
 un (.mov 21 (.t 7)),
 un (.iad 22 1 (.t 20) (.t 21)),
 un (.ld 23 1 false (.t 22)),
 un (.iad 24 1 (.t 18) (.t 19)),
 un (.st 1 (.t 24) (.t 23))]))))
 (.drop [15, 16, 17, 6, 7, 18, 19, 20, 21, 22, 23, 24] (.reg [un (.bin 25 .add (.t 13) (.c (.int .i64 1))),
 un (.asg 13 (.t 25))])))))
def Y9 : ACode :=
 (.seq (.reg [un (.asg 4 (.c (.nilsl 1)))])
 (.seq (.reg [un (.mov 8 (.t 0)),
 un (.len 9 (.t 8)),
 un (.mk 10 1 (.int .i64 0) (.t 9)),
 un (.asg 5 (.t 10))])
 (.drop [8, 9, 10] (.seq (.seq (.reg [un (.mov 11 (.t 0)),
 un (.len 12 (.t 11)),
 un (.mov 13 (.c (.int .i64 0)))])
 (.block 0 (.loop M9)))
 (.drop [11, 12, 13, 14, 15, 16, 17, 6, 7, 18, 19, 20, 21, 22, 23, 24, 25] (.seq (.reg [un (.mov 26 (.t 5)),
 un (.asg 4 (.t 26))])
 (.drop [26] .ret)))))))
abbrev Y8 : List RS := [.t 4]
theorem Zm : Be Try.prog L4 27 Y9 Y8 = true := by kernel_rfl
def Acu : ACode :=
 (.seq (.reg [un (.asg 2 (.c (.nilsl 1)))])
 (.seq (.reg [un (.bsl 3 1 []),
 un (.mov 4 (.t 0)),
 un (.app 5 1 (.t 3) (.t 4)),
 un (.asg 2 (.t 5))])
 (.drop [3, 4, 5] .ret)))
abbrev Aej : List RS := [.t 2]
theorem Aea : Be Try.prog O9 6 Acu Aej = true := by kernel_rfl
def Adt : ACode :=
 (.seq (.reg [un (.asg 2 (.c (.nilsl 1)))])
 (.seq (.reg [un (.bsl 3 1 []),
 un (.mov 4 (.t 0)),
 un (.app 5 1 (.t 3) (.t 4)),
 un (.asg 2 (.t 5))])
 (.drop [3, 4, 5] .ret)))
abbrev Ac6 : List RS := [.t 2]
theorem Adc : Be Try.prog Ir 6 Adt Ac6 = true := by kernel_rfl
def Xv : ACode :=
 (.seq (.reg [un (.alc 2 (.agg [.int .i64 0, .nilsl 2]))])
 (.seq (.seq (.reg [un (.mov 3 (.t 0))])
 (.block 0 (.seq (.reg [⟨none, .bin 5 .eql (.t 3) (.c (.str ⟨#[109, 97, 108, 99, 101, 118]⟩))⟩,
 un (.asg 4 (.t 5))])
 (.drop [5] (.cond (.t 4) (.seq (.reg [un (.bsl 6 1 [(.c (.int .i64 0)), (.c (.int .i64 1)), (.c (.int .i64 1))]),
 un (.bsl 7 1 [(.c (.int .i64 0))]),
 un (.bld 8 [.nilsl 1, .nilsl 1] [(0, 1, (.t 6)), (1, 1, (.t 7))]),
 un (.bsl 9 1 [(.c (.int .i64 0)), (.c (.int .i64 0)), (.c (.int .i64 1))]),
 un (.bsl 10 1 [(.c (.int .i64 1))]),
 un (.bld 11 [.nilsl 1, .nilsl 1] [(0, 1, (.t 9)), (1, 1, (.t 10))]),
 un (.bsl 12 2 [(.t 8), (.t 11)]),
 un (.bld 13 [.int .i64 0, .nilsl 2] [(0, 1, (.c (.int .i64 3))), (1, 1, (.t 12))]),
 un (.st 2 (.t 2) (.t 13))])
 (.drop [6, 7, 8, 9, 10, 11, 12, 13] .ret))
 (.seq (.reg [⟨none, .bin 15 .eql (.t 3) (.c (.str ⟨#[109, 97, 106, 111, 114, 105, 116, 121]⟩))⟩,
 un (.asg 14 (.t 15))])
 (.drop [15] (.cond (.t 14) (.seq (.reg [un (.bsl 16 1 [(.c (.int .i64 0)), (.c (.int .i64 0)), (.c (.int .i64 1))]),
 un (.bsl 17 1 [(.c (.int .i64 0))]),
 un (.bld 18 [.nilsl 1, .nilsl 1] [(0, 1, (.t 16)), (1, 1, (.t 17))]),
 un (.bsl 19 1 [(.c (.int .i64 0)), (.c (.int .i64 1)), (.c (.int .i64 0))]),
 un (.bsl 20 1 [(.c (.int .i64 0))]),
 un (.bld 21 [.nilsl 1, .nilsl 1] [(0, 1, (.t 19)), (1, 1, (.t 20))]),
 un (.bsl 22 1 [(.c (.int .i64 1)), (.c (.int .i64 0)), (.c (.int .i64 0))]),
 un (.bsl 23 1 [(.c (.int .i64 0))]),
 un (.bld 24 [.nilsl 1, .nilsl 1] [(0, 1, (.t 22)), (1, 1, (.t 23))]),
 un (.bsl 25 2 [(.t 18), (.t 21), (.t 24)]),
 un (.bld 26 [.int .i64 0, .nilsl 2] [(0, 1, (.c (.int .i64 3))), (1, 1, (.t 25))]),
 un (.st 2 (.t 2) (.t 26))])
 (.drop [16, 17, 18, 19, 20, 21, 22, 23, 24, 25, 26] .ret))
 (.seq (.reg [⟨none, .bin 28 .eql (.t 3) (.c (.str ⟨#[109, 105, 110, 111, 114, 105, 116, 121]⟩))⟩,
 un (.asg 27 (.t 28))])
 (.drop [28] (.cond (.t 27) (.seq (.reg [un (.bsl 29 1 [(.c (.int .i64 0)), (.c (.int .i64 0)), (.c (.int .i64 1))]),
 un (.bsl 30 1 [(.c (.int .i64 1))]),
 un (.bld 31 [.nilsl 1, .nilsl 1] [(0, 1, (.t 29)), (1, 1, (.t 30))]),
 un (.bsl 32 1 [(.c (.int .i64 0)), (.c (.int .i64 1)), (.c (.int .i64 0))]),
 un (.bsl 33 1 [(.c (.int .i64 1))]),
 un (.bld 34 [.nilsl 1, .nilsl 1] [(0, 1, (.t 32)), (1, 1, (.t 33))]),
 un (.bsl 35 1 [(.c (.int .i64 1)), (.c (.int .i64 0)), (.c (.int .i64 0))]),
 un (.bsl 36 1 [(.c (.int .i64 1))]),
 un (.bld 37 [.nilsl 1, .nilsl 1] [(0, 1, (.t 35)), (1, 1, (.t 36))]),
 un (.bsl 38 2 [(.t 31), (.t 34), (.t 37)]),
 un (.bld 39 [.int .i64 0, .nilsl 2] [(0, 1, (.c (.int .i64 3))), (1, 1, (.t 38))]),
 un (.st 2 (.t 2) (.t 39))])
 (.drop [29, 30, 31, 32, 33, 34, 35, 36, 37, 38, 39] .ret))
 (.seq (.reg [⟨none, .bin 41 .eql (.t 3) (.c (.str ⟨#[112, 105, 120, 108, 101, 121]⟩))⟩,
 un (.asg 40 (.t 41))])
 (.drop [41] (.cond (.t 40) (.seq (.reg [un (.bsl 42 1 [(.c (.int .i64 0)), (.c (.int .i64 1)), (.c (.int .i64 1))]),
 un (.bsl 43 1 [(.c (.int .i64 0))]),
 un (.bld 44 [.nilsl 1, .nilsl 1] [(0, 1, (.t 42)), (1, 1, (.t 43))]),
 un (.bsl 45 1 [(.c (.int .i64 0)), (.c (.int .i64 1)), (.c (.int .i64 0))]),
 un (.bsl 46 1 [(.c (.int .i64 0))]),
 un (.bld 47 [.nilsl 1, .nilsl 1] [(0, 1, (.t 45)), (1, 1, (.t 46))]),
 un (.bsl 48 1 [(.c (.int .i64 0)), (.c (.int .i64 0)), (.c (.int .i64 1))]),
 un (.bsl 49 1 [(.c (.int .i64 1))]),
 un (.bld 50 [.nilsl 1, .nilsl 1] [(0, 1, (.t 48)), (1, 1, (.t 49))]),
 un (.bsl 51 2 [(.t 44), (.t 47), (.t 50)]),
 un (.bld 52 [.int .i64 0, .nilsl 2] [(0, 1, (.c (.int .i64 3))), (1, 1, (.t 51))]),
 un (.st 2 (.t 2) (.t 52))])
 (.drop [42, 43, 44, 45, 46, 47, 48, 49, 50, 51, 52] .ret))
 (.seq (.reg [⟨none, .bin 54 .eql (.t 3) (.c (.str ⟨#[99, 111, 109, 109, 117, 116, 97, 116, 105, 118, 101]⟩))⟩,
 un (.asg 53 (.t 54))])
 (.drop [54] (.cond (.t 53) (.seq (.reg [un (.bsl 55 1 [(.c (.int .i64 0)), (.c (.int .i64 0))]),
 un (.bsl 56 1 [(.c (.int .i64 0))]),
 un (.bld 57 [.nilsl 1, .nilsl 1] [(0, 1, (.t 55)), (1, 1, (.t 56))]),
 un (.bsl 58 1 [(.c (.int .i64 0)), (.c (.int .i64 1))]),
 un (.bsl 59 1 [(.c (.int .i64 1)), (.c (.int .i64 0))]),
 un (.bld 60 [.nilsl 1, .nilsl 1] [(0, 1, (.t 58)), (1, 1, (.t 59))]),
 un (.bsl 61 2 [(.t 57), (.t 60)]),
 un (.bld 62 [.int .i64 0, .nilsl 2] [(0, 1, (.c (.int .i64 2))), (1, 1, (.t 61))]),
 un (.st 2 (.t 2) (.t 62))])
 (.drop [55, 56, 57, 58, 59, 60, 61, 62] .ret))
 (.seq (.reg [⟨none, .bin 64 .eql (.t 3) (.c (.str ⟨#[119, 101, 97, 107]⟩))⟩,
 un (.asg 63 (.t 64))])
 (.drop [64] (.cond (.t 63) (.seq (.reg [un (.bsl 65 1 [(.c (.int .i64 0)), (.c (.int .i64 0)), (.c (.int .i64 0))]),
 un (.bsl 66 1 [(.c (.int .i64 0))]),
 un (.bld 67 [.nilsl 1, .nilsl 1] [(0, 1, (.t 65)), (1, 1, (.t 66))]),
 un (.bsl 68 1 [(.c (.int .i64 0)), (.c (.int .i64 0)), (.c (.int .i64 1))]),
 un (.bsl 69 1 [(.c (.int .i64 0)), (.c (.int .i64 1)), (.c (.int .i64 0))]),
 un (.bld 70 [.nilsl 1, .nilsl 1] [(0, 1, (.t 68)), (1, 1, (.t 69))]),
 un (.bsl 71 1 [(.c (.int .i64 0)), (.c (.int .i64 1)), (.c (.int .i64 0))]),
 un (.bsl 72 1 [(.c (.int .i64 1)), (.c (.int .i64 0)), (.c (.int .i64 0))]),
 un (.bld 73 [.nilsl 1, .nilsl 1] [(0, 1, (.t 71)), (1, 1, (.t 72))]),
 un (.bsl 74 2 [(.t 67), (.t 70), (.t 73)]),
 un (.bld 75 [.int .i64 0, .nilsl 2] [(0, 1, (.c (.int .i64 3))), (1, 1, (.t 74))]),
 un (.st 2 (.t 2) (.t 75))])
 (.drop [65, 66, 67, 68, 69, 70, 71, 72, 73, 74, 75] .ret))
 .skip))))))))))))))))))))
 (.drop [3, 5, 4, 6, 7, 8, 9, 10, 11, 12, 13, 15, 14, 16, 17, 18, 19, 20, 21, 22, 23, 24, 25, 26, 28, 27, 29, 30, 31, 32, 33, 34, 35, 36, 37, 38, 39, 41, 40, 42, 43, 44, 45, 46, 47, 48, 49, 50, 51, 52, 54, 53, 55, 56, 57, 58, 59, 60, 61, 62, 64, 63, 65, 66, 67, 68, 69, 70, 71, 72, 73, 74, 75] (.seq (.reg [un (.bld 76 [.int .i64 0, .nilsl 2] []),
 un (.st 2 (.t 2) (.t 76))])
 (.drop [76] .ret)))))
abbrev Xp : List RS := [.c 2 2 true]
theorem X7 : Be Try.prog Kj 77 Xv Xp = true := by kernel_rfl
def Rk : ACode :=
 (.seq (.dreg [(un (.mov 4 (.t 0)), []),
 (un (.nck 5 (.t 4)), []),
 (un (.fadr 6 1 (.t 5)), []),
 (un (.ld 7 1 false (.t 6)), []),
 (un (.mov 8 (.t 0)), [4, 5, 6, 7]),
 (un (.nck 9 (.t 8)), [4, 5, 6, 7]),
 (un (.fadr 10 0 (.t 9)), [4, 5, 6, 7]),
 (un (.ld 11 1 false (.t 10)), [4, 5, 6, 7]),
 (un (.len 12 (.t 11)), [4, 5, 6, 7])]
 [un (.bin 13 .lss (.t 7) (.t 12))])
 (.drop [4, 5, 6, 7, 8, 9, 10, 11, 12] (.cond (.t 13) (.dreg [(un (.mov 14 (.t 0)), []),
 (un (.nck 15 (.t 14)), []),
 (un (.fadr 16 0 (.t 15)), []),
 (un (.ld 17 1 false (.t 16)), []),
 (un (.mov 18 (.t 0)), [14, 15, 16, 17]),
 (un (.nck 19 (.t 18)), [14, 15, 16, 17]),
 (un (.fadr 20 1 (.t 19)), [14, 15, 16, 17]),
 (un (.ld 21 1 false (.t 20)), [14, 15, 16, 17])]
 [un (.iad 22 1 (.t 17) (.t 21)),
 un (.ld 23 1 false (.t 22)),
 un (.cnv 24 .i64 (.t 23)),
 un (.asg 3 (.t 24))])
 .skip)))
def Ub : ACode :=
 (.seq (.reg [un (.asg 2 (.c (.int .i64 0)))])
 (.seq (.reg [un (.asg 3 (.c (.int .i64 0)))])
 (.seq (.cut Rk)
 (.drop [4, 5, 6, 7, 8, 9, 10, 11, 12, 13, 14, 15, 16, 17, 18, 19, 20, 21, 22, 23, 24] (.seq (.reg [un (.mov 25 (.t 0)),
 un (.nck 26 (.t 25)),
 un (.fadr 27 1 (.t 26)),
 un (.ld 28 1 false (.t 27)),
 un (.bin 29 .add (.t 28) (.c (.int .i64 1))),
 un (.nck 30 (.t 25)),
 un (.fadr 31 1 (.t 30)),
 un (.st 1 (.t 31) (.t 29))])
 (.drop [25, 26, 27, 28, 29, 30, 31] (.seq (.reg [un (.mov 32 (.t 0)),
 un (.mov 33 (.t 0)),
 un (.nck 34 (.t 33)),
 un (.fadr 35 2 (.t 34)),
 un (.ld 36 1 false (.t 35)),
 un (.bin 37 .mul (.t 36) (.c (.int .u64 6364136223846793005))),
 un (.mov 38 (.t 3)),
 un (.cnv 39 .u64 (.t 38)),
 un (.bin 40 .add (.t 37) (.t 39)),
 un (.bin 41 .add (.t 40) (.c (.int .u64 550289))),
 un (.nck 42 (.t 32)),
 un (.fadr 43 2 (.t 42)),
 un (.st 1 (.t 43) (.t 41))])
 (.drop [32, 33, 34, 35, 36, 37, 38, 39, 40, 41, 42, 43] (.seq (.seq (.dreg [(un (.mov 44 (.t 0)), []),
 (un (.nck 45 (.t 44)), []),
 (un (.fadr 46 1 (.t 45)), []),
 (un (.ld 47 1 false (.t 46)), []),
 (un (.mov 48 (.t 0)), [44, 45, 46, 47]),
 (un (.nck 49 (.t 48)), [44, 45, 46, 47]),
 (un (.fadr 50 0 (.t 49)), [44, 45, 46, 47]),
 (un (.ld 51 1 false (.t 50)), [44, 45, 46, 47]),
 (un (.len 52 (.t 51)), [44, 45, 46, 47])]
 [un (.bin 53 .leq (.t 47) (.t 52))])
 (.drop [44, 45, 46, 47, 48, 49, 50, 51, 52] (.cond (.t 53) (.seq (.reg [un (.mov 54 (.t 3)),
 un (.asg 2 (.t 54))])
 (.drop [54] .ret))
 .skip)))
 (.drop [44, 45, 46, 47, 48, 49, 50, 51, 52, 53, 54] (.seq (.reg [un (.mov 55 (.t 0)),
 un (.nck 56 (.t 55)),
 un (.fadr 57 2 (.t 56)),
 un (.ld 58 1 false (.t 57)),
 un (.bin 59 .shr (.t 58) (.c (.int .u64 40))),
 un (.bin 60 .and (.t 59) (.c (.int .u64 255))),
 un (.cnv 61 .i64 (.t 60)),
 un (.asg 2 (.t 61))])
 (.drop [55, 56, 57, 58, 59, 60, 61] .ret))))))))))))
abbrev U1 : List RS := [.t 2]
theorem Vk : Be Try.prog F9 62 Ub U1 = true := by kernel_rfl
def N1 : ACode :=
 (.seq (.seq (.reg [un (.mov 11 (.t 5)),
 un (.mov 12 (.t 0)),
 un (.len 13 (.t 12)),
 un (.bin 14 .lss (.t 11) (.t 13))])
 (.drop [11, 12, 13] (.cond (.t 14) .skip
 (.exit 0))))
 (.drop [11, 12, 13, 14] (.seq (.block 1 (.seq (.dreg [(un (.mov 17 (.t 0)), []),
 (un (.mov 18 (.t 5)), [17]),
 (un (.iad 19 1 (.t 17) (.t 18)), []),
 (un (.ld 20 1 false (.t 19)), []),
 (un (.mov 21 (.t 1)), [17, 18, 19, 20]),
 (un (.mov 22 (.t 5)), [17, 18, 19, 20, 21]),
 (un (.iad 23 1 (.t 21) (.t 22)), [17, 18, 19, 20]),
 (un (.ld 24 1 false (.t 23)), [17, 18, 19, 20])]
 [un (.bin 25 .neq (.t 20) (.t 24))])
 (.drop [17, 18, 19, 20, 21, 22, 23, 24] (.cond (.t 25) (.seq (.reg [un (.asg 4 (.c (.bool false)))])
 .ret)
 .skip))))
 (.drop [17, 18, 19, 20, 21, 22, 23, 24, 25] (.reg [un (.mov 15 (.t 5)),
 un (.bin 16 .add (.t 15) (.c (.int .i64 1))),
 un (.asg 5 (.t 16))])))))
def Abt : ACode :=
 (.seq (.reg [un (.asg 4 (.c (.bool false)))])
 (.seq (.seq (.reg [un (.mov 6 (.t 0)),
 un (.len 7 (.t 6)),
 un (.mov 8 (.t 1)),
 un (.len 9 (.t 8)),
 un (.bin 10 .neq (.t 7) (.t 9))])
 (.drop [6, 7, 8, 9] (.cond (.t 10) (.seq (.reg [un (.asg 4 (.c (.bool false)))])
 .ret)
 .skip)))
 (.drop [6, 7, 8, 9, 10] (.seq (.seq (.reg [un (.asg 5 (.c (.int .i64 0)))])
 (.block 0 (.loop N1)))
 (.drop [5, 11, 12, 13, 14, 17, 18, 19, 20, 21, 22, 23, 24, 25, 15, 16] (.seq (.reg [un (.asg 4 (.c (.bool true)))])
 .ret))))))
abbrev Abc : List RS := [.t 4]
theorem Abu : Be Try.prog Nj 26 Abt Abc = true := by kernel_rfl
def Lu : ACode :=
 (.seq (.seq (.reg [un (.mov 6 (.t 4)),
 un (.mov 7 (.t 0)),
 un (.slen 8 (.t 7)),
 un (.bin 9 .lss (.t 6) (.t 8))])
 (.drop [6, 7, 8] (.cond (.t 9) .skip
 (.exit 0))))
 (.drop [6, 7, 8, 9] (.seq (.block 1 (.dreg [(un (.fadr 12 1 (.t 3)), [18]),
 (un (.ld 13 1 false (.t 12)), [18]),
 (un (.mov 14 (.t 0)), [12, 13]),
 (un (.mov 15 (.t 4)), [12, 13, 14]),
 (un (.sidx 16 (.t 14) (.t 15)), [12, 13]),
 (un (.bin 17 .sub (.t 16) (.c (.int .u8 48))), [12, 13]),
 (un (.cnv 18 .i64 (.t 17)), [12, 13]),
 (un (.bsl 19 1 [(.t 18)]), [12, 13])]
 [un (.app 20 1 (.t 13) (.t 19)),
 un (.fadr 21 1 (.t 3)),
 un (.st 1 (.t 21) (.t 20))]))
 (.drop [12, 13, 14, 15, 16, 17, 18, 19, 20, 21] (.reg [un (.mov 10 (.t 4)),
 un (.bin 11 .add (.t 10) (.c (.int .i64 1))),
 un (.asg 4 (.t 11))])))))
def Ys : ACode :=
 (.seq (.reg [un (.alc 2 (.agg [.int .i64 0, .nilsl 1]))])
 (.seq (.reg [un (.bld 5 [.int .i64 0, .nilsl 1] [(0, 1, (.c (.int .i64 2)))]),
 un (.alc 3 (.agg [.int .i64 0, .nilsl 1])),
 un (.st 2 (.t 3) (.t 5))])
 (.drop [5] (.seq (.seq (.reg [un (.asg 4 (.c (.int .i64 0)))])
 (.block 0 (.loop Lu)))
 (.drop [4, 6, 7, 8, 9, 12, 13, 14, 15, 16, 17, 18, 19, 20, 21, 10, 11] (.seq (.reg [un (.ld 22 2 true (.t 3)),
 un (.st 2 (.t 2) (.t 22))])
 (.drop [22] .ret)))))))
abbrev Xw : List RS := [.c 2 2 true]
theorem Yj : Be Try.prog A6 23 Ys Xw = true := by kernel_rfl
def Ln : ACode :=
 (.seq (.seq (.reg [un (.mov 6 (.t 4)),
 un (.mov 7 (.t 0)),
 un (.mov 8 (.t 0)),
 un (.bin 9 .mul (.t 7) (.t 8)),
 un (.mov 10 (.t 0)),
 un (.bin 11 .mul (.t 9) (.t 10)),
 un (.bin 12 .lss (.t 6) (.t 11))])
 (.drop [6, 7, 8, 9, 10, 11] (.cond (.t 12) .skip
 (.exit 0))))
 (.drop [6, 7, 8, 9, 10, 11, 12] (.seq (.block 1 (.dreg [(un (.fadr 15 1 (.t 3)), [35]),
 (un (.ld 16 1 false (.t 15)), [35]),
 (un (.mov 17 (.t 4)), [15, 16]),
 (un (.mov 18 (.t 0)), [15, 16, 17]),
 (un (.mov 19 (.t 0)), [15, 16, 17, 18]),
 (un (.bin 20 .mul (.t 18) (.t 19)), [15, 16, 17]),
 (un (.bin 21 .quo (.t 17) (.t 20)), [15, 16]),
 (un (.mov 22 (.t 0)), [15, 16, 17, 18, 19, 20, 21]),
 (un (.bin 23 .add (.t 21) (.t 22)), [15, 16]),
 (un (.mov 24 (.t 4)), [15, 16, 17, 18, 19, 20, 21, 22, 23]),
 (un (.mov 25 (.t 0)), [15, 16, 17, 18, 19, 20, 21, 22, 23, 24]),
 (un (.bin 26 .quo (.t 24) (.t 25)), [15, 16, 17, 18, 19, 20, 21, 22, 23]),
 (un (.mov 27 (.t 0)), [15, 16, 17, 18, 19, 20, 21, 22, 23, 24, 25, 26]),
 (un (.bin 28 .rem (.t 26) (.t 27)), [15, 16, 17, 18, 19, 20, 21, 22, 23]),
 (un (.bin 29 .sub (.t 23) (.t 28)), [15, 16]),
 (un (.mov 30 (.t 4)), [15, 16, 17, 18, 19, 20, 21, 22, 23, 24, 25, 26, 27, 28, 29]),
 (un (.mov 31 (.t 0)), [15, 16, 17, 18, 19, 20, 21, 22, 23, 24, 25, 26, 27, 28, 29, 30]),
 (un (.bin 32 .rem (.t 30) (.t 31)), [15, 16, 17, 18, 19, 20, 21, 22, 23, 24, 25, 26, 27, 28, 29]),
 (un (.bin 33 .add (.t 29) (.t 32)), [15, 16]),
 (un (.mov 34 (.t 0)), [15, 16, 17, 18, 19, 20, 21, 22, 23, 24, 25, 26, 27, 28, 29, 30, 31, 32, 33]),
 (un (.bin 35 .rem (.t 33) (.t 34)), [15, 16]),
 (un (.bsl 36 1 [(.t 35)]), [15, 16])]
 [un (.app 37 1 (.t 16) (.t 36)),
 un (.fadr 38 1 (.t 3)),
 un (.st 1 (.t 38) (.t 37))]))
 (.drop [15, 16, 17, 18, 19, 20, 21, 22, 23, 24, 25, 26, 27, 28, 29, 30, 31, 32, 33, 34, 35, 36, 37, 38] (.reg [un (.mov 13 (.t 4)),
 un (.bin 14 .add (.t 13) (.c (.int .i64 1))),
 un (.asg 4 (.t 14))])))))
def Xs : ACode :=
 (.seq (.reg [un (.alc 2 (.agg [.int .i64 0, .nilsl 1]))])
 (.seq (.reg [un (.bld 5 [.int .i64 0, .nilsl 1] [(0, 1, (.c (.int .i64 3)))]),
 un (.alc 3 (.agg [.int .i64 0, .nilsl 1])),
 un (.st 2 (.t 3) (.t 5))])
 (.drop [5] (.seq (.seq (.reg [un (.asg 4 (.c (.int .i64 0)))])
 (.block 0 (.loop Ln)))
 (.drop [4, 6, 7, 8, 9, 10, 11, 12, 15, 16, 17, 18, 19, 20, 21, 22, 23, 24, 25, 26, 27, 28, 29, 30, 31, 32, 33, 34, 35, 36, 37, 38, 13, 14] (.seq (.reg [un (.ld 39 2 true (.t 3)),
 un (.st 2 (.t 2) (.t 39))])
 (.drop [39] .ret)))))))
abbrev Xy : List RS := [.c 2 2 true]
theorem Xk : Be Try.prog Hv 40 Xs Xy = true := by kernel_rfl
def P4 : ACode :=
 (.seq (.seq (.reg [un (.mov 6 (.t 1)),
 un (.bin 7 .gtr (.t 6) (.c (.int .i64 0)))])
 (.drop [6] (.cond (.t 7) .skip
 (.exit 0))))
 (.drop [6, 7] (.seq (.block 1 (.reg [un (.mov 10 (.t 5)),
 un (.mov 11 (.t 0)),
 un (.bin 12 .mul (.t 10) (.t 11)),
 un (.asg 5 (.t 12))]))
 (.drop [10, 11, 12] (.reg [un (.mov 8 (.t 1)),
 un (.bin 9 .sub (.t 8) (.c (.int .i64 1))),
 un (.asg 1 (.t 9))])))))
def Ad1 : ACode :=
 (.seq (.reg [un (.asg 4 (.c (.int .i64 0)))])
 (.seq (.reg [un (.asg 5 (.c (.int .i64 1)))])
 (.seq (.block 0 (.loop P4))
 (.drop [6, 7, 10, 11, 12, 8, 9] (.seq (.reg [un (.mov 13 (.t 5)),
 un (.asg 4 (.t 13))])
 (.drop [13] .ret))))))
abbrev Ad7 : List RS := [.t 4]
theorem Adz : Be Try.prog Oy 14 Ad1 Ad7 = true := by kernel_rfl
def Ma : ACode :=
 (.seq (.reg [un (.bin 15 .lss (.t 14) (.t 13))])
 (.seq (.cond (.t 15) .skip
 (.exit 0))
 (.seq (.block 1 (.seq (.reg [un (.mov 16 (.t 14)),
 un (.iad 17 1 (.t 12) (.t 14)),
 un (.ld 18 1 false (.t 17)),
 un (.asg 5 (.t 16)),
 un (.asg 6 (.t 18))])
 (.drop [16, 17, 18] (.seq (.reg [un (.mov 19 (.t 1)),
 un (.mov 20 (.t 5)),
 un (.iad 21 1 (.t 19) (.t 20)),
 un (.ld 22 1 false (.t 21)),
 un (.mov 23 (.t 6)),
 un (.bin 24 .neq (.t 22) (.t 23))])
 (.drop [19, 20, 21, 22, 23] (.cond (.t 24) (.seq (.reg [un (.asg 4 (.c (.bool false)))])
 .ret)
 .skip))))))
 (.drop [16, 17, 18, 5, 6, 19, 20, 21, 22, 23, 24] (.reg [un (.bin 25 .add (.t 14) (.c (.int .i64 1))),
 un (.asg 14 (.t 25))])))))
def X0 : ACode :=
 (.seq (.reg [un (.asg 4 (.c (.bool false)))])
 (.seq (.seq (.reg [un (.mov 7 (.t 0)),
 un (.len 8 (.t 7)),
 un (.mov 9 (.t 1)),
 un (.len 10 (.t 9)),
 un (.bin 11 .neq (.t 8) (.t 10))])
 (.drop [7, 8, 9, 10] (.cond (.t 11) (.seq (.reg [un (.asg 4 (.c (.bool false)))])
 .ret)
 .skip)))
 (.drop [7, 8, 9, 10, 11] (.seq (.seq (.reg [un (.mov 12 (.t 0)),
 un (.len 13 (.t 12)),
 un (.mov 14 (.c (.int .i64 0)))])
 (.block 0 (.loop Ma)))
 (.drop [12, 13, 14, 15, 16, 17, 18, 5, 6, 19, 20, 21, 22, 23, 24, 25] (.seq (.reg [un (.asg 4 (.c (.bool true)))])
 .ret))))))
abbrev Xo : List RS := [.t 4]
theorem X2 : Be Try.prog Km 26 X0 Xo = true := by kernel_rfl
def Of : ACode :=
 (.seq (.seq (.reg [un (.mov 11 (.t 5)),
 un (.mov 12 (.t 0)),
 un (.len 13 (.t 12)),
 un (.bin 14 .lss (.t 11) (.t 13))])
 (.drop [11, 12, 13] (.cond (.t 14) .skip
 (.exit 0))))
 (.drop [11, 12, 13, 14] (.seq (.block 1 (.seq (.dreg [(un (.mov 17 (.t 0)), []),
 (un (.mov 18 (.t 5)), [17]),
 (un (.iad 19 1 (.t 17) (.t 18)), []),
 (un (.ld 20 1 false (.t 19)), []),
 (un (.mov 21 (.t 1)), [17, 18, 19, 20]),
 (un (.mov 22 (.t 5)), [17, 18, 19, 20, 21]),
 (un (.iad 23 1 (.t 21) (.t 22)), [17, 18, 19, 20]),
 (un (.ld 24 1 false (.t 23)), [17, 18, 19, 20])]
 [un (.call 25 K8 [((.t 20), false), ((.t 24), false)]),
 un (.un 26 .not (.t 25))])
 (.drop [17, 18, 19, 20, 21, 22, 23, 24, 25] (.cond (.t 26) (.seq (.reg [un (.asg 4 (.c (.bool false)))])
 .ret)
 .skip))))
 (.drop [17, 18, 19, 20, 21, 22, 23, 24, 25, 26] (.reg [un (.mov 15 (.t 5)),
 un (.bin 16 .add (.t 15) (.c (.int .i64 1))),
 un (.asg 5 (.t 16))])))))
def Abo : ACode :=
 (.seq (.reg [un (.asg 4 (.c (.bool false)))])
 (.seq (.seq (.reg [un (.mov 6 (.t 0)),
 un (.len 7 (.t 6)),
 un (.mov 8 (.t 1)),
 un (.len 9 (.t 8)),
 un (.bin 10 .neq (.t 7) (.t 9))])
 (.drop [6, 7, 8, 9] (.cond (.t 10) (.seq (.reg [un (.asg 4 (.c (.bool false)))])
 .ret)
 .skip)))
 (.drop [6, 7, 8, 9, 10] (.seq (.seq (.reg [un (.asg 5 (.c (.int .i64 0)))])
 (.block 0 (.loop Of)))
 (.drop [5, 11, 12, 13, 14, 17, 18, 19, 20, 21, 22, 23, 24, 25, 26, 15, 16] (.seq (.reg [un (.asg 4 (.c (.bool true)))])
 .ret))))))
abbrev Abr : List RS := [.t 4]
theorem Abv : Be Try.prog Nr 27 Abo Abr = true := by kernel_rfl
def Aa9 : ACode :=
 (.seq (.reg [un (.box 1 (.t 0)),
 un (.alc 2 (.agg [.int .i64 0, .nilsl 1]))])
 (.seq (.dreg [(un (.fadr 3 0 (.t 1)), []),
 (un (.ld 4 1 false (.t 3)), []),
 (un (.fadr 5 1 (.t 1)), [3, 4]),
 (un (.ld 6 1 false (.t 5)), [3, 4]),
 (un (.call 7 Ir [((.t 6), false)]), [3, 4])]
 [un (.bld 8 [.int .i64 0, .nilsl 1] [(0, 1, (.t 4)), (1, 1, (.t 7))]),
 un (.st 2 (.t 2) (.t 8))])
 (.drop [3, 4, 5, 6, 7, 8] .ret)))
abbrev Abh : List RS := [.c 2 2 true]
theorem Aba : Be Try.prog Ni 9 Aa9 Abh = true := by kernel_rfl
def U7 : ACode :=
 (.seq (.reg [un (.asg 4 (.c (.int .i64 0)))])
 (.seq (.seq (.reg [un (.mov 6 (.t 1)),
 un (.bin 7 .leq (.t 6) (.c (.int .i64 1)))])
 (.drop [6] (.cond (.t 7) (.seq (.reg [un (.asg 4 (.c (.int .i64 0)))])
 .ret)
 .skip)))
 (.drop [6, 7] (.seq (.reg [un (.mov 8 (.t 0)),
 un (.call 9 F9 [((.t 8), true)]),
 un (.asg 5 (.t 9))])
 (.drop [8, 9] (.seq (.seq (.reg [un (.mov 10 (.t 1)),
 un (.bin 11 .gtr (.t 10) (.c (.int .i64 200)))])
 (.drop [10] (.cond (.t 11) (.reg [un (.mov 12 (.t 5)),
 un (.bin 13 .mul (.t 12) (.c (.int .i64 256))),
 un (.mov 14 (.t 0)),
 un (.call 15 F9 [((.t 14), true)]),
 un (.bin 16 .add (.t 13) (.t 15)),
 un (.asg 5 (.t 16))])
 .skip)))
 (.drop [10, 11, 12, 13, 14, 15, 16] (.seq (.reg [un (.mov 17 (.t 5)),
 un (.mov 18 (.t 1)),
 un (.bin 19 .rem (.t 17) (.t 18)),
 un (.asg 4 (.t 19))])
 (.drop [17, 18, 19] .ret)))))))))
abbrev T0 : List RS := [.t 4]
theorem Ur : Be Try.prog Ap 20 U7 T0 = true := by kernel_rfl
def Aao : ACode :=
 (.seq (.reg [un (.alc 2 (.agg [.int .i64 0, .nilsl 2]))])
 (.seq (.seq (.reg [un (.mov 3 (.t 0))])
 (.block 0 (.seq (.reg [un (.bin 5 .eql (.t 3) (.c (.int .i64 0))),
 un (.asg 4 (.t 5))])
 (.drop [5] (.cond (.t 4) (.seq (.reg [⟨none, .call 6 A6 [((.c (.str ⟨#[48, 48, 48, 49]⟩)), false)]⟩,
 un (.bsl 7 2 [(.t 6)]),
 un (.bld 8 [.int .i64 0, .nilsl 2] [(0, 1, (.c (.int .i64 2))), (1, 1, (.t 7))]),
 un (.st 2 (.t 2) (.t 8))])
 (.drop [6, 7, 8] .ret))
 (.seq (.reg [un (.bin 10 .eql (.t 3) (.c (.int .i64 1))),
 un (.asg 9 (.t 10))])
 (.drop [10] (.cond (.t 9) (.seq (.reg [⟨none, .call 11 A6 [((.c (.str ⟨#[48, 48, 48, 49]⟩)), false)]⟩,
 ⟨none, .call 12 A6 [((.c (.str ⟨#[48, 49, 49, 49]⟩)), false)]⟩,
 un (.bsl 13 2 [(.t 11), (.t 12)]),
 un (.bld 14 [.int .i64 0, .nilsl 2] [(0, 1, (.c (.int .i64 2))), (1, 1, (.t 13))]),
 un (.st 2 (.t 2) (.t 14))])
 (.drop [11, 12, 13, 14] .ret))
 (.seq (.reg [un (.bin 16 .eql (.t 3) (.c (.int .i64 2))),
 un (.asg 15 (.t 16))])
 (.drop [16] (.cond (.t 15) (.seq (.reg [⟨none, .call 17 A6 [((.c (.str ⟨#[48, 48, 48, 49]⟩)), false)]⟩,
 ⟨none, .call 18 A6 [((.c (.str ⟨#[48, 49, 49, 49]⟩)), false)]⟩,
 un (.bsl 19 1 [(.c (.int .i64 1)), (.c (.int .i64 0))]),
 un (.bld 20 [.int .i64 0, .nilsl 1] [(0, 1, (.c (.int .i64 1))), (1, 1, (.t 19))]),
 un (.bsl 21 2 [(.t 17), (.t 18), (.t 20)]),
 un (.bld 22 [.int .i64 0, .nilsl 2] [(0, 1, (.c (.int .i64 2))), (1, 1, (.t 21))]),
 un (.st 2 (.t 2) (.t 22))])
 (.drop [17, 18, 19, 20, 21, 22] .ret))
 (.seq (.reg [un (.bin 24 .eql (.t 3) (.c (.int .i64 3))),
 un (.asg 23 (.t 24))])
 (.drop [24] (.cond (.t 23) (.seq (.reg [un (.call 25 Hv [((.c (.int .i64 2)), false)]),
 un (.bsl 26 2 [(.t 25)]),
 un (.bld 27 [.int .i64 0, .nilsl 2] [(0, 1, (.c (.int .i64 2))), (1, 1, (.t 26))]),
 un (.st 2 (.t 2) (.t 27))])
 (.drop [25, 26, 27] .ret))
 (.seq (.reg [un (.bin 29 .eql (.t 3) (.c (.int .i64 4))),
 un (.asg 28 (.t 29))])
 (.drop [29] (.cond (.t 28) (.seq (.reg [⟨none, .call 30 A6 [((.c (.str ⟨#[48, 49, 50, 49, 50, 48, 50, 48, 49]⟩)), false)]⟩,
 un (.bsl 31 2 [(.t 30)]),
 un (.bld 32 [.int .i64 0, .nilsl 2] [(0, 1, (.c (.int .i64 3))), (1, 1, (.t 31))]),
 un (.st 2 (.t 2) (.t 32))])
 (.drop [30, 31, 32] .ret))
 (.seq (.reg [un (.bin 34 .eql (.t 3) (.c (.int .i64 5))),
 un (.asg 33 (.t 34))])
 (.drop [34] (.cond (.t 33) (.seq (.reg [⟨none, .call 35 A6 [((.c (.str ⟨#[48, 49, 48, 49, 49, 50, 48, 50, 50]⟩)), false)]⟩,
 un (.bsl 36 2 [(.t 35)]),
 un (.bld 37 [.int .i64 0, .nilsl 2] [(0, 1, (.c (.int .i64 3))), (1, 1, (.t 36))]),
 un (.st 2 (.t 2) (.t 37))])
 (.drop [35, 36, 37] .ret))
 (.seq (.reg [un (.bin 39 .eql (.t 3) (.c (.int .i64 6))),
 un (.asg 38 (.t 39))])
 (.drop [39] (.cond (.t 38) (.seq (.reg [⟨none, .call 40 A6 [((.c (.str ⟨#[48, 49, 50, 51, 49, 48, 51, 50, 50, 51, 48, 49, 51, 50, 49, 48]⟩)), false)]⟩,
 un (.bsl 41 2 [(.t 40)]),
 un (.bld 42 [.int .i64 0, .nilsl 2] [(0, 1, (.c (.int .i64 4))), (1, 1, (.t 41))]),
 un (.st 2 (.t 2) (.t 42))])
 (.drop [40, 41, 42] .ret))
 (.seq (.reg [un (.bin 44 .eql (.t 3) (.c (.int .i64 7))),
 un (.asg 43 (.t 44))])
 (.drop [44] (.cond (.t 43) (.seq (.reg [⟨none, .call 45 A6 [((.c (.str ⟨#[48, 48, 48, 48, 49, 49, 48, 49, 50]⟩)), false)]⟩,
 ⟨none, .call 46 A6 [((.c (.str ⟨#[48, 49, 50, 49, 49, 50, 50, 50, 50]⟩)), false)]⟩,
 un (.bsl 47 2 [(.t 45), (.t 46)]),
 un (.bld 48 [.int .i64 0, .nilsl 2] [(0, 1, (.c (.int .i64 3))), (1, 1, (.t 47))]),
 un (.st 2 (.t 2) (.t 48))])
 (.drop [45, 46, 47, 48] .ret))
 (.seq (.reg [un (.bin 50 .eql (.t 3) (.c (.int .i64 8))),
 un (.asg 49 (.t 50))])
 (.drop [50] (.cond (.t 49) (.seq (.reg [un (.bsl 51 1 [(.c (.int .i64 1)), (.c (.int .i64 2)), (.c (.int .i64 3)), (.c (.int .i64 0))]),
 un (.bld 52 [.int .i64 0, .nilsl 1] [(0, 1, (.c (.int .i64 1))), (1, 1, (.t 51))]),
 un (.bsl 53 2 [(.t 52)]),
 un (.bld 54 [.int .i64 0, .nilsl 2] [(0, 1, (.c (.int .i64 4))), (1, 1, (.t 53))]),
 un (.st 2 (.t 2) (.t 54))])
 (.drop [51, 52, 53, 54] .ret))
 (.seq (.reg [un (.bin 56 .eql (.t 3) (.c (.int .i64 9))),
 un (.asg 55 (.t 56))])
 (.drop [56] (.cond (.t 55) (.seq (.reg [un (.bsl 57 1 [(.c (.int .i64 0)), (.c (.int .i64 0)), (.c (.int .i64 0)), (.c (.int .i64 1)), (.c (.int .i64 0)), (.c (.int .i64 1)), (.c (.int .i64 1)), (.c (.int .i64 1))]),
 un (.bld 58 [.int .i64 0, .nilsl 1] [(0, 1, (.c (.int .i64 3))), (1, 1, (.t 57))]),
 un (.bsl 59 2 [(.t 58)]),
 un (.bld 60 [.int .i64 0, .nilsl 2] [(0, 1, (.c (.int .i64 2))), (1, 1, (.t 59))]),
 un (.st 2 (.t 2) (.t 60))])
 (.drop [57, 58, 59, 60] .ret))
 (.seq (.reg [un (.bin 62 .eql (.t 3) (.c (.int .i64 10))),
 un (.asg 61 (.t 62))])
 (.drop [62] (.cond (.t 61) (.seq (.reg [⟨none, .call 63 A6 [((.c (.str ⟨#[48, 48, 48, 49, 49, 49, 50, 50, 50]⟩)), false)]⟩,
 un (.bsl 64 2 [(.t 63)]),
 un (.bld 65 [.int .i64 0, .nilsl 2] [(0, 1, (.c (.int .i64 3))), (1, 1, (.t 64))]),
 un (.st 2 (.t 2) (.t 65))])
 (.drop [63, 64, 65] .ret))
 (.seq (.reg [un (.bin 67 .eql (.t 3) (.c (.int .i64 11))),
 un (.asg 66 (.t 67))])
 (.drop [67] (.cond (.t 66) (.seq (.reg [⟨none, .call 68 A6 [((.c (.str ⟨#[48, 48, 48, 48, 48, 48, 49, 48, 48, 49, 48, 48, 50, 48, 50, 48, 48, 48, 51, 51, 48, 49, 50, 51, 52]⟩)), false)]⟩,
 ⟨none, .call 69 A6 [((.c (.str ⟨#[48, 49, 50, 51, 52, 49, 49, 52, 52, 52, 50, 52, 50, 52, 52, 51, 52, 52, 51, 52, 52, 52, 52, 52, 52]⟩)), false)]⟩,
 un (.bsl 70 2 [(.t 68), (.t 69)]),
 un (.bld 71 [.int .i64 0, .nilsl 2] [(0, 1, (.c (.int .i64 5))), (1, 1, (.t 70))]),
 un (.st 2 (.t 2) (.t 71))])
 (.drop [68, 69, 70, 71] .ret))
 (.seq (.reg [un (.bin 73 .eql (.t 3) (.c (.int .i64 12))),
 un (.asg 72 (.t 73))])
 (.drop [73] (.cond (.t 72) (.seq (.reg [⟨none, .call 74 A6 [((.c (.str ⟨#[48, 49, 50, 51, 49, 50, 51, 48, 50, 51, 48, 49, 51, 48, 49, 50]⟩)), false)]⟩,
 un (.bsl 75 2 [(.t 74)]),
 un (.bld 76 [.int .i64 0, .nilsl 2] [(0, 1, (.c (.int .i64 4))), (1, 1, (.t 75))]),
 un (.st 2 (.t 2) (.t 76))])
 (.drop [74, 75, 76] .ret))
 (.seq (.reg [un (.bin 78 .eql (.t 3) (.c (.int .i64 13))),
 un (.asg 77 (.t 78))])
 (.drop [78] (.cond (.t 77) (.seq (.reg [un (.bsl 79 1 [(.c (.int .i64 0)), (.c (.int .i64 0)), (.c (.int .i64 1))]),
 un (.bld 80 [.int .i64 0, .nilsl 1] [(0, 1, (.c (.int .i64 1))), (1, 1, (.t 79))]),
 un (.bsl 81 1 [(.c (.int .i64 2))]),
 un (.bld 82 [.int .i64 0, .nilsl 1] [(0, 1, (.c (.int .i64 0))), (1, 1, (.t 81))]),
 un (.bsl 83 2 [(.t 80), (.t 82)]),
 un (.bld 84 [.int .i64 0, .nilsl 2] [(0, 1, (.c (.int .i64 3))), (1, 1, (.t 83))]),
 un (.st 2 (.t 2) (.t 84))])
 (.drop [79, 80, 81, 82, 83, 84] .ret))
 (.seq (.reg [un (.bin 86 .eql (.t 3) (.c (.int .i64 14))),
 un (.asg 85 (.t 86))])
 (.drop [86] (.cond (.t 85) (.seq (.reg [⟨none, .call 87 A6 [((.c (.str ⟨#[48]⟩)), false)]⟩,
 un (.bsl 88 2 [(.t 87)]),
 un (.bld 89 [.int .i64 0, .nilsl 2] [(0, 1, (.c (.int .i64 1))), (1, 1, (.t 88))]),
 un (.st 2 (.t 2) (.t 89))])
 (.drop [87, 88, 89] .ret))
 (.seq (.reg [un (.bin 91 .eql (.t 3) (.c (.int .i64 15))),
 un (.asg 90 (.t 91))])
 (.drop [91] (.cond (.t 90) (.seq (.reg [un (.call 92 Hv [((.c (.int .i64 3)), false)]),
 un (.bsl 93 2 [(.t 92)]),
 un (.bld 94 [.int .i64 0, .nilsl 2] [(0, 1, (.c (.int .i64 3))), (1, 1, (.t 93))]),
 un (.st 2 (.t 2) (.t 94))])
 (.drop [92, 93, 94] .ret))
 .skip))))))))))))))))))))))))))))))))))))))))))))))))))
 (.drop [3, 5, 4, 6, 7, 8, 10, 9, 11, 12, 13, 14, 16, 15, 17, 18, 19, 20, 21, 22, 24, 23, 25, 26, 27, 29, 28, 30, 31, 32, 34, 33, 35, 36, 37, 39, 38, 40, 41, 42, 44, 43, 45, 46, 47, 48, 50, 49, 51, 52, 53, 54, 56, 55, 57, 58, 59, 60, 62, 61, 63, 64, 65, 67, 66, 68, 69, 70, 71, 73, 72, 74, 75, 76, 78, 77, 79, 80, 81, 82, 83, 84, 86, 85, 87, 88, 89, 91, 90, 92, 93, 94] (.seq (.reg [un (.bld 95 [.int .i64 0, .nilsl 2] [(0, 1, (.c (.int .i64 2)))]),
 un (.st 2 (.t 2) (.t 95))])
 (.drop [95] .ret)))))
abbrev Zz : List RS := [.c 2 2 true]
theorem Zl : Be Try.prog In 96 Aao Zz = true := by kernel_rfl
def Afk : ACode :=
 (.seq (.reg [un (.box 2 (.t 0)),
 un (.asg 4 (.c (.bool false)))])
 (.seq (.dreg [(un (.fadr 5 0 (.t 2)), []),
 (un (.ld 6 1 false (.t 5)), []),
 (un (.bin 7 .geq (.t 6) (.c (.int .i64 0))), []),
 (un (.asg 8 (.t 7)), []),
 (⟨some (8, true), .fadr 9 0 (.t 2)⟩, [7]),
 (⟨some (8, true), .ld 10 1 false (.t 9)⟩, [7]),
 (⟨some (8, true), .bin 11 .leq (.t 10) (.c (.int .i64 3))⟩, [7]),
 (un (.pick 12 (.t 8) (.t 11) (.c (.bool false))), [7]),
 (un (.asg 13 (.t 12)), [7]),
 (⟨some (13, true), .fadr 14 1 (.t 2)⟩, [7, 12]),
 (⟨some (13, true), .ld 15 1 false (.t 14)⟩, [7, 12]),
 (⟨some (13, true), .len 16 (.t 15)⟩, [7, 12]),
 (⟨some (13, true), .mov 17 (.t 1)⟩, [14, 15, 16, 7, 12]),
 (⟨some (13, true), .fadr 18 0 (.t 2)⟩, [14, 15, 16, 17, 7, 12]),
 (⟨some (13, true), .ld 19 1 false (.t 18)⟩, [14, 15, 16, 17, 7, 12]),
 (⟨some (13, true), .call 20 Oy [((.t 17), false), ((.t 19), false)]⟩, [14, 15, 16, 7, 12]),
 (⟨some (13, true), .bin 21 .eql (.t 16) (.t 20)⟩, [7, 12]),
 (un (.pick 22 (.t 13) (.t 21) (.c (.bool false))), [7, 12]),
 (un (.asg 23 (.t 22)), [7, 12]),
 (⟨some (23, true), .fadr 24 1 (.t 2)⟩, [7, 12, 22]),
 (⟨some (23, true), .ld 25 1 false (.t 24)⟩, [7, 12, 22]),
 (⟨some (23, true), .mov 26 (.t 1)⟩, [24, 25, 7, 12, 22])]
 [⟨some (23, true), .call 27 Hn [((.t 25), false), ((.t 26), false)]⟩,
 un (.pick 28 (.t 23) (.t 27) (.c (.bool false))),
 un (.asg 4 (.t 28))])
 (.drop [5, 6, 7, 8, 9, 10, 11, 12, 13, 14, 15, 16, 17, 18, 19, 20, 21, 22, 23, 24, 25, 26, 27, 28] .ret)))
abbrev Ae0 : List RS := [.t 4]
theorem Afc : Be Try.prog Qn 29 Afk Ae0 = true := by kernel_rfl
def K2 : ACode :=
 (.seq (.reg [un (.bin 10 .lss (.t 9) (.t 8))])
 (.seq (.cond (.t 10) .skip
 (.exit 0))
 (.seq (.block 1 (.seq (.reg [un (.mov 11 (.t 9)),
 un (.iad 12 1 (.t 7) (.t 9)),
 un (.ld 13 1 false (.t 12)),
 un (.asg 5 (.t 11)),
 un (.asg 6 (.t 13))])
 (.drop [11, 12, 13] (.seq (.reg [un (.mov 14 (.t 1)),
 un (.mov 15 (.t 6)),
 un (.call 16 Km [((.t 14), false), ((.t 15), false)])])
 (.drop [14, 15] (.cond (.t 16) (.seq (.reg [un (.mov 17 (.t 5)),
 un (.asg 4 (.t 17))])
 (.drop [17] .ret))
 .skip))))))
 (.drop [11, 12, 13, 5, 6, 14, 15, 16, 17] (.reg [un (.bin 18 .add (.t 9) (.c (.int .i64 1))),
 un (.asg 9 (.t 18))])))))
def Wb : ACode :=
 (.seq (.reg [un (.asg 4 (.c (.int .i64 0)))])
 (.seq (.seq (.reg [un (.mov 7 (.t 0)),
 un (.len 8 (.t 7)),
 un (.mov 9 (.c (.int .i64 0)))])
 (.block 0 (.loop K2)))
 (.drop [7, 8, 9, 10, 11, 12, 13, 5, 6, 14, 15, 16, 17, 18] (.seq (.reg [un (.asg 4 (.c (.int .i64 (-1))))])
 .ret))))
abbrev Wf : List RS := [.t 4]
theorem Wm : Be Try.prog Fg 19 Wb Wf = true := by kernel_rfl
def Aae : ACode :=
 (.seq (.dreg [(un (.fadr 6 0 (.t 3)), []),
 (un (.ld 7 1 false (.t 6)), []),
 (un (.call 8 Dh [((.t 7), false), ((.c (.int .i64 0)), false), ((.c (.int .i64 3)), false)]), []),
 (un (.un 9 .not (.t 8)), []),
 (un (.asg 10 (.t 9)), []),
 (⟨some (10, false), .fadr 11 1 (.t 3)⟩, [9]),
 (⟨some (10, false), .ld 12 1 false (.t 11)⟩, [9]),
 (⟨some (10, false), .len 13 (.t 12)⟩, [9]),
 (⟨some (10, false), .mov 14 (.t 0)⟩, [11, 12, 13, 9]),
 (⟨some (10, false), .fadr 15 0 (.t 3)⟩, [11, 12, 13, 14, 9]),
 (⟨some (10, false), .ld 16 1 false (.t 15)⟩, [11, 12, 13, 14, 9]),
 (⟨some (10, false), .call 17 I0 [((.t 14), false), ((.t 16), false)]⟩, [11, 12, 13, 9])]
 [⟨some (10, false), .bin 18 .neq (.t 13) (.t 17)⟩,
 un (.pick 19 (.t 10) (.c (.bool true)) (.t 18))])
 (.drop [6, 7, 8, 9, 10, 11, 12, 13, 14, 15, 16, 17, 18] (.cond (.t 19) (.seq (.reg [un (.asg 4 (.c (.bool false)))])
 .ret)
 .skip)))
def Q0 : ACode :=
 (.seq (.seq (.reg [un (.mov 20 (.t 5)),
 un (.fadr 21 1 (.t 3)),
 un (.ld 22 1 false (.t 21)),
 un (.len 23 (.t 22)),
 un (.bin 24 .lss (.t 20) (.t 23))])
 (.drop [20, 21, 22, 23] (.cond (.t 24) .skip
 (.exit 0))))
 (.drop [20, 21, 22, 23, 24] (.seq (.block 1 (.seq (.reg [un (.fadr 27 1 (.t 3)),
 un (.ld 28 1 false (.t 27)),
 un (.mov 29 (.t 5)),
 un (.iad 30 1 (.t 28) (.t 29)),
 un (.ld 31 1 false (.t 30)),
 un (.mov 32 (.t 0)),
 un (.bin 33 .sub (.t 32) (.c (.int .i64 1))),
 un (.call 34 Dh [((.t 31), false), ((.c (.int .i64 0)), false), ((.t 33), false)]),
 un (.un 35 .not (.t 34))])
 (.drop [27, 28, 29, 30, 31, 32, 33, 34] (.cond (.t 35) (.seq (.reg [un (.asg 4 (.c (.bool false)))])
 .ret)
 .skip))))
 (.drop [27, 28, 29, 30, 31, 32, 33, 34, 35] (.reg [un (.mov 25 (.t 5)),
 un (.bin 26 .add (.t 25) (.c (.int .i64 1))),
 un (.asg 5 (.t 26))])))))
def Afi : ACode :=
 (.seq (.reg [un (.box 3 (.t 1)),
 un (.asg 4 (.c (.bool false)))])
 (.seq (.cut Aae)
 (.drop [6, 7, 8, 9, 10, 11, 12, 13, 14, 15, 16, 17, 18, 19] (.seq (.seq (.reg [un (.asg 5 (.c (.int .i64 0)))])
 (.block 0 (.loop Q0)))
 (.drop [5, 20, 21, 22, 23, 24, 27, 28, 29, 30, 31, 32, 33, 34, 35, 25, 26] (.seq (.reg [un (.asg 4 (.c (.bool true)))])
 .ret))))))
abbrev Afe : List RS := [.t 4]
theorem Ae5 : Be Try.prog Q5 36 Afi Afe = true := by kernel_rfl
def Lm : ACode :=
 (.seq (.seq (.reg [un (.mov 6 (.t 5)),
 un (.mov 7 (.t 0)),
 un (.len 8 (.t 7)),
 un (.bin 9 .lss (.t 6) (.t 8))])
 (.drop [6, 7, 8] (.cond (.t 9) .skip
 (.exit 0))))
 (.drop [6, 7, 8, 9] (.seq (.block 1 (.seq (.reg [un (.mov 12 (.t 0)),
 un (.mov 13 (.t 5)),
 un (.iad 14 1 (.t 12) (.t 13)),
 un (.ld 15 1 false (.t 14)),
 un (.mov 16 (.t 1)),
 un (.call 17 Nj [((.t 15), false), ((.t 16), false)])])
 (.drop [12, 13, 14, 15, 16] (.cond (.t 17) (.seq (.reg [un (.mov 18 (.t 5)),
 un (.asg 4 (.t 18))])
 (.drop [18] .ret))
 .skip))))
 (.drop [12, 13, 14, 15, 16, 17, 18] (.reg [un (.mov 10 (.t 5)),
 un (.bin 11 .add (.t 10) (.c (.int .i64 1))),
 un (.asg 5 (.t 11))])))))
def Yt : ACode :=
 (.seq (.reg [un (.asg 4 (.c (.int .i64 0)))])
 (.seq (.seq (.reg [un (.asg 5 (.c (.int .i64 0)))])
 (.block 0 (.loop Lm)))
 (.drop [5, 6, 7, 8, 9, 12, 13, 14, 15, 16, 17, 18, 10, 11] (.seq (.reg [un (.asg 4 (.c (.int .i64 (-1))))])
 .ret))))
abbrev Xm : List RS := [.t 4]
theorem X9 : Be Try.prog Ew 19 Yt Xm = true := by kernel_rfl
def Y7 : ACode :=
 (.seq (.reg [un (.asg 2 (.c (.bool false)))])
 (.seq (.reg [un (.mov 3 (.t 0)),
 un (.call 4 Hn [((.t 3), false), ((.c (.int .i64 2)), false)]),
 un (.asg 2 (.t 4))])
 (.drop [3, 4] .ret)))
abbrev Zj : List RS := [.t 2]
theorem Z4 : Be Try.prog I6 5 Y7 Zj = true := by kernel_rfl
def Ka : ACode :=
 (.seq (.seq (.reg [un (.mov 6 (.t 5)),
 un (.mov 7 (.t 1)),
 un (.len 8 (.t 7)),
 un (.bin 9 .lss (.t 6) (.t 8))])
 (.drop [6, 7, 8] (.cond (.t 9) .skip
 (.exit 0))))
 (.drop [6, 7, 8, 9] (.seq (.block 1 (.seq (.reg [un (.mov 12 (.t 1)),
 un (.mov 13 (.t 5)),
 un (.iad 14 1 (.t 12) (.t 13)),
 un (.ld 15 1 false (.t 14)),
 un (.mov 16 (.t 0)),
 un (.bin 17 .sub (.t 16) (.c (.int .i64 1))),
 un (.call 18 Dh [((.t 15), false), ((.c (.int .i64 0)), false), ((.t 17), false)]),
 un (.un 19 .not (.t 18))])
 (.drop [12, 13, 14, 15, 16, 17, 18] (.cond (.t 19) (.seq (.reg [un (.asg 4 (.c (.bool false)))])
 .ret)
 .skip))))
 (.drop [12, 13, 14, 15, 16, 17, 18, 19] (.reg [un (.mov 10 (.t 5)),
 un (.bin 11 .add (.t 10) (.c (.int .i64 1))),
 un (.asg 5 (.t 11))])))))
def Up : ACode :=
 (.seq (.reg [un (.asg 4 (.c (.bool false)))])
 (.seq (.seq (.reg [un (.asg 5 (.c (.int .i64 0)))])
 (.block 0 (.loop Ka)))
 (.drop [5, 6, 7, 8, 9, 12, 13, 14, 15, 16, 17, 18, 19, 10, 11] (.seq (.reg [un (.asg 4 (.c (.bool true)))])
 .ret))))
abbrev Uq : List RS := [.t 4]
theorem U8 : Be Try.prog Gc 20 Up Uq = true := by kernel_rfl
def V2 : ACode :=
 (.seq (.reg [un (.asg 4 (.c (.bool false)))])
 (.seq (.reg [un (.mov 5 (.t 0)),
 un (.mov 6 (.t 1)),
 un (.call 7 Ap [((.t 5), true), ((.t 6), false)]),
 un (.bin 8 .eql (.t 7) (.c (.int .i64 0))),
 un (.asg 4 (.t 8))])
 (.drop [5, 6, 7, 8] .ret)))
abbrev V7 : List RS := [.t 4]
theorem Vp : Be Try.prog De 9 V2 V7 = true := by kernel_rfl
def Tj : ACode :=
 (.seq (.reg [un (.asg 4 (.c (.int .i64 0)))])
 (.seq (.reg [un (.mov 5 (.t 1)),
 un (.mov 6 (.t 0)),
 un (.mov 7 (.t 1)),
 un (.len 8 (.t 7)),
 un (.call 9 Ap [((.t 6), true), ((.t 8), false)]),
 un (.iad 10 1 (.t 5) (.t 9)),
 un (.ld 11 1 false (.t 10)),
 un (.asg 4 (.t 11))])
 (.drop [5, 6, 7, 8, 9, 10, 11] .ret)))
abbrev Te : List RS := [.t 4]
theorem Tu : Be Try.prog As 12 Tj Te = true := by kernel_rfl
def Td : ACode :=
 (.seq (.reg [un (.fadr 26 1 (.t 10)),
 un (.ld 27 1 false (.t 26)),
 un (.len 28 (.t 27)),
 un (.fadr 29 0 (.t 6)),
 un (.ld 30 1 false (.t 29)),
 un (.bin 31 .eql (.t 28) (.t 30))])
 (.drop [26, 27, 28, 29, 30] (.cond (.t 31) (.reg [un (.mov 32 (.t 3)),
 un (.fadr 33 1 (.t 10)),
 un (.ld 34 1 false (.t 33)),
 un (.call 35 Fg [((.t 32), false), ((.t 34), false)]),
 un (.asg 12 (.t 35))])
 .skip)))
def Tn : ACode :=
 (.seq (.reg [un (.mov 56 (.t 12)),
 un (.bin 57 .geq (.t 56) (.c (.int .i64 0)))])
 (.drop [56] (.cond (.t 57) (.reg [un (.mov 58 (.t 1)),
 un (.mov 59 (.t 12)),
 un (.mov 60 (.t 0)),
 un (.bin 61 .mul (.t 59) (.t 60)),
 un (.mov 62 (.t 0)),
 un (.bin 63 .mul (.t 61) (.t 62)),
 un (.mov 64 (.t 13)),
 un (.bin 65 .add (.t 63) (.t 64)),
 un (.iad 66 1 (.t 58) (.t 65)),
 un (.ld 67 1 false (.t 66)),
 un (.asg 14 (.t 67))])
 .skip)))
def Lp : ACode :=
 (.seq (.seq (.reg [un (.mov 36 (.t 13)),
 un (.mov 37 (.t 0)),
 un (.mov 38 (.t 0)),
 un (.bin 39 .mul (.t 37) (.t 38)),
 un (.bin 40 .lss (.t 36) (.t 39))])
 (.drop [36, 37, 38, 39] (.cond (.t 40) .skip
 (.exit 2))))
 (.drop [36, 37, 38, 39, 40] (.seq (.block 3 (.seq (.dreg [(un (.mov 43 (.t 13)), []),
 (un (.mov 44 (.t 0)), [43]),
 (un (.bin 45 .quo (.t 43) (.t 44)), []),
 (un (.mov 46 (.t 13)), [43, 44, 45]),
 (un (.mov 47 (.t 0)), [43, 44, 45, 46]),
 (un (.bin 48 .rem (.t 46) (.t 47)), [43, 44, 45]),
 (un (.bsl 49 1 [(.t 45), (.t 48)]), []),
 (un (.fadr 50 1 (.t 10)), [43, 44, 45, 46, 47, 48, 49, 45, 48]),
 (un (.ld 51 1 false (.t 50)), [43, 44, 45, 46, 47, 48, 49, 45, 48]),
 (un (.iad 52 1 (.t 51) (.c (.int .i64 0))), [43, 44, 45, 46, 47, 48, 49, 45, 48]),
 (un (.ld 53 1 false (.t 52)), [43, 44, 45, 46, 47, 48, 49, 45, 48])]
 [un (.iad 54 1 (.t 49) (.t 53)),
 un (.ld 55 1 false (.t 54)),
 un (.asg 14 (.t 55))])
 (.drop [43, 44, 45, 46, 47, 48, 49, 50, 51, 52, 53, 54, 55] (.seq (.cut Tn)
 (.drop [56, 57, 58, 59, 60, 61, 62, 63, 64, 65, 66, 67] (.seq (.reg [un (.mov 68 (.t 1)),
 un (.mov 69 (.t 11)),
 un (.mov 70 (.t 0)),
 un (.bin 71 .mul (.t 69) (.t 70)),
 un (.mov 72 (.t 0)),
 un (.bin 73 .mul (.t 71) (.t 72)),
 un (.mov 74 (.t 13)),
 un (.bin 75 .add (.t 73) (.t 74)),
 un (.iad 76 1 (.t 68) (.t 75)),
 un (.ld 77 1 false (.t 76)),
 un (.mov 78 (.t 14)),
 un (.bin 79 .neq (.t 77) (.t 78))])
 (.drop [68, 69, 70, 71, 72, 73, 74, 75, 76, 77, 78] (.cond (.t 79) (.seq (.reg [un (.asg 8 (.c (.bool false)))])
 .ret)
 .skip))))))))
 (.drop [43, 44, 45, 46, 47, 48, 49, 50, 51, 52, 53, 54, 55, 14, 56, 57, 58, 59, 60, 61, 62, 63, 64, 65, 66, 67, 68, 69, 70, 71, 72, 73, 74, 75, 76, 77, 78, 79] (.reg [un (.mov 41 (.t 13)),
 un (.bin 42 .add (.t 41) (.c (.int .i64 1))),
 un (.asg 13 (.t 42))])))))
def Lt : ACode :=
 (.seq (.reg [un (.bin 19 .lss (.t 18) (.t 17))])
 (.seq (.cond (.t 19) .skip
 (.exit 0))
 (.seq (.block 1 (.seq (.reg [un (.iad 20 2 (.t 16) (.t 18)),
 un (.ld 21 2 true (.t 20)),
 un (.alc 10 (.agg [.nilsl 1, .nilsl 1])),
 un (.st 2 (.t 10) (.t 21))])
 (.drop [20, 21] (.seq (.reg [un (.mov 22 (.t 3)),
 un (.fadr 23 0 (.t 10)),
 un (.ld 24 1 false (.t 23)),
 un (.call 25 Fg [((.t 22), false), ((.t 24), false)]),
 un (.asg 11 (.t 25)),
 un (.asg 12 (.c (.int .i64 (-1))))])
 (.drop [22, 23, 24, 25] (.seq (.cut Td)
 (.drop [26, 27, 28, 29, 30, 31, 32, 33, 34, 35] (.seq (.reg [un (.asg 13 (.c (.int .i64 0)))])
 (.block 2 (.loop Lp))))))))))
 (.drop [20, 21, 10, 22, 23, 24, 25, 11, 12, 26, 27, 28, 29, 30, 31, 32, 33, 34, 35, 13, 36, 37, 38, 39, 40, 43, 44, 45, 46, 47, 48, 49, 50, 51, 52, 53, 54, 55, 14, 56, 57, 58, 59, 60, 61, 62, 63, 64, 65, 66, 67, 68, 69, 70, 71, 72, 73, 74, 75, 76, 77, 78, 79, 41, 42] (.reg [un (.bin 80 .add (.t 18) (.c (.int .i64 1))),
 un (.asg 18 (.t 80))])))))
def Xn : ACode :=
 (.seq (.reg [un (.box 6 (.t 2)),
 un (.asg 8 (.c (.bool false)))])
 (.seq (.seq (.reg [un (.fadr 15 1 (.t 6)),
 un (.ld 16 1 false (.t 15)),
 un (.len 17 (.t 16)),
 un (.mov 18 (.c (.int .i64 0)))])
 (.drop [15] (.block 0 (.loop Lt))))
 (.drop [15, 16, 17, 18, 19, 20, 21, 10, 22, 23, 24, 25, 11, 12, 26, 27, 28, 29, 30, 31, 32, 33, 34, 35, 13, 36, 37, 38, 39, 40, 43, 44, 45, 46, 47, 48, 49, 50, 51, 52, 53, 54, 55, 14, 56, 57, 58, 59, 60, 61, 62, 63, 64, 65, 66, 67, 68, 69, 70, 71, 72, 73, 74, 75, 76, 77, 78, 79, 41, 42, 80] (.seq (.reg [un (.asg 8 (.c (.bool true)))])
 .ret))))
abbrev Xt : List RS := [.t 8]
theorem Yc : Be Try.prog Hx 81 Xn Xt = true := by kernel_rfl
def Qg : ACode :=
 (.seq (.reg [un (.mov 13 (.t 3)),
 un (.fadr 14 1 (.t 1)),
 un (.ld 15 1 false (.t 14)),
 un (.mov 16 (.t 4)),
 un (.iad 17 2 (.t 15) (.t 16)),
 un (.fadr 18 0 (.t 17)),
 un (.ld 19 1 false (.t 18)),
 un (.call 20 Ew [((.t 13), false), ((.t 19), false)]),
 un (.bin 21 .lss (.t 20) (.c (.int .i64 0)))])
 (.drop [13, 14, 15, 16, 17, 18, 19, 20] (.cond (.t 21) (.reg [un (.mov 22 (.t 3)),
 un (.fadr 23 1 (.t 1)),
 un (.ld 24 1 false (.t 23)),
 un (.mov 25 (.t 4)),
 un (.iad 26 2 (.t 24) (.t 25)),
 un (.fadr 27 0 (.t 26)),
 un (.ld 28 1 false (.t 27)),
 un (.call 29 Ir [((.t 28), false)]),
 un (.bsl 30 1 [(.t 29)]),
 un (.app 31 1 (.t 22) (.t 30)),
 un (.asg 3 (.t 31))])
 .skip)))
def P9 : ACode :=
 (.reg [un (.fadr 32 1 (.t 1)),
 un (.ld 33 1 false (.t 32)),
 un (.mov 34 (.t 4)),
 un (.iad 35 2 (.t 33) (.t 34)),
 un (.fadr 36 1 (.t 35)),
 un (.ld 37 1 false (.t 36)),
 un (.len 38 (.t 37)),
 un (.bin 39 .gtr (.t 38) (.c (.int .i64 1))),
 un (.asg 40 (.t 39)),
 ⟨some (40, true), .mov 41 (.t 3)⟩,
 ⟨some (40, true), .fadr 42 1 (.t 1)⟩,
 ⟨some (40, true), .ld 43 1 false (.t 42)⟩,
 ⟨some (40, true), .mov 44 (.t 4)⟩,
 ⟨some (40, true), .iad 45 2 (.t 43) (.t 44)⟩,
 ⟨some (40, true), .fadr 46 1 (.t 45)⟩,
 ⟨some (40, true), .ld 47 1 false (.t 46)⟩,
 ⟨some (40, true), .call 48 Ew [((.t 41), false), ((.t 47), false)]⟩,
 ⟨some (40, true), .bin 49 .lss (.t 48) (.c (.int .i64 0))⟩,
 un (.pick 50 (.t 40) (.t 49) (.c (.bool false)))])
def Jb : ACode :=
 (.seq (.seq (.reg [un (.mov 6 (.t 4)),
 un (.fadr 7 1 (.t 1)),
 un (.ld 8 1 false (.t 7)),
 un (.len 9 (.t 8)),
 un (.bin 10 .lss (.t 6) (.t 9))])
 (.drop [6, 7, 8, 9] (.cond (.t 10) .skip
 (.exit 0))))
 (.drop [6, 7, 8, 9, 10] (.seq (.block 1 (.seq (.cut Qg)
 (.drop [13, 14, 15, 16, 17, 18, 19, 20, 21, 22, 23, 24, 25, 26, 27, 28, 29, 30, 31] (.seq (.cut P9)
 (.drop [32, 33, 34, 35, 36, 37, 38, 39, 40, 41, 42, 43, 44, 45, 46, 47, 48, 49] (.cond (.t 50) (.reg [un (.mov 51 (.t 3)),
 un (.fadr 52 1 (.t 1)),
 un (.ld 53 1 false (.t 52)),
 un (.mov 54 (.t 4)),
 un (.iad 55 2 (.t 53) (.t 54)),
 un (.fadr 56 1 (.t 55)),
 un (.ld 57 1 false (.t 56)),
 un (.call 58 Ir [((.t 57), false)]),
 un (.bsl 59 1 [(.t 58)]),
 un (.app 60 1 (.t 51) (.t 59)),
 un (.asg 3 (.t 60))])
 .skip))))))
 (.drop [13, 14, 15, 16, 17, 18, 19, 20, 21, 22, 23, 24, 25, 26, 27, 28, 29, 30, 31, 32, 33, 34, 35, 36, 37, 38, 39, 40, 41, 42, 43, 44, 45, 46, 47, 48, 49, 50, 51, 52, 53, 54, 55, 56, 57, 58, 59, 60] (.reg [un (.mov 11 (.t 4)),
 un (.bin 12 .add (.t 11) (.c (.int .i64 1))),
 un (.asg 4 (.t 12))])))))
def Tm : ACode :=
 (.seq (.reg [un (.box 1 (.t 0)),
 un (.asg 2 (.c (.nilsl 1)))])
 (.seq (.reg [un (.bsl 5 1 []),
 un (.asg 3 (.t 5))])
 (.drop [5] (.seq (.seq (.reg [un (.asg 4 (.c (.int .i64 0)))])
 (.block 0 (.loop Jb)))
 (.drop [4, 6, 7, 8, 9, 10, 13, 14, 15, 16, 17, 18, 19, 20, 21, 22, 23, 24, 25, 26, 27, 28, 29, 30, 31, 32, 33, 34, 35, 36, 37, 38, 39, 40, 41, 42, 43, 44, 45, 46, 47, 48, 49, 50, 51, 52, 53, 54, 55, 56, 57, 58, 59, 60, 11, 12] (.seq (.reg [un (.mov 61 (.t 3)),
 un (.asg 2 (.t 61))])
 (.drop [61] .ret)))))))
abbrev Ti : List RS := [.t 2]
theorem Tt : Be Try.prog B6 62 Tm Ti = true := by kernel_rfl
def S7 : ACode :=
 (.seq (.reg [un (.fadr 69 1 (.t 6)),
 un (.ld 70 1 false (.t 69)),
 un (.mov 71 (.t 9)),
 un (.iad 72 2 (.t 70) (.t 71)),
 un (.fadr 73 1 (.t 72)),
 un (.ld 74 1 false (.t 73)),
 un (.len 75 (.t 74)),
 un (.bin 76 .gtr (.t 75) (.c (.int .i64 1)))])
 (.drop [69, 70, 71, 72, 73, 74, 75] (.cond (.t 76) (.reg [un (.mov 77 (.t 1)),
 un (.mov 78 (.t 11)),
 un (.mov 79 (.t 12)),
 un (.mov 80 (.t 0)),
 un (.bin 81 .mul (.t 79) (.t 80)),
 un (.bin 82 .add (.t 78) (.t 81)),
 un (.mov 83 (.t 13)),
 un (.bin 84 .add (.t 82) (.t 83)),
 un (.iad 85 1 (.t 77) (.t 84)),
 un (.ld 86 1 false (.t 85)),
 un (.asg 14 (.t 86))])
 .skip)))
def Li : ACode :=
 (.seq (.seq (.reg [un (.mov 51 (.t 13)),
 un (.mov 52 (.t 0)),
 un (.bin 53 .lss (.t 51) (.t 52))])
 (.drop [51, 52] (.cond (.t 53) .skip
 (.exit 4))))
 (.drop [51, 52, 53] (.seq (.block 5 (.seq (.reg [un (.mov 56 (.t 12)),
 un (.mov 57 (.t 13)),
 un (.bsl 58 1 [(.t 56), (.t 57)]),
 un (.fadr 59 1 (.t 6)),
 un (.ld 60 1 false (.t 59)),
 un (.mov 61 (.t 9)),
 un (.iad 62 2 (.t 60) (.t 61)),
 un (.fadr 63 1 (.t 62)),
 un (.ld 64 1 false (.t 63)),
 un (.iad 65 1 (.t 64) (.c (.int .i64 0))),
 un (.ld 66 1 false (.t 65)),
 un (.iad 67 1 (.t 58) (.t 66)),
 un (.ld 68 1 false (.t 67)),
 un (.asg 14 (.t 68))])
 (.drop [56, 57, 58, 59, 60, 61, 62, 63, 64, 65, 66, 67, 68] (.seq (.cut S7)
 (.drop [69, 70, 71, 72, 73, 74, 75, 76, 77, 78, 79, 80, 81, 82, 83, 84, 85, 86] (.seq (.reg [un (.mov 87 (.t 1)),
 un (.mov 88 (.t 10)),
 un (.mov 89 (.t 12)),
 un (.mov 90 (.t 0)),
 un (.bin 91 .mul (.t 89) (.t 90)),
 un (.bin 92 .add (.t 88) (.t 91)),
 un (.mov 93 (.t 13)),
 un (.bin 94 .add (.t 92) (.t 93)),
 un (.iad 95 1 (.t 87) (.t 94)),
 un (.ld 96 1 false (.t 95)),
 un (.mov 97 (.t 14)),
 un (.bin 98 .neq (.t 96) (.t 97))])
 (.drop [87, 88, 89, 90, 91, 92, 93, 94, 95, 96, 97] (.cond (.t 98) (.seq (.reg [un (.asg 8 (.c (.bool false)))])
 .ret)
 .skip))))))))
 (.drop [56, 57, 58, 59, 60, 61, 62, 63, 64, 65, 66, 67, 68, 14, 69, 70, 71, 72, 73, 74, 75, 76, 77, 78, 79, 80, 81, 82, 83, 84, 85, 86, 87, 88, 89, 90, 91, 92, 93, 94, 95, 96, 97, 98] (.reg [un (.mov 54 (.t 13)),
 un (.bin 55 .add (.t 54) (.c (.int .i64 1))),
 un (.asg 13 (.t 55))])))))
def L9 : ACode :=
 (.seq (.seq (.reg [un (.mov 46 (.t 12)),
 un (.mov 47 (.t 0)),
 un (.bin 48 .lss (.t 46) (.t 47))])
 (.drop [46, 47] (.cond (.t 48) .skip
 (.exit 2))))
 (.drop [46, 47, 48] (.seq (.block 3 (.seq (.reg [un (.asg 13 (.c (.int .i64 0)))])
 (.block 4 (.loop Li))))
 (.drop [13, 51, 52, 53, 56, 57, 58, 59, 60, 61, 62, 63, 64, 65, 66, 67, 68, 14, 69, 70, 71, 72, 73, 74, 75, 76, 77, 78, 79, 80, 81, 82, 83, 84, 85, 86, 87, 88, 89, 90, 91, 92, 93, 94, 95, 96, 97, 98, 54, 55] (.reg [un (.mov 49 (.t 12)),
 un (.bin 50 .add (.t 49) (.c (.int .i64 1))),
 un (.asg 12 (.t 50))])))))
def Lo : ACode :=
 (.seq (.seq (.reg [un (.mov 15 (.t 9)),
 un (.fadr 16 1 (.t 6)),
 un (.ld 17 1 false (.t 16)),
 un (.len 18 (.t 17)),
 un (.bin 19 .lss (.t 15) (.t 18))])
 (.drop [15, 16, 17, 18] (.cond (.t 19) .skip
 (.exit 0))))
 (.drop [15, 16, 17, 18, 19] (.seq (.block 1 (.seq (.reg [un (.mov 22 (.t 3)),
 un (.fadr 23 1 (.t 6)),
 un (.ld 24 1 false (.t 23)),
 un (.mov 25 (.t 9)),
 un (.iad 26 2 (.t 24) (.t 25)),
 un (.fadr 27 0 (.t 26)),
 un (.ld 28 1 false (.t 27)),
 un (.call 29 Ew [((.t 22), false), ((.t 28), false)]),
 un (.mov 30 (.t 0)),
 un (.bin 31 .mul (.t 29) (.t 30)),
 un (.mov 32 (.t 0)),
 un (.bin 33 .mul (.t 31) (.t 32)),
 un (.asg 10 (.t 33))])
 (.drop [22, 23, 24, 25, 26, 27, 28, 29, 30, 31, 32, 33] (.seq (.reg [un (.mov 34 (.t 3)),
 un (.fadr 35 1 (.t 6)),
 un (.ld 36 1 false (.t 35)),
 un (.mov 37 (.t 9)),
 un (.iad 38 2 (.t 36) (.t 37)),
 un (.fadr 39 1 (.t 38)),
 un (.ld 40 1 false (.t 39)),
 un (.call 41 Ew [((.t 34), false), ((.t 40), false)]),
 un (.mov 42 (.t 0)),
 un (.bin 43 .mul (.t 41) (.t 42)),
 un (.mov 44 (.t 0)),
 un (.bin 45 .mul (.t 43) (.t 44)),
 un (.asg 11 (.t 45))])
 (.drop [34, 35, 36, 37, 38, 39, 40, 41, 42, 43, 44, 45] (.seq (.reg [un (.asg 12 (.c (.int .i64 0)))])
 (.block 2 (.loop L9))))))))
 (.drop [22, 23, 24, 25, 26, 27, 28, 29, 30, 31, 32, 33, 10, 34, 35, 36, 37, 38, 39, 40, 41, 42, 43, 44, 45, 11, 12, 46, 47, 48, 13, 51, 52, 53, 56, 57, 58, 59, 60, 61, 62, 63, 64, 65, 66, 67, 68, 14, 69, 70, 71, 72, 73, 74, 75, 76, 77, 78, 79, 80, 81, 82, 83, 84, 85, 86, 87, 88, 89, 90, 91, 92, 93, 94, 95, 96, 97, 98, 54, 55, 49, 50] (.reg [un (.mov 20 (.t 9)),
 un (.bin 21 .add (.t 20) (.c (.int .i64 1))),
 un (.asg 9 (.t 21))])))))
def Xi : ACode :=
 (.seq (.reg [un (.box 6 (.t 2)),
 un (.asg 8 (.c (.bool false)))])
 (.seq (.seq (.reg [un (.asg 9 (.c (.int .i64 0)))])
 (.block 0 (.loop Lo)))
 (.drop [9, 15, 16, 17, 18, 19, 22, 23, 24, 25, 26, 27, 28, 29, 30, 31, 32, 33, 10, 34, 35, 36, 37, 38, 39, 40, 41, 42, 43, 44, 45, 11, 12, 46, 47, 48, 13, 51, 52, 53, 56, 57, 58, 59, 60, 61, 62, 63, 64, 65, 66, 67, 68, 14, 69, 70, 71, 72, 73, 74, 75, 76, 77, 78, 79, 80, 81, 82, 83, 84, 85, 86, 87, 88, 89, 90, 91, 92, 93, 94, 95, 96, 97, 98, 54, 55, 49, 50, 20, 21] (.seq (.reg [un (.asg 8 (.c (.bool true)))])
 .ret))))
abbrev Yd : List RS := [.t 8]
theorem Yf : Be Try.prog Hy 99 Xi Yd = true := by kernel_rfl
def Qf : ACode :=
 (.seq (.reg [un (.fadr 5 0 (.t 1)),
 un (.ld 6 1 false (.t 5)),
 un (.bin 7 .lss (.t 6) (.c (.int .i64 2))),
 un (.asg 8 (.t 7)),
 ⟨some (8, false), .fadr 9 0 (.t 1)⟩,
 ⟨some (8, false), .ld 10 1 false (.t 9)⟩,
 ⟨some (8, false), .bin 11 .gtr (.t 10) (.c (.int .i64 3))⟩,
 un (.pick 12 (.t 8) (.c (.bool true)) (.t 11)),
 un (.asg 13 (.t 12)),
 ⟨some (13, false), .fadr 14 1 (.t 1)⟩,
 ⟨some (13, false), .ld 15 1 false (.t 14)⟩,
 ⟨some (13, false), .len 16 (.t 15)⟩,
 ⟨some (13, false), .bin 17 .lss (.t 16) (.c (.int .i64 1))⟩,
 un (.pick 18 (.t 13) (.c (.bool true)) (.t 17)),
 un (.asg 19 (.t 18)),
 ⟨some (19, false), .fadr 20 1 (.t 1)⟩,
 ⟨some (19, false), .ld 21 1 false (.t 20)⟩,
 ⟨some (19, false), .len 22 (.t 21)⟩,
 ⟨some (19, false), .bin 23 .gtr (.t 22) (.c (.int .i64 6))⟩,
 un (.pick 24 (.t 19) (.c (.bool true)) (.t 23))])
 (.drop [5, 6, 7, 8, 9, 10, 11, 12, 13, 14, 15, 16, 17, 18, 19, 20, 21, 22, 23] (.cond (.t 24) (.seq (.reg [un (.asg 2 (.c (.bool false)))])
 .ret)
 .skip)))
def Ja : ACode :=
 (.seq (.reg [un (.bin 29 .lss (.t 28) (.t 27))])
 (.seq (.cond (.t 29) .skip
 (.exit 0))
 (.seq (.block 1 (.seq (.reg [un (.iad 30 2 (.t 26) (.t 28)),
 un (.ld 31 2 true (.t 30)),
 un (.alc 4 (.agg [.nilsl 1, .nilsl 1])),
 un (.st 2 (.t 4) (.t 31))])
 (.drop [30, 31] (.seq (.reg [un (.fadr 32 0 (.t 4)),
 un (.ld 33 1 false (.t 32)),
 un (.len 34 (.t 33)),
 un (.fadr 35 0 (.t 1)),
 un (.ld 36 1 false (.t 35)),
 un (.bin 37 .neq (.t 34) (.t 36)),
 un (.asg 38 (.t 37)),
 ⟨some (38, false), .fadr 39 1 (.t 4)⟩,
 ⟨some (38, false), .ld 40 1 false (.t 39)⟩,
 ⟨some (38, false), .len 41 (.t 40)⟩,
 ⟨some (38, false), .fadr 42 0 (.t 1)⟩,
 ⟨some (38, false), .ld 43 1 false (.t 42)⟩,
 ⟨some (38, false), .bin 44 .neq (.t 41) (.t 43)⟩,
 ⟨some (38, false), .asg 45 (.t 44)⟩,
 ⟨some (45, true), .fadr 46 1 (.t 4)⟩,
 ⟨some (45, true), .ld 47 1 false (.t 46)⟩,
 ⟨some (45, true), .len 48 (.t 47)⟩,
 ⟨some (45, true), .bin 49 .neq (.t 48) (.c (.int .i64 1))⟩,
 ⟨some (38, false), .pick 50 (.t 45) (.t 49) (.c (.bool false))⟩,
 un (.pick 51 (.t 38) (.c (.bool true)) (.t 50)),
 un (.asg 52 (.t 51)),
 ⟨some (52, false), .fadr 53 0 (.t 4)⟩,
 ⟨some (52, false), .ld 54 1 false (.t 53)⟩,
 ⟨some (52, false), .call 55 I6 [((.t 54), false)]⟩,
 ⟨some (52, false), .un 56 .not (.t 55)⟩,
 un (.pick 57 (.t 52) (.c (.bool true)) (.t 56)),
 un (.asg 58 (.t 57)),
 ⟨some (58, false), .fadr 59 1 (.t 4)⟩,
 ⟨some (58, false), .ld 60 1 false (.t 59)⟩,
 ⟨some (58, false), .call 61 I6 [((.t 60), false)]⟩,
 ⟨some (58, false), .un 62 .not (.t 61)⟩,
 un (.pick 63 (.t 58) (.c (.bool true)) (.t 62))])
 (.drop [32, 33, 34, 35, 36, 37, 38, 39, 40, 41, 42, 43, 44, 45, 46, 47, 48, 49, 50, 51, 52, 53, 54, 55, 56, 57, 58, 59, 60, 61, 62] (.cond (.t 63) (.seq (.reg [un (.asg 2 (.c (.bool false)))])
 .ret)
 .skip))))))
 (.drop [30, 31, 4, 32, 33, 34, 35, 36, 37, 38, 39, 40, 41, 42, 43, 44, 45, 46, 47, 48, 49, 50, 51, 52, 53, 54, 55, 56, 57, 58, 59, 60, 61, 62, 63] (.reg [un (.bin 64 .add (.t 28) (.c (.int .i64 1))),
 un (.asg 28 (.t 64))])))))
def Sy : ACode :=
 (.seq (.reg [un (.box 1 (.t 0)),
 un (.asg 2 (.c (.bool false)))])
 (.seq (.cut Qf)
 (.drop [5, 6, 7, 8, 9, 10, 11, 12, 13, 14, 15, 16, 17, 18, 19, 20, 21, 22, 23, 24] (.seq (.seq (.reg [un (.fadr 25 1 (.t 1)),
 un (.ld 26 1 false (.t 25)),
 un (.len 27 (.t 26)),
 un (.mov 28 (.c (.int .i64 0)))])
 (.drop [25] (.block 0 (.loop Ja))))
 (.drop [25, 26, 27, 28, 29, 30, 31, 4, 32, 33, 34, 35, 36, 37, 38, 39, 40, 41, 42, 43, 44, 45, 46, 47, 48, 49, 50, 51, 52, 53, 54, 55, 56, 57, 58, 59, 60, 61, 62, 63, 64] (.seq (.reg [un (.asg 2 (.c (.bool true)))])
 .ret))))))
abbrev Ta : List RS := [.t 2]
theorem Sv : Be Try.prog Eh 65 Sy Ta = true := by kernel_rfl
def X6 : ACode :=
 (.seq (.reg [un (.asg 6 (.c (.bool false)))])
 (.seq (.reg [un (.mov 7 (.t 1)),
 un (.len 8 (.t 7)),
 un (.mov 9 (.t 2)),
 un (.len 10 (.t 9)),
 un (.mov 11 (.t 0)),
 un (.bin 12 .mul (.t 10) (.t 11)),
 un (.mov 13 (.t 0)),
 un (.bin 14 .mul (.t 12) (.t 13)),
 un (.bin 15 .eql (.t 8) (.t 14)),
 un (.asg 16 (.t 15)),
 ⟨some (16, true), .mov 17 (.t 0)⟩,
 ⟨some (16, true), .mov 18 (.t 1)⟩,
 ⟨some (16, true), .call 19 Gc [((.t 17), false), ((.t 18), false)]⟩,
 un (.pick 20 (.t 16) (.t 19) (.c (.bool false))),
 un (.asg 6 (.t 20))])
 (.drop [7, 8, 9, 10, 11, 12, 13, 14, 15, 16, 17, 18, 19, 20] .ret)))
abbrev Yn : List RS := [.t 6]
theorem Ym : Be Try.prog Kg 21 X6 Yn = true := by kernel_rfl
def Xj : ACode :=
 (.seq (.reg [⟨none, .asg 4 (.c (.str ⟨#[]⟩))⟩])
 (.seq (.reg [un (.mov 5 (.t 1)),
 un (.mov 6 (.t 0)),
 un (.mov 7 (.t 1)),
 un (.len 8 (.t 7)),
 un (.call 9 Ap [((.t 6), true), ((.t 8), false)]),
 un (.iad 10 1 (.t 5) (.t 9)),
 un (.ld 11 1 false (.t 10)),
 un (.asg 4 (.t 11))])
 (.drop [5, 6, 7, 8, 9, 10, 11] .ret)))
abbrev Yi : List RS := [.t 4]
theorem Yh : Be Try.prog Ku 12 Xj Yi = true := by kernel_rfl
def Se : ACode :=
 (.seq (.reg [un (.mov 4 (.t 0)),
 un (.len 5 (.t 4)),
 un (.fadr 6 0 (.t 1)),
 un (.ld 7 1 false (.t 6)),
 un (.bin 8 .eql (.t 5) (.t 7)),
 un (.asg 9 (.t 8)),
 ⟨some (9, true), .ld 10 1 false (.t 2)⟩,
 ⟨some (9, true), .mov 11 (.t 0)⟩,
 ⟨some (9, true), .call 12 Fg [((.t 10), false), ((.t 11), false)]⟩,
 ⟨some (9, true), .bin 13 .lss (.t 12) (.c (.int .i64 0))⟩,
 un (.pick 14 (.t 9) (.t 13) (.c (.bool false)))])
 (.drop [4, 5, 6, 7, 8, 9, 10, 11, 12, 13] (.cond (.t 14) (.dreg [(un (.ld 15 1 false (.t 2)), [17]),
 (un (.mov 16 (.t 0)), [15]),
 (un (.call 17 O9 [((.t 16), false)]), [15]),
 (un (.bsl 18 1 [(.t 17)]), [15])]
 [un (.app 19 1 (.t 15) (.t 18)),
 un (.st 1 (.t 2) (.t 19))])
 .skip)))
abbrev Sc : List RS := []
theorem R4 : Be Try.prog Ff 20 Se Sc = true := by kernel_rfl
def R5 : ACode :=
 (.seq (.reg [un (.asg 4 (.c (.bool false)))])
 (.seq (.reg [un (.mov 5 (.t 0)),
 un (.len 6 (.t 5)),
 un (.mov 7 (.t 1)),
 un (.bin 8 .eql (.t 6) (.t 7)),
 un (.asg 9 (.t 8)),
 ⟨some (9, true), .mov 10 (.t 0)⟩,
 ⟨some (9, true), .call 11 Gc [((.c (.int .i64 2)), false), ((.t 10), false)]⟩,
 un (.pick 12 (.t 9) (.t 11) (.c (.bool false))),
 un (.asg 4 (.t 12))])
 (.drop [5, 6, 7, 8, 9, 10, 11, 12] .ret)))
abbrev Sf : List RS := [.t 4]
theorem R6 : Be Try.prog Dy 13 R5 Sf = true := by kernel_rfl
def Gz : ACode :=
 (.seq (.seq (.reg [un (.mov 31 (.t 6)),
 un (.fadr 32 0 (.t 3)),
 un (.ld 33 1 false (.t 32)),
 un (.bin 34 .lss (.t 31) (.t 33))])
 (.drop [31, 32, 33] (.cond (.t 34) .skip
 (.exit 2))))
 (.drop [31, 32, 33, 34] (.seq (.block 3 (.dreg [(un (.fadr 37 0 (.t 5)), [113, 40]),
 (un (.ld 38 1 false (.t 37)), [113, 40]),
 (un (.mov 39 (.t 0)), [37, 38]),
 (un (.call 40 Ap [((.t 39), true), ((.c (.int .i64 2)), false)]), [113, 37, 38]),
 (un (.bsl 41 1 [(.t 40)]), [37, 38])]
 [un (.app 42 1 (.t 38) (.t 41)),
 un (.fadr 43 0 (.t 5)),
 un (.st 1 (.t 43) (.t 42))]))
 (.drop [37, 38, 39, 40, 41, 42, 43] (.reg [un (.mov 35 (.t 6)),
 un (.bin 36 .add (.t 35) (.c (.int .i64 1))),
 un (.asg 6 (.t 36))])))))
def G2 : ACode :=
 (.seq (.seq (.reg [un (.mov 46 (.t 7)),
 un (.fadr 47 0 (.t 3)),
 un (.ld 48 1 false (.t 47)),
 un (.bin 49 .lss (.t 46) (.t 48))])
 (.drop [46, 47, 48] (.cond (.t 49) .skip
 (.exit 4))))
 (.drop [46, 47, 48, 49] (.seq (.block 5 (.dreg [(un (.fadr 52 1 (.t 5)), [113, 55]),
 (un (.ld 53 1 false (.t 52)), [113, 55]),
 (un (.mov 54 (.t 0)), [52, 53]),
 (un (.call 55 Ap [((.t 54), true), ((.c (.int .i64 2)), false)]), [113, 52, 53]),
 (un (.bsl 56 1 [(.t 55)]), [52, 53])]
 [un (.app 57 1 (.t 53) (.t 56)),
 un (.fadr 58 1 (.t 5)),
 un (.st 1 (.t 58) (.t 57))]))
 (.drop [52, 53, 54, 55, 56, 57, 58] (.reg [un (.mov 50 (.t 7)),
 un (.bin 51 .add (.t 50) (.c (.int .i64 1))),
 un (.asg 7 (.t 51))])))))
def G0 : ACode :=
 (.seq (.seq (.reg [un (.mov 22 (.t 4)),
 un (.bin 23 .gtr (.t 22) (.c (.int .i64 0)))])
 (.drop [22] (.cond (.t 23) .skip
 (.exit 0))))
 (.drop [22, 23] (.seq (.block 1 (.seq (.reg [un (.bsl 26 1 []),
 un (.mov 27 (.t 0)),
 un (.call 28 Ap [((.t 27), true), ((.c (.int .i64 2)), false)]),
 un (.bsl 29 1 [(.t 28)]),
 un (.bld 30 [.nilsl 1, .nilsl 1] [(0, 1, (.t 26)), (1, 1, (.t 29))]),
 un (.alc 5 (.agg [.nilsl 1, .nilsl 1])),
 un (.st 2 (.t 5) (.t 30))])
 (.drop [26, 27, 28, 29, 30] (.seq (.seq (.reg [un (.asg 6 (.c (.int .i64 0)))])
 (.block 2 (.loop Gz)))
 (.drop [6, 31, 32, 33, 34, 37, 38, 39, 40, 41, 42, 43, 35, 36] (.seq (.seq (.reg [un (.mov 44 (.t 0)),
 un (.call 45 De [((.t 44), true), ((.c (.int .i64 2)), false)])])
 (.drop [44] (.cond (.t 45) (.seq (.reg [un (.asg 7 (.c (.int .i64 1)))])
 (.block 4 (.loop G2)))
 .skip)))
 (.drop [44, 45, 7, 46, 47, 48, 49, 52, 53, 54, 55, 56, 57, 58, 50, 51] (.reg [un (.fadr 59 1 (.t 3)),
 un (.ld 60 1 false (.t 59)),
 un (.ld 61 2 true (.t 5)),
 un (.bsl 62 2 [(.t 61)]),
 un (.app 63 2 (.t 60) (.t 62)),
 un (.fadr 64 1 (.t 3)),
 un (.st 1 (.t 64) (.t 63))]))))))))
 (.drop [26, 27, 28, 29, 30, 5, 6, 31, 32, 33, 34, 37, 38, 39, 40, 41, 42, 43, 35, 36, 44, 45, 7, 46, 47, 48, 49, 52, 53, 54, 55, 56, 57, 58, 50, 51, 59, 60, 61, 62, 63, 64] (.reg [un (.mov 24 (.t 4)),
 un (.bin 25 .sub (.t 24) (.c (.int .i64 1))),
 un (.asg 4 (.t 25))])))))
def G8 : ACode :=
 (.seq (.seq (.dreg [(un (.fadr 96 1 (.t 3)), [113]),
 (un (.ld 97 1 false (.t 96)), [113]),
 (un (.len 98 (.t 97)), [113]),
 (un (.mov 99 (.t 0)), [96, 97, 98]),
 (un (.call 100 Ap [((.t 99), true), ((.c (.int .i64 2)), false)]), [113, 96, 97, 98]),
 (un (.bin 101 .add (.c (.int .i64 6)) (.t 100)), [96, 97, 98])]
 [un (.bin 102 .lss (.t 98) (.t 101))])
 (.drop [96, 97, 98, 99, 100, 101] (.cond (.t 102) .skip
 (.exit 7))))
 (.drop [96, 97, 98, 99, 100, 101, 102] (.block 8 (.dreg [(un (.fadr 103 1 (.t 3)), [108]),
 (un (.ld 104 1 false (.t 103)), [108]),
 (un (.fadr 105 1 (.t 3)), [103, 104]),
 (un (.ld 106 1 false (.t 105)), [103, 104]),
 (un (.iad 107 2 (.t 106) (.c (.int .i64 0))), [103, 104]),
 (un (.ld 108 2 true (.t 107)), [103, 104]),
 (un (.bsl 109 2 [(.t 108)]), [103, 104])]
 [un (.app 110 2 (.t 104) (.t 109)),
 un (.fadr 111 1 (.t 3)),
 un (.st 1 (.t 111) (.t 110))]))))
def Pq : ACode :=
 (.seq (.reg [un (.alc 2 (.agg [.int .i64 0, .nilsl 2]))])
 (.seq (.seq (.reg [un (.mov 8 (.t 0)),
 un (.call 9 De [((.t 8), true), ((.c (.int .i64 4)), false)]),
 un (.un 10 .not (.t 9))])
 (.drop [8, 9] (.cond (.t 10) (.seq (.reg [un (.mov 11 (.t 0)),
 ⟨none, .bsl 12 1 [(.c (.str ⟨#[109, 97, 108, 99, 101, 118]⟩)), (.c (.str ⟨#[109, 97, 106, 111, 114, 105, 116, 121]⟩)), (.c (.str ⟨#[109, 105, 110, 111, 114, 105, 116, 121]⟩)), (.c (.str ⟨#[112, 105, 120, 108, 101, 121]⟩)), (.c (.str ⟨#[99, 111, 109, 109, 117, 116, 97, 116, 105, 118, 101]⟩)), (.c (.str ⟨#[119, 101, 97, 107]⟩))]⟩,
 un (.call 13 Ku [((.t 11), true), ((.t 12), false)]),
 un (.call 14 Kj [((.t 13), false)]),
 un (.st 2 (.t 2) (.t 14))])
 (.drop [11, 12, 13, 14] .ret))
 .skip)))
 (.drop [8, 9, 10, 11, 12, 13, 14] (.seq (.reg [un (.mov 15 (.t 0)),
 un (.bsl 16 1 [(.c (.int .i64 2)), (.c (.int .i64 2)), (.c (.int .i64 3))]),
 un (.call 17 As [((.t 15), true), ((.t 16), false)]),
 un (.bld 18 [.int .i64 0, .nilsl 2] [(0, 1, (.t 17))]),
 un (.alc 3 (.agg [.int .i64 0, .nilsl 2])),
 un (.st 2 (.t 3) (.t 18))])
 (.drop [15, 16, 17, 18] (.seq (.seq (.reg [un (.mov 19 (.t 0)),
 un (.bsl 20 1 [(.c (.int .i64 1)), (.c (.int .i64 1)), (.c (.int .i64 2)), (.c (.int .i64 3))]),
 un (.call 21 As [((.t 19), true), ((.t 20), false)]),
 un (.asg 4 (.t 21))])
 (.drop [19, 20, 21] (.block 0 (.loop G0))))
 (.drop [19, 20, 21, 4, 22, 23, 26, 27, 28, 29, 30, 5, 6, 31, 32, 33, 34, 37, 38, 39, 40, 41, 42, 43, 35, 36, 44, 45, 7, 46, 47, 48, 49, 52, 53, 54, 55, 56, 57, 58, 50, 51, 59, 60, 61, 62, 63, 64, 24, 25] (.seq (.seq (.reg [un (.mov 65 (.t 0)),
 un (.call 66 Ap [((.t 65), true), ((.c (.int .i64 12)), false)])])
 (.drop [65] (.block 6 (.seq (.reg [un (.bin 68 .eql (.t 66) (.c (.int .i64 0))),
 un (.asg 67 (.t 68))])
 (.drop [68] (.cond (.t 67) (.reg [un (.mov 69 (.t 0)),
 un (.fadr 70 0 (.t 3)),
 un (.ld 71 1 false (.t 70)),
 un (.bin 72 .sub (.c (.int .i64 5)) (.t 71)),
 un (.bsl 73 1 [(.c (.int .i64 1)), (.c (.int .i64 4)), (.t 72)]),
 un (.call 74 As [((.t 69), true), ((.t 73), false)]),
 un (.fadr 75 0 (.t 3)),
 un (.st 1 (.t 75) (.t 74))])
 (.seq (.reg [un (.bin 77 .eql (.t 66) (.c (.int .i64 1))),
 un (.asg 76 (.t 77))])
 (.drop [77] (.cond (.t 76) (.dregl [(0, .fadr 78 1 (.t 3)),
 (1, .ld 79 1 false (.t 78)),
 (2, .iad 80 2 (.t 79) (.c (.int .i64 0))),
 (3, .fadr 81 0 (.t 80)),
 (4, .ld 82 1 false (.t 81)),
 (5, .mov 83 (.t 0))]
 (.alt 6 (.bsl 84 1 [(.c (.int .i64 (-1))), (.c (.int .i64 2))]) [0, 1, 2, 3, 4, 5] [] (.alt 7 (.call 85 As [((.t 83), true), ((.t 84), false)]) [0, 1, 2, 3, 4, 5] [] (.alt 8 (.iad 86 1 (.t 82) (.c (.int .i64 0))) [0, 1, 2, 3, 4] [] (.alt 9 (.st 1 (.t 86) (.t 85)) [] [] .nil .nil) .nil) .nil) .nil))
 (.seq (.reg [un (.bin 88 .eql (.t 66) (.c (.int .i64 2))),
 un (.asg 87 (.t 88))])
 (.drop [88] (.cond (.t 87) (.reg [un (.fadr 89 1 (.t 3)),
 un (.ld 90 1 false (.t 89)),
 un (.bsl 91 1 []),
 un (.iad 92 2 (.t 90) (.c (.int .i64 0))),
 un (.fadr 93 1 (.t 92)),
 un (.st 1 (.t 93) (.t 91))])
 (.seq (.reg [un (.bin 95 .eql (.t 66) (.c (.int .i64 3))),
 un (.asg 94 (.t 95))])
 (.drop [95] (.cond (.t 94) (.frz [200003] (.block 7 (.loop G8)))
 .skip)))))))))))))))
 (.drop [65, 66, 68, 67, 69, 70, 71, 72, 73, 74, 75, 77, 76, 78, 79, 80, 81, 82, 83, 84, 85, 86, 88, 87, 89, 90, 91, 92, 93, 95, 94, 96, 97, 98, 99, 100, 101, 102, 103, 104, 105, 106, 107, 108, 109, 110, 111] (.seq (.reg [un (.ld 112 2 true (.t 3)),
 un (.st 2 (.t 2) (.t 112))])
 (.drop [112] .ret)))))))))))
abbrev Pm : List RS := [.c 2 2 true]
theorem Pf : Be Try.prog Ft 113 Pq Pm = true := by kernel_rfl
def Rl : ACode :=
 (.seq (.reg [un (.box 4 (.t 1)),
 un (.box 5 (.t 2)),
 un (.asg 6 (.c (.bool false)))])
 (.seq (.reg [un (.mov 7 (.t 0)),
 un (.call 8 Ej [((.t 7), false)]),
 un (.asg 9 (.t 8)),
 ⟨some (9, true), .ld 10 2 true (.t 5)⟩,
 ⟨some (9, true), .call 11 Eh [((.t 10), false)]⟩,
 un (.pick 12 (.t 9) (.t 11) (.c (.bool false))),
 un (.asg 13 (.t 12)),
 ⟨some (13, true), .fadr 14 0 (.t 4)⟩,
 ⟨some (13, true), .ld 15 1 false (.t 14)⟩,
 ⟨some (13, true), .fadr 16 0 (.t 5)⟩,
 ⟨some (13, true), .ld 17 1 false (.t 16)⟩,
 ⟨some (13, true), .bin 18 .eql (.t 15) (.t 17)⟩,
 un (.pick 19 (.t 13) (.t 18) (.c (.bool false))),
 un (.asg 20 (.t 19)),
 ⟨some (20, true), .ld 21 2 true (.t 4)⟩,
 ⟨some (20, true), .mov 22 (.t 0)⟩,
 ⟨some (20, true), .call 23 Qn [((.t 21), false), ((.t 22), false)]⟩,
 un (.pick 24 (.t 20) (.t 23) (.c (.bool false))),
 un (.asg 6 (.t 24))])
 (.drop [7, 8, 9, 10, 11, 12, 13, 14, 15, 16, 17, 18, 19, 20, 21, 22, 23, 24] .ret)))
abbrev Qj : List RS := [.t 6]
theorem Q6 : Be Try.prog Fc 25 Rl Qj = true := by kernel_rfl
def Kd : ACode :=
 (.seq (.reg [un (.bin 13 .lss (.t 12) (.t 11))])
 (.seq (.cond (.t 13) .skip
 (.exit 0))
 (.seq (.block 1 (.seq (.reg [un (.iad 14 2 (.t 10) (.t 12)),
 un (.ld 15 2 true (.t 14)),
 un (.alc 6 (.agg [.nilsl 1, .nilsl 1])),
 un (.st 2 (.t 6) (.t 15))])
 (.drop [14, 15] (.seq (.reg [un (.mov 16 (.t 4)),
 un (.fadr 17 0 (.t 6)),
 un (.ld 18 1 false (.t 17)),
 un (.cally 19 (.t 16) [(.t 18)] [false, true])])
 (.drop [16, 17, 18, 19] (.reg [un (.mov 20 (.t 4)),
 un (.fadr 21 1 (.t 6)),
 un (.ld 22 1 false (.t 21)),
 un (.cally 23 (.t 20) [(.t 22)] [false, true])]))))))
 (.drop [14, 15, 6, 16, 17, 18, 19, 20, 21, 22, 23] (.reg [un (.bin 24 .add (.t 12) (.c (.int .i64 1))),
 un (.asg 12 (.t 24))])))))
def Vb : ACode :=
 (.seq (.reg [un (.box 1 (.t 0)),
 un (.asg 2 (.c (.nilsl 1)))])
 (.seq (.reg [un (.bsl 7 1 []),
 un (.alc 3 (.nilsl 1)),
 un (.st 1 (.t 3) (.t 7))])
 (.drop [7] (.seq (.reg [un (.mkf 8 Ff [(.t 1), (.t 3)]),
 un (.asg 4 (.t 8))])
 (.drop [8] (.seq (.seq (.reg [un (.fadr 9 1 (.t 1)),
 un (.ld 10 1 false (.t 9)),
 un (.len 11 (.t 10)),
 un (.mov 12 (.c (.int .i64 0)))])
 (.drop [9] (.block 0 (.loop Kd))))
 (.drop [9, 10, 11, 12, 13, 14, 15, 6, 16, 17, 18, 19, 20, 21, 22, 23, 24] (.seq (.reg [un (.ld 25 1 false (.t 3)),
 un (.asg 2 (.t 25))])
 (.drop [25] .ret)))))))))
abbrev Uv : List RS := [.t 2]
theorem Vo : Be Try.prog Dm 26 Vb Uv = true := by kernel_rfl
def Uy : ACode :=
 (.seq (.reg [un (.fadr 5 0 (.t 1)),
 un (.ld 6 1 false (.t 5)),
 un (.call 7 Dh [((.t 6), false), ((.c (.int .i64 2)), false), ((.c (.int .i64 3)), false)]),
 un (.un 8 .not (.t 7)),
 un (.asg 9 (.t 8)),
 ⟨some (9, false), .fadr 10 1 (.t 1)⟩,
 ⟨some (9, false), .ld 11 1 false (.t 10)⟩,
 ⟨some (9, false), .len 12 (.t 11)⟩,
 ⟨some (9, false), .call 13 Dh [((.t 12), false), ((.c (.int .i64 1)), false), ((.c (.int .i64 6)), false)]⟩,
 ⟨some (9, false), .un 14 .not (.t 13)⟩,
 un (.pick 15 (.t 9) (.c (.bool true)) (.t 14))])
 (.drop [5, 6, 7, 8, 9, 10, 11, 12, 13, 14] (.cond (.t 15) (.seq (.reg [un (.asg 2 (.c (.bool false)))])
 .ret)
 .skip)))
def Mt : ACode :=
 (.seq (.seq (.reg [un (.mov 16 (.t 3)),
 un (.fadr 17 1 (.t 1)),
 un (.ld 18 1 false (.t 17)),
 un (.len 19 (.t 18)),
 un (.bin 20 .lss (.t 16) (.t 19))])
 (.drop [16, 17, 18, 19] (.cond (.t 20) .skip
 (.exit 0))))
 (.drop [16, 17, 18, 19, 20] (.seq (.block 1 (.seq (.reg [un (.fadr 23 1 (.t 1)),
 un (.ld 24 1 false (.t 23)),
 un (.mov 25 (.t 3)),
 un (.iad 26 2 (.t 24) (.t 25)),
 un (.ld 27 2 true (.t 26)),
 un (.alc 4 (.agg [.nilsl 1, .nilsl 1])),
 un (.st 2 (.t 4) (.t 27))])
 (.drop [23, 24, 25, 26, 27] (.seq (.reg [un (.fadr 28 0 (.t 4)),
 un (.ld 29 1 false (.t 28)),
 un (.fadr 30 0 (.t 1)),
 un (.ld 31 1 false (.t 30)),
 un (.call 32 Dy [((.t 29), false), ((.t 31), false)]),
 un (.un 33 .not (.t 32)),
 un (.asg 34 (.t 33)),
 ⟨some (34, false), .fadr 35 1 (.t 4)⟩,
 ⟨some (34, false), .ld 36 1 false (.t 35)⟩,
 ⟨some (34, false), .fadr 37 0 (.t 1)⟩,
 ⟨some (34, false), .ld 38 1 false (.t 37)⟩,
 ⟨some (34, false), .call 39 Dy [((.t 36), false), ((.t 38), false)]⟩,
 ⟨some (34, false), .un 40 .not (.t 39)⟩,
 ⟨some (34, false), .asg 41 (.t 40)⟩,
 ⟨some (41, true), .fadr 42 1 (.t 4)⟩,
 ⟨some (41, true), .ld 43 1 false (.t 42)⟩,
 ⟨some (41, true), .call 44 Dy [((.t 43), false), ((.c (.int .i64 1)), false)]⟩,
 ⟨some (41, true), .un 45 .not (.t 44)⟩,
 ⟨some (34, false), .pick 46 (.t 41) (.t 45) (.c (.bool false))⟩,
 un (.pick 47 (.t 34) (.c (.bool true)) (.t 46))])
 (.drop [28, 29, 30, 31, 32, 33, 34, 35, 36, 37, 38, 39, 40, 41, 42, 43, 44, 45, 46] (.cond (.t 47) (.seq (.reg [un (.asg 2 (.c (.bool false)))])
 .ret)
 .skip))))))
 (.drop [23, 24, 25, 26, 27, 4, 28, 29, 30, 31, 32, 33, 34, 35, 36, 37, 38, 39, 40, 41, 42, 43, 44, 45, 46, 47] (.reg [un (.mov 21 (.t 3)),
 un (.bin 22 .add (.t 21) (.c (.int .i64 1))),
 un (.asg 3 (.t 22))])))))
def Zg : ACode :=
 (.seq (.reg [un (.box 1 (.t 0)),
 un (.asg 2 (.c (.bool false)))])
 (.seq (.cut Uy)
 (.drop [5, 6, 7, 8, 9, 10, 11, 12, 13, 14, 15] (.seq (.seq (.reg [un (.asg 3 (.c (.int .i64 0)))])
 (.block 0 (.loop Mt)))
 (.drop [3, 16, 17, 18, 19, 20, 23, 24, 25, 26, 27, 4, 28, 29, 30, 31, 32, 33, 34, 35, 36, 37, 38, 39, 40, 41, 42, 43, 44, 45, 46, 47, 21, 22] (.seq (.reg [un (.asg 2 (.c (.bool true)))])
 .ret))))))
abbrev Y2 : List RS := [.t 2]
theorem Zk : Be Try.prog Gm 48 Zg Y2 = true := by kernel_rfl
def Nz : ACode :=
 (.seq (.reg [un (.mov 32 (.t 4)),
 un (.bin 33 .eql (.t 32) (.c (.int .i64 4))),
 un (.asg 34 (.t 33)),
 ⟨some (34, true), .fadr 35 0 (.t 7)⟩,
 ⟨some (34, true), .ld 36 1 false (.t 35)⟩,
 ⟨some (34, true), .bin 37 .eql (.t 36) (.c (.int .i64 3))⟩,
 un (.pick 38 (.t 34) (.t 37) (.c (.bool false)))])
 (.drop [32, 33, 34, 35, 36, 37] (.cond (.t 38) (.reg [un (.fadr 39 0 (.t 7)),
 un (.st 1 (.t 39) (.c (.int .i64 2)))])
 .skip)))
def Ik : ACode :=
 (.seq (.seq (.reg [un (.mov 44 (.t 8)),
 un (.bin 45 .gtr (.t 44) (.c (.int .i64 0)))])
 (.drop [44] (.cond (.t 45) .skip
 (.exit 2))))
 (.drop [44, 45] (.seq (.block 3 (.dreg [(un (.fadr 48 1 (.t 7)), [132, 52]),
 (un (.ld 49 1 false (.t 48)), [132, 52]),
 (un (.mov 50 (.t 0)), [48, 49]),
 (un (.mov 51 (.t 4)), [48, 49, 50]),
 (un (.call 52 Ap [((.t 50), true), ((.t 51), false)]), [132, 48, 49]),
 (un (.bsl 53 1 [(.t 52)]), [48, 49])]
 [un (.app 54 1 (.t 49) (.t 53)),
 un (.fadr 55 1 (.t 7)),
 un (.st 1 (.t 55) (.t 54))]))
 (.drop [48, 49, 50, 51, 52, 53, 54, 55] (.reg [un (.mov 46 (.t 8)),
 un (.bin 47 .sub (.t 46) (.c (.int .i64 1))),
 un (.asg 8 (.t 47))])))))
def Ih : ACode :=
 (.seq (.seq (.reg [un (.mov 24 (.t 6)),
 un (.bin 25 .gtr (.t 24) (.c (.int .i64 0)))])
 (.drop [24] (.cond (.t 25) .skip
 (.exit 0))))
 (.drop [24, 25] (.seq (.block 1 (.seq (.reg [un (.mov 28 (.t 0)),
 un (.bsl 29 1 [(.c (.int .i64 0)), (.c (.int .i64 1)), (.c (.int .i64 2)), (.c (.int .i64 2)), (.c (.int .i64 3))]),
 un (.call 30 As [((.t 28), true), ((.t 29), false)]),
 un (.bld 31 [.int .i64 0, .nilsl 1] [(0, 1, (.t 30))]),
 un (.alc 7 (.agg [.int .i64 0, .nilsl 1])),
 un (.st 2 (.t 7) (.t 31))])
 (.drop [28, 29, 30, 31] (.seq (.cut Nz)
 (.drop [32, 33, 34, 35, 36, 37, 38, 39] (.seq (.seq (.reg [un (.mov 40 (.t 4)),
 un (.fadr 41 0 (.t 7)),
 un (.ld 42 1 false (.t 41)),
 un (.call 43 I0 [((.t 40), false), ((.t 42), false)]),
 un (.asg 8 (.t 43))])
 (.drop [40, 41, 42, 43] (.block 2 (.loop Ik))))
 (.drop [40, 41, 42, 43, 8, 44, 45, 48, 49, 50, 51, 52, 53, 54, 55, 46, 47] (.reg [un (.fadr 56 1 (.t 5)),
 un (.ld 57 1 false (.t 56)),
 un (.ld 58 2 true (.t 7)),
 un (.bsl 59 2 [(.t 58)]),
 un (.app 60 2 (.t 57) (.t 59)),
 un (.fadr 61 1 (.t 5)),
 un (.st 1 (.t 61) (.t 60))]))))))))
 (.drop [28, 29, 30, 31, 7, 32, 33, 34, 35, 36, 37, 38, 39, 40, 41, 42, 43, 8, 44, 45, 48, 49, 50, 51, 52, 53, 54, 55, 46, 47, 56, 57, 58, 59, 60, 61] (.reg [un (.mov 26 (.t 6)),
 un (.bin 27 .sub (.t 26) (.c (.int .i64 1))),
 un (.asg 6 (.t 27))])))))
def Ig : ACode :=
 (.seq (.seq (.dreg [(un (.fadr 116 1 (.t 5)), [132]),
 (un (.ld 117 1 false (.t 116)), [132]),
 (un (.len 118 (.t 117)), [132]),
 (un (.mov 119 (.t 0)), [116, 117, 118]),
 (un (.call 120 Ap [((.t 119), true), ((.c (.int .i64 2)), false)]), [132, 116, 117, 118]),
 (un (.bin 121 .add (.c (.int .i64 4)) (.t 120)), [116, 117, 118])]
 [un (.bin 122 .lss (.t 118) (.t 121))])
 (.drop [116, 117, 118, 119, 120, 121] (.cond (.t 122) .skip
 (.exit 5))))
 (.drop [116, 117, 118, 119, 120, 121, 122] (.block 6 (.dregl [(0, .fadr 123 1 (.t 5)),
 (1, .ld 124 1 false (.t 123)),
 (2, .mov 125 (.t 4))]
 (.alt 3 (.mk 126 1 (.int .i64 0) (.t 125)) [0, 1, 2] [] (.alt 4 (.bld 127 [.int .i64 0, .nilsl 1] [(0, 1, (.c (.int .i64 1))), (1, 1, (.t 126))]) [0, 1] [] (.alt 5 (.bsl 128 2 [(.t 127)]) [0, 1] [] (.alt 6 (.app 129 2 (.t 124) (.t 128)) [0, 1] [124] (.alt 7 (.fadr 130 1 (.t 5)) [] [] (.alt 8 (.st 1 (.t 130) (.t 129)) [] [] .nil .nil) .nil) .nil) .nil) .nil) .nil)))))
def Rg : ACode :=
 (.seq (.reg [un (.alc 2 (.agg [.int .i64 0, .nilsl 2]))])
 (.seq (.seq (.reg [un (.mov 9 (.t 0)),
 un (.call 10 De [((.t 9), true), ((.c (.int .i64 4)), false)]),
 un (.un 11 .not (.t 10))])
 (.drop [9, 10] (.cond (.t 11) (.seq (.reg [un (.mov 12 (.t 0)),
 un (.call 13 Ap [((.t 12), true), ((.c (.int .i64 17)), false)]),
 un (.call 14 In [((.t 13), false)]),
 un (.alc 3 (.agg [.int .i64 0, .nilsl 2])),
 un (.st 2 (.t 3) (.t 14))])
 (.drop [12, 13, 14] (.seq (.reg [un (.ld 15 2 true (.t 3)),
 un (.st 2 (.t 2) (.t 15))])
 (.drop [15] .ret))))
 .skip)))
 (.drop [9, 10, 11, 12, 13, 14, 3, 15] (.seq (.reg [un (.mov 16 (.t 0)),
 un (.bsl 17 1 [(.c (.int .i64 2)), (.c (.int .i64 2)), (.c (.int .i64 3)), (.c (.int .i64 3)), (.c (.int .i64 4))]),
 un (.call 18 As [((.t 16), true), ((.t 17), false)]),
 un (.asg 4 (.t 18))])
 (.drop [16, 17, 18] (.seq (.reg [un (.mov 19 (.t 4)),
 un (.bld 20 [.int .i64 0, .nilsl 2] [(0, 1, (.t 19))]),
 un (.alc 5 (.agg [.int .i64 0, .nilsl 2])),
 un (.st 2 (.t 5) (.t 20))])
 (.drop [19, 20] (.seq (.seq (.reg [un (.mov 21 (.t 0)),
 un (.bsl 22 1 [(.c (.int .i64 1)), (.c (.int .i64 1)), (.c (.int .i64 2))]),
 un (.call 23 As [((.t 21), true), ((.t 22), false)]),
 un (.asg 6 (.t 23))])
 (.drop [21, 22, 23] (.block 0 (.loop Ih))))
 (.drop [21, 22, 23, 6, 24, 25, 28, 29, 30, 31, 7, 32, 33, 34, 35, 36, 37, 38, 39, 40, 41, 42, 43, 8, 44, 45, 48, 49, 50, 51, 52, 53, 54, 55, 46, 47, 56, 57, 58, 59, 60, 61, 26, 27] (.seq (.seq (.reg [un (.mov 62 (.t 0)),
 un (.call 63 Ap [((.t 62), true), ((.c (.int .i64 16)), false)])])
 (.drop [62] (.block 4 (.seq (.reg [un (.bin 65 .eql (.t 63) (.c (.int .i64 0))),
 un (.asg 64 (.t 65))])
 (.drop [65] (.cond (.t 64) (.reg [un (.mov 66 (.t 0)),
 un (.mov 67 (.t 4)),
 un (.bin 68 .add (.t 67) (.c (.int .i64 1))),
 un (.bsl 69 1 [(.c (.int .i64 0)), (.c (.int .i64 9)), (.t 68)]),
 un (.call 70 As [((.t 66), true), ((.t 69), false)]),
 un (.fadr 71 0 (.t 5)),
 un (.st 1 (.t 71) (.t 70))])
 (.seq (.reg [un (.bin 73 .eql (.t 63) (.c (.int .i64 1))),
 un (.asg 72 (.t 73))])
 (.drop [73] (.cond (.t 72) (.dregl [(0, .fadr 74 1 (.t 5)),
 (1, .ld 75 1 false (.t 74)),
 (2, .fadr 76 1 (.t 5)),
 (3, .ld 77 1 false (.t 76)),
 (4, .iad 78 2 (.t 77) (.c (.int .i64 0))),
 (5, .fadr 79 1 (.t 78)),
 (6, .ld 80 1 false (.t 79))]
 (.alt 7 (.bsl 81 1 [(.c (.int .i64 0))]) [0, 1, 2, 3, 4, 5, 6] [] (.alt 8 (.app 82 1 (.t 80) (.t 81)) [0, 1, 2, 3, 4, 5, 6] [80] (.alt 9 (.iad 83 2 (.t 75) (.c (.int .i64 0))) [0, 1] [] (.alt 10 (.fadr 84 1 (.t 83)) [] [] (.alt 11 (.st 1 (.t 84) (.t 82)) [] [] .nil .nil) .nil) .nil) .nil) .nil))
 (.seq (.reg [un (.bin 86 .eql (.t 63) (.c (.int .i64 2))),
 un (.asg 85 (.t 86))])
 (.drop [86] (.cond (.t 85) (.dregl [(0, .fadr 87 1 (.t 5)),
 (1, .ld 88 1 false (.t 87)),
 (2, .iad 89 2 (.t 88) (.c (.int .i64 0))),
 (3, .fadr 90 1 (.t 89)),
 (4, .ld 91 1 false (.t 90)),
 (5, .mov 92 (.t 0)),
 (6, .fadr 93 1 (.t 5)),
 (7, .ld 94 1 false (.t 93)),
 (8, .iad 95 2 (.t 94) (.c (.int .i64 0))),
 (9, .fadr 96 1 (.t 95)),
 (10, .ld 97 1 false (.t 96)),
 (13, .mov 100 (.t 0)),
 (14, .mov 101 (.t 4))]
 (.alt 11 (.len 98 (.t 97)) [0, 1, 2, 3, 4, 5, 6, 7, 8, 9, 10, 13, 14] [] (.alt 12 (.call 99 Ap [((.t 92), true), ((.t 98), false)]) [0, 1, 2, 3, 4, 5, 13, 14] [] (.alt 15 (.bsl 102 1 [(.c (.int .i64 (-1))), (.t 101)]) [0, 1, 2, 3, 4, 13, 14] [] (.alt 16 (.call 103 As [((.t 100), true), ((.t 102), false)]) [0, 1, 2, 3, 4, 13] [] (.alt 17 (.iad 104 1 (.t 91) (.t 99)) [0, 1, 2, 3, 4] [] (.alt 18 (.st 1 (.t 104) (.t 103)) [] [] .nil .nil) .nil) .nil) .nil) (.alt 15 (.bsl 102 1 [(.c (.int .i64 (-1))), (.t 101)]) [0, 1, 2, 3, 4, 5, 13, 14] [] (.alt 12 (.call 99 Ap [((.t 92), true), ((.t 98), false)]) [0, 1, 2, 3, 4, 5, 13] [] (.alt 16 (.call 103 As [((.t 100), true), ((.t 102), false)]) [0, 1, 2, 3, 4, 13] [] (.alt 17 (.iad 104 1 (.t 91) (.t 99)) [0, 1, 2, 3, 4] [] (.alt 18 (.st 1 (.t 104) (.t 103)) [] [] .nil .nil) .nil) .nil) .nil) .nil)) (.alt 15 (.bsl 102 1 [(.c (.int .i64 (-1))), (.t 101)]) [0, 1, 2, 3, 4, 5, 6, 7, 8, 9, 10, 13, 14] [] (.alt 11 (.len 98 (.t 97)) [0, 1, 2, 3, 4, 5, 6, 7, 8, 9, 10, 13] [] (.alt 12 (.call 99 Ap [((.t 92), true), ((.t 98), false)]) [0, 1, 2, 3, 4, 5, 13] [] (.alt 16 (.call 103 As [((.t 100), true), ((.t 102), false)]) [0, 1, 2, 3, 4, 13] [] (.alt 17 (.iad 104 1 (.t 91) (.t 99)) [0, 1, 2, 3, 4] [] (.alt 18 (.st 1 (.t 104) (.t 103)) [] [] .nil .nil) .nil) .nil) .nil) .nil) .nil)))
 (.seq (.reg [un (.bin 106 .eql (.t 63) (.c (.int .i64 3))),
 un (.asg 105 (.t 106))])
 (.drop [106] (.cond (.t 105) (.dregl [(0, .fadr 107 1 (.t 5)),
 (1, .ld 108 1 false (.t 107)),
 (2, .mov 109 (.t 0))]
 (.alt 3 (.bsl 110 1 [(.c (.int .i64 (-1))), (.c (.int .i64 4))]) [0, 1, 2] [] (.alt 4 (.call 111 As [((.t 109), true), ((.t 110), false)]) [0, 1, 2] [] (.alt 5 (.iad 112 2 (.t 108) (.c (.int .i64 0))) [0, 1] [] (.alt 6 (.fadr 113 0 (.t 112)) [] [] (.alt 7 (.st 1 (.t 113) (.t 111)) [] [] .nil .nil) .nil) .nil) .nil) .nil))
 (.seq (.reg [un (.bin 115 .eql (.t 63) (.c (.int .i64 4))),
 un (.asg 114 (.t 115))])
 (.drop [115] (.cond (.t 114) (.block 5 (.loop Ig))
 .skip))))))))))))))))))
 (.drop [62, 63, 65, 64, 66, 67, 68, 69, 70, 71, 73, 72, 74, 75, 76, 77, 78, 79, 80, 81, 82, 83, 84, 86, 85, 87, 88, 89, 90, 91, 92, 93, 94, 95, 96, 97, 98, 99, 100, 101, 102, 103, 104, 106, 105, 107, 108, 109, 110, 111, 112, 113, 115, 114, 116, 117, 118, 119, 120, 121, 122, 123, 124, 125, 126, 127, 128, 129, 130] (.seq (.reg [un (.ld 131 2 true (.t 5)),
 un (.st 2 (.t 2) (.t 131))])
 (.drop [131] .ret)))))))))))))
abbrev Qy : List RS := [.c 2 2 true]
theorem Ro : Be Try.prog Gf 132 Rg Qy = true := by kernel_rfl
def Vh : ACode :=
 (.seq (.reg [un (.box 1 (.t 0)),
 un (.asg 2 (.c (.nilsl 1))),
 un (.asg 3 (.c (.bool false)))])
 (.seq (.seq (.reg [un (.ld 4 2 true (.t 1)),
 un (.call 5 Eh [((.t 4), false)]),
 un (.un 6 .not (.t 5))])
 (.drop [4, 5] (.cond (.t 6) (.seq (.reg [un (.bsl 7 1 []),
 un (.asg 2 (.t 7)),
 un (.asg 3 (.c (.bool false)))])
 (.drop [7] .ret))
 .skip)))
 (.drop [4, 5, 6, 7] (.seq (.reg [un (.ld 8 2 true (.t 1)),
 un (.call 9 Dm [((.t 8), false)]),
 un (.asg 2 (.t 9)),
 un (.asg 3 (.c (.bool true)))])
 (.drop [8, 9] .ret)))))
abbrev Uc : List RS := [.t 2, .t 3]
theorem Ui : Be Try.prog I5 10 Vh Uc = true := by kernel_rfl
def T1 : ACode :=
 (.seq (.reg [un (.box 1 (.t 0)),
 un (.asg 2 (.c (.nilsl 1))),
 un (.asg 3 (.c (.bool false)))])
 (.seq (.seq (.reg [un (.ld 4 2 true (.t 1)),
 un (.call 5 Gm [((.t 4), false)]),
 un (.un 6 .not (.t 5))])
 (.drop [4, 5] (.cond (.t 6) (.seq (.reg [un (.bsl 7 1 []),
 un (.asg 2 (.t 7)),
 un (.asg 3 (.c (.bool false)))])
 (.drop [7] .ret))
 .skip)))
 (.drop [4, 5, 6, 7] (.seq (.reg [un (.ld 8 2 true (.t 1)),
 un (.call 9 B6 [((.t 8), false)]),
 un (.asg 2 (.t 9)),
 un (.asg 3 (.c (.bool true)))])
 (.drop [8, 9] .ret)))))
abbrev Ug : List RS := [.t 2, .t 3]
theorem Vd : Be Try.prog I2 10 T1 Ug = true := by kernel_rfl
def S6 : ACode :=
 (.seq (.reg [un (.mov 9 (.t 0)),
 un (.call 10 Ej [((.t 9), false)]),
 un (.un 11 .not (.t 10)),
 un (.asg 12 (.t 11)),
 ⟨some (12, false), .ld 13 2 true (.t 5)⟩,
 ⟨some (12, false), .call 14 Eh [((.t 13), false)]⟩,
 ⟨some (12, false), .un 15 .not (.t 14)⟩,
 un (.pick 16 (.t 12) (.c (.bool true)) (.t 15))])
 (.drop [9, 10, 11, 12, 13, 14, 15] (.cond (.t 16) (.seq (.reg [un (.asg 6 (.c (.bool false))),
 un (.asg 7 (.c (.bool false)))])
 .ret)
 .skip)))
def X3 : ACode :=
 (.seq (.reg [un (.box 5 (.t 2)),
 un (.asg 6 (.c (.bool false))),
 un (.asg 7 (.c (.bool false)))])
 (.seq (.cut S6)
 (.drop [9, 10, 11, 12, 13, 14, 15, 16] (.seq (.reg [un (.ld 17 2 true (.t 5)),
 un (.call 18 Dm [((.t 17), false)]),
 un (.asg 8 (.t 18))])
 (.drop [17, 18] (.seq (.seq (.reg [un (.mov 19 (.t 1)),
 un (.len 20 (.t 19)),
 un (.mov 21 (.t 8)),
 un (.len 22 (.t 21)),
 un (.mov 23 (.t 0)),
 un (.bin 24 .mul (.t 22) (.t 23)),
 un (.mov 25 (.t 0)),
 un (.bin 26 .mul (.t 24) (.t 25)),
 un (.bin 27 .neq (.t 20) (.t 26)),
 un (.asg 28 (.t 27)),
 ⟨some (28, false), .mov 29 (.t 1)⟩,
 ⟨some (28, false), .mov 30 (.t 0)⟩,
 ⟨some (28, false), .call 31 Hn [((.t 29), false), ((.t 30), false)]⟩,
 ⟨some (28, false), .un 32 .not (.t 31)⟩,
 un (.pick 33 (.t 28) (.c (.bool true)) (.t 32))])
 (.drop [19, 20, 21, 22, 23, 24, 25, 26, 27, 28, 29, 30, 31, 32] (.cond (.t 33) (.seq (.reg [un (.asg 6 (.c (.bool false))),
 un (.asg 7 (.c (.bool false)))])
 .ret)
 .skip)))
 (.drop [19, 20, 21, 22, 23, 24, 25, 26, 27, 28, 29, 30, 31, 32, 33] (.seq (.reg [un (.mov 34 (.t 0)),
 un (.mov 35 (.t 1)),
 un (.ld 36 2 true (.t 5)),
 un (.mov 37 (.t 8)),
 un (.call 38 Hx [((.t 34), false), ((.t 35), false), ((.t 36), false), ((.t 37), false)]),
 un (.asg 6 (.t 38)),
 un (.asg 7 (.c (.bool true)))])
 (.drop [34, 35, 36, 37, 38] .ret)))))))))
abbrev Xx : List RS := [.t 6, .t 7]
theorem X5 : Be Try.prog Hu 39 X3 Xx = true := by kernel_rfl
def Tl : ACode :=
 (.seq (.reg [un (.ld 8 2 true (.t 5)),
 un (.call 9 Gm [((.t 8), false)]),
 un (.un 10 .not (.t 9)),
 un (.asg 11 (.t 10)),
 ⟨some (11, false), .mov 12 (.t 0)⟩,
 ⟨some (11, false), .call 13 Dh [((.t 12), false), ((.c (.int .i64 1)), false), ((.c (.int .i64 4)), false)]⟩,
 ⟨some (11, false), .un 14 .not (.t 13)⟩,
 un (.pick 15 (.t 11) (.c (.bool true)) (.t 14)),
 un (.asg 16 (.t 15)),
 ⟨some (16, false), .mov 17 (.t 0)⟩,
 ⟨some (16, false), .mov 18 (.t 1)⟩,
 ⟨some (16, false), .ld 19 2 true (.t 5)⟩,
 ⟨some (16, false), .call 20 B6 [((.t 19), false)]⟩,
 ⟨some (16, false), .call 21 Kg [((.t 17), false), ((.t 18), false), ((.t 20), false)]⟩,
 ⟨some (16, false), .un 22 .not (.t 21)⟩,
 un (.pick 23 (.t 16) (.c (.bool true)) (.t 22))])
 (.drop [8, 9, 10, 11, 12, 13, 14, 15, 16, 17, 18, 19, 20, 21, 22] (.cond (.t 23) (.seq (.reg [un (.asg 6 (.c (.bool false))),
 un (.asg 7 (.c (.bool false)))])
 .ret)
 .skip)))
def Ye : ACode :=
 (.seq (.reg [un (.box 5 (.t 2)),
 un (.asg 6 (.c (.bool false))),
 un (.asg 7 (.c (.bool false)))])
 (.seq (.cut Tl)
 (.drop [8, 9, 10, 11, 12, 13, 14, 15, 16, 17, 18, 19, 20, 21, 22, 23] (.seq (.dreg [(un (.mov 24 (.t 0)), []),
 (un (.mov 25 (.t 1)), [24]),
 (un (.ld 26 2 true (.t 5)), [24, 25]),
 (un (.ld 27 2 true (.t 5)), [24, 25, 26]),
 (un (.call 28 B6 [((.t 27), false)]), [24, 25, 26])]
 [un (.call 29 Hy [((.t 24), false), ((.t 25), false), ((.t 26), false), ((.t 28), false)]),
 un (.asg 6 (.t 29)),
 un (.asg 7 (.c (.bool true)))])
 (.drop [24, 25, 26, 27, 28, 29] .ret)))))
abbrev Yo : List RS := [.t 6, .t 7]
theorem Yq : Be Try.prog Ko 30 Ye Yo = true := by kernel_rfl
def Pp : ACode :=
 (.seq (.reg [un (.alc 2 (.agg [.int .i64 0, .nilsl 2]))])
 (.seq (.seq (.reg [un (.mov 3 (.t 0)),
 un (.call 4 De [((.t 3), true), ((.c (.int .i64 6)), false)])])
 (.drop [3] (.cond (.t 4) (.seq (.reg [un (.mov 5 (.t 0)),
 un (.call 6 Gf [((.t 5), true)]),
 un (.st 2 (.t 2) (.t 6))])
 (.drop [5, 6] .ret))
 .skip)))
 (.drop [3, 4, 5, 6] (.seq (.reg [un (.mov 7 (.t 0)),
 un (.bsl 8 1 [(.c (.int .i64 0)), (.c (.int .i64 1)), (.c (.int .i64 2)), (.c (.int .i64 3)), (.c (.int .i64 4)), (.c (.int .i64 5)), (.c (.int .i64 6)), (.c (.int .i64 7)), (.c (.int .i64 8)), (.c (.int .i64 9)), (.c (.int .i64 10)), (.c (.int .i64 12)), (.c (.int .i64 13)), (.c (.int .i64 14)), (.c (.int .i64 15)), (.c (.int .i64 16))]),
 un (.call 9 As [((.t 7), true), ((.t 8), false)]),
 un (.call 10 In [((.t 9), false)]),
 un (.st 2 (.t 2) (.t 10))])
 (.drop [7, 8, 9, 10] .ret)))))
abbrev Pl : List RS := [.c 2 2 true]
theorem Ph : Be Try.prog Fw 11 Pp Pl = true := by kernel_rfl
def Ps : ACode :=
 (.seq (.seq (.reg [un (.mov 25 (.t 11)),
 un (.mov 26 (.t 0)),
 un (.bin 27 .lss (.t 25) (.t 26))])
 (.drop [25, 26] (.cond (.t 27) .skip
 (.exit 4))))
 (.drop [25, 26, 27] (.seq (.block 5 (.reg [un (.mov 30 (.t 7)),
 un (.mov 31 (.t 1)),
 un (.mov 32 (.t 9)),
 un (.mov 33 (.t 10)),
 un (.mov 34 (.t 11)),
 un (.bsl 35 1 [(.t 33), (.t 34)]),
 un (.call 36 L4 [((.t 32), false), ((.t 35), false)]),
 un (.mov 37 (.t 0)),
 un (.call 38 Ly [((.t 36), false), ((.t 37), false)]),
 un (.iad 39 1 (.t 31) (.t 38)),
 un (.ld 40 1 false (.t 39)),
 un (.bsl 41 1 [(.t 40)]),
 un (.app 42 1 (.t 30) (.t 41)),
 un (.asg 7 (.t 42))]))
 (.drop [30, 31, 32, 33, 34, 35, 36, 37, 38, 39, 40, 41, 42] (.reg [un (.mov 28 (.t 11)),
 un (.bin 29 .add (.t 28) (.c (.int .i64 1))),
 un (.asg 11 (.t 29))])))))
def P8 : ACode :=
 (.seq (.seq (.reg [un (.mov 20 (.t 10)),
 un (.mov 21 (.t 0)),
 un (.bin 22 .lss (.t 20) (.t 21))])
 (.drop [20, 21] (.cond (.t 22) .skip
 (.exit 2))))
 (.drop [20, 21, 22] (.seq (.block 3 (.seq (.reg [un (.asg 11 (.c (.int .i64 0)))])
 (.block 4 (.loop Ps))))
 (.drop [11, 25, 26, 27, 30, 31, 32, 33, 34, 35, 36, 37, 38, 39, 40, 41, 42, 28, 29] (.reg [un (.mov 23 (.t 10)),
 un (.bin 24 .add (.t 23) (.c (.int .i64 1))),
 un (.asg 10 (.t 24))])))))
def Py : ACode :=
 (.seq (.reg [un (.bin 17 .lss (.t 16) (.t 15))])
 (.seq (.cond (.t 17) .skip
 (.exit 0))
 (.seq (.block 1 (.seq (.reg [un (.iad 18 1 (.t 14) (.t 16)),
 un (.ld 19 1 false (.t 18)),
 un (.asg 9 (.t 19))])
 (.drop [18, 19] (.seq (.reg [un (.asg 10 (.c (.int .i64 0)))])
 (.block 2 (.loop P8))))))
 (.drop [18, 19, 9, 10, 20, 21, 22, 11, 25, 26, 27, 30, 31, 32, 33, 34, 35, 36, 37, 38, 39, 40, 41, 42, 28, 29, 23, 24] (.reg [un (.bin 43 .add (.t 16) (.c (.int .i64 1))),
 un (.asg 16 (.t 43))])))))
def Ac4 : ACode :=
 (.seq (.reg [un (.box 5 (.t 2)),
 un (.asg 6 (.c (.nilsl 1)))])
 (.seq (.reg [un (.bsl 12 1 []),
 un (.asg 7 (.t 12))])
 (.drop [12] (.seq (.seq (.reg [un (.ld 13 2 true (.t 5)),
 un (.call 14 Dm [((.t 13), false)]),
 un (.len 15 (.t 14)),
 un (.mov 16 (.c (.int .i64 0)))])
 (.drop [13] (.block 0 (.loop Py))))
 (.drop [13, 14, 15, 16, 17, 18, 19, 9, 10, 20, 21, 22, 11, 25, 26, 27, 30, 31, 32, 33, 34, 35, 36, 37, 38, 39, 40, 41, 42, 28, 29, 23, 24, 43] (.seq (.reg [un (.mov 44 (.t 7)),
 un (.asg 6 (.t 44))])
 (.drop [44] .ret)))))))
abbrev Ac3 : List RS := [.t 6]
theorem Adx : Be Try.prog K5 45 Ac4 Ac3 = true := by kernel_rfl
def Xr : ACode :=
 (.seq (.reg [un (.box 4 (.t 1)),
 un (.box 5 (.t 2)),
 un (.asg 6 (.c (.bool false)))])
 (.seq (.reg [un (.ld 7 2 true (.t 5)),
 un (.call 8 Gm [((.t 7), false)]),
 un (.asg 9 (.t 8)),
 ⟨some (9, true), .mov 10 (.t 0)⟩,
 ⟨some (9, true), .call 11 Dh [((.t 10), false), ((.c (.int .i64 1)), false), ((.c (.int .i64 4)), false)]⟩,
 un (.pick 12 (.t 9) (.t 11) (.c (.bool false))),
 un (.asg 13 (.t 12)),
 ⟨some (13, true), .fadr 14 0 (.t 4)⟩,
 ⟨some (13, true), .ld 15 1 false (.t 14)⟩,
 ⟨some (13, true), .fadr 16 0 (.t 5)⟩,
 ⟨some (13, true), .ld 17 1 false (.t 16)⟩,
 ⟨some (13, true), .bin 18 .eql (.t 15) (.t 17)⟩,
 un (.pick 19 (.t 13) (.t 18) (.c (.bool false))),
 un (.asg 20 (.t 19)),
 ⟨some (20, true), .mov 21 (.t 0)⟩,
 ⟨some (20, true), .ld 22 2 true (.t 4)⟩,
 ⟨some (20, true), .call 23 Q5 [((.t 21), false), ((.t 22), false)]⟩,
 un (.pick 24 (.t 20) (.t 23) (.c (.bool false))),
 un (.asg 6 (.t 24))])
 (.drop [7, 8, 9, 10, 11, 12, 13, 14, 15, 16, 17, 18, 19, 20, 21, 22, 23, 24] .ret)))
abbrev Yp : List RS := [.t 6]
theorem Yg : Be Try.prog Fx 25 Xr Yp = true := by kernel_rfl
end Go.Proofs.Ytidaaijecmkndaa.Ax
