/-
  The small code of the functions, written by program; that the program's code is this one, the kernel looks at.
-/
import Derived.Test.YtidaaijecmkndaaAx3
import Derived.Test.YtidaaijecmkndaaProg
import Derived.KernelRfl
import Derived.Test.YtidaaijecmkndaaNum
namespace Go.Proofs.Ytidaaijecmkndaa.Ax
open Go
set_option maxRecDepth 100000
def Am1 : ACode :=
 (.seq (.reg [un (.asg 2 (.c (.bool false)))])
 (.seq (.reg [un (.mov 3 (.t 0)),
 un (.len 4 (.t 3)),
 un (.bin 5 .gtr (.t 4) (.c (.int .i64 65536))),
 un (.asg 2 (.t 5))])
 (.drop [3, 4, 5] .ret)))
abbrev Ali : List RS := [.t 2]
theorem Al1 : A4 Try.prog Vy 6 Am1 Ali = true := by kernel_rfl
def T0 : ACode :=
 (.seq (.seq (.reg [un (.mov 11 (.t 5)),
 un (.mov 12 (.t 0)),
 un (.len 13 (.t 12)),
 un (.bin 14 .lss (.t 11) (.t 13))])
 (.drop [11, 12, 13] (.cond (.t 14) .skip
 (.exit 0))))
 (.drop [11, 12, 13, 14] (.seq (.block 1 (.seq (.dreg [(un (.mov 17 (.t 0)), []),
 (un (.mov 18 (.t 5)), [17]),
 (un (.iad 19 1 (.t 17) (.t 18)), []),
 (un (.ld 20 1 false (.t 19)), []),
 (un (.mov 21 (.t 1)), [17, 18, 19, 20]),
 (un (.mov 22 (.t 5)), [17, 18, 19, 20, 21]),
 (un (.iad 23 1 (.t 21) (.t 22)), [17, 18, 19, 20]),
 (un (.ld 24 1 false (.t 23)), [17, 18, 19, 20])]
 [un (.bin 25 .neq (.t 20) (.t 24))])
 (.drop [17, 18, 19, 20, 21, 22, 23, 24] (.cond (.t 25) (.seq (.reg [un (.asg 4 (.c (.bool false)))])
 .ret)
 .skip))))
 (.drop [17, 18, 19, 20, 21, 22, 23, 24, 25] (.reg [un (.mov 15 (.t 5)),
 un (.bin 16 .add (.t 15) (.c (.int .i64 1))),
 un (.asg 5 (.t 16))])))))
def Ajt : ACode :=
 (.seq (.reg [un (.asg 4 (.c (.bool false)))])
 (.seq (.seq (.reg [un (.mov 6 (.t 0)),
 un (.len 7 (.t 6)),
 un (.mov 8 (.t 1)),
 un (.len 9 (.t 8)),
 un (.bin 10 .neq (.t 7) (.t 9))])
 (.drop [6, 7, 8, 9] (.cond (.t 10) (.seq (.reg [un (.asg 4 (.c (.bool false)))])
 .ret)
 .skip)))
 (.drop [6, 7, 8, 9, 10] (.seq (.seq (.reg [un (.asg 5 (.c (.int .i64 0)))])
 (.block 0 (.loop T0)))
 (.drop [5, 11, 12, 13, 14, 17, 18, 19, 20, 21, 22, 23, 24, 25, 15, 16] (.seq (.reg [un (.asg 4 (.c (.bool true)))])
 .ret))))))
abbrev Akq : List RS := [.t 4]
theorem Ajw : A4 Try.prog Hy 26 Ajt Akq = true := by kernel_rfl
def Ux : ACode :=
 (.seq (.seq (.reg [un (.mov 6 (.t 5)),
 un (.mov 7 (.t 0)),
 un (.len 8 (.t 7)),
 un (.bin 9 .lss (.t 6) (.t 8))])
 (.drop [6, 7, 8] (.cond (.t 9) .skip
 (.exit 0))))
 (.drop [6, 7, 8, 9] (.seq (.block 1 (.seq (.reg [un (.mov 12 (.t 0)),
 un (.mov 13 (.t 5)),
 un (.iad 14 1 (.t 12) (.t 13)),
 un (.ld 15 1 false (.t 14)),
 un (.mov 16 (.t 1)),
 un (.bin 17 .eql (.t 15) (.t 16))])
 (.drop [12, 13, 14, 15, 16] (.cond (.t 17) (.seq (.reg [un (.asg 4 (.c (.bool true)))])
 .ret)
 .skip))))
 (.drop [12, 13, 14, 15, 16, 17] (.reg [un (.mov 10 (.t 5)),
 un (.bin 11 .add (.t 10) (.c (.int .i64 1))),
 un (.asg 5 (.t 11))])))))
def Amq : ACode :=
 (.seq (.reg [un (.asg 4 (.c (.bool false)))])
 (.seq (.seq (.reg [un (.asg 5 (.c (.int .i64 0)))])
 (.block 0 (.loop Ux)))
 (.drop [5, 6, 7, 8, 9, 12, 13, 14, 15, 16, 17, 10, 11] (.seq (.reg [un (.asg 4 (.c (.bool false)))])
 .ret))))
abbrev Ani : List RS := [.t 4]
theorem Alv : A4 Try.prog Pa 18 Amq Ani = true := by kernel_rfl
def Alk : ACode :=
 (.seq (.reg [un (.asg 6 (.c (.bool false)))])
 (.seq (.reg [un (.mov 7 (.t 0)),
 un (.mov 8 (.t 1)),
 un (.bin 9 .geq (.t 7) (.t 8)),
 un (.asg 10 (.t 9)),
 ⟨some (10, true), .mov 11 (.t 0)⟩,
 ⟨some (10, true), .mov 12 (.t 2)⟩,
 ⟨some (10, true), .bin 13 .leq (.t 11) (.t 12)⟩,
 un (.pick 14 (.t 10) (.t 13) (.c (.bool false))),
 un (.asg 6 (.t 14))])
 (.drop [7, 8, 9, 10, 11, 12, 13, 14] .ret)))
abbrev Ami : List RS := [.t 6]
theorem Alj : A4 Try.prog J0 15 Alk Ami = true := by kernel_rfl
def Tm : ACode :=
 (.seq (.seq (.reg [un (.mov 6 (.t 1)),
 un (.bin 7 .gtr (.t 6) (.c (.int .i64 0)))])
 (.drop [6] (.cond (.t 7) .skip
 (.exit 0))))
 (.drop [6, 7] (.seq (.block 1 (.reg [un (.mov 10 (.t 5)),
 un (.mov 11 (.t 0)),
 un (.bin 12 .mul (.t 10) (.t 11)),
 un (.asg 5 (.t 12))]))
 (.drop [10, 11, 12] (.reg [un (.mov 8 (.t 1)),
 un (.bin 9 .sub (.t 8) (.c (.int .i64 1))),
 un (.asg 1 (.t 9))])))))
def Akb : ACode :=
 (.seq (.reg [un (.asg 4 (.c (.int .i64 0)))])
 (.seq (.reg [un (.asg 5 (.c (.int .i64 1)))])
 (.seq (.block 0 (.loop Tm))
 (.drop [6, 7, 10, 11, 12, 8, 9] (.seq (.reg [un (.mov 13 (.t 5)),
 un (.asg 4 (.t 13))])
 (.drop [13] .ret))))))
abbrev Akp : List RS := [.t 4]
theorem Aj3 : A4 Try.prog Nu 14 Akb Akp = true := by kernel_rfl
def Rq : ACode :=
 (.seq (.reg [un (.bin 10 .lss (.t 9) (.t 8))])
 (.seq (.cond (.t 10) .skip
 (.exit 0))
 (.seq (.block 1 (.seq (.reg [un (.iad 11 1 (.t 7) (.t 9)),
 un (.ld 12 1 false (.t 11)),
 un (.asg 6 (.t 12))])
 (.drop [11, 12] (.seq (.reg [un (.mov 13 (.t 6)),
 un (.bin 14 .lss (.t 13) (.c (.int .i64 0))),
 un (.asg 15 (.t 14)),
 ⟨some (15, false), .mov 16 (.t 6)⟩,
 ⟨some (15, false), .mov 17 (.t 1)⟩,
 ⟨some (15, false), .bin 18 .geq (.t 16) (.t 17)⟩,
 un (.pick 19 (.t 15) (.c (.bool true)) (.t 18))])
 (.drop [13, 14, 15, 16, 17, 18] (.cond (.t 19) (.seq (.reg [un (.asg 4 (.c (.bool false)))])
 .ret)
 .skip))))))
 (.drop [11, 12, 6, 13, 14, 15, 16, 17, 18, 19] (.reg [un (.bin 20 .add (.t 9) (.c (.int .i64 1))),
 un (.asg 9 (.t 20))])))))
def Ahc : ACode :=
 (.seq (.reg [un (.asg 4 (.c (.bool false)))])
 (.seq (.seq (.reg [un (.mov 7 (.t 0)),
 un (.len 8 (.t 7)),
 un (.mov 9 (.c (.int .i64 0)))])
 (.block 0 (.loop Rq)))
 (.drop [7, 8, 9, 10, 11, 12, 6, 13, 14, 15, 16, 17, 18, 19, 20] (.seq (.reg [un (.asg 4 (.c (.bool true)))])
 .ret))))
abbrev Agd : List RS := [.t 4]
theorem Agh : A4 Try.prog Ir 21 Ahc Agd = true := by kernel_rfl
def Tl : ACode :=
 (.seq (.reg [un (.bin 13 .lss (.t 12) (.t 11))])
 (.seq (.cond (.t 13) .skip
 (.exit 0))
 (.seq (.block 1 (.seq (.reg [un (.iad 14 1 (.t 10) (.t 12)),
 un (.ld 15 1 false (.t 14)),
 un (.asg 7 (.t 15))])
 (.drop [14, 15] (.reg [un (.mov 16 (.t 5)),
 un (.mov 17 (.t 7)),
 un (.iad 18 1 (.t 16) (.t 17)),
 un (.st 1 (.t 18) (.c (.bool true)))]))))
 (.drop [14, 15, 7, 16, 17, 18] (.reg [un (.bin 19 .add (.t 12) (.c (.int .i64 1))),
 un (.asg 12 (.t 19))])))))
def Ai4 : ACode :=
 (.seq (.reg [un (.asg 4 (.c (.nilsl 1)))])
 (.seq (.reg [un (.mov 8 (.t 1)),
 un (.mk 9 1 (.bool false) (.t 8)),
 un (.asg 5 (.t 9))])
 (.drop [8, 9] (.seq (.seq (.reg [un (.mov 10 (.t 0)),
 un (.len 11 (.t 10)),
 un (.mov 12 (.c (.int .i64 0)))])
 (.block 0 (.loop Tl)))
 (.drop [10, 11, 12, 13, 14, 15, 7, 16, 17, 18, 19] (.seq (.reg [un (.mov 20 (.t 5)),
 un (.asg 4 (.t 20))])
 (.drop [20] .ret)))))))
abbrev Ai8 : List RS := [.t 4]
theorem Aj4 : A4 Try.prog S7 21 Ai4 Ai8 = true := by kernel_rfl
def Ry : ACode :=
 (.seq (.reg [un (.bin 10 .lss (.t 9) (.t 8))])
 (.seq (.cond (.t 10) .skip
 (.exit 0))
 (.seq (.block 1 (.seq (.reg [un (.mov 11 (.t 9)),
 un (.iad 12 1 (.t 7) (.t 9)),
 un (.ld 13 1 false (.t 12)),
 un (.asg 4 (.t 11)),
 un (.asg 5 (.t 13))])
 (.drop [11, 12, 13] (.seq (.reg [un (.mov 14 (.t 5))])
 (.cond (.t 14) (.reg [un (.mov 15 (.t 3)),
 un (.mov 16 (.t 4)),
 un (.bsl 17 1 [(.t 16)]),
 un (.app 18 1 (.t 15) (.t 17)),
 un (.asg 3 (.t 18))])
 .skip)))))
 (.drop [11, 12, 13, 4, 5, 14, 15, 16, 17, 18] (.reg [un (.bin 19 .add (.t 9) (.c (.int .i64 1))),
 un (.asg 9 (.t 19))])))))
def Agu : ACode :=
 (.seq (.reg [un (.asg 2 (.c (.nilsl 1)))])
 (.seq (.reg [un (.bsl 6 1 []),
 un (.asg 3 (.t 6))])
 (.drop [6] (.seq (.seq (.reg [un (.mov 7 (.t 0)),
 un (.len 8 (.t 7)),
 un (.mov 9 (.c (.int .i64 0)))])
 (.block 0 (.loop Ry)))
 (.drop [7, 8, 9, 10, 11, 12, 13, 4, 5, 14, 15, 16, 17, 18, 19] (.seq (.reg [un (.mov 20 (.t 3)),
 un (.asg 2 (.t 20))])
 (.drop [20] .ret)))))))
abbrev Ahk : List RS := [.t 2]
theorem Ag7 : A4 Try.prog Qg 21 Agu Ahk = true := by kernel_rfl
def Tw : ACode :=
 (.seq (.seq (.reg [un (.mov 9 (.t 1)),
 un (.bin 10 .gtr (.t 9) (.c (.int .i64 0)))])
 (.drop [9] (.cond (.t 10) .skip
 (.exit 0))))
 (.drop [9, 10] (.seq (.block 1 (.seq (.seq (.reg [un (.mov 13 (.t 3)),
 un (.mov 14 (.t 0)),
 un (.mov 15 (.t 2)),
 un (.bin 16 .rem (.t 14) (.t 15)),
 un (.iad 17 1 (.t 13) (.t 16)),
 un (.ld 18 1 false (.t 17)),
 un (.un 19 .not (.t 18))])
 (.drop [13, 14, 15, 16, 17, 18] (.cond (.t 19) (.seq (.reg [un (.asg 8 (.c (.bool false)))])
 .ret)
 .skip)))
 (.drop [13, 14, 15, 16, 17, 18, 19] (.reg [un (.mov 20 (.t 0)),
 un (.mov 21 (.t 2)),
 un (.bin 22 .quo (.t 20) (.t 21)),
 un (.asg 0 (.t 22))]))))
 (.drop [13, 14, 15, 16, 17, 18, 19, 20, 21, 22] (.reg [un (.mov 11 (.t 1)),
 un (.bin 12 .sub (.t 11) (.c (.int .i64 1))),
 un (.asg 1 (.t 12))])))))
def Akg : ACode :=
 (.seq (.reg [un (.asg 8 (.c (.bool false)))])
 (.seq (.block 0 (.loop Tw))
 (.drop [9, 10, 13, 14, 15, 16, 17, 18, 19, 20, 21, 22, 11, 12] (.seq (.reg [un (.asg 8 (.c (.bool true)))])
 .ret))))
abbrev Aje : List RS := [.t 8]
theorem Ais : A4 Try.prog Te 23 Akg Aje = true := by kernel_rfl
def Ur : ACode :=
 (.seq (.seq (.reg [un (.mov 9 (.t 6)),
 un (.mov 10 (.t 1)),
 un (.len 11 (.t 10)),
 un (.bin 12 .lss (.t 9) (.t 11))])
 (.drop [9, 10, 11] (.cond (.t 12) .skip
 (.exit 0))))
 (.drop [9, 10, 11, 12] (.seq (.block 1 (.reg [un (.mov 15 (.t 5)),
 un (.mov 16 (.t 1)),
 un (.mov 17 (.t 6)),
 un (.iad 18 1 (.t 16) (.t 17)),
 un (.ld 19 1 false (.t 18)),
 un (.iad 20 1 (.t 15) (.t 19)),
 un (.st 1 (.t 20) (.c (.bool true)))]))
 (.drop [15, 16, 17, 18, 19, 20] (.reg [un (.mov 13 (.t 6)),
 un (.bin 14 .add (.t 13) (.c (.int .i64 1))),
 un (.asg 6 (.t 14))])))))
def Amv : ACode :=
 (.seq (.reg [un (.asg 4 (.c (.nilsl 1)))])
 (.seq (.reg [un (.mov 7 (.t 0)),
 un (.mk 8 1 (.bool false) (.t 7)),
 un (.asg 5 (.t 8))])
 (.drop [7, 8] (.seq (.seq (.reg [un (.asg 6 (.c (.int .i64 0)))])
 (.block 0 (.loop Ur)))
 (.drop [6, 9, 10, 11, 12, 15, 16, 17, 18, 19, 20, 13, 14] (.seq (.reg [un (.mov 21 (.t 5)),
 un (.asg 4 (.t 21))])
 (.drop [21] .ret)))))))
abbrev Akz : List RS := [.t 4]
theorem Anc : A4 Try.prog Ue 22 Amv Akz = true := by kernel_rfl
def Rv : ACode :=
 (.seq (.seq (.reg [un (.mov 6 (.t 4)),
 un (.mov 7 (.t 0)),
 un (.len 8 (.t 7)),
 un (.bin 9 .lss (.t 6) (.t 8))])
 (.drop [6, 7, 8] (.cond (.t 9) .skip
 (.exit 0))))
 (.drop [6, 7, 8, 9] (.seq (.block 1 (.seq (.reg [un (.mov 12 (.t 0)),
 un (.mov 13 (.t 4)),
 un (.iad 14 1 (.t 12) (.t 13)),
 un (.ld 15 1 false (.t 14))])
 (.drop [12, 13, 14] (.cond (.t 15) (.reg [un (.mov 16 (.t 3)),
 un (.mov 17 (.t 4)),
 un (.bsl 18 1 [(.t 17)]),
 un (.app 19 1 (.t 16) (.t 18)),
 un (.asg 3 (.t 19))])
 .skip))))
 (.drop [12, 13, 14, 15, 16, 17, 18, 19] (.reg [un (.mov 10 (.t 4)),
 un (.bin 11 .add (.t 10) (.c (.int .i64 1))),
 un (.asg 4 (.t 11))])))))
def Agr : ACode :=
 (.seq (.reg [un (.asg 2 (.c (.nilsl 1)))])
 (.seq (.reg [un (.bsl 5 1 []),
 un (.asg 3 (.t 5))])
 (.drop [5] (.seq (.seq (.reg [un (.asg 4 (.c (.int .i64 0)))])
 (.block 0 (.loop Rv)))
 (.drop [4, 6, 7, 8, 9, 12, 13, 14, 15, 16, 17, 18, 19, 10, 11] (.seq (.reg [un (.mov 20 (.t 3)),
 un (.asg 2 (.t 20))])
 (.drop [20] .ret)))))))
abbrev Age : List RS := [.t 2]
theorem Ahe : A4 Try.prog Qb 21 Agr Age = true := by kernel_rfl
def Ty : ACode :=
 (.seq (.seq (.reg [un (.mov 6 (.t 5)),
 un (.mov 7 (.t 0)),
 un (.len 8 (.t 7)),
 un (.bin 9 .lss (.t 6) (.t 8))])
 (.drop [6, 7, 8] (.cond (.t 9) .skip
 (.exit 0))))
 (.drop [6, 7, 8, 9] (.seq (.block 1 (.seq (.reg [un (.mov 12 (.t 0)),
 un (.mov 13 (.t 5)),
 un (.iad 14 1 (.t 12) (.t 13)),
 un (.ld 15 1 false (.t 14)),
 un (.mov 16 (.t 1)),
 un (.bin 17 .eql (.t 15) (.t 16))])
 (.drop [12, 13, 14, 15, 16] (.cond (.t 17) (.seq (.reg [un (.asg 4 (.c (.bool true)))])
 .ret)
 .skip))))
 (.drop [12, 13, 14, 15, 16, 17] (.reg [un (.mov 10 (.t 5)),
 un (.bin 11 .add (.t 10) (.c (.int .i64 1))),
 un (.asg 5 (.t 11))])))))
def Ajp : ACode :=
 (.seq (.reg [un (.asg 4 (.c (.bool false)))])
 (.seq (.seq (.reg [un (.asg 5 (.c (.int .i64 0)))])
 (.block 0 (.loop Ty)))
 (.drop [5, 6, 7, 8, 9, 12, 13, 14, 15, 16, 17, 10, 11] (.seq (.reg [un (.asg 4 (.c (.bool false)))])
 .ret))))
abbrev Ai5 : List RS := [.t 4]
theorem Aj9 : A4 Try.prog S8 18 Ajp Ai5 = true := by kernel_rfl
def Ajr : ACode :=
 (.seq (.reg [un (.asg 2 (.c (.nilsl 1)))])
 (.seq (.reg [un (.bsl 3 1 []),
 un (.mov 4 (.t 0)),
 un (.app 5 1 (.t 3) (.t 4)),
 un (.asg 2 (.t 5))])
 (.drop [3, 4, 5] .ret)))
abbrev Akm : List RS := [.t 2]
theorem Ajm : A4 Try.prog Ns 6 Ajr Akm = true := by kernel_rfl
def Ajv : ACode :=
 (.seq (.reg [un (.asg 2 (.c (.nilsl 1)))])
 (.seq (.reg [un (.bsl 3 1 []),
 un (.mov 4 (.t 0)),
 un (.app 5 1 (.t 3) (.t 4)),
 un (.asg 2 (.t 5))])
 (.drop [3, 4, 5] .ret)))
abbrev Ajs : List RS := [.t 2]
theorem Aku : A4 Try.prog Sn 6 Ajv Ajs = true := by kernel_rfl
def Q9 : ACode :=
 (.seq (.seq (.reg [un (.mov 6 (.t 0)),
 un (.mov 7 (.t 4)),
 un (.bin 8 .shr (.t 6) (.t 7)),
 un (.bin 9 .gtr (.t 8) (.c (.int .i64 0)))])
 (.drop [6, 7, 8] (.cond (.t 9) .skip
 (.exit 0))))
 (.drop [6, 7, 8, 9] (.seq (.block 1 (.seq (.reg [un (.mov 12 (.t 0)),
 un (.mov 13 (.t 4)),
 un (.bin 14 .shr (.t 12) (.t 13)),
 un (.bin 15 .and (.t 14) (.c (.int .i64 1))),
 un (.bin 16 .eql (.t 15) (.c (.int .i64 1)))])
 (.drop [12, 13, 14, 15] (.cond (.t 16) (.reg [un (.mov 17 (.t 3)),
 un (.mov 18 (.t 4)),
 un (.bsl 19 1 [(.t 18)]),
 un (.app 20 1 (.t 17) (.t 19)),
 un (.asg 3 (.t 20))])
 .skip))))
 (.drop [12, 13, 14, 15, 16, 17, 18, 19, 20] (.reg [un (.mov 10 (.t 4)),
 un (.bin 11 .add (.t 10) (.c (.int .i64 1))),
 un (.asg 4 (.t 11))])))))
def Ahi : ACode :=
 (.seq (.reg [un (.asg 2 (.c (.nilsl 1)))])
 (.seq (.reg [un (.bsl 5 1 []),
 un (.asg 3 (.t 5))])
 (.drop [5] (.seq (.seq (.reg [un (.asg 4 (.c (.int .i64 0)))])
 (.block 0 (.loop Q9)))
 (.drop [4, 6, 7, 8, 9, 12, 13, 14, 15, 16, 17, 18, 19, 20, 10, 11] (.seq (.reg [un (.mov 21 (.t 3)),
 un (.asg 2 (.t 21))])
 (.drop [21] .ret)))))))
abbrev Afz : List RS := [.t 2]
theorem Af1 : A4 Try.prog Iv 22 Ahi Afz = true := by kernel_rfl
def Qp : ACode :=
 (.seq (.seq (.reg [un (.mov 6 (.t 0)),
 un (.mov 7 (.t 4)),
 un (.bin 8 .shr (.t 6) (.t 7)),
 un (.bin 9 .gtr (.t 8) (.c (.int .i64 0)))])
 (.drop [6, 7, 8] (.cond (.t 9) .skip
 (.exit 0))))
 (.drop [6, 7, 8, 9] (.seq (.block 1 (.seq (.reg [un (.mov 12 (.t 0)),
 un (.mov 13 (.t 4)),
 un (.bin 14 .shr (.t 12) (.t 13)),
 un (.bin 15 .and (.t 14) (.c (.int .i64 1))),
 un (.bin 16 .eql (.t 15) (.c (.int .i64 1)))])
 (.drop [12, 13, 14, 15] (.cond (.t 16) (.reg [un (.mov 17 (.t 3)),
 un (.mov 18 (.t 4)),
 un (.bsl 19 1 [(.t 18)]),
 un (.app 20 1 (.t 17) (.t 19)),
 un (.asg 3 (.t 20))])
 .skip))))
 (.drop [12, 13, 14, 15, 16, 17, 18, 19, 20] (.reg [un (.mov 10 (.t 4)),
 un (.bin 11 .add (.t 10) (.c (.int .i64 1))),
 un (.asg 4 (.t 11))])))))
def Agw : ACode :=
 (.seq (.reg [un (.asg 2 (.c (.nilsl 1)))])
 (.seq (.reg [un (.bsl 5 1 []),
 un (.asg 3 (.t 5))])
 (.drop [5] (.seq (.seq (.reg [un (.asg 4 (.c (.int .i64 0)))])
 (.block 0 (.loop Qp)))
 (.drop [4, 6, 7, 8, 9, 12, 13, 14, 15, 16, 17, 18, 19, 20, 10, 11] (.seq (.reg [un (.mov 21 (.t 3)),
 un (.asg 2 (.t 21))])
 (.drop [21] .ret)))))))
abbrev Agi : List RS := [.t 2]
theorem Agn : A4 Try.prog Io 22 Agw Agi = true := by kernel_rfl
def Q3 : ACode :=
 (.seq (.seq (.reg [un (.mov 6 (.t 5)),
 un (.mov 7 (.t 0)),
 un (.len 8 (.t 7)),
 un (.bin 9 .lss (.t 6) (.t 8))])
 (.drop [6, 7, 8] (.cond (.t 9) .skip
 (.exit 0))))
 (.drop [6, 7, 8, 9] (.seq (.block 1 (.seq (.dreg [(un (.mov 12 (.t 0)), []),
 (un (.mov 13 (.t 5)), [12]),
 (un (.iad 14 1 (.t 12) (.t 13)), []),
 (un (.ld 15 1 false (.t 14)), []),
 (un (.mov 16 (.t 1)), [12, 13, 14, 15]),
 (un (.mov 17 (.t 5)), [12, 13, 14, 15, 16]),
 (un (.iad 18 1 (.t 16) (.t 17)), [12, 13, 14, 15]),
 (un (.ld 19 1 false (.t 18)), [12, 13, 14, 15])]
 [un (.bin 20 .neq (.t 15) (.t 19))])
 (.drop [12, 13, 14, 15, 16, 17, 18, 19] (.cond (.t 20) (.seq (.dreg [(un (.mov 21 (.t 0)), []),
 (un (.mov 22 (.t 5)), [21]),
 (un (.iad 23 1 (.t 21) (.t 22)), []),
 (un (.ld 24 1 false (.t 23)), []),
 (un (.mov 25 (.t 1)), [21, 22, 23, 24]),
 (un (.mov 26 (.t 5)), [21, 22, 23, 24, 25]),
 (un (.iad 27 1 (.t 25) (.t 26)), [21, 22, 23, 24]),
 (un (.ld 28 1 false (.t 27)), [21, 22, 23, 24])]
 [un (.bin 29 .lss (.t 24) (.t 28)),
 un (.asg 4 (.t 29))])
 (.drop [21, 22, 23, 24, 25, 26, 27, 28, 29] .ret))
 .skip))))
 (.drop [12, 13, 14, 15, 16, 17, 18, 19, 20, 21, 22, 23, 24, 25, 26, 27, 28, 29] (.reg [un (.mov 10 (.t 5)),
 un (.bin 11 .add (.t 10) (.c (.int .i64 1))),
 un (.asg 5 (.t 11))])))))
def Agc : ACode :=
 (.seq (.reg [un (.asg 4 (.c (.bool false)))])
 (.seq (.seq (.reg [un (.asg 5 (.c (.int .i64 0)))])
 (.block 0 (.loop Q3)))
 (.drop [5, 6, 7, 8, 9, 12, 13, 14, 15, 16, 17, 18, 19, 20, 21, 22, 23, 24, 25, 26, 27, 28, 29, 10, 11] (.seq (.reg [un (.asg 4 (.c (.bool false)))])
 .ret))))
abbrev Ag6 : List RS := [.t 4]
theorem Ahq : A4 Try.prog L3 30 Agc Ag6 = true := by kernel_rfl
def Qv : ACode :=
 (.seq (.reg [un (.bin 10 .lss (.t 9) (.t 8))])
 (.seq (.cond (.t 10) .skip
 (.exit 0))
 (.seq (.block 1 (.seq (.reg [un (.iad 11 1 (.t 7) (.t 9)),
 un (.ld 12 1 false (.t 11)),
 un (.asg 6 (.t 12))])
 (.drop [11, 12] (.seq (.reg [un (.mov 13 (.t 1)),
 un (.mov 14 (.t 6)),
 un (.bin 15 .eql (.t 13) (.t 14))])
 (.drop [13, 14] (.cond (.t 15) (.seq (.reg [un (.asg 4 (.c (.bool false)))])
 .ret)
 .skip))))))
 (.drop [11, 12, 6, 13, 14, 15] (.reg [un (.bin 16 .add (.t 9) (.c (.int .i64 1))),
 un (.asg 9 (.t 16))])))))
def Af8 : ACode :=
 (.seq (.reg [un (.asg 4 (.c (.bool false)))])
 (.seq (.seq (.reg [un (.mov 7 (.t 0)),
 un (.len 8 (.t 7)),
 un (.mov 9 (.c (.int .i64 0)))])
 (.block 0 (.loop Qv)))
 (.drop [7, 8, 9, 10, 11, 12, 6, 13, 14, 15, 16] (.seq (.reg [un (.asg 4 (.c (.bool true)))])
 .ret))))
abbrev Ahn : List RS := [.t 4]
theorem Agx : A4 Try.prog L2 17 Af8 Ahn = true := by kernel_rfl
def Vp : ACode :=
 (.seq (.dreg [(un (.mov 4 (.t 0)), []),
 (un (.nck 5 (.t 4)), []),
 (un (.fadr 6 1 (.t 5)), []),
 (un (.ld 7 1 false (.t 6)), []),
 (un (.mov 8 (.t 0)), [4, 5, 6, 7]),
 (un (.nck 9 (.t 8)), [4, 5, 6, 7]),
 (un (.fadr 10 0 (.t 9)), [4, 5, 6, 7]),
 (un (.ld 11 1 false (.t 10)), [4, 5, 6, 7]),
 (un (.len 12 (.t 11)), [4, 5, 6, 7])]
 [un (.bin 13 .lss (.t 7) (.t 12))])
 (.drop [4, 5, 6, 7, 8, 9, 10, 11, 12] (.cond (.t 13) (.dreg [(un (.mov 14 (.t 0)), []),
 (un (.nck 15 (.t 14)), []),
 (un (.fadr 16 0 (.t 15)), []),
 (un (.ld 17 1 false (.t 16)), []),
 (un (.mov 18 (.t 0)), [14, 15, 16, 17]),
 (un (.nck 19 (.t 18)), [14, 15, 16, 17]),
 (un (.fadr 20 1 (.t 19)), [14, 15, 16, 17]),
 (un (.ld 21 1 false (.t 20)), [14, 15, 16, 17])]
 [un (.iad 22 1 (.t 17) (.t 21)),
 un (.ld 23 1 false (.t 22)),
 un (.cnv 24 .i64 (.t 23)),
 un (.asg 3 (.t 24))])
 .skip)))
def Z8 : ACode :=
 (.seq (.reg [un (.asg 2 (.c (.int .i64 0)))])
 (.seq (.reg [un (.asg 3 (.c (.int .i64 0)))])
 (.seq (.cut Vp)
 (.drop [4, 5, 6, 7, 8, 9, 10, 11, 12, 13, 14, 15, 16, 17, 18, 19, 20, 21, 22, 23, 24] (.seq (.reg [un (.mov 25 (.t 0)),
 un (.nck 26 (.t 25)),
 un (.fadr 27 1 (.t 26)),
 un (.ld 28 1 false (.t 27)),
 un (.bin 29 .add (.t 28) (.c (.int .i64 1))),
 un (.nck 30 (.t 25)),
 un (.fadr 31 1 (.t 30)),
 un (.st 1 (.t 31) (.t 29))])
 (.drop [25, 26, 27, 28, 29, 30, 31] (.seq (.reg [un (.mov 32 (.t 0)),
 un (.mov 33 (.t 0)),
 un (.nck 34 (.t 33)),
 un (.fadr 35 2 (.t 34)),
 un (.ld 36 1 false (.t 35)),
 un (.bin 37 .mul (.t 36) (.c (.int .u64 6364136223846793005))),
 un (.mov 38 (.t 3)),
 un (.cnv 39 .u64 (.t 38)),
 un (.bin 40 .add (.t 37) (.t 39)),
 un (.bin 41 .add (.t 40) (.c (.int .u64 550289))),
 un (.nck 42 (.t 32)),
 un (.fadr 43 2 (.t 42)),
 un (.st 1 (.t 43) (.t 41))])
 (.drop [32, 33, 34, 35, 36, 37, 38, 39, 40, 41, 42, 43] (.seq (.seq (.dreg [(un (.mov 44 (.t 0)), []),
 (un (.nck 45 (.t 44)), []),
 (un (.fadr 46 1 (.t 45)), []),
 (un (.ld 47 1 false (.t 46)), []),
 (un (.mov 48 (.t 0)), [44, 45, 46, 47]),
 (un (.nck 49 (.t 48)), [44, 45, 46, 47]),
 (un (.fadr 50 0 (.t 49)), [44, 45, 46, 47]),
 (un (.ld 51 1 false (.t 50)), [44, 45, 46, 47]),
 (un (.len 52 (.t 51)), [44, 45, 46, 47])]
 [un (.bin 53 .leq (.t 47) (.t 52))])
 (.drop [44, 45, 46, 47, 48, 49, 50, 51, 52] (.cond (.t 53) (.seq (.reg [un (.mov 54 (.t 3)),
 un (.asg 2 (.t 54))])
 (.drop [54] .ret))
 .skip)))
 (.drop [44, 45, 46, 47, 48, 49, 50, 51, 52, 53, 54] (.seq (.reg [un (.mov 55 (.t 0)),
 un (.nck 56 (.t 55)),
 un (.fadr 57 2 (.t 56)),
 un (.ld 58 1 false (.t 57)),
 un (.bin 59 .shr (.t 58) (.c (.int .u64 40))),
 un (.bin 60 .and (.t 59) (.c (.int .u64 255))),
 un (.cnv 61 .i64 (.t 60)),
 un (.asg 2 (.t 61))])
 (.drop [55, 56, 57, 58, 59, 60, 61] .ret))))))))))))
abbrev Y3 : List RS := [.t 2]
theorem Y9 : A4 Try.prog Hc 62 Z8 Y3 = true := by kernel_rfl
def Ra : ACode :=
 (.seq (.seq (.reg [un (.mov 13 (.t 8)),
 un (.bin 14 .geq (.t 13) (.c (.int .i64 0)))])
 (.drop [13] (.cond (.t 14) .skip
 (.exit 0))))
 (.drop [13, 14] (.seq (.block 1 (.seq (.reg [un (.mov 17 (.t 7)),
 un (.mov 18 (.t 8)),
 un (.mov 19 (.t 2)),
 un (.mov 20 (.t 0)),
 un (.bin 21 .rem (.t 19) (.t 20)),
 un (.iad 22 1 (.t 17) (.t 18)),
 un (.st 1 (.t 22) (.t 21))])
 (.drop [17, 18, 19, 20, 21, 22] (.reg [un (.mov 23 (.t 2)),
 un (.mov 24 (.t 0)),
 un (.bin 25 .quo (.t 23) (.t 24)),
 un (.asg 2 (.t 25))]))))
 (.drop [17, 18, 19, 20, 21, 22, 23, 24, 25] (.reg [un (.mov 15 (.t 8)),
 un (.bin 16 .sub (.t 15) (.c (.int .i64 1))),
 un (.asg 8 (.t 16))])))))
def Ahd : ACode :=
 (.seq (.reg [un (.asg 6 (.c (.nilsl 1)))])
 (.seq (.reg [un (.mov 9 (.t 1)),
 un (.mk 10 1 (.int .i64 0) (.t 9)),
 un (.asg 7 (.t 10))])
 (.drop [9, 10] (.seq (.seq (.reg [un (.mov 11 (.t 1)),
 un (.bin 12 .sub (.t 11) (.c (.int .i64 1))),
 un (.asg 8 (.t 12))])
 (.drop [11, 12] (.block 0 (.loop Ra))))
 (.drop [11, 12, 8, 13, 14, 17, 18, 19, 20, 21, 22, 23, 24, 25, 15, 16] (.seq (.reg [un (.mov 26 (.t 7)),
 un (.asg 6 (.t 26))])
 (.drop [26] .ret)))))))
abbrev Ahl : List RS := [.t 6]
theorem Ahg : A4 Try.prog P2 27 Ahd Ahl = true := by kernel_rfl
def Tr : ACode :=
 (.seq (.seq (.reg [un (.mov 4 (.t 3)),
 un (.mov 5 (.t 0)),
 un (.len 6 (.t 5)),
 un (.bin 7 .lss (.t 4) (.t 6))])
 (.drop [4, 5, 6] (.cond (.t 7) .skip
 (.exit 0))))
 (.drop [4, 5, 6, 7] (.seq (.block 1 (.seq (.dreg [(un (.mov 10 (.t 0)), []),
 (un (.mov 11 (.t 3)), [10]),
 (un (.bin 12 .sub (.t 11) (.c (.int .i64 1))), [10]),
 (un (.iad 13 1 (.t 10) (.t 12)), []),
 (un (.ld 14 1 false (.t 13)), []),
 (un (.mov 15 (.t 0)), [10, 11, 12, 13, 14]),
 (un (.mov 16 (.t 3)), [10, 11, 12, 13, 14, 15]),
 (un (.iad 17 1 (.t 15) (.t 16)), [10, 11, 12, 13, 14]),
 (un (.ld 18 1 false (.t 17)), [10, 11, 12, 13, 14])]
 [un (.bin 19 .geq (.t 14) (.t 18))])
 (.drop [10, 11, 12, 13, 14, 15, 16, 17, 18] (.cond (.t 19) (.seq (.reg [un (.asg 2 (.c (.bool false)))])
 .ret)
 .skip))))
 (.drop [10, 11, 12, 13, 14, 15, 16, 17, 18, 19] (.reg [un (.mov 8 (.t 3)),
 un (.bin 9 .add (.t 8) (.c (.int .i64 1))),
 un (.asg 3 (.t 9))])))))
def Ajl : ACode :=
 (.seq (.reg [un (.asg 2 (.c (.bool false)))])
 (.seq (.seq (.reg [un (.asg 3 (.c (.int .i64 1)))])
 (.block 0 (.loop Tr)))
 (.drop [3, 4, 5, 6, 7, 10, 11, 12, 13, 14, 15, 16, 17, 18, 19, 8, 9] (.seq (.reg [un (.asg 2 (.c (.bool true)))])
 .ret))))
abbrev Aj1 : List RS := [.t 2]
theorem Aip : A4 Try.prog Sr 20 Ajl Aj1 = true := by kernel_rfl
def R0 : ACode :=
 (.seq (.seq (.reg [un (.mov 11 (.t 5)),
 un (.mov 12 (.t 0)),
 un (.len 13 (.t 12)),
 un (.bin 14 .lss (.t 11) (.t 13))])
 (.drop [11, 12, 13] (.cond (.t 14) .skip
 (.exit 0))))
 (.drop [11, 12, 13, 14] (.seq (.block 1 (.seq (.dreg [(un (.mov 17 (.t 0)), []),
 (un (.mov 18 (.t 5)), [17]),
 (un (.iad 19 1 (.t 17) (.t 18)), []),
 (un (.ld 20 1 false (.t 19)), []),
 (un (.mov 21 (.t 1)), [17, 18, 19, 20]),
 (un (.mov 22 (.t 5)), [17, 18, 19, 20, 21]),
 (un (.iad 23 1 (.t 21) (.t 22)), [17, 18, 19, 20]),
 (un (.ld 24 1 false (.t 23)), [17, 18, 19, 20])]
 [un (.bin 25 .neq (.t 20) (.t 24))])
 (.drop [17, 18, 19, 20, 21, 22, 23, 24] (.cond (.t 25) (.seq (.reg [un (.asg 4 (.c (.bool false)))])
 .ret)
 .skip))))
 (.drop [17, 18, 19, 20, 21, 22, 23, 24, 25] (.reg [un (.mov 15 (.t 5)),
 un (.bin 16 .add (.t 15) (.c (.int .i64 1))),
 un (.asg 5 (.t 16))])))))
def Af2 : ACode :=
 (.seq (.reg [un (.asg 4 (.c (.bool false)))])
 (.seq (.seq (.reg [un (.mov 6 (.t 0)),
 un (.len 7 (.t 6)),
 un (.mov 8 (.t 1)),
 un (.len 9 (.t 8)),
 un (.bin 10 .neq (.t 7) (.t 9))])
 (.drop [6, 7, 8, 9] (.cond (.t 10) (.seq (.reg [un (.asg 4 (.c (.bool false)))])
 .ret)
 .skip)))
 (.drop [6, 7, 8, 9, 10] (.seq (.seq (.reg [un (.asg 5 (.c (.int .i64 0)))])
 (.block 0 (.loop R0)))
 (.drop [5, 11, 12, 13, 14, 17, 18, 19, 20, 21, 22, 23, 24, 25, 15, 16] (.seq (.reg [un (.asg 4 (.c (.bool true)))])
 .ret))))))
abbrev Agg : List RS := [.t 4]
theorem Agz : A4 Try.prog Pz 26 Af2 Agg = true := by kernel_rfl
def Za : ACode :=
 (.seq (.reg [un (.asg 6 (.c (.bool false)))])
 (.seq (.dreg [(un (.ld 7 1 false (.t 2)), []),
 (un (.ld 8 1 false (.t 3)), [7]),
 (un (.mov 9 (.t 0)), [7, 8]),
 (un (.iad 10 1 (.t 8) (.t 9)), [7]),
 (un (.ld 11 1 false (.t 10)), [7]),
 (un (.ld 12 1 false (.t 3)), [7, 8, 9, 10, 11]),
 (un (.mov 13 (.t 1)), [7, 8, 9, 10, 11, 12]),
 (un (.iad 14 1 (.t 12) (.t 13)), [7, 8, 9, 10, 11]),
 (un (.ld 15 1 false (.t 14)), [7, 8, 9, 10, 11])]
 [un (.cally 16 (.t 7) [(.t 11), (.t 15)]),
 un (.bin 17 .lss (.t 16) (.c (.int .i64 0))),
 un (.asg 6 (.t 17))])
 (.drop [7, 8, 9, 10, 11, 12, 13, 14, 15, 16, 17] .ret)))
abbrev Y7 : List RS := [.t 6]
theorem Zi : A4 Try.prog Pb 18 Za Y7 = true := by kernel_rfl
def Th : ACode :=
 (.seq (.reg [un (.mov 6 (.t 5)),
 un (.mov 7 (.t 0)),
 un (.len 8 (.t 7)),
 un (.bin 9 .lss (.t 6) (.t 8)),
 un (.asg 10 (.t 9)),
 ⟨some (10, true), .mov 11 (.t 5)⟩,
 ⟨some (10, true), .mov 12 (.t 1)⟩,
 ⟨some (10, true), .len 13 (.t 12)⟩,
 ⟨some (10, true), .bin 14 .lss (.t 11) (.t 13)⟩,
 un (.pick 15 (.t 10) (.t 14) (.c (.bool false)))])
 (.drop [6, 7, 8, 9, 10, 11, 12, 13, 14] (.cond (.t 15) .skip
 (.exit 0))))
def Kh : ACode :=
 (.seq (.cut Th)
 (.drop [6, 7, 8, 9, 10, 11, 12, 13, 14, 15] (.seq (.block 1 (.seq (.dreg [(un (.mov 18 (.t 0)), []),
 (un (.mov 19 (.t 5)), [18]),
 (un (.iad 20 1 (.t 18) (.t 19)), []),
 (un (.ld 21 1 false (.t 20)), []),
 (un (.mov 22 (.t 1)), [18, 19, 20, 21]),
 (un (.mov 23 (.t 5)), [18, 19, 20, 21, 22]),
 (un (.iad 24 1 (.t 22) (.t 23)), [18, 19, 20, 21]),
 (un (.ld 25 1 false (.t 24)), [18, 19, 20, 21])]
 [un (.bin 26 .neq (.t 21) (.t 25))])
 (.drop [18, 19, 20, 21, 22, 23, 24, 25] (.cond (.t 26) (.seq (.seq (.dreg [(un (.mov 27 (.t 0)), []),
 (un (.mov 28 (.t 5)), [27]),
 (un (.iad 29 1 (.t 27) (.t 28)), []),
 (un (.ld 30 1 false (.t 29)), []),
 (un (.mov 31 (.t 1)), [27, 28, 29, 30]),
 (un (.mov 32 (.t 5)), [27, 28, 29, 30, 31]),
 (un (.iad 33 1 (.t 31) (.t 32)), [27, 28, 29, 30]),
 (un (.ld 34 1 false (.t 33)), [27, 28, 29, 30])]
 [un (.bin 35 .lss (.t 30) (.t 34))])
 (.drop [27, 28, 29, 30, 31, 32, 33, 34] (.cond (.t 35) (.seq (.reg [un (.asg 4 (.c (.int .i64 (-1))))])
 .ret)
 .skip)))
 (.drop [27, 28, 29, 30, 31, 32, 33, 34, 35] (.seq (.reg [un (.asg 4 (.c (.int .i64 1)))])
 .ret)))
 .skip))))
 (.drop [18, 19, 20, 21, 22, 23, 24, 25, 26, 27, 28, 29, 30, 31, 32, 33, 34, 35] (.reg [un (.mov 16 (.t 5)),
 un (.bin 17 .add (.t 16) (.c (.int .i64 1))),
 un (.asg 5 (.t 17))])))))
def Wl : ACode :=
 (.seq (.reg [un (.asg 4 (.c (.int .i64 0)))])
 (.seq (.seq (.reg [un (.asg 5 (.c (.int .i64 0)))])
 (.block 0 (.loop Kh)))
 (.drop [5, 6, 7, 8, 9, 10, 11, 12, 13, 14, 15, 18, 19, 20, 21, 22, 23, 24, 25, 26, 27, 28, 29, 30, 31, 32, 33, 34, 35, 16, 17] (.seq (.block 2 (.seq (.reg [un (.mov 37 (.t 0)),
 un (.len 38 (.t 37)),
 un (.mov 39 (.t 1)),
 un (.len 40 (.t 39)),
 un (.bin 41 .lss (.t 38) (.t 40)),
 un (.asg 36 (.t 41))])
 (.drop [37, 38, 39, 40, 41] (.cond (.t 36) (.seq (.reg [un (.asg 4 (.c (.int .i64 (-1))))])
 .ret)
 (.seq (.reg [un (.mov 43 (.t 0)),
 un (.len 44 (.t 43)),
 un (.mov 45 (.t 1)),
 un (.len 46 (.t 45)),
 un (.bin 47 .gtr (.t 44) (.t 46)),
 un (.asg 42 (.t 47))])
 (.drop [43, 44, 45, 46, 47] (.cond (.t 42) (.seq (.reg [un (.asg 4 (.c (.int .i64 1)))])
 .ret)
 .skip)))))))
 (.drop [37, 38, 39, 40, 41, 36, 43, 44, 45, 46, 47, 42] (.seq (.reg [un (.asg 4 (.c (.int .i64 0)))])
 .ret))))))
abbrev Wo : List RS := [.t 4]
theorem Wz : A4 Try.prog Ih 48 Wl Wo = true := by kernel_rfl
def Oh : ACode :=
 (.seq (.seq (.reg [un (.mov 6 (.t 4)),
 un (.mov 7 (.t 0)),
 un (.slen 8 (.t 7)),
 un (.bin 9 .lss (.t 6) (.t 8))])
 (.drop [6, 7, 8] (.cond (.t 9) .skip
 (.exit 0))))
 (.drop [6, 7, 8, 9] (.seq (.block 1 (.dreg [(un (.fadr 12 1 (.t 3)), [18]),
 (un (.ld 13 1 false (.t 12)), [18]),
 (un (.mov 14 (.t 0)), [12, 13]),
 (un (.mov 15 (.t 4)), [12, 13, 14]),
 (un (.sidx 16 (.t 14) (.t 15)), [12, 13]),
 (un (.bin 17 .sub (.t 16) (.c (.int .u8 48))), [12, 13]),
 (un (.cnv 18 .i64 (.t 17)), [12, 13]),
 (un (.bsl 19 1 [(.t 18)]), [12, 13])]
 [un (.app 20 1 (.t 13) (.t 19)),
 un (.fadr 21 1 (.t 3)),
 un (.st 1 (.t 21) (.t 20))]))
 (.drop [12, 13, 14, 15, 16, 17, 18, 19, 20, 21] (.reg [un (.mov 10 (.t 4)),
 un (.bin 11 .add (.t 10) (.c (.int .i64 1))),
 un (.asg 4 (.t 11))])))))
def Ach : ACode :=
 (.seq (.reg [un (.alc 2 (.agg [.int .i64 0, .nilsl 1]))])
 (.seq (.reg [un (.bld 5 [.int .i64 0, .nilsl 1] [(0, 1, (.c (.int .i64 2)))]),
 un (.alc 3 (.agg [.int .i64 0, .nilsl 1])),
 un (.st 2 (.t 3) (.t 5))])
 (.drop [5] (.seq (.seq (.reg [un (.asg 4 (.c (.int .i64 0)))])
 (.block 0 (.loop Oh)))
 (.drop [4, 6, 7, 8, 9, 12, 13, 14, 15, 16, 17, 18, 19, 20, 21, 10, 11] (.seq (.reg [un (.ld 22 2 true (.t 3)),
 un (.st 2 (.t 2) (.t 22))])
 (.drop [22] .ret)))))))
abbrev Acc : List RS := [.c 2 2 true]
theorem Ac1 : A4 Try.prog A2 23 Ach Acc = true := by kernel_rfl
def O4 : ACode :=
 (.seq (.seq (.reg [un (.mov 6 (.t 4)),
 un (.mov 7 (.t 0)),
 un (.mov 8 (.t 0)),
 un (.bin 9 .mul (.t 7) (.t 8)),
 un (.mov 10 (.t 0)),
 un (.bin 11 .mul (.t 9) (.t 10)),
 un (.bin 12 .lss (.t 6) (.t 11))])
 (.drop [6, 7, 8, 9, 10, 11] (.cond (.t 12) .skip
 (.exit 0))))
 (.drop [6, 7, 8, 9, 10, 11, 12] (.seq (.block 1 (.dreg [(un (.fadr 15 1 (.t 3)), [35]),
 (un (.ld 16 1 false (.t 15)), [35]),
 (un (.mov 17 (.t 4)), [15, 16]),
 (un (.mov 18 (.t 0)), [15, 16, 17]),
 (un (.mov 19 (.t 0)), [15, 16, 17, 18]),
 (un (.bin 20 .mul (.t 18) (.t 19)), [15, 16, 17]),
 (un (.bin 21 .quo (.t 17) (.t 20)), [15, 16]),
 (un (.mov 22 (.t 0)), [15, 16, 17, 18, 19, 20, 21]),
 (un (.bin 23 .add (.t 21) (.t 22)), [15, 16]),
 (un (.mov 24 (.t 4)), [15, 16, 17, 18, 19, 20, 21, 22, 23]),
 (un (.mov 25 (.t 0)), [15, 16, 17, 18, 19, 20, 21, 22, 23, 24]),
 (un (.bin 26 .quo (.t 24) (.t 25)), [15, 16, 17, 18, 19, 20, 21, 22, 23]),
 (un (.mov 27 (.t 0)), [15, 16, 17, 18, 19, 20, 21, 22, 23, 24, 25, 26]),
 (un (.bin 28 .rem (.t 26) (.t 27)), [15, 16, 17, 18, 19, 20, 21, 22, 23]),
 (un (.bin 29 .sub (.t 23) (.t 28)), [15, 16]),
 (un (.mov 30 (.t 4)), [15, 16, 17, 18, 19, 20, 21, 22, 23, 24, 25, 26, 27, 28, 29]),
 (un (.mov 31 (.t 0)), [15, 16, 17, 18, 19, 20, 21, 22, 23, 24, 25, 26, 27, 28, 29, 30]),
 (un (.bin 32 .rem (.t 30) (.t 31)), [15, 16, 17, 18, 19, 20, 21, 22, 23, 24, 25, 26, 27, 28, 29]),
 (un (.bin 33 .add (.t 29) (.t 32)), [15, 16]),
 (un (.mov 34 (.t 0)), [15, 16, 17, 18, 19, 20, 21, 22, 23, 24, 25, 26, 27, 28, 29, 30, 31, 32, 33]),
 (un (.bin 35 .rem (.t 33) (.t 34)), [15, 16]),
 (un (.bsl 36 1 [(.t 35)]), [15, 16])]
 [un (.app 37 1 (.t 16) (.t 36)),
 un (.fadr 38 1 (.t 3)),
 un (.st 1 (.t 38) (.t 37))]))
 (.drop [15, 16, 17, 18, 19, 20, 21, 22, 23, 24, 25, 26, 27, 28, 29, 30, 31, 32, 33, 34, 35, 36, 37, 38] (.reg [un (.mov 13 (.t 4)),
 un (.bin 14 .add (.t 13) (.c (.int .i64 1))),
 un (.asg 4 (.t 14))])))))
def Ac3 : ACode :=
 (.seq (.reg [un (.alc 2 (.agg [.int .i64 0, .nilsl 1]))])
 (.seq (.reg [un (.bld 5 [.int .i64 0, .nilsl 1] [(0, 1, (.c (.int .i64 3)))]),
 un (.alc 3 (.agg [.int .i64 0, .nilsl 1])),
 un (.st 2 (.t 3) (.t 5))])
 (.drop [5] (.seq (.seq (.reg [un (.asg 4 (.c (.int .i64 0)))])
 (.block 0 (.loop O4)))
 (.drop [4, 6, 7, 8, 9, 10, 11, 12, 15, 16, 17, 18, 19, 20, 21, 22, 23, 24, 25, 26, 27, 28, 29, 30, 31, 32, 33, 34, 35, 36, 37, 38, 13, 14] (.seq (.reg [un (.ld 39 2 true (.t 3)),
 un (.st 2 (.t 2) (.t 39))])
 (.drop [39] .ret)))))))
abbrev Aco : List RS := [.c 2 2 true]
theorem Acd : A4 Try.prog I1 40 Ac3 Aco = true := by kernel_rfl
def To : ACode :=
 (.seq (.seq (.reg [un (.mov 6 (.t 1)),
 un (.bin 7 .gtr (.t 6) (.c (.int .i64 0)))])
 (.drop [6] (.cond (.t 7) .skip
 (.exit 0))))
 (.drop [6, 7] (.seq (.block 1 (.reg [un (.mov 10 (.t 5)),
 un (.mov 11 (.t 0)),
 un (.bin 12 .mul (.t 10) (.t 11)),
 un (.asg 5 (.t 12))]))
 (.drop [10, 11, 12] (.reg [un (.mov 8 (.t 1)),
 un (.bin 9 .sub (.t 8) (.c (.int .i64 1))),
 un (.asg 1 (.t 9))])))))
def Akv : ACode :=
 (.seq (.reg [un (.asg 4 (.c (.int .i64 0)))])
 (.seq (.reg [un (.asg 5 (.c (.int .i64 1)))])
 (.seq (.block 0 (.loop To))
 (.drop [6, 7, 10, 11, 12, 8, 9] (.seq (.reg [un (.mov 13 (.t 5)),
 un (.asg 4 (.t 13))])
 (.drop [13] .ret))))))
abbrev Aj7 : List RS := [.t 4]
theorem Akc : A4 Try.prog Sc 14 Akv Aj7 = true := by kernel_rfl
def Ql : ACode :=
 (.seq (.seq (.reg [un (.mov 11 (.t 5)),
 un (.mov 12 (.t 0)),
 un (.len 13 (.t 12)),
 un (.bin 14 .lss (.t 11) (.t 13))])
 (.drop [11, 12, 13] (.cond (.t 14) .skip
 (.exit 0))))
 (.drop [11, 12, 13, 14] (.seq (.block 1 (.seq (.dreg [(un (.mov 17 (.t 0)), []),
 (un (.mov 18 (.t 5)), [17]),
 (un (.iad 19 1 (.t 17) (.t 18)), []),
 (un (.ld 20 1 false (.t 19)), []),
 (un (.mov 21 (.t 1)), [17, 18, 19, 20]),
 (un (.mov 22 (.t 5)), [17, 18, 19, 20, 21]),
 (un (.iad 23 1 (.t 21) (.t 22)), [17, 18, 19, 20]),
 (un (.ld 24 1 false (.t 23)), [17, 18, 19, 20])]
 [un (.call 25 Hy [((.t 20), false), ((.t 24), false)]),
 un (.un 26 .not (.t 25))])
 (.drop [17, 18, 19, 20, 21, 22, 23, 24, 25] (.cond (.t 26) (.seq (.reg [un (.asg 4 (.c (.bool false)))])
 .ret)
 .skip))))
 (.drop [17, 18, 19, 20, 21, 22, 23, 24, 25, 26] (.reg [un (.mov 15 (.t 5)),
 un (.bin 16 .add (.t 15) (.c (.int .i64 1))),
 un (.asg 5 (.t 16))])))))
def Ags : ACode :=
 (.seq (.reg [un (.asg 4 (.c (.bool false)))])
 (.seq (.seq (.reg [un (.mov 6 (.t 0)),
 un (.len 7 (.t 6)),
 un (.mov 8 (.t 1)),
 un (.len 9 (.t 8)),
 un (.bin 10 .neq (.t 7) (.t 9))])
 (.drop [6, 7, 8, 9] (.cond (.t 10) (.seq (.reg [un (.asg 4 (.c (.bool false)))])
 .ret)
 .skip)))
 (.drop [6, 7, 8, 9, 10] (.seq (.seq (.reg [un (.asg 5 (.c (.int .i64 0)))])
 (.block 0 (.loop Ql)))
 (.drop [5, 11, 12, 13, 14, 17, 18, 19, 20, 21, 22, 23, 24, 25, 26, 15, 16] (.seq (.reg [un (.asg 4 (.c (.bool true)))])
 .ret))))))
abbrev Agl : List RS := [.t 4]
theorem Ag2 : A4 Try.prog L7 27 Ags Agl = true := by kernel_rfl
def Zc : ACode :=
 (.seq (.reg [un (.asg 4 (.c (.int .i64 0)))])
 (.seq (.seq (.reg [un (.mov 6 (.t 1)),
 un (.bin 7 .leq (.t 6) (.c (.int .i64 1)))])
 (.drop [6] (.cond (.t 7) (.seq (.reg [un (.asg 4 (.c (.int .i64 0)))])
 .ret)
 .skip)))
 (.drop [6, 7] (.seq (.reg [un (.mov 8 (.t 0)),
 un (.call 9 Hc [((.t 8), true)]),
 un (.asg 5 (.t 9))])
 (.drop [8, 9] (.seq (.seq (.reg [un (.mov 10 (.t 1)),
 un (.bin 11 .gtr (.t 10) (.c (.int .i64 200)))])
 (.drop [10] (.cond (.t 11) (.reg [un (.mov 12 (.t 5)),
 un (.bin 13 .mul (.t 12) (.c (.int .i64 256))),
 un (.mov 14 (.t 0)),
 un (.call 15 Hc [((.t 14), true)]),
 un (.bin 16 .add (.t 13) (.t 15)),
 un (.asg 5 (.t 16))])
 .skip)))
 (.drop [10, 11, 12, 13, 14, 15, 16] (.seq (.reg [un (.mov 17 (.t 5)),
 un (.mov 18 (.t 1)),
 un (.bin 19 .rem (.t 17) (.t 18)),
 un (.asg 4 (.t 19))])
 (.drop [17, 18, 19] .ret)))))))))
abbrev Y4 : List RS := [.t 4]
theorem Zy : A4 Try.prog Bg 20 Zc Y4 = true := by kernel_rfl
def Q6 : ACode :=
 (.seq (.seq (.reg [un (.mov 42 (.t 10)),
 un (.mov 43 (.t 8)),
 un (.len 44 (.t 43)),
 un (.bin 45 .lss (.t 42) (.t 44))])
 (.drop [42, 43, 44] (.cond (.t 45) .skip
 (.exit 4))))
 (.drop [42, 43, 44, 45] (.seq (.block 5 (.reg [un (.mov 48 (.t 9)),
 un (.asg 49 (.t 48)),
 ⟨some (49, true), .mov 50 (.t 1)⟩,
 ⟨some (49, true), .mov 51 (.t 8)⟩,
 ⟨some (49, true), .mov 52 (.t 10)⟩,
 ⟨some (49, true), .iad 53 1 (.t 51) (.t 52)⟩,
 ⟨some (49, true), .ld 54 1 false (.t 53)⟩,
 ⟨some (49, true), .iad 55 1 (.t 50) (.t 54)⟩,
 ⟨some (49, true), .ld 56 1 false (.t 55)⟩,
 un (.pick 57 (.t 49) (.t 56) (.c (.bool false))),
 un (.asg 9 (.t 57))]))
 (.drop [48, 49, 50, 51, 52, 53, 54, 55, 56, 57] (.reg [un (.mov 46 (.t 10)),
 un (.bin 47 .add (.t 46) (.c (.int .i64 1))),
 un (.asg 10 (.t 47))])))))
def Qq : ACode :=
 (.seq (.seq (.reg [un (.mov 21 (.t 7)),
 un (.fadr 22 1 (.t 2)),
 un (.ld 23 1 false (.t 22)),
 un (.mov 24 (.t 6)),
 un (.iad 25 2 (.t 23) (.t 24)),
 un (.fadr 26 1 (.t 25)),
 un (.ld 27 1 false (.t 26)),
 un (.len 28 (.t 27)),
 un (.bin 29 .lss (.t 21) (.t 28))])
 (.drop [21, 22, 23, 24, 25, 26, 27, 28] (.cond (.t 29) .skip
 (.exit 2))))
 (.drop [21, 22, 23, 24, 25, 26, 27, 28, 29] (.seq (.block 3 (.seq (.dreg [(un (.fadr 32 0 (.t 2)), []),
 (un (.ld 33 1 false (.t 32)), []),
 (un (.fadr 34 1 (.t 2)), [32, 33]),
 (un (.ld 35 1 false (.t 34)), [32, 33]),
 (un (.mov 36 (.t 6)), [32, 33, 34, 35]),
 (un (.iad 37 2 (.t 35) (.t 36)), [32, 33]),
 (un (.fadr 38 0 (.t 37)), [32, 33]),
 (un (.ld 39 1 false (.t 38)), [32, 33]),
 (un (.mov 40 (.t 7)), [32, 33, 34, 35, 36, 37, 38, 39])]
 [un (.call 41 P2 [((.t 33), false), ((.t 39), false), ((.t 40), false)]),
 un (.asg 8 (.t 41))])
 (.drop [32, 33, 34, 35, 36, 37, 38, 39, 40, 41] (.seq (.reg [un (.asg 9 (.c (.bool true)))])
 (.seq (.seq (.reg [un (.asg 10 (.c (.int .i64 0)))])
 (.block 4 (.loop Q6)))
 (.drop [10, 42, 43, 44, 45, 48, 49, 50, 51, 52, 53, 54, 55, 56, 57, 46, 47] (.seq (.reg [un (.mov 58 (.t 9))])
 (.cond (.t 58) (.reg [un (.mov 59 (.t 5)),
 un (.fadr 60 1 (.t 2)),
 un (.ld 61 1 false (.t 60)),
 un (.mov 62 (.t 6)),
 un (.iad 63 2 (.t 61) (.t 62)),
 un (.fadr 64 1 (.t 63)),
 un (.ld 65 1 false (.t 64)),
 un (.mov 66 (.t 7)),
 un (.iad 67 1 (.t 65) (.t 66)),
 un (.ld 68 1 false (.t 67)),
 un (.iad 69 1 (.t 59) (.t 68)),
 un (.st 1 (.t 69) (.c (.bool true)))])
 .skip))))))))
 (.drop [32, 33, 34, 35, 36, 37, 38, 39, 40, 41, 8, 9, 10, 42, 43, 44, 45, 48, 49, 50, 51, 52, 53, 54, 55, 56, 57, 46, 47, 58, 59, 60, 61, 62, 63, 64, 65, 66, 67, 68, 69] (.reg [un (.mov 30 (.t 7)),
 un (.bin 31 .add (.t 30) (.c (.int .i64 1))),
 un (.asg 7 (.t 31))])))))
def Q8 : ACode :=
 (.seq (.seq (.reg [un (.mov 14 (.t 6)),
 un (.fadr 15 1 (.t 2)),
 un (.ld 16 1 false (.t 15)),
 un (.len 17 (.t 16)),
 un (.bin 18 .lss (.t 14) (.t 17))])
 (.drop [14, 15, 16, 17] (.cond (.t 18) .skip
 (.exit 0))))
 (.drop [14, 15, 16, 17, 18] (.seq (.block 1 (.seq (.reg [un (.asg 7 (.c (.int .i64 0)))])
 (.block 2 (.loop Qq))))
 (.drop [7, 21, 22, 23, 24, 25, 26, 27, 28, 29, 32, 33, 34, 35, 36, 37, 38, 39, 40, 41, 8, 9, 10, 42, 43, 44, 45, 48, 49, 50, 51, 52, 53, 54, 55, 56, 57, 46, 47, 58, 59, 60, 61, 62, 63, 64, 65, 66, 67, 68, 69, 30, 31] (.reg [un (.mov 19 (.t 6)),
 un (.bin 20 .add (.t 19) (.c (.int .i64 1))),
 un (.asg 6 (.t 20))])))))
def Agb : ACode :=
 (.seq (.reg [un (.box 2 (.t 0)),
 un (.asg 4 (.c (.nilsl 1)))])
 (.seq (.reg [un (.bsl 11 1 []),
 un (.mov 12 (.t 1)),
 un (.app 13 1 (.t 11) (.t 12)),
 un (.asg 5 (.t 13))])
 (.drop [11, 12, 13] (.seq (.seq (.reg [un (.asg 6 (.c (.int .i64 0)))])
 (.block 0 (.loop Q8)))
 (.drop [6, 14, 15, 16, 17, 18, 7, 21, 22, 23, 24, 25, 26, 27, 28, 29, 32, 33, 34, 35, 36, 37, 38, 39, 40, 41, 8, 9, 10, 42, 43, 44, 45, 48, 49, 50, 51, 52, 53, 54, 55, 56, 57, 46, 47, 58, 59, 60, 61, 62, 63, 64, 65, 66, 67, 68, 69, 30, 31, 19, 20] (.seq (.reg [un (.mov 70 (.t 5)),
 un (.asg 4 (.t 70))])
 (.drop [70] .ret)))))))
abbrev Ahj : List RS := [.t 4]
theorem Ag5 : A4 Try.prog P7 71 Agb Ahj = true := by kernel_rfl
def W2 : ACode :=
 (.seq (.reg [un (.asg 4 (.c (.int .i64 0)))])
 (.seq (.block 0 (.seq (.reg [un (.mov 6 (.t 0)),
 un (.len 7 (.t 6)),
 un (.mov 8 (.t 1)),
 un (.len 9 (.t 8)),
 un (.bin 10 .lss (.t 7) (.t 9)),
 un (.asg 5 (.t 10))])
 (.drop [6, 7, 8, 9, 10] (.cond (.t 5) (.seq (.reg [un (.asg 4 (.c (.int .i64 (-1))))])
 .ret)
 (.seq (.reg [un (.mov 12 (.t 0)),
 un (.len 13 (.t 12)),
 un (.mov 14 (.t 1)),
 un (.len 15 (.t 14)),
 un (.bin 16 .gtr (.t 13) (.t 15)),
 un (.asg 11 (.t 16))])
 (.drop [12, 13, 14, 15, 16] (.cond (.t 11) (.seq (.reg [un (.asg 4 (.c (.int .i64 1)))])
 .ret)
 .skip)))))))
 (.drop [6, 7, 8, 9, 10, 5, 12, 13, 14, 15, 16, 11] (.seq (.reg [un (.mov 17 (.t 0)),
 un (.mov 18 (.t 1)),
 un (.call 19 Ih [((.t 17), false), ((.t 18), false)]),
 un (.asg 4 (.t 19))])
 (.drop [17, 18, 19] .ret)))))
abbrev Wu : List RS := [.t 4]
theorem Wr : A4 Try.prog C6 20 W2 Wu = true := by kernel_rfl
def Afl : ACode :=
 (.seq (.reg [un (.asg 4 (.c (.nilsl 1)))])
 (.seq (.dreg [(un (.mov 5 (.t 0)), []),
 (un (.mov 6 (.t 1)), [5]),
 (un (.slc 7 1 (.t 5) none (some (.t 6))), []),
 (un (.call 8 Ns [((.t 7), false)]), []),
 (un (.mov 9 (.t 0)), [5, 6, 7, 8]),
 (un (.mov 10 (.t 1)), [5, 6, 7, 8, 9]),
 (un (.bin 11 .add (.t 10) (.c (.int .i64 1))), [5, 6, 7, 8, 9]),
 (un (.slc 12 1 (.t 9) (some (.t 11)) none), [5, 6, 7, 8])]
 [un (.app 13 1 (.t 8) (.t 12)),
 un (.asg 4 (.t 13))])
 (.drop [5, 6, 7, 8, 9, 10, 11, 12, 13] .ret)))
abbrev Adx : List RS := [.t 4]
theorem Adp : A4 Try.prog Ow 14 Afl Adx = true := by kernel_rfl
def Oi : ACode :=
 (.seq (.reg [un (.bin 22 .lss (.t 21) (.t 20))])
 (.seq (.cond (.t 22) .skip
 (.exit 2))
 (.seq (.block 3 (.seq (.reg [un (.mov 23 (.t 21)),
 un (.iad 24 1 (.t 19) (.t 21)),
 un (.ld 25 1 false (.t 24)),
 un (.asg 9 (.t 23)),
 un (.asg 10 (.t 25))])
 (.drop [23, 24, 25] (.seq (.reg [un (.mov 26 (.t 9)),
 un (.mov 27 (.t 6)),
 un (.bin 28 .neq (.t 26) (.t 27)),
 un (.asg 29 (.t 28)),
 ⟨some (29, true), .mov 30 (.t 1)⟩,
 ⟨some (29, true), .mov 31 (.t 7)⟩,
 ⟨some (29, true), .mov 32 (.t 10)⟩,
 ⟨some (29, true), .cally 33 (.t 30) [(.t 31), (.t 32)]⟩,
 un (.pick 34 (.t 29) (.t 33) (.c (.bool false)))])
 (.drop [26, 27, 28, 29, 30, 31, 32, 33] (.cond (.t 34) (.reg [un (.asg 8 (.c (.bool false)))])
 .skip))))))
 (.drop [23, 24, 25, 9, 10, 26, 27, 28, 29, 30, 31, 32, 33, 34] (.reg [un (.bin 35 .add (.t 21) (.c (.int .i64 1))),
 un (.asg 21 (.t 35))])))))
def Ox : ACode :=
 (.seq (.reg [un (.bin 15 .lss (.t 14) (.t 13))])
 (.seq (.cond (.t 15) .skip
 (.exit 0))
 (.seq (.block 1 (.seq (.reg [un (.mov 16 (.t 14)),
 un (.iad 17 1 (.t 12) (.t 14)),
 un (.ld 18 1 false (.t 17)),
 un (.asg 6 (.t 16)),
 un (.asg 7 (.t 18))])
 (.drop [16, 17, 18] (.seq (.reg [un (.asg 8 (.c (.bool true)))])
 (.seq (.seq (.reg [un (.mov 19 (.t 0)),
 un (.len 20 (.t 19)),
 un (.mov 21 (.c (.int .i64 0)))])
 (.block 2 (.loop Oi)))
 (.drop [19, 20, 21, 22, 23, 24, 25, 9, 10, 26, 27, 28, 29, 30, 31, 32, 33, 34, 35] (.seq (.reg [un (.mov 36 (.t 8))])
 (.cond (.t 36) (.reg [un (.mov 37 (.t 5)),
 un (.mov 38 (.t 7)),
 un (.call 39 Ns [((.t 38), false)]),
 un (.bsl 40 1 [(.t 39)]),
 un (.app 41 1 (.t 37) (.t 40)),
 un (.asg 5 (.t 41))])
 .skip))))))))
 (.drop [16, 17, 18, 6, 7, 8, 19, 20, 21, 22, 23, 24, 25, 9, 10, 26, 27, 28, 29, 30, 31, 32, 33, 34, 35, 36, 37, 38, 39, 40, 41] (.reg [un (.bin 42 .add (.t 14) (.c (.int .i64 1))),
 un (.asg 14 (.t 42))])))))
def Ac7 : ACode :=
 (.seq (.reg [un (.asg 4 (.c (.nilsl 1)))])
 (.seq (.reg [un (.bsl 11 1 []),
 un (.asg 5 (.t 11))])
 (.drop [11] (.seq (.seq (.reg [un (.mov 12 (.t 0)),
 un (.len 13 (.t 12)),
 un (.mov 14 (.c (.int .i64 0)))])
 (.block 0 (.loop Ox)))
 (.drop [12, 13, 14, 15, 16, 17, 18, 6, 7, 8, 19, 20, 21, 22, 23, 24, 25, 9, 10, 26, 27, 28, 29, 30, 31, 32, 33, 34, 35, 36, 37, 38, 39, 40, 41, 42] (.seq (.reg [un (.mov 43 (.t 5)),
 un (.asg 4 (.t 43))])
 (.drop [43] .ret)))))))
abbrev Acr : List RS := [.t 4]
theorem Acf : A4 Try.prog I0 44 Ac7 Acr = true := by kernel_rfl
def Rf : ACode :=
 (.seq (.reg [un (.bin 10 .lss (.t 9) (.t 8))])
 (.seq (.cond (.t 10) .skip
 (.exit 0))
 (.seq (.block 1 (.seq (.reg [un (.iad 11 1 (.t 7) (.t 9)),
 un (.ld 12 1 false (.t 11)),
 un (.asg 6 (.t 12))])
 (.drop [11, 12] (.seq (.reg [un (.mov 13 (.t 1)),
 un (.mov 14 (.t 6)),
 un (.call 15 L2 [((.t 13), false), ((.t 14), false)])])
 (.drop [13, 14] (.cond (.t 15) (.seq (.reg [un (.asg 4 (.c (.bool false)))])
 .ret)
 .skip))))))
 (.drop [11, 12, 6, 13, 14, 15] (.reg [un (.bin 16 .add (.t 9) (.c (.int .i64 1))),
 un (.asg 9 (.t 16))])))))
def Agk : ACode :=
 (.seq (.reg [un (.asg 4 (.c (.bool false)))])
 (.seq (.seq (.reg [un (.mov 7 (.t 0)),
 un (.len 8 (.t 7)),
 un (.mov 9 (.c (.int .i64 0)))])
 (.block 0 (.loop Rf)))
 (.drop [7, 8, 9, 10, 11, 12, 6, 13, 14, 15, 16] (.seq (.reg [un (.asg 4 (.c (.bool true)))])
 .ret))))
abbrev Ag0 : List RS := [.t 4]
theorem Ahp : A4 Try.prog Iq 17 Agk Ag0 = true := by kernel_rfl
def Ob : ACode :=
 (.seq (.seq (.reg [un (.mov 6 (.t 5)),
 un (.mov 7 (.t 0)),
 un (.len 8 (.t 7)),
 un (.bin 9 .lss (.t 6) (.t 8))])
 (.drop [6, 7, 8] (.cond (.t 9) .skip
 (.exit 0))))
 (.drop [6, 7, 8, 9] (.seq (.block 1 (.seq (.reg [un (.mov 12 (.t 1)),
 un (.mov 13 (.t 0)),
 un (.mov 14 (.t 5)),
 un (.iad 15 1 (.t 13) (.t 14)),
 un (.ld 16 1 false (.t 15)),
 un (.call 17 S8 [((.t 12), false), ((.t 16), false)]),
 un (.un 18 .not (.t 17))])
 (.drop [12, 13, 14, 15, 16, 17] (.cond (.t 18) (.seq (.reg [un (.asg 4 (.c (.bool false)))])
 .ret)
 .skip))))
 (.drop [12, 13, 14, 15, 16, 17, 18] (.reg [un (.mov 10 (.t 5)),
 un (.bin 11 .add (.t 10) (.c (.int .i64 1))),
 un (.asg 5 (.t 11))])))))
def Ac5 : ACode :=
 (.seq (.reg [un (.asg 4 (.c (.bool false)))])
 (.seq (.seq (.reg [un (.asg 5 (.c (.int .i64 0)))])
 (.block 0 (.loop Ob)))
 (.drop [5, 6, 7, 8, 9, 12, 13, 14, 15, 16, 17, 18, 10, 11] (.seq (.reg [un (.asg 4 (.c (.bool true)))])
 .ret))))
abbrev Aci : List RS := [.t 4]
theorem Acs : A4 Try.prog I2 19 Ac5 Aci = true := by kernel_rfl
def Afy : ACode :=
 (.seq (.reg [un (.alc 2 (.agg [.int .i64 0, .nilsl 2]))])
 (.seq (.seq (.reg [un (.mov 3 (.t 0))])
 (.block 0 (.seq (.reg [un (.bin 5 .eql (.t 3) (.c (.int .i64 0))),
 un (.asg 4 (.t 5))])
 (.drop [5] (.cond (.t 4) (.seq (.reg [⟨none, .call 6 A2 [((.c (.str ⟨#[48, 48, 48, 49]⟩)), false)]⟩,
 un (.bsl 7 2 [(.t 6)]),
 un (.bld 8 [.int .i64 0, .nilsl 2] [(0, 1, (.c (.int .i64 2))), (1, 1, (.t 7))]),
 un (.st 2 (.t 2) (.t 8))])
 (.drop [6, 7, 8] .ret))
 (.seq (.reg [un (.bin 10 .eql (.t 3) (.c (.int .i64 1))),
 un (.asg 9 (.t 10))])
 (.drop [10] (.cond (.t 9) (.seq (.reg [⟨none, .call 11 A2 [((.c (.str ⟨#[48, 48, 48, 49]⟩)), false)]⟩,
 ⟨none, .call 12 A2 [((.c (.str ⟨#[48, 49, 49, 49]⟩)), false)]⟩,
 un (.bsl 13 2 [(.t 11), (.t 12)]),
 un (.bld 14 [.int .i64 0, .nilsl 2] [(0, 1, (.c (.int .i64 2))), (1, 1, (.t 13))]),
 un (.st 2 (.t 2) (.t 14))])
 (.drop [11, 12, 13, 14] .ret))
 (.seq (.reg [un (.bin 16 .eql (.t 3) (.c (.int .i64 2))),
 un (.asg 15 (.t 16))])
 (.drop [16] (.cond (.t 15) (.seq (.reg [⟨none, .call 17 A2 [((.c (.str ⟨#[48, 48, 48, 49]⟩)), false)]⟩,
 ⟨none, .call 18 A2 [((.c (.str ⟨#[48, 49, 49, 49]⟩)), false)]⟩,
 un (.bsl 19 1 [(.c (.int .i64 1)), (.c (.int .i64 0))]),
 un (.bld 20 [.int .i64 0, .nilsl 1] [(0, 1, (.c (.int .i64 1))), (1, 1, (.t 19))]),
 un (.bsl 21 2 [(.t 17), (.t 18), (.t 20)]),
 un (.bld 22 [.int .i64 0, .nilsl 2] [(0, 1, (.c (.int .i64 2))), (1, 1, (.t 21))]),
 un (.st 2 (.t 2) (.t 22))])
 (.drop [17, 18, 19, 20, 21, 22] .ret))
 (.seq (.reg [un (.bin 24 .eql (.t 3) (.c (.int .i64 3))),
 un (.asg 23 (.t 24))])
 (.drop [24] (.cond (.t 23) (.seq (.reg [un (.call 25 I1 [((.c (.int .i64 2)), false)]),
 un (.bsl 26 2 [(.t 25)]),
 un (.bld 27 [.int .i64 0, .nilsl 2] [(0, 1, (.c (.int .i64 2))), (1, 1, (.t 26))]),
 un (.st 2 (.t 2) (.t 27))])
 (.drop [25, 26, 27] .ret))
 (.seq (.reg [un (.bin 29 .eql (.t 3) (.c (.int .i64 4))),
 un (.asg 28 (.t 29))])
 (.drop [29] (.cond (.t 28) (.seq (.reg [⟨none, .call 30 A2 [((.c (.str ⟨#[48, 49, 50, 49, 50, 48, 50, 48, 49]⟩)), false)]⟩,
 un (.bsl 31 2 [(.t 30)]),
 un (.bld 32 [.int .i64 0, .nilsl 2] [(0, 1, (.c (.int .i64 3))), (1, 1, (.t 31))]),
 un (.st 2 (.t 2) (.t 32))])
 (.drop [30, 31, 32] .ret))
 (.seq (.reg [un (.bin 34 .eql (.t 3) (.c (.int .i64 5))),
 un (.asg 33 (.t 34))])
 (.drop [34] (.cond (.t 33) (.seq (.reg [⟨none, .call 35 A2 [((.c (.str ⟨#[48, 49, 48, 49, 49, 50, 48, 50, 50]⟩)), false)]⟩,
 un (.bsl 36 2 [(.t 35)]),
 un (.bld 37 [.int .i64 0, .nilsl 2] [(0, 1, (.c (.int .i64 3))), (1, 1, (.t 36))]),
 un (.st 2 (.t 2) (.t 37))])
 (.drop [35, 36, 37] .ret))
 (.seq (.reg [un (.bin 39 .eql (.t 3) (.c (.int .i64 6))),
 un (.asg 38 (.t 39))])
 (.drop [39] (.cond (.t 38) (.seq (.reg [⟨none, .call 40 A2 [((.c (.str ⟨#[48, 49, 50, 51, 49, 48, 51, 50, 50, 51, 48, 49, 51, 50, 49, 48]⟩)), false)]⟩,
 un (.bsl 41 2 [(.t 40)]),
 un (.bld 42 [.int .i64 0, .nilsl 2] [(0, 1, (.c (.int .i64 4))), (1, 1, (.t 41))]),
 un (.st 2 (.t 2) (.t 42))])
 (.drop [40, 41, 42] .ret))
 (.seq (.reg [un (.bin 44 .eql (.t 3) (.c (.int .i64 7))),
 un (.asg 43 (.t 44))])
 (.drop [44] (.cond (.t 43) (.seq (.reg [⟨none, .call 45 A2 [((.c (.str ⟨#[48, 48, 48, 48, 49, 49, 48, 49, 50]⟩)), false)]⟩,
 ⟨none, .call 46 A2 [((.c (.str ⟨#[48, 49, 50, 49, 49, 50, 50, 50, 50]⟩)), false)]⟩,
 un (.bsl 47 2 [(.t 45), (.t 46)]),
 un (.bld 48 [.int .i64 0, .nilsl 2] [(0, 1, (.c (.int .i64 3))), (1, 1, (.t 47))]),
 un (.st 2 (.t 2) (.t 48))])
 (.drop [45, 46, 47, 48] .ret))
 (.seq (.reg [un (.bin 50 .eql (.t 3) (.c (.int .i64 8))),
 un (.asg 49 (.t 50))])
 (.drop [50] (.cond (.t 49) (.seq (.reg [un (.bsl 51 1 [(.c (.int .i64 1)), (.c (.int .i64 2)), (.c (.int .i64 3)), (.c (.int .i64 0))]),
 un (.bld 52 [.int .i64 0, .nilsl 1] [(0, 1, (.c (.int .i64 1))), (1, 1, (.t 51))]),
 un (.bsl 53 2 [(.t 52)]),
 un (.bld 54 [.int .i64 0, .nilsl 2] [(0, 1, (.c (.int .i64 4))), (1, 1, (.t 53))]),
 un (.st 2 (.t 2) (.t 54))])
 (.drop [51, 52, 53, 54] .ret))
 (.seq (.reg [un (.bin 56 .eql (.t 3) (.c (.int .i64 9))),
 un (.asg 55 (.t 56))])
 (.drop [56] (.cond (.t 55) (.seq (.reg [un (.bsl 57 1 [(.c (.int .i64 0)), (.c (.int .i64 0)), (.c (.int .i64 0)), (.c (.int .i64 1)), (.c (.int .i64 0)), (.c (.int .i64 1)), (.c (.int .i64 1)), (.c (.int .i64 1))]),
 un (.bld 58 [.int .i64 0, .nilsl 1] [(0, 1, (.c (.int .i64 3))), (1, 1, (.t 57))]),
 un (.bsl 59 2 [(.t 58)]),
 un (.bld 60 [.int .i64 0, .nilsl 2] [(0, 1, (.c (.int .i64 2))), (1, 1, (.t 59))]),
 un (.st 2 (.t 2) (.t 60))])
 (.drop [57, 58, 59, 60] .ret))
 (.seq (.reg [un (.bin 62 .eql (.t 3) (.c (.int .i64 10))),
 un (.asg 61 (.t 62))])
 (.drop [62] (.cond (.t 61) (.seq (.reg [⟨none, .call 63 A2 [((.c (.str ⟨#[48, 48, 48, 49, 49, 49, 50, 50, 50]⟩)), false)]⟩,
 un (.bsl 64 2 [(.t 63)]),
 un (.bld 65 [.int .i64 0, .nilsl 2] [(0, 1, (.c (.int .i64 3))), (1, 1, (.t 64))]),
 un (.st 2 (.t 2) (.t 65))])
 (.drop [63, 64, 65] .ret))
 (.seq (.reg [un (.bin 67 .eql (.t 3) (.c (.int .i64 11))),
 un (.asg 66 (.t 67))])
 (.drop [67] (.cond (.t 66) (.seq (.reg [⟨none, .call 68 A2 [((.c (.str ⟨#[48, 48, 48, 48, 48, 48, 49, 48, 48, 49, 48, 48, 50, 48, 50, 48, 48, 48, 51, 51, 48, 49, 50, 51, 52]⟩)), false)]⟩,
 ⟨none, .call 69 A2 [((.c (.str ⟨#[48, 49, 50, 51, 52, 49, 49, 52, 52, 52, 50, 52, 50, 52, 52, 51, 52, 52, 51, 52, 52, 52, 52, 52, 52]⟩)), false)]⟩,
 un (.bsl 70 2 [(.t 68), (.t 69)]),
 un (.bld 71 [.int .i64 0, .nilsl 2] [(0, 1, (.c (.int .i64 5))), (1, 1, (.t 70))]),
 un (.st 2 (.t 2) (.t 71))])
 (.drop [68, 69, 70, 71] .ret))
 (.seq (.reg [un (.bin 73 .eql (.t 3) (.c (.int .i64 12))),
 un (.asg 72 (.t 73))])
 (.drop [73] (.cond (.t 72) (.seq (.reg [⟨none, .call 74 A2 [((.c (.str ⟨#[48, 49, 50, 51, 49, 50, 51, 48, 50, 51, 48, 49, 51, 48, 49, 50]⟩)), false)]⟩,
 un (.bsl 75 2 [(.t 74)]),
 un (.bld 76 [.int .i64 0, .nilsl 2] [(0, 1, (.c (.int .i64 4))), (1, 1, (.t 75))]),
 un (.st 2 (.t 2) (.t 76))])
 (.drop [74, 75, 76] .ret))
 (.seq (.reg [un (.bin 78 .eql (.t 3) (.c (.int .i64 13))),
 un (.asg 77 (.t 78))])
 (.drop [78] (.cond (.t 77) (.seq (.reg [un (.bsl 79 1 [(.c (.int .i64 0)), (.c (.int .i64 0)), (.c (.int .i64 1))]),
 un (.bld 80 [.int .i64 0, .nilsl 1] [(0, 1, (.c (.int .i64 1))), (1, 1, (.t 79))]),
 un (.bsl 81 1 [(.c (.int .i64 2))]),
 un (.bld 82 [.int .i64 0, .nilsl 1] [(0, 1, (.c (.int .i64 0))), (1, 1, (.t 81))]),
 un (.bsl 83 2 [(.t 80), (.t 82)]),
 un (.bld 84 [.int .i64 0, .nilsl 2] [(0, 1, (.c (.int .i64 3))), (1, 1, (.t 83))]),
 un (.st 2 (.t 2) (.t 84))])
 (.drop [79, 80, 81, 82, 83, 84] .ret))
 (.seq (.reg [un (.bin 86 .eql (.t 3) (.c (.int .i64 14))),
 un (.asg 85 (.t 86))])
 (.drop [86] (.cond (.t 85) (.seq (.reg [⟨none, .call 87 A2 [((.c (.str ⟨#[48]⟩)), false)]⟩,
 un (.bsl 88 2 [(.t 87)]),
 un (.bld 89 [.int .i64 0, .nilsl 2] [(0, 1, (.c (.int .i64 1))), (1, 1, (.t 88))]),
 un (.st 2 (.t 2) (.t 89))])
 (.drop [87, 88, 89] .ret))
 (.seq (.reg [un (.bin 91 .eql (.t 3) (.c (.int .i64 15))),
 un (.asg 90 (.t 91))])
 (.drop [91] (.cond (.t 90) (.seq (.reg [un (.call 92 I1 [((.c (.int .i64 3)), false)]),
 un (.bsl 93 2 [(.t 92)]),
 un (.bld 94 [.int .i64 0, .nilsl 2] [(0, 1, (.c (.int .i64 3))), (1, 1, (.t 93))]),
 un (.st 2 (.t 2) (.t 94))])
 (.drop [92, 93, 94] .ret))
 .skip))))))))))))))))))))))))))))))))))))))))))))))))))
 (.drop [3, 5, 4, 6, 7, 8, 10, 9, 11, 12, 13, 14, 16, 15, 17, 18, 19, 20, 21, 22, 24, 23, 25, 26, 27, 29, 28, 30, 31, 32, 34, 33, 35, 36, 37, 39, 38, 40, 41, 42, 44, 43, 45, 46, 47, 48, 50, 49, 51, 52, 53, 54, 56, 55, 57, 58, 59, 60, 62, 61, 63, 64, 65, 67, 66, 68, 69, 70, 71, 73, 72, 74, 75, 76, 78, 77, 79, 80, 81, 82, 83, 84, 86, 85, 87, 88, 89, 91, 90, 92, 93, 94] (.seq (.reg [un (.bld 95 [.int .i64 0, .nilsl 2] [(0, 1, (.c (.int .i64 2)))]),
 un (.st 2 (.t 2) (.t 95))])
 (.drop [95] .ret)))))
abbrev Ae0 : List RS := [.c 2 2 true]
theorem Ad4 : A4 Try.prog Om 96 Afy Ae0 = true := by kernel_rfl
def Ak2 : ACode :=
 (.seq (.reg [un (.box 2 (.t 0)),
 un (.asg 4 (.c (.bool false)))])
 (.seq (.dreg [(un (.fadr 5 0 (.t 2)), []),
 (un (.ld 6 1 false (.t 5)), []),
 (un (.bin 7 .geq (.t 6) (.c (.int .i64 0))), []),
 (un (.asg 8 (.t 7)), []),
 (⟨some (8, true), .fadr 9 0 (.t 2)⟩, [7]),
 (⟨some (8, true), .ld 10 1 false (.t 9)⟩, [7]),
 (⟨some (8, true), .bin 11 .leq (.t 10) (.c (.int .i64 3))⟩, [7]),
 (un (.pick 12 (.t 8) (.t 11) (.c (.bool false))), [7]),
 (un (.asg 13 (.t 12)), [7]),
 (⟨some (13, true), .fadr 14 1 (.t 2)⟩, [7, 12]),
 (⟨some (13, true), .ld 15 1 false (.t 14)⟩, [7, 12]),
 (⟨some (13, true), .len 16 (.t 15)⟩, [7, 12]),
 (⟨some (13, true), .mov 17 (.t 1)⟩, [14, 15, 16, 7, 12]),
 (⟨some (13, true), .fadr 18 0 (.t 2)⟩, [14, 15, 16, 17, 7, 12]),
 (⟨some (13, true), .ld 19 1 false (.t 18)⟩, [14, 15, 16, 17, 7, 12]),
 (⟨some (13, true), .call 20 Sc [((.t 17), false), ((.t 19), false)]⟩, [14, 15, 16, 7, 12]),
 (⟨some (13, true), .bin 21 .eql (.t 16) (.t 20)⟩, [7, 12]),
 (un (.pick 22 (.t 13) (.t 21) (.c (.bool false))), [7, 12]),
 (un (.asg 23 (.t 22)), [7, 12]),
 (⟨some (23, true), .fadr 24 1 (.t 2)⟩, [7, 12, 22]),
 (⟨some (23, true), .ld 25 1 false (.t 24)⟩, [7, 12, 22]),
 (⟨some (23, true), .mov 26 (.t 1)⟩, [24, 25, 7, 12, 22])]
 [⟨some (23, true), .call 27 Ir [((.t 25), false), ((.t 26), false)]⟩,
 un (.pick 28 (.t 23) (.t 27) (.c (.bool false))),
 un (.asg 4 (.t 28))])
 (.drop [5, 6, 7, 8, 9, 10, 11, 12, 13, 14, 15, 16, 17, 18, 19, 20, 21, 22, 23, 24, 25, 26, 27, 28] .ret)))
abbrev Amf : List RS := [.t 4]
theorem And : A4 Try.prog V5 29 Ak2 Amf = true := by kernel_rfl
def Aft : ACode :=
 (.seq (.dreg [(un (.fadr 6 0 (.t 3)), []),
 (un (.ld 7 1 false (.t 6)), []),
 (un (.call 8 J0 [((.t 7), false), ((.c (.int .i64 0)), false), ((.c (.int .i64 3)), false)]), []),
 (un (.un 9 .not (.t 8)), []),
 (un (.asg 10 (.t 9)), []),
 (⟨some (10, false), .fadr 11 1 (.t 3)⟩, [9]),
 (⟨some (10, false), .ld 12 1 false (.t 11)⟩, [9]),
 (⟨some (10, false), .len 13 (.t 12)⟩, [9]),
 (⟨some (10, false), .mov 14 (.t 0)⟩, [11, 12, 13, 9]),
 (⟨some (10, false), .fadr 15 0 (.t 3)⟩, [11, 12, 13, 14, 9]),
 (⟨some (10, false), .ld 16 1 false (.t 15)⟩, [11, 12, 13, 14, 9]),
 (⟨some (10, false), .call 17 Nu [((.t 14), false), ((.t 16), false)]⟩, [11, 12, 13, 9])]
 [⟨some (10, false), .bin 18 .neq (.t 13) (.t 17)⟩,
 un (.pick 19 (.t 10) (.c (.bool true)) (.t 18))])
 (.drop [6, 7, 8, 9, 10, 11, 12, 13, 14, 15, 16, 17, 18] (.cond (.t 19) (.seq (.reg [un (.asg 4 (.c (.bool false)))])
 .ret)
 .skip)))
def U5 : ACode :=
 (.seq (.seq (.reg [un (.mov 20 (.t 5)),
 un (.fadr 21 1 (.t 3)),
 un (.ld 22 1 false (.t 21)),
 un (.len 23 (.t 22)),
 un (.bin 24 .lss (.t 20) (.t 23))])
 (.drop [20, 21, 22, 23] (.cond (.t 24) .skip
 (.exit 0))))
 (.drop [20, 21, 22, 23, 24] (.seq (.block 1 (.seq (.reg [un (.fadr 27 1 (.t 3)),
 un (.ld 28 1 false (.t 27)),
 un (.mov 29 (.t 5)),
 un (.iad 30 1 (.t 28) (.t 29)),
 un (.ld 31 1 false (.t 30)),
 un (.mov 32 (.t 0)),
 un (.bin 33 .sub (.t 32) (.c (.int .i64 1))),
 un (.call 34 J0 [((.t 31), false), ((.c (.int .i64 0)), false), ((.t 33), false)]),
 un (.un 35 .not (.t 34))])
 (.drop [27, 28, 29, 30, 31, 32, 33, 34] (.cond (.t 35) (.seq (.reg [un (.asg 4 (.c (.bool false)))])
 .ret)
 .skip))))
 (.drop [27, 28, 29, 30, 31, 32, 33, 34, 35] (.reg [un (.mov 25 (.t 5)),
 un (.bin 26 .add (.t 25) (.c (.int .i64 1))),
 un (.asg 5 (.t 26))])))))
def Ane : ACode :=
 (.seq (.reg [un (.box 3 (.t 1)),
 un (.asg 4 (.c (.bool false)))])
 (.seq (.cut Aft)
 (.drop [6, 7, 8, 9, 10, 11, 12, 13, 14, 15, 16, 17, 18, 19] (.seq (.seq (.reg [un (.asg 5 (.c (.int .i64 0)))])
 (.block 0 (.loop U5)))
 (.drop [5, 20, 21, 22, 23, 24, 27, 28, 29, 30, 31, 32, 33, 34, 35, 25, 26] (.seq (.reg [un (.asg 4 (.c (.bool true)))])
 .ret))))))
abbrev Al7 : List RS := [.t 4]
theorem Amd : A4 Try.prog Vx 36 Ane Al7 = true := by kernel_rfl
def Md : ACode :=
 (.seq (.reg [un (.bin 22 .lss (.t 21) (.t 20))])
 (.seq (.cond (.t 22) .skip
 (.exit 4))
 (.seq (.block 5 (.seq (.reg [un (.mov 23 (.t 21)),
 un (.iad 24 1 (.t 19) (.t 21)),
 un (.ld 25 1 false (.t 24)),
 un (.asg 8 (.t 23)),
 un (.asg 9 (.t 25))])
 (.drop [23, 24, 25] (.seq (.reg [un (.mov 26 (.t 1)),
 un (.mov 27 (.t 9)),
 un (.iad 28 1 (.t 26) (.t 27)),
 un (.ld 29 1 false (.t 28)),
 un (.un 30 .not (.t 29)),
 un (.asg 31 (.t 30)),
 ⟨some (31, true), .mov 32 (.t 8)⟩,
 ⟨some (31, true), .fadr 33 0 (.t 7)⟩,
 ⟨some (31, true), .ld 34 1 false (.t 33)⟩,
 ⟨some (31, true), .fadr 35 0 (.t 2)⟩,
 ⟨some (31, true), .ld 36 1 false (.t 35)⟩,
 ⟨some (31, true), .mov 37 (.t 1)⟩,
 ⟨some (31, true), .call 38 Te [((.t 32), false), ((.t 34), false), ((.t 36), false), ((.t 37), false)]⟩,
 un (.pick 39 (.t 31) (.t 38) (.c (.bool false)))])
 (.drop [26, 27, 28, 29, 30, 31, 32, 33, 34, 35, 36, 37, 38] (.cond (.t 39) (.seq (.reg [un (.mov 40 (.t 1)),
 un (.mov 41 (.t 9)),
 un (.iad 42 1 (.t 40) (.t 41)),
 un (.st 1 (.t 42) (.c (.bool true)))])
 (.drop [40, 41, 42] (.reg [un (.asg 5 (.c (.bool true)))])))
 .skip))))))
 (.drop [23, 24, 25, 8, 9, 26, 27, 28, 29, 30, 31, 32, 33, 34, 35, 36, 37, 38, 39, 40, 41, 42] (.reg [un (.bin 43 .add (.t 21) (.c (.int .i64 1))),
 un (.asg 21 (.t 43))])))))
def Mr : ACode :=
 (.seq (.reg [un (.bin 15 .lss (.t 14) (.t 13))])
 (.seq (.cond (.t 15) .skip
 (.exit 2))
 (.seq (.block 3 (.seq (.reg [un (.iad 16 2 (.t 12) (.t 14)),
 un (.ld 17 2 true (.t 16)),
 un (.alc 7 (.agg [.int .i64 0, .nilsl 1])),
 un (.st 2 (.t 7) (.t 17))])
 (.drop [16, 17] (.seq (.reg [un (.fadr 18 1 (.t 7)),
 un (.ld 19 1 false (.t 18)),
 un (.len 20 (.t 19)),
 un (.mov 21 (.c (.int .i64 0)))])
 (.drop [18] (.block 4 (.loop Md)))))))
 (.drop [16, 17, 7, 18, 19, 20, 21, 22, 23, 24, 25, 8, 9, 26, 27, 28, 29, 30, 31, 32, 33, 34, 35, 36, 37, 38, 39, 40, 41, 42, 43] (.reg [un (.bin 44 .add (.t 14) (.c (.int .i64 1))),
 un (.asg 14 (.t 44))])))))
def Mh : ACode :=
 (.seq (.seq (.reg [un (.mov 10 (.t 5))])
 (.cond (.t 10) .skip
 (.exit 0)))
 (.drop [10] (.block 1 (.seq (.reg [un (.asg 5 (.c (.bool false)))])
 (.seq (.reg [un (.fadr 11 1 (.t 2)),
 un (.ld 12 1 false (.t 11)),
 un (.len 13 (.t 12)),
 un (.mov 14 (.c (.int .i64 0)))])
 (.drop [11] (.block 2 (.loop Mr))))))))
def Zh : ACode :=
 (.seq (.reg [un (.box 2 (.t 0)),
 un (.asg 4 (.c (.nilsl 1)))])
 (.seq (.seq (.reg [un (.asg 5 (.c (.bool true)))])
 (.block 0 (.loop Mh)))
 (.drop [5, 10, 11, 12, 13, 14, 15, 16, 17, 7, 18, 19, 20, 21, 22, 23, 24, 25, 8, 9, 26, 27, 28, 29, 30, 31, 32, 33, 34, 35, 36, 37, 38, 39, 40, 41, 42, 43, 44] (.seq (.reg [un (.mov 45 (.t 1)),
 un (.asg 4 (.t 45))])
 (.drop [45] .ret)))))
abbrev Aaa : List RS := [.t 4]
theorem Z3 : A4 Try.prog J6 46 Zh Aaa = true := by kernel_rfl
def Oe : ACode :=
 (.seq (.seq (.reg [un (.mov 8 (.t 7)),
 un (.mov 9 (.t 0)),
 un (.len 10 (.t 9)),
 un (.bin 11 .lss (.t 8) (.t 10))])
 (.drop [8, 9, 10] (.cond (.t 11) .skip
 (.exit 0))))
 (.drop [8, 9, 10, 11] (.seq (.block 1 (.seq (.dreg [(un (.mov 14 (.t 0)), []),
 (un (.mov 15 (.t 7)), [14]),
 (un (.iad 16 1 (.t 14) (.t 15)), []),
 (un (.ld 17 1 false (.t 16)), []),
 (un (.mov 18 (.t 1)), [14, 15, 16, 17]),
 (un (.mov 19 (.t 2)), [14, 15, 16, 17, 18]),
 (un (.call 20 J0 [((.t 17), false), ((.t 18), false), ((.t 19), false)]), []),
 (un (.un 21 .not (.t 20)), []),
 (un (.asg 22 (.t 21)), []),
 (⟨some (22, false), .mov 23 (.t 7)⟩, [21]),
 (⟨some (22, false), .bin 24 .gtr (.t 23) (.c (.int .i64 0))⟩, [21]),
 (⟨some (22, false), .asg 25 (.t 24)⟩, [21]),
 (⟨some (25, true), .mov 26 (.t 0)⟩, [21, 24]),
 (⟨some (25, true), .mov 27 (.t 7)⟩, [26, 21, 24]),
 (⟨some (25, true), .bin 28 .sub (.t 27) (.c (.int .i64 1))⟩, [26, 21, 24]),
 (⟨some (25, true), .iad 29 1 (.t 26) (.t 28)⟩, [21, 24]),
 (⟨some (25, true), .ld 30 1 false (.t 29)⟩, [21, 24]),
 (⟨some (25, true), .mov 31 (.t 0)⟩, [26, 27, 28, 29, 30, 21, 24]),
 (⟨some (25, true), .mov 32 (.t 7)⟩, [26, 27, 28, 29, 30, 31, 21, 24]),
 (⟨some (25, true), .iad 33 1 (.t 31) (.t 32)⟩, [26, 27, 28, 29, 30, 21, 24]),
 (⟨some (25, true), .ld 34 1 false (.t 33)⟩, [26, 27, 28, 29, 30, 21, 24])]
 [⟨some (25, true), .bin 35 .geq (.t 30) (.t 34)⟩,
 ⟨some (22, false), .pick 36 (.t 25) (.t 35) (.c (.bool false))⟩,
 un (.pick 37 (.t 22) (.c (.bool true)) (.t 36))])
 (.drop [14, 15, 16, 17, 18, 19, 20, 21, 22, 23, 24, 25, 26, 27, 28, 29, 30, 31, 32, 33, 34, 35, 36] (.cond (.t 37) (.seq (.reg [un (.asg 6 (.c (.bool false)))])
 .ret)
 .skip))))
 (.drop [14, 15, 16, 17, 18, 19, 20, 21, 22, 23, 24, 25, 26, 27, 28, 29, 30, 31, 32, 33, 34, 35, 36, 37] (.reg [un (.mov 12 (.t 7)),
 un (.bin 13 .add (.t 12) (.c (.int .i64 1))),
 un (.asg 7 (.t 13))])))))
def Ace : ACode :=
 (.seq (.reg [un (.asg 6 (.c (.bool false)))])
 (.seq (.seq (.reg [un (.asg 7 (.c (.int .i64 0)))])
 (.block 0 (.loop Oe)))
 (.drop [7, 8, 9, 10, 11, 14, 15, 16, 17, 18, 19, 20, 21, 22, 23, 24, 25, 26, 27, 28, 29, 30, 31, 32, 33, 34, 35, 36, 37, 12, 13] (.seq (.reg [un (.asg 6 (.c (.bool true)))])
 .ret))))
abbrev Ac6 : List RS := [.t 6]
theorem Acn : A4 Try.prog M6 38 Ace Ac6 = true := by kernel_rfl
def Rj : ACode :=
 (.seq (.seq (.reg [un (.mov 8 (.t 5)),
 un (.bin 9 .gtr (.t 8) (.c (.int .i64 0))),
 un (.asg 10 (.t 9)),
 ⟨some (10, true), .mov 11 (.t 1)⟩,
 ⟨some (10, true), .len 12 (.t 11)⟩,
 ⟨some (10, true), .mov 13 (.t 0)⟩,
 ⟨some (10, true), .mov 14 (.t 5)⟩,
 ⟨some (10, true), .bin 15 .sub (.t 14) (.c (.int .i64 1))⟩,
 ⟨some (10, true), .iad 16 1 (.t 13) (.t 15)⟩,
 ⟨some (10, true), .ld 17 1 false (.t 16)⟩,
 ⟨some (10, true), .len 18 (.t 17)⟩,
 ⟨some (10, true), .bin 19 .lss (.t 12) (.t 18)⟩,
 ⟨some (10, true), .asg 20 (.t 19)⟩,
 ⟨some (20, false), .mov 21 (.t 1)⟩,
 ⟨some (20, false), .len 22 (.t 21)⟩,
 ⟨some (20, false), .mov 23 (.t 0)⟩,
 ⟨some (20, false), .mov 24 (.t 5)⟩,
 ⟨some (20, false), .bin 25 .sub (.t 24) (.c (.int .i64 1))⟩,
 ⟨some (20, false), .iad 26 1 (.t 23) (.t 25)⟩,
 ⟨some (20, false), .ld 27 1 false (.t 26)⟩,
 ⟨some (20, false), .len 28 (.t 27)⟩,
 ⟨some (20, false), .bin 29 .eql (.t 22) (.t 28)⟩,
 ⟨some (20, false), .asg 30 (.t 29)⟩,
 ⟨some (30, true), .mov 31 (.t 1)⟩,
 ⟨some (30, true), .mov 32 (.t 0)⟩,
 ⟨some (30, true), .mov 33 (.t 5)⟩,
 ⟨some (30, true), .bin 34 .sub (.t 33) (.c (.int .i64 1))⟩,
 ⟨some (30, true), .iad 35 1 (.t 32) (.t 34)⟩,
 ⟨some (30, true), .ld 36 1 false (.t 35)⟩,
 ⟨some (30, true), .call 37 L3 [((.t 31), false), ((.t 36), false)]⟩,
 ⟨some (20, false), .pick 38 (.t 30) (.t 37) (.c (.bool false))⟩,
 ⟨some (10, true), .pick 39 (.t 20) (.c (.bool true)) (.t 38)⟩,
 un (.pick 40 (.t 10) (.t 39) (.c (.bool false)))])
 (.drop [8, 9, 10, 11, 12, 13, 14, 15, 16, 17, 18, 19, 20, 21, 22, 23, 24, 25, 26, 27, 28, 29, 30, 31, 32, 33, 34, 35, 36, 37, 38, 39] (.cond (.t 40) .skip
 (.exit 0))))
 (.drop [8, 9, 10, 11, 12, 13, 14, 15, 16, 17, 18, 19, 20, 21, 22, 23, 24, 25, 26, 27, 28, 29, 30, 31, 32, 33, 34, 35, 36, 37, 38, 39, 40] (.block 1 (.reg [un (.mov 41 (.t 5)),
 un (.bin 42 .sub (.t 41) (.c (.int .i64 1))),
 un (.asg 5 (.t 42))]))))
def Agv : ACode :=
 (.seq (.reg [un (.asg 4 (.c (.nilsl 1)))])
 (.seq (.reg [un (.mov 6 (.t 0)),
 un (.len 7 (.t 6)),
 un (.asg 5 (.t 7))])
 (.drop [6, 7] (.seq (.block 0 (.loop Rj))
 (.drop [8, 9, 10, 11, 12, 13, 14, 15, 16, 17, 18, 19, 20, 21, 22, 23, 24, 25, 26, 27, 28, 29, 30, 31, 32, 33, 34, 35, 36, 37, 38, 39, 40, 41, 42] (.seq (.dreg [(un (.bsl 43 1 []), [48]),
 (un (.mov 44 (.t 0)), [43, 48]),
 (un (.mov 45 (.t 5)), [43, 44, 48]),
 (un (.slc 46 1 (.t 44) none (some (.t 45))), [43, 48]),
 (un (.app 47 1 (.t 43) (.t 46)), [48]),
 (un (.mov 48 (.t 1)), [43, 44, 45, 46, 47, 43]),
 (un (.bsl 49 1 [(.t 48)]), [43, 44, 45, 46, 47, 43]),
 (un (.app 50 1 (.t 47) (.t 49)), [43, 48]),
 (un (.mov 51 (.t 0)), [43, 44, 45, 46, 47, 48, 49, 50, 43, 48, 47]),
 (un (.mov 52 (.t 5)), [43, 44, 45, 46, 47, 48, 49, 50, 51, 43, 48, 47]),
 (un (.slc 53 1 (.t 51) (some (.t 52)) none), [43, 44, 45, 46, 47, 48, 49, 50, 43, 48, 47])]
 [un (.app 54 1 (.t 50) (.t 53)),
 un (.asg 4 (.t 54))])
 (.drop [43, 44, 45, 46, 47, 48, 49, 50, 51, 52, 53, 54] .ret)))))))
abbrev Ag9 : List RS := [.t 4]
theorem Ag4 : A4 Try.prog Qd 55 Agv Ag9 = true := by kernel_rfl
def Aa0 : ACode :=
 (.seq (.reg [un (.asg 4 (.c (.bool false)))])
 (.seq (.reg [un (.mov 5 (.t 0)),
 un (.mov 6 (.t 1)),
 un (.call 7 Bg [((.t 5), true), ((.t 6), false)]),
 un (.bin 8 .eql (.t 7) (.c (.int .i64 0))),
 un (.asg 4 (.t 8))])
 (.drop [5, 6, 7, 8] .ret)))
abbrev Abe : List RS := [.t 4]
theorem Aap : A4 Try.prog Lm 9 Aa0 Abe = true := by kernel_rfl
def Yd : ACode :=
 (.seq (.reg [un (.asg 4 (.c (.int .i64 0)))])
 (.seq (.reg [un (.mov 5 (.t 1)),
 un (.mov 6 (.t 0)),
 un (.mov 7 (.t 1)),
 un (.len 8 (.t 7)),
 un (.call 9 Bg [((.t 6), true), ((.t 8), false)]),
 un (.iad 10 1 (.t 5) (.t 9)),
 un (.ld 11 1 false (.t 10)),
 un (.asg 4 (.t 11))])
 (.drop [5, 6, 7, 8, 9, 10, 11] .ret)))
abbrev Yp : List RS := [.t 4]
theorem Xz : A4 Try.prog Bk 12 Yd Yp = true := by kernel_rfl
def Acp : ACode :=
 (.seq (.reg [un (.box 2 (.t 0)),
 un (.asg 4 (.c (.nilsl 1)))])
 (.seq (.dreg [(un (.ld 5 2 true (.t 2)), []),
 (un (.mov 6 (.t 1)), [5]),
 (un (.fadr 7 0 (.t 2)), [5, 6]),
 (un (.ld 8 1 false (.t 7)), [5, 6]),
 (un (.call 9 S7 [((.t 6), false), ((.t 8), false)]), [5])]
 [un (.call 10 J6 [((.t 5), false), ((.t 9), true)]),
 un (.call 11 Qg [((.t 10), false)]),
 un (.asg 4 (.t 11))])
 (.drop [5, 6, 7, 8, 9, 10, 11] .ret)))
abbrev Acw : List RS := [.t 4]
theorem Acy : A4 Try.prog Db 12 Acp Acw = true := by kernel_rfl
def Pg : ACode :=
 (.seq (.seq (.reg [un (.mov 11 (.t 6)),
 un (.fadr 12 0 (.t 2)),
 un (.ld 13 1 false (.t 12)),
 un (.bin 14 .leq (.t 11) (.t 13))])
 (.drop [11, 12, 13] (.cond (.t 14) .skip
 (.exit 0))))
 (.drop [11, 12, 13, 14] (.seq (.block 1 (.reg [un (.ld 17 2 true (.t 2)),
 un (.mov 18 (.t 5)),
 un (.call 19 P7 [((.t 17), false), ((.t 18), false)]),
 un (.asg 5 (.t 19))]))
 (.drop [17, 18, 19] (.reg [un (.mov 15 (.t 6)),
 un (.bin 16 .add (.t 15) (.c (.int .i64 1))),
 un (.asg 6 (.t 16))])))))
def Aef : ACode :=
 (.seq (.reg [un (.box 2 (.t 0)),
 un (.asg 4 (.c (.nilsl 1)))])
 (.seq (.reg [un (.fadr 7 0 (.t 2)),
 un (.ld 8 1 false (.t 7)),
 un (.mov 9 (.t 1)),
 un (.call 10 Ue [((.t 8), false), ((.t 9), false)]),
 un (.asg 5 (.t 10))])
 (.drop [7, 8, 9, 10] (.seq (.seq (.reg [un (.asg 6 (.c (.int .i64 0)))])
 (.block 0 (.loop Pg)))
 (.drop [6, 11, 12, 13, 14, 17, 18, 19, 15, 16] (.seq (.reg [un (.mov 20 (.t 5)),
 un (.call 21 Qb [((.t 20), false)]),
 un (.asg 4 (.t 21))])
 (.drop [20, 21] .ret)))))))
abbrev Aeu : List RS := [.t 4]
theorem Ad0 : A4 Try.prog Gc 22 Aef Aeu = true := by kernel_rfl
def Wy : ACode :=
 (.seq (.reg [un (.fadr 5 0 (.t 1)),
 un (.ld 6 1 false (.t 5)),
 un (.bin 7 .lss (.t 6) (.c (.int .i64 1))),
 un (.asg 8 (.t 7)),
 ⟨some (8, false), .fadr 9 0 (.t 1)⟩,
 ⟨some (8, false), .ld 10 1 false (.t 9)⟩,
 ⟨some (8, false), .bin 11 .gtr (.t 10) (.c (.int .i64 8))⟩,
 un (.pick 12 (.t 8) (.c (.bool true)) (.t 11)),
 un (.asg 13 (.t 12)),
 ⟨some (13, false), .fadr 14 1 (.t 1)⟩,
 ⟨some (13, false), .ld 15 1 false (.t 14)⟩,
 ⟨some (13, false), .len 16 (.t 15)⟩,
 ⟨some (13, false), .bin 17 .gtr (.t 16) (.c (.int .i64 4))⟩,
 un (.pick 18 (.t 13) (.c (.bool true)) (.t 17))])
 (.drop [5, 6, 7, 8, 9, 10, 11, 12, 13, 14, 15, 16, 17] (.cond (.t 18) (.seq (.reg [un (.asg 2 (.c (.bool false)))])
 .ret)
 .skip)))
def Ng : ACode :=
 (.seq (.reg [un (.bin 23 .lss (.t 22) (.t 21))])
 (.seq (.cond (.t 23) .skip
 (.exit 0))
 (.seq (.block 1 (.seq (.reg [un (.iad 24 2 (.t 20) (.t 22)),
 un (.ld 25 2 true (.t 24)),
 un (.alc 4 (.agg [.int .i64 0, .nilsl 1])),
 un (.st 2 (.t 4) (.t 25))])
 (.drop [24, 25] (.seq (.reg [un (.ld 26 2 true (.t 4)),
 un (.fadr 27 0 (.t 1)),
 un (.ld 28 1 false (.t 27)),
 un (.call 29 V5 [((.t 26), false), ((.t 28), false)]),
 un (.un 30 .not (.t 29))])
 (.drop [26, 27, 28, 29] (.cond (.t 30) (.seq (.reg [un (.asg 2 (.c (.bool false)))])
 .ret)
 .skip))))))
 (.drop [24, 25, 4, 26, 27, 28, 29, 30] (.reg [un (.bin 31 .add (.t 22) (.c (.int .i64 1))),
 un (.asg 22 (.t 31))])))))
def Abp : ACode :=
 (.seq (.reg [un (.box 1 (.t 0)),
 un (.asg 2 (.c (.bool false)))])
 (.seq (.cut Wy)
 (.drop [5, 6, 7, 8, 9, 10, 11, 12, 13, 14, 15, 16, 17, 18] (.seq (.seq (.reg [un (.fadr 19 1 (.t 1)),
 un (.ld 20 1 false (.t 19)),
 un (.len 21 (.t 20)),
 un (.mov 22 (.c (.int .i64 0)))])
 (.drop [19] (.block 0 (.loop Ng))))
 (.drop [19, 20, 21, 22, 23, 24, 25, 4, 26, 27, 28, 29, 30, 31] (.seq (.reg [un (.asg 2 (.c (.bool true)))])
 .ret))))))
abbrev Aaw : List RS := [.t 2]
theorem Abo : A4 Try.prog Di 32 Abp Aaw = true := by kernel_rfl
def Abf : ACode :=
 (.seq (.reg [un (.fadr 4 0 (.t 1)),
 un (.ld 5 1 false (.t 4)),
 un (.call 6 J0 [((.t 5), false), ((.c (.int .i64 1)), false), ((.c (.int .i64 8)), false)]),
 un (.un 7 .not (.t 6)),
 un (.asg 8 (.t 7)),
 ⟨some (8, false), .fadr 9 1 (.t 1)⟩,
 ⟨some (8, false), .ld 10 1 false (.t 9)⟩,
 ⟨some (8, false), .len 11 (.t 10)⟩,
 ⟨some (8, false), .bin 12 .gtr (.t 11) (.c (.int .i64 4))⟩,
 un (.pick 13 (.t 8) (.c (.bool true)) (.t 12))])
 (.drop [4, 5, 6, 7, 8, 9, 10, 11, 12] (.cond (.t 13) (.seq (.reg [un (.asg 2 (.c (.bool false)))])
 .ret)
 .skip)))
def Rb : ACode :=
 (.seq (.seq (.reg [un (.mov 14 (.t 3)),
 un (.fadr 15 1 (.t 1)),
 un (.ld 16 1 false (.t 15)),
 un (.len 17 (.t 16)),
 un (.bin 18 .lss (.t 14) (.t 17))])
 (.drop [14, 15, 16, 17] (.cond (.t 18) .skip
 (.exit 0))))
 (.drop [14, 15, 16, 17, 18] (.seq (.block 1 (.seq (.dreg [(un (.fadr 21 0 (.t 1)), []),
 (un (.ld 22 1 false (.t 21)), []),
 (un (.fadr 23 1 (.t 1)), [21, 22]),
 (un (.ld 24 1 false (.t 23)), [21, 22]),
 (un (.mov 25 (.t 3)), [21, 22, 23, 24]),
 (un (.iad 26 2 (.t 24) (.t 25)), [21, 22]),
 (un (.ld 27 2 true (.t 26)), [21, 22])]
 [un (.call 28 Vx [((.t 22), false), ((.t 27), false)]),
 un (.un 29 .not (.t 28))])
 (.drop [21, 22, 23, 24, 25, 26, 27, 28] (.cond (.t 29) (.seq (.reg [un (.asg 2 (.c (.bool false)))])
 .ret)
 .skip))))
 (.drop [21, 22, 23, 24, 25, 26, 27, 28, 29] (.reg [un (.mov 19 (.t 3)),
 un (.bin 20 .add (.t 19) (.c (.int .i64 1))),
 un (.asg 3 (.t 20))])))))
def Ago : ACode :=
 (.seq (.reg [un (.box 1 (.t 0)),
 un (.asg 2 (.c (.bool false)))])
 (.seq (.cut Abf)
 (.drop [4, 5, 6, 7, 8, 9, 10, 11, 12, 13] (.seq (.seq (.reg [un (.asg 3 (.c (.int .i64 0)))])
 (.block 0 (.loop Rb)))
 (.drop [3, 14, 15, 16, 17, 18, 21, 22, 23, 24, 25, 26, 27, 28, 29, 19, 20] (.seq (.reg [un (.asg 2 (.c (.bool true)))])
 .ret))))))
abbrev Aha : List RS := [.t 2]
theorem Ag1 : A4 Try.prog G5 30 Ago Aha = true := by kernel_rfl
def U7 : ACode :=
 (.seq (.reg [un (.asg 4 (.c (.bool false)))])
 (.seq (.reg [un (.mov 5 (.t 1)),
 un (.mov 6 (.t 0)),
 un (.call 7 Iq [((.t 5), false), ((.t 6), false)]),
 un (.asg 4 (.t 7))])
 (.drop [5, 6, 7] .ret)))
abbrev Vi : List RS := [.t 4]
theorem Uf : A4 Try.prog Dx 8 U7 Vi = true := by kernel_rfl
def Jp : ACode :=
 (.seq (.reg [un (.bin 21 .lss (.t 20) (.t 19))])
 (.seq (.cond (.t 21) .skip
 (.exit 0))
 (.seq (.block 1 (.seq (.reg [un (.mov 22 (.t 20)),
 un (.asg 5 (.t 22))])
 (.drop [22] (.dreg [(un (.mov 23 (.t 4)), []),
 (un (.mov 24 (.t 5)), [23]),
 (un (.ld 25 2 true (.t 1)), [23, 24]),
 (un (.mov 26 (.t 5)), [23, 24, 25]),
 (un (.call 27 Iv [((.t 26), false)]), [23, 24, 25]),
 (un (.call 28 Db [((.t 25), false), ((.t 27), false)]), [23, 24]),
 (un (.len 29 (.t 28)), [23, 24]),
 (un (.fadr 30 0 (.t 1)), [23, 24, 25, 26, 27, 28, 29]),
 (un (.ld 31 1 false (.t 30)), [23, 24, 25, 26, 27, 28, 29]),
 (un (.bin 32 .eql (.t 29) (.t 31)), [23, 24])]
 [un (.iad 33 1 (.t 23) (.t 24)),
 un (.st 1 (.t 33) (.t 32))]))))
 (.drop [22, 5, 23, 24, 25, 26, 27, 28, 29, 30, 31, 32, 33] (.reg [un (.bin 34 .add (.t 20) (.c (.int .i64 1))),
 un (.asg 20 (.t 34))])))))
def Jq : ACode :=
 (.seq (.reg [un (.bin 45 .lss (.t 44) (.t 43))])
 (.seq (.cond (.t 45) .skip
 (.exit 4))
 (.seq (.block 5 (.seq (.reg [un (.mov 46 (.t 44)),
 un (.asg 9 (.t 46))])
 (.drop [46] (.seq (.reg [un (.mov 47 (.t 9)),
 un (.mov 48 (.t 7)),
 un (.bin 49 .shr (.t 47) (.t 48)),
 un (.bin 50 .and (.t 49) (.c (.int .i64 1))),
 un (.bin 51 .eql (.t 50) (.c (.int .i64 1))),
 un (.asg 52 (.t 51)),
 ⟨some (52, true), .mov 53 (.t 4)⟩,
 ⟨some (52, true), .mov 54 (.t 9)⟩,
 ⟨some (52, true), .iad 55 1 (.t 53) (.t 54)⟩,
 ⟨some (52, true), .ld 56 1 false (.t 55)⟩,
 un (.pick 57 (.t 52) (.t 56) (.c (.bool false))),
 un (.asg 58 (.t 57)),
 ⟨some (58, true), .mov 59 (.t 4)⟩,
 ⟨some (58, true), .mov 60 (.t 9)⟩,
 ⟨some (58, true), .mov 61 (.t 7)⟩,
 ⟨some (58, true), .bin 62 .shl (.c (.int .i64 1)) (.t 61)⟩,
 ⟨some (58, true), .bin 63 .sub (.t 60) (.t 62)⟩,
 ⟨some (58, true), .iad 64 1 (.t 59) (.t 63)⟩,
 ⟨some (58, true), .ld 65 1 false (.t 64)⟩,
 ⟨some (58, true), .un 66 .not (.t 65)⟩,
 un (.pick 67 (.t 58) (.t 66) (.c (.bool false)))])
 (.drop [47, 48, 49, 50, 51, 52, 53, 54, 55, 56, 57, 58, 59, 60, 61, 62, 63, 64, 65, 66] (.cond (.t 67) (.reg [un (.asg 8 (.c (.bool false)))])
 .skip))))))
 (.drop [46, 9, 47, 48, 49, 50, 51, 52, 53, 54, 55, 56, 57, 58, 59, 60, 61, 62, 63, 64, 65, 66, 67] (.reg [un (.bin 68 .add (.t 44) (.c (.int .i64 1))),
 un (.asg 44 (.t 68))])))))
def Jm : ACode :=
 (.seq (.seq (.reg [un (.mov 36 (.t 7)),
 un (.fadr 37 0 (.t 1)),
 un (.ld 38 1 false (.t 37)),
 un (.bin 39 .lss (.t 36) (.t 38))])
 (.drop [36, 37, 38] (.cond (.t 39) .skip
 (.exit 2))))
 (.drop [36, 37, 38, 39] (.seq (.block 3 (.seq (.reg [un (.asg 8 (.c (.bool true)))])
 (.seq (.seq (.reg [un (.mov 42 (.t 4)),
 un (.len 43 (.t 42)),
 un (.mov 44 (.c (.int .i64 0)))])
 (.drop [42] (.block 4 (.loop Jq))))
 (.drop [42, 43, 44, 45, 46, 9, 47, 48, 49, 50, 51, 52, 53, 54, 55, 56, 57, 58, 59, 60, 61, 62, 63, 64, 65, 66, 67, 68] (.seq (.reg [un (.mov 69 (.t 8))])
 (.cond (.t 69) (.reg [un (.mov 70 (.t 6)),
 un (.mov 71 (.t 7)),
 un (.bsl 72 1 [(.t 71)]),
 un (.app 73 1 (.t 70) (.t 72)),
 un (.asg 6 (.t 73))])
 .skip))))))
 (.drop [8, 42, 43, 44, 45, 46, 9, 47, 48, 49, 50, 51, 52, 53, 54, 55, 56, 57, 58, 59, 60, 61, 62, 63, 64, 65, 66, 67, 68, 69, 70, 71, 72, 73] (.reg [un (.mov 40 (.t 7)),
 un (.bin 41 .add (.t 40) (.c (.int .i64 1))),
 un (.asg 7 (.t 41))])))))
def Uk : ACode :=
 (.seq (.reg [un (.box 1 (.t 0)),
 un (.asg 2 (.c (.nilsl 1))),
 un (.asg 3 (.c (.bool false)))])
 (.seq (.seq (.reg [un (.ld 10 2 true (.t 1)),
 un (.call 11 Di [((.t 10), false)]),
 un (.un 12 .not (.t 11))])
 (.drop [10, 11] (.cond (.t 12) (.seq (.reg [un (.bsl 13 1 []),
 un (.asg 2 (.t 13)),
 un (.asg 3 (.c (.bool false)))])
 (.drop [13] .ret))
 .skip)))
 (.drop [10, 11, 12, 13] (.seq (.reg [un (.fadr 14 0 (.t 1)),
 un (.ld 15 1 false (.t 14)),
 un (.bin 16 .shl (.c (.int .i64 1)) (.t 15)),
 un (.mk 17 1 (.bool false) (.t 16)),
 un (.asg 4 (.t 17))])
 (.drop [14, 15, 16, 17] (.seq (.seq (.reg [un (.mov 18 (.t 4)),
 un (.len 19 (.t 18)),
 un (.mov 20 (.c (.int .i64 0)))])
 (.drop [18] (.block 0 (.loop Jp))))
 (.drop [18, 19, 20, 21, 22, 5, 23, 24, 25, 26, 27, 28, 29, 30, 31, 32, 33, 34] (.seq (.reg [un (.bsl 35 1 []),
 un (.asg 6 (.t 35))])
 (.drop [35] (.seq (.seq (.reg [un (.asg 7 (.c (.int .i64 0)))])
 (.block 2 (.loop Jm)))
 (.drop [7, 36, 37, 38, 39, 8, 42, 43, 44, 45, 46, 9, 47, 48, 49, 50, 51, 52, 53, 54, 55, 56, 57, 58, 59, 60, 61, 62, 63, 64, 65, 66, 67, 68, 69, 70, 71, 72, 73, 40, 41] (.seq (.reg [un (.mov 74 (.t 6)),
 un (.asg 2 (.t 74)),
 un (.asg 3 (.c (.bool true)))])
 (.drop [74] .ret)))))))))))))
abbrev Uz : List RS := [.t 2, .t 3]
theorem Vf : A4 Try.prog Ho 75 Uk Uz = true := by kernel_rfl
def Jw : ACode :=
 (.seq (.seq (.reg [un (.mov 20 (.t 7)),
 un (.fadr 21 0 (.t 1)),
 un (.ld 22 1 false (.t 21)),
 un (.bin 23 .shl (.c (.int .i64 1)) (.t 22)),
 un (.bin 24 .lss (.t 20) (.t 23))])
 (.drop [20, 21, 22, 23] (.cond (.t 24) .skip
 (.exit 2))))
 (.drop [20, 21, 22, 23, 24] (.seq (.block 3 (.seq (.reg [un (.mov 27 (.t 7)),
 un (.mov 28 (.t 5)),
 un (.bin 29 .shl (.c (.int .i64 1)) (.t 28)),
 un (.bin 30 .andNot (.t 27) (.t 29)),
 un (.call 31 Io [((.t 30), false)]),
 un (.asg 8 (.t 31))])
 (.drop [27, 28, 29, 30, 31] (.seq (.dreg [(un (.ld 32 2 true (.t 1)), []),
 (un (.mov 33 (.t 8)), [32]),
 (un (.call 34 Gc [((.t 32), false), ((.t 33), false)]), []),
 (un (.len 35 (.t 34)), []),
 (un (.fadr 36 0 (.t 1)), [32, 33, 34, 35]),
 (un (.ld 37 1 false (.t 36)), [32, 33, 34, 35]),
 (un (.bin 38 .lss (.t 35) (.t 37)), []),
 (un (.asg 39 (.t 38)), []),
 (⟨some (39, true), .ld 40 2 true (.t 1)⟩, [38, 43, 42]),
 (⟨some (39, true), .mov 41 (.t 8)⟩, [40, 38, 43]),
 (⟨some (39, true), .call 42 Sn [((.t 41), false)]⟩, [40, 38, 43]),
 (⟨some (39, true), .mov 43 (.t 5)⟩, [40, 41, 42, 38]),
 (⟨some (39, true), .bsl 44 1 [(.t 43)]⟩, [40, 41, 42, 38]),
 (⟨some (39, true), .app 45 1 (.t 42) (.t 44)⟩, [40, 38, 43]),
 (⟨some (39, true), .call 46 Gc [((.t 40), false), ((.t 45), false)]⟩, [38, 43, 42]),
 (⟨some (39, true), .len 47 (.t 46)⟩, [38, 43, 42]),
 (⟨some (39, true), .fadr 48 0 (.t 1)⟩, [40, 41, 42, 43, 44, 45, 46, 47, 38, 43, 42]),
 (⟨some (39, true), .ld 49 1 false (.t 48)⟩, [40, 41, 42, 43, 44, 45, 46, 47, 38, 43, 42])]
 [⟨some (39, true), .bin 50 .eql (.t 47) (.t 49)⟩,
 un (.pick 51 (.t 39) (.t 50) (.c (.bool false)))])
 (.drop [32, 33, 34, 35, 36, 37, 38, 39, 40, 41, 42, 43, 44, 45, 46, 47, 48, 49, 50] (.cond (.t 51) (.reg [un (.asg 6 (.c (.bool true)))])
 .skip))))))
 (.drop [27, 28, 29, 30, 31, 8, 32, 33, 34, 35, 36, 37, 38, 39, 40, 41, 42, 43, 44, 45, 46, 47, 48, 49, 50, 51] (.reg [un (.mov 25 (.t 7)),
 un (.bin 26 .add (.t 25) (.c (.int .i64 1))),
 un (.asg 7 (.t 26))])))))
def Jo : ACode :=
 (.seq (.seq (.reg [un (.mov 14 (.t 5)),
 un (.fadr 15 0 (.t 1)),
 un (.ld 16 1 false (.t 15)),
 un (.bin 17 .lss (.t 14) (.t 16))])
 (.drop [14, 15, 16] (.cond (.t 17) .skip
 (.exit 0))))
 (.drop [14, 15, 16, 17] (.seq (.block 1 (.seq (.reg [un (.asg 6 (.c (.bool false)))])
 (.seq (.seq (.reg [un (.asg 7 (.c (.int .i64 0)))])
 (.block 2 (.loop Jw)))
 (.drop [7, 20, 21, 22, 23, 24, 27, 28, 29, 30, 31, 8, 32, 33, 34, 35, 36, 37, 38, 39, 40, 41, 42, 43, 44, 45, 46, 47, 48, 49, 50, 51, 25, 26] (.seq (.reg [un (.mov 52 (.t 6)),
 un (.un 53 .not (.t 52))])
 (.drop [52] (.cond (.t 53) (.reg [un (.mov 54 (.t 4)),
 un (.mov 55 (.t 5)),
 un (.bsl 56 1 [(.t 55)]),
 un (.app 57 1 (.t 54) (.t 56)),
 un (.asg 4 (.t 57))])
 .skip)))))))
 (.drop [6, 7, 20, 21, 22, 23, 24, 27, 28, 29, 30, 31, 8, 32, 33, 34, 35, 36, 37, 38, 39, 40, 41, 42, 43, 44, 45, 46, 47, 48, 49, 50, 51, 25, 26, 52, 53, 54, 55, 56, 57] (.reg [un (.mov 18 (.t 5)),
 un (.bin 19 .add (.t 18) (.c (.int .i64 1))),
 un (.asg 5 (.t 19))])))))
def V1 : ACode :=
 (.seq (.reg [un (.box 1 (.t 0)),
 un (.asg 2 (.c (.nilsl 1))),
 un (.asg 3 (.c (.bool false)))])
 (.seq (.reg [un (.bsl 9 1 []),
 un (.asg 4 (.t 9))])
 (.drop [9] (.seq (.seq (.reg [un (.ld 10 2 true (.t 1)),
 un (.call 11 G5 [((.t 10), false)]),
 un (.un 12 .not (.t 11))])
 (.drop [10, 11] (.cond (.t 12) (.seq (.reg [un (.mov 13 (.t 4)),
 un (.asg 2 (.t 13)),
 un (.asg 3 (.c (.bool false)))])
 (.drop [13] .ret))
 .skip)))
 (.drop [10, 11, 12, 13] (.seq (.seq (.reg [un (.asg 5 (.c (.int .i64 0)))])
 (.block 0 (.loop Jo)))
 (.drop [5, 14, 15, 16, 17, 6, 7, 20, 21, 22, 23, 24, 27, 28, 29, 30, 31, 8, 32, 33, 34, 35, 36, 37, 38, 39, 40, 41, 42, 43, 44, 45, 46, 47, 48, 49, 50, 51, 25, 26, 52, 53, 54, 55, 56, 57, 18, 19] (.seq (.reg [un (.mov 58 (.t 4)),
 un (.asg 2 (.t 58)),
 un (.asg 3 (.c (.bool true)))])
 (.drop [58] .ret)))))))))
abbrev Vo : List RS := [.t 2, .t 3]
theorem Ve : A4 Try.prog Hr 59 V1 Vo = true := by kernel_rfl
def H8 : ACode :=
 (.seq (.seq (.reg [un (.mov 13 (.t 5)),
 un (.fadr 14 0 (.t 1)),
 un (.ld 15 1 false (.t 14)),
 un (.bin 16 .shl (.c (.int .i64 1)) (.t 15)),
 un (.bin 17 .lss (.t 13) (.t 16))])
 (.drop [13, 14, 15, 16] (.cond (.t 17) .skip
 (.exit 0))))
 (.drop [13, 14, 15, 16, 17] (.seq (.block 1 (.reg [un (.mov 20 (.t 4)),
 un (.mov 21 (.t 5)),
 un (.call 22 Iv [((.t 21), false)]),
 un (.bsl 23 1 [(.t 22)]),
 un (.app 24 1 (.t 20) (.t 23)),
 un (.asg 4 (.t 24))]))
 (.drop [20, 21, 22, 23, 24] (.reg [un (.mov 18 (.t 5)),
 un (.bin 19 .add (.t 18) (.c (.int .i64 1))),
 un (.asg 5 (.t 19))])))))
def H9 : ACode :=
 (.seq (.reg [un (.bin 30 .lss (.t 29) (.t 28))])
 (.seq (.cond (.t 30) .skip
 (.exit 2))
 (.seq (.block 3 (.seq (.reg [un (.iad 31 1 (.t 27) (.t 29)),
 un (.ld 32 1 false (.t 31)),
 un (.asg 7 (.t 32))])
 (.drop [31, 32] (.seq (.dreg [(un (.ld 33 2 true (.t 1)), []),
 (un (.mov 34 (.t 7)), [33]),
 (un (.call 35 Db [((.t 33), false), ((.t 34), false)]), []),
 (un (.len 36 (.t 35)), []),
 (un (.fadr 37 0 (.t 1)), [33, 34, 35, 36]),
 (un (.ld 38 1 false (.t 37)), [33, 34, 35, 36])]
 [un (.bin 39 .eql (.t 36) (.t 38))])
 (.drop [33, 34, 35, 36, 37, 38] (.cond (.t 39) (.seq (.reg [un (.mov 40 (.t 7)),
 un (.asg 2 (.t 40)),
 un (.asg 3 (.c (.bool true)))])
 (.drop [40] .ret))
 .skip))))))
 (.drop [31, 32, 7, 33, 34, 35, 36, 37, 38, 39, 40] (.reg [un (.bin 41 .add (.t 29) (.c (.int .i64 1))),
 un (.asg 29 (.t 41))])))))
def Sm : ACode :=
 (.seq (.reg [un (.box 1 (.t 0)),
 un (.asg 2 (.c (.nilsl 1))),
 un (.asg 3 (.c (.bool false)))])
 (.seq (.seq (.reg [un (.ld 8 2 true (.t 1)),
 un (.call 9 Di [((.t 8), false)]),
 un (.un 10 .not (.t 9))])
 (.drop [8, 9] (.cond (.t 10) (.seq (.reg [un (.bsl 11 1 []),
 un (.asg 2 (.t 11)),
 un (.asg 3 (.c (.bool false)))])
 (.drop [11] .ret))
 .skip)))
 (.drop [8, 9, 10, 11] (.seq (.reg [un (.bsl 12 1 []),
 un (.asg 4 (.t 12))])
 (.drop [12] (.seq (.seq (.reg [un (.asg 5 (.c (.int .i64 0)))])
 (.block 0 (.loop H8)))
 (.drop [5, 13, 14, 15, 16, 17, 20, 21, 22, 23, 24, 18, 19] (.seq (.reg [un (.mov 25 (.t 4)),
 un (.call 26 M9 [((.t 25), true), ((.c (.clo C6 [])), false)])])
 (.drop [25, 26] (.seq (.seq (.frz [4] (.reg [un (.mov 27 (.t 4)),
 un (.len 28 (.t 27)),
 un (.mov 29 (.c (.int .i64 0)))]))
 (.block 2 (.loop H9)))
 (.drop [27, 28, 29, 30, 31, 32, 7, 33, 34, 35, 36, 37, 38, 39, 40, 41] (.seq (.reg [un (.bsl 42 1 []),
 un (.asg 2 (.t 42)),
 un (.asg 3 (.c (.bool false)))])
 (.drop [42] .ret)))))))))))))
abbrev R3 : List RS := [.t 2, .t 3]
theorem Tc : A4 Try.prog Gx 43 Sm R3 = true := by kernel_rfl
def O9 : ACode :=
 (.reg [un (.mov 23 (.t 5)),
 un (.un 24 .not (.t 23)),
 un (.asg 25 (.t 24)),
 ⟨some (25, false), .mov 26 (.t 7)⟩,
 ⟨some (25, false), .len 27 (.t 26)⟩,
 ⟨some (25, false), .mov 28 (.t 4)⟩,
 ⟨some (25, false), .len 29 (.t 28)⟩,
 ⟨some (25, false), .bin 30 .lss (.t 27) (.t 29)⟩,
 un (.pick 31 (.t 25) (.c (.bool true)) (.t 30)),
 un (.asg 32 (.t 31)),
 ⟨some (32, false), .mov 33 (.t 7)⟩,
 ⟨some (32, false), .len 34 (.t 33)⟩,
 ⟨some (32, false), .mov 35 (.t 4)⟩,
 ⟨some (32, false), .len 36 (.t 35)⟩,
 ⟨some (32, false), .bin 37 .eql (.t 34) (.t 36)⟩,
 ⟨some (32, false), .asg 38 (.t 37)⟩,
 ⟨some (38, true), .mov 39 (.t 7)⟩,
 ⟨some (38, true), .mov 40 (.t 4)⟩,
 ⟨some (38, true), .call 41 L3 [((.t 39), false), ((.t 40), false)]⟩,
 ⟨some (32, false), .pick 42 (.t 38) (.t 41) (.c (.bool false))⟩,
 un (.pick 43 (.t 32) (.c (.bool true)) (.t 42)),
 un (.asg 8 (.t 43))])
def H4 : ACode :=
 (.seq (.seq (.reg [un (.mov 14 (.t 6)),
 un (.fadr 15 0 (.t 1)),
 un (.ld 16 1 false (.t 15)),
 un (.bin 17 .shl (.c (.int .i64 1)) (.t 16)),
 un (.bin 18 .lss (.t 14) (.t 17))])
 (.drop [14, 15, 16, 17] (.cond (.t 18) .skip
 (.exit 0))))
 (.drop [14, 15, 16, 17, 18] (.seq (.block 1 (.seq (.reg [un (.mov 21 (.t 6)),
 un (.call 22 Io [((.t 21), false)]),
 un (.asg 7 (.t 22))])
 (.drop [21, 22] (.seq (.cut O9)
 (.drop [23, 24, 25, 26, 27, 28, 29, 30, 31, 32, 33, 34, 35, 36, 37, 38, 39, 40, 41, 42, 43] (.seq (.dreg [(un (.mov 44 (.t 8)), []),
 (un (.asg 45 (.t 44)), []),
 (⟨some (45, true), .ld 46 2 true (.t 1)⟩, [44]),
 (⟨some (45, true), .mov 47 (.t 7)⟩, [46, 44]),
 (⟨some (45, true), .call 48 Gc [((.t 46), false), ((.t 47), false)]⟩, [44]),
 (⟨some (45, true), .len 49 (.t 48)⟩, [44]),
 (⟨some (45, true), .fadr 50 0 (.t 1)⟩, [46, 47, 48, 49, 44]),
 (⟨some (45, true), .ld 51 1 false (.t 50)⟩, [46, 47, 48, 49, 44])]
 [⟨some (45, true), .bin 52 .eql (.t 49) (.t 51)⟩,
 un (.pick 53 (.t 45) (.t 52) (.c (.bool false)))])
 (.drop [44, 45, 46, 47, 48, 49, 50, 51, 52] (.cond (.t 53) (.seq (.reg [un (.mov 54 (.t 7)),
 un (.asg 4 (.t 54))])
 (.drop [54] (.reg [un (.asg 5 (.c (.bool true)))])))
 .skip))))))))
 (.drop [21, 22, 7, 23, 24, 25, 26, 27, 28, 29, 30, 31, 32, 33, 34, 35, 36, 37, 38, 39, 40, 41, 42, 43, 8, 44, 45, 46, 47, 48, 49, 50, 51, 52, 53, 54] (.reg [un (.mov 19 (.t 6)),
 un (.bin 20 .add (.t 19) (.c (.int .i64 1))),
 un (.asg 6 (.t 20))])))))
def Sq : ACode :=
 (.seq (.reg [un (.box 1 (.t 0)),
 un (.asg 2 (.c (.nilsl 1))),
 un (.asg 3 (.c (.bool false)))])
 (.seq (.seq (.reg [un (.ld 9 2 true (.t 1)),
 un (.call 10 G5 [((.t 9), false)]),
 un (.un 11 .not (.t 10))])
 (.drop [9, 10] (.cond (.t 11) (.seq (.reg [un (.bsl 12 1 []),
 un (.asg 2 (.t 12)),
 un (.asg 3 (.c (.bool false)))])
 (.drop [12] .ret))
 .skip)))
 (.drop [9, 10, 11, 12] (.seq (.reg [un (.bsl 13 1 []),
 un (.asg 4 (.t 13)),
 un (.asg 5 (.c (.bool false)))])
 (.drop [13] (.seq (.seq (.reg [un (.asg 6 (.c (.int .i64 0)))])
 (.block 0 (.loop H4)))
 (.drop [6, 14, 15, 16, 17, 18, 21, 22, 7, 23, 24, 25, 26, 27, 28, 29, 30, 31, 32, 33, 34, 35, 36, 37, 38, 39, 40, 41, 42, 43, 8, 44, 45, 46, 47, 48, 49, 50, 51, 52, 53, 54, 19, 20] (.seq (.reg [un (.mov 55 (.t 4)),
 un (.asg 2 (.t 55)),
 un (.asg 3 (.c (.bool true)))])
 (.drop [55] .ret)))))))))
abbrev Sj : List RS := [.t 2, .t 3]
theorem Sx : A4 Try.prog Gn 56 Sq Sj = true := by kernel_rfl
def Re : ACode :=
 (.seq (.reg [un (.mov 32 (.t 4)),
 un (.bin 33 .eql (.t 32) (.c (.int .i64 4))),
 un (.asg 34 (.t 33)),
 ⟨some (34, true), .fadr 35 0 (.t 7)⟩,
 ⟨some (34, true), .ld 36 1 false (.t 35)⟩,
 ⟨some (34, true), .bin 37 .eql (.t 36) (.c (.int .i64 3))⟩,
 un (.pick 38 (.t 34) (.t 37) (.c (.bool false)))])
 (.drop [32, 33, 34, 35, 36, 37] (.cond (.t 38) (.reg [un (.fadr 39 0 (.t 7)),
 un (.st 1 (.t 39) (.c (.int .i64 2)))])
 .skip)))
def Jl : ACode :=
 (.seq (.seq (.reg [un (.mov 44 (.t 8)),
 un (.bin 45 .gtr (.t 44) (.c (.int .i64 0)))])
 (.drop [44] (.cond (.t 45) .skip
 (.exit 2))))
 (.drop [44, 45] (.seq (.block 3 (.dreg [(un (.fadr 48 1 (.t 7)), [132, 52]),
 (un (.ld 49 1 false (.t 48)), [132, 52]),
 (un (.mov 50 (.t 0)), [48, 49]),
 (un (.mov 51 (.t 4)), [48, 49, 50]),
 (un (.call 52 Bg [((.t 50), true), ((.t 51), false)]), [132, 48, 49]),
 (un (.bsl 53 1 [(.t 52)]), [48, 49])]
 [un (.app 54 1 (.t 49) (.t 53)),
 un (.fadr 55 1 (.t 7)),
 un (.st 1 (.t 55) (.t 54))]))
 (.drop [48, 49, 50, 51, 52, 53, 54, 55] (.reg [un (.mov 46 (.t 8)),
 un (.bin 47 .sub (.t 46) (.c (.int .i64 1))),
 un (.asg 8 (.t 47))])))))
def Jx : ACode :=
 (.seq (.seq (.reg [un (.mov 24 (.t 6)),
 un (.bin 25 .gtr (.t 24) (.c (.int .i64 0)))])
 (.drop [24] (.cond (.t 25) .skip
 (.exit 0))))
 (.drop [24, 25] (.seq (.block 1 (.seq (.reg [un (.mov 28 (.t 0)),
 un (.bsl 29 1 [(.c (.int .i64 0)), (.c (.int .i64 1)), (.c (.int .i64 2)), (.c (.int .i64 2)), (.c (.int .i64 3))]),
 un (.call 30 Bk [((.t 28), true), ((.t 29), false)]),
 un (.bld 31 [.int .i64 0, .nilsl 1] [(0, 1, (.t 30))]),
 un (.alc 7 (.agg [.int .i64 0, .nilsl 1])),
 un (.st 2 (.t 7) (.t 31))])
 (.drop [28, 29, 30, 31] (.seq (.cut Re)
 (.drop [32, 33, 34, 35, 36, 37, 38, 39] (.seq (.seq (.reg [un (.mov 40 (.t 4)),
 un (.fadr 41 0 (.t 7)),
 un (.ld 42 1 false (.t 41)),
 un (.call 43 Nu [((.t 40), false), ((.t 42), false)]),
 un (.asg 8 (.t 43))])
 (.drop [40, 41, 42, 43] (.block 2 (.loop Jl))))
 (.drop [40, 41, 42, 43, 8, 44, 45, 48, 49, 50, 51, 52, 53, 54, 55, 46, 47] (.reg [un (.fadr 56 1 (.t 5)),
 un (.ld 57 1 false (.t 56)),
 un (.ld 58 2 true (.t 7)),
 un (.bsl 59 2 [(.t 58)]),
 un (.app 60 2 (.t 57) (.t 59)),
 un (.fadr 61 1 (.t 5)),
 un (.st 1 (.t 61) (.t 60))]))))))))
 (.drop [28, 29, 30, 31, 7, 32, 33, 34, 35, 36, 37, 38, 39, 40, 41, 42, 43, 8, 44, 45, 48, 49, 50, 51, 52, 53, 54, 55, 46, 47, 56, 57, 58, 59, 60, 61] (.reg [un (.mov 26 (.t 6)),
 un (.bin 27 .sub (.t 26) (.c (.int .i64 1))),
 un (.asg 6 (.t 27))])))))
def Jt : ACode :=
 (.seq (.seq (.dreg [(un (.fadr 116 1 (.t 5)), [132]),
 (un (.ld 117 1 false (.t 116)), [132]),
 (un (.len 118 (.t 117)), [132]),
 (un (.mov 119 (.t 0)), [116, 117, 118]),
 (un (.call 120 Bg [((.t 119), true), ((.c (.int .i64 2)), false)]), [132, 116, 117, 118]),
 (un (.bin 121 .add (.c (.int .i64 4)) (.t 120)), [116, 117, 118])]
 [un (.bin 122 .lss (.t 118) (.t 121))])
 (.drop [116, 117, 118, 119, 120, 121] (.cond (.t 122) .skip
 (.exit 5))))
 (.drop [116, 117, 118, 119, 120, 121, 122] (.block 6 (.dregl [(0, .fadr 123 1 (.t 5)),
 (1, .ld 124 1 false (.t 123)),
 (2, .mov 125 (.t 4))]
 (.alt 3 (.mk 126 1 (.int .i64 0) (.t 125)) [0, 1, 2] [] (.alt 4 (.bld 127 [.int .i64 0, .nilsl 1] [(0, 1, (.c (.int .i64 1))), (1, 1, (.t 126))]) [0, 1] [] (.alt 5 (.bsl 128 2 [(.t 127)]) [0, 1] [] (.alt 6 (.app 129 2 (.t 124) (.t 128)) [0, 1] [124] (.alt 7 (.fadr 130 1 (.t 5)) [] [] (.alt 8 (.st 1 (.t 130) (.t 129)) [] [] .nil .nil) .nil) .nil) .nil) .nil) .nil)))))
def Uh : ACode :=
 (.seq (.reg [un (.alc 2 (.agg [.int .i64 0, .nilsl 2]))])
 (.seq (.seq (.reg [un (.mov 9 (.t 0)),
 un (.call 10 Lm [((.t 9), true), ((.c (.int .i64 4)), false)]),
 un (.un 11 .not (.t 10))])
 (.drop [9, 10] (.cond (.t 11) (.seq (.reg [un (.mov 12 (.t 0)),
 un (.call 13 Bg [((.t 12), true), ((.c (.int .i64 17)), false)]),
 un (.call 14 Om [((.t 13), false)]),
 un (.alc 3 (.agg [.int .i64 0, .nilsl 2])),
 un (.st 2 (.t 3) (.t 14))])
 (.drop [12, 13, 14] (.seq (.reg [un (.ld 15 2 true (.t 3)),
 un (.st 2 (.t 2) (.t 15))])
 (.drop [15] .ret))))
 .skip)))
 (.drop [9, 10, 11, 12, 13, 14, 3, 15] (.seq (.reg [un (.mov 16 (.t 0)),
 un (.bsl 17 1 [(.c (.int .i64 2)), (.c (.int .i64 2)), (.c (.int .i64 3)), (.c (.int .i64 3)), (.c (.int .i64 4))]),
 un (.call 18 Bk [((.t 16), true), ((.t 17), false)]),
 un (.asg 4 (.t 18))])
 (.drop [16, 17, 18] (.seq (.reg [un (.mov 19 (.t 4)),
 un (.bld 20 [.int .i64 0, .nilsl 2] [(0, 1, (.t 19))]),
 un (.alc 5 (.agg [.int .i64 0, .nilsl 2])),
 un (.st 2 (.t 5) (.t 20))])
 (.drop [19, 20] (.seq (.seq (.reg [un (.mov 21 (.t 0)),
 un (.bsl 22 1 [(.c (.int .i64 1)), (.c (.int .i64 1)), (.c (.int .i64 2))]),
 un (.call 23 Bk [((.t 21), true), ((.t 22), false)]),
 un (.asg 6 (.t 23))])
 (.drop [21, 22, 23] (.block 0 (.loop Jx))))
 (.drop [21, 22, 23, 6, 24, 25, 28, 29, 30, 31, 7, 32, 33, 34, 35, 36, 37, 38, 39, 40, 41, 42, 43, 8, 44, 45, 48, 49, 50, 51, 52, 53, 54, 55, 46, 47, 56, 57, 58, 59, 60, 61, 26, 27] (.seq (.seq (.reg [un (.mov 62 (.t 0)),
 un (.call 63 Bg [((.t 62), true), ((.c (.int .i64 16)), false)])])
 (.drop [62] (.block 4 (.seq (.reg [un (.bin 65 .eql (.t 63) (.c (.int .i64 0))),
 un (.asg 64 (.t 65))])
 (.drop [65] (.cond (.t 64) (.reg [un (.mov 66 (.t 0)),
 un (.mov 67 (.t 4)),
 un (.bin 68 .add (.t 67) (.c (.int .i64 1))),
 un (.bsl 69 1 [(.c (.int .i64 0)), (.c (.int .i64 9)), (.t 68)]),
 un (.call 70 Bk [((.t 66), true), ((.t 69), false)]),
 un (.fadr 71 0 (.t 5)),
 un (.st 1 (.t 71) (.t 70))])
 (.seq (.reg [un (.bin 73 .eql (.t 63) (.c (.int .i64 1))),
 un (.asg 72 (.t 73))])
 (.drop [73] (.cond (.t 72) (.dregl [(0, .fadr 74 1 (.t 5)),
 (1, .ld 75 1 false (.t 74)),
 (2, .fadr 76 1 (.t 5)),
 (3, .ld 77 1 false (.t 76)),
 (4, .iad 78 2 (.t 77) (.c (.int .i64 0))),
 (5, .fadr 79 1 (.t 78)),
 (6, .ld 80 1 false (.t 79))]
 (.alt 7 (.bsl 81 1 [(.c (.int .i64 0))]) [0, 1, 2, 3, 4, 5, 6] [] (.alt 8 (.app 82 1 (.t 80) (.t 81)) [0, 1, 2, 3, 4, 5, 6] [80] (.alt 9 (.iad 83 2 (.t 75) (.c (.int .i64 0))) [0, 1] [] (.alt 10 (.fadr 84 1 (.t 83)) [] [] (.alt 11 (.st 1 (.t 84) (.t 82)) [] [] .nil .nil) .nil) .nil) .nil) .nil))
 (.seq (.reg [un (.bin 86 .eql (.t 63) (.c (.int .i64 2))),
 un (.asg 85 (.t 86))])
 (.drop [86] (.cond (.t 85) (.dregl [(0, .fadr 87 1 (.t 5)),
 (1, .ld 88 1 false (.t 87)),
 (2, .iad 89 2 (.t 88) (.c (.int .i64 0))),
 (3, .fadr 90 1 (.t 89)),
 (4, .ld 91 1 false (.t 90)),
 (5, .mov 92 (.t 0)),
 (6, .fadr 93 1 (.t 5)),
 (7, .ld 94 1 false (.t 93)),
 (8, .iad 95 2 (.t 94) (.c (.int .i64 0))),
 (9, .fadr 96 1 (.t 95)),
 (10, .ld 97 1 false (.t 96)),
 (13, .mov 100 (.t 0)),
 (14, .mov 101 (.t 4))]
 (.alt 11 (.len 98 (.t 97)) [0, 1, 2, 3, 4, 5, 6, 7, 8, 9, 10, 13, 14] [] (.alt 12 (.call 99 Bg [((.t 92), true), ((.t 98), false)]) [0, 1, 2, 3, 4, 5, 13, 14] [] (.alt 15 (.bsl 102 1 [(.c (.int .i64 (-1))), (.t 101)]) [0, 1, 2, 3, 4, 13, 14] [] (.alt 16 (.call 103 Bk [((.t 100), true), ((.t 102), false)]) [0, 1, 2, 3, 4, 13] [] (.alt 17 (.iad 104 1 (.t 91) (.t 99)) [0, 1, 2, 3, 4] [] (.alt 18 (.st 1 (.t 104) (.t 103)) [] [] .nil .nil) .nil) .nil) .nil) (.alt 15 (.bsl 102 1 [(.c (.int .i64 (-1))), (.t 101)]) [0, 1, 2, 3, 4, 5, 13, 14] [] (.alt 12 (.call 99 Bg [((.t 92), true), ((.t 98), false)]) [0, 1, 2, 3, 4, 5, 13] [] (.alt 16 (.call 103 Bk [((.t 100), true), ((.t 102), false)]) [0, 1, 2, 3, 4, 13] [] (.alt 17 (.iad 104 1 (.t 91) (.t 99)) [0, 1, 2, 3, 4] [] (.alt 18 (.st 1 (.t 104) (.t 103)) [] [] .nil .nil) .nil) .nil) .nil) .nil)) (.alt 15 (.bsl 102 1 [(.c (.int .i64 (-1))), (.t 101)]) [0, 1, 2, 3, 4, 5, 6, 7, 8, 9, 10, 13, 14] [] (.alt 11 (.len 98 (.t 97)) [0, 1, 2, 3, 4, 5, 6, 7, 8, 9, 10, 13] [] (.alt 12 (.call 99 Bg [((.t 92), true), ((.t 98), false)]) [0, 1, 2, 3, 4, 5, 13] [] (.alt 16 (.call 103 Bk [((.t 100), true), ((.t 102), false)]) [0, 1, 2, 3, 4, 13] [] (.alt 17 (.iad 104 1 (.t 91) (.t 99)) [0, 1, 2, 3, 4] [] (.alt 18 (.st 1 (.t 104) (.t 103)) [] [] .nil .nil) .nil) .nil) .nil) .nil) .nil)))
 (.seq (.reg [un (.bin 106 .eql (.t 63) (.c (.int .i64 3))),
 un (.asg 105 (.t 106))])
 (.drop [106] (.cond (.t 105) (.dregl [(0, .fadr 107 1 (.t 5)),
 (1, .ld 108 1 false (.t 107)),
 (2, .mov 109 (.t 0))]
 (.alt 3 (.bsl 110 1 [(.c (.int .i64 (-1))), (.c (.int .i64 4))]) [0, 1, 2] [] (.alt 4 (.call 111 Bk [((.t 109), true), ((.t 110), false)]) [0, 1, 2] [] (.alt 5 (.iad 112 2 (.t 108) (.c (.int .i64 0))) [0, 1] [] (.alt 6 (.fadr 113 0 (.t 112)) [] [] (.alt 7 (.st 1 (.t 113) (.t 111)) [] [] .nil .nil) .nil) .nil) .nil) .nil))
 (.seq (.reg [un (.bin 115 .eql (.t 63) (.c (.int .i64 4))),
 un (.asg 114 (.t 115))])
 (.drop [115] (.cond (.t 114) (.block 5 (.loop Jt))
 .skip))))))))))))))))))
 (.drop [62, 63, 65, 64, 66, 67, 68, 69, 70, 71, 73, 72, 74, 75, 76, 77, 78, 79, 80, 81, 82, 83, 84, 86, 85, 87, 88, 89, 90, 91, 92, 93, 94, 95, 96, 97, 98, 99, 100, 101, 102, 103, 104, 106, 105, 107, 108, 109, 110, 111, 112, 113, 115, 114, 116, 117, 118, 119, 120, 121, 122, 123, 124, 125, 126, 127, 128, 129, 130] (.seq (.reg [un (.ld 131 2 true (.t 5)),
 un (.st 2 (.t 2) (.t 131))])
 (.drop [131] .ret)))))))))))))
abbrev U1 : List RS := [.c 2 2 true]
theorem Un : A4 Try.prog Hs 132 Uh U1 = true := by kernel_rfl
def Xh : ACode :=
 (.seq (.reg [un (.box 2 (.t 0)),
 un (.asg 4 (.c (.bool false)))])
 (.seq (.reg [un (.ld 5 2 true (.t 2)),
 un (.call 6 Di [((.t 5), false)]),
 un (.asg 7 (.t 6)),
 ⟨some (7, true), .mov 8 (.t 1)⟩,
 ⟨some (7, true), .len 9 (.t 8)⟩,
 ⟨some (7, true), .bin 10 .leq (.t 9) (.c (.int .i64 20))⟩,
 un (.pick 11 (.t 7) (.t 10) (.c (.bool false))),
 un (.asg 12 (.t 11)),
 ⟨some (12, true), .mov 13 (.t 1)⟩,
 ⟨some (12, true), .fadr 14 0 (.t 2)⟩,
 ⟨some (12, true), .ld 15 1 false (.t 14)⟩,
 ⟨some (12, true), .call 16 Ir [((.t 13), false), ((.t 15), false)]⟩,
 un (.pick 17 (.t 12) (.t 16) (.c (.bool false))),
 un (.asg 4 (.t 17))])
 (.drop [5, 6, 7, 8, 9, 10, 11, 12, 13, 14, 15, 16, 17] .ret)))
abbrev Yc : List RS := [.t 4]
theorem Yb : A4 Try.prog E2 18 Xh Yc = true := by kernel_rfl
def Air : ACode :=
 (.seq (.reg [un (.box 2 (.t 0)),
 un (.asg 4 (.c (.bool false)))])
 (.seq (.reg [un (.mov 5 (.t 1)),
 un (.fadr 6 0 (.t 2)),
 un (.ld 7 1 false (.t 6)),
 un (.call 8 Ir [((.t 5), false), ((.t 7), false)]),
 un (.asg 9 (.t 8)),
 ⟨some (9, true), .mov 10 (.t 1)⟩,
 ⟨some (9, true), .call 11 Sr [((.t 10), false)]⟩,
 un (.pick 12 (.t 9) (.t 11) (.c (.bool false))),
 un (.asg 13 (.t 12)),
 ⟨some (13, true), .ld 14 2 true (.t 2)⟩,
 ⟨some (13, true), .mov 15 (.t 1)⟩,
 ⟨some (13, true), .call 16 Db [((.t 14), false), ((.t 15), false)]⟩,
 ⟨some (13, true), .len 17 (.t 16)⟩,
 ⟨some (13, true), .mov 18 (.t 1)⟩,
 ⟨some (13, true), .len 19 (.t 18)⟩,
 ⟨some (13, true), .bin 20 .eql (.t 17) (.t 19)⟩,
 un (.pick 21 (.t 13) (.t 20) (.c (.bool false))),
 un (.asg 4 (.t 21))])
 (.drop [5, 6, 7, 8, 9, 10, 11, 12, 13, 14, 15, 16, 17, 18, 19, 20, 21] .ret)))
abbrev Ajj : List RS := [.t 4]
theorem Ajk : A4 Try.prog Sa 22 Air Ajj = true := by kernel_rfl
def Amg : ACode :=
 (.seq (.reg [un (.box 2 (.t 0)),
 un (.asg 4 (.c (.bool false)))])
 (.seq (.reg [un (.mov 5 (.t 1)),
 un (.fadr 6 0 (.t 2)),
 un (.ld 7 1 false (.t 6)),
 un (.bin 8 .sub (.t 7) (.c (.int .i64 1))),
 un (.call 9 M6 [((.t 5), false), ((.c (.int .i64 0)), false), ((.t 8), false)]),
 un (.asg 10 (.t 9)),
 ⟨some (10, true), .ld 11 2 true (.t 2)⟩,
 ⟨some (10, true), .mov 12 (.t 1)⟩,
 ⟨some (10, true), .call 13 Gc [((.t 11), false), ((.t 12), false)]⟩,
 ⟨some (10, true), .mov 14 (.t 1)⟩,
 ⟨some (10, true), .call 15 Pz [((.t 13), false), ((.t 14), false)]⟩,
 un (.pick 16 (.t 10) (.t 15) (.c (.bool false))),
 un (.asg 4 (.t 16))])
 (.drop [5, 6, 7, 8, 9, 10, 11, 12, 13, 14, 15, 16] .ret)))
abbrev Ang : List RS := [.t 4]
theorem Als : A4 Try.prog Ua 17 Amg Ang = true := by kernel_rfl
def Yt : ACode :=
 (.seq (.reg [un (.box 2 (.t 0)),
 un (.asg 4 (.c (.nilsl 1))),
 un (.asg 5 (.c (.bool false)))])
 (.seq (.seq (.reg [un (.ld 6 2 true (.t 2)),
 un (.mov 7 (.t 1)),
 un (.call 8 E2 [((.t 6), false), ((.t 7), false)]),
 un (.un 9 .not (.t 8))])
 (.drop [6, 7, 8] (.cond (.t 9) (.seq (.reg [un (.bsl 10 1 []),
 un (.asg 4 (.t 10)),
 un (.asg 5 (.c (.bool false)))])
 (.drop [10] .ret))
 .skip)))
 (.drop [6, 7, 8, 9, 10] (.seq (.reg [un (.ld 11 2 true (.t 2)),
 un (.mov 12 (.t 1)),
 un (.call 13 Db [((.t 11), false), ((.t 12), false)]),
 un (.asg 4 (.t 13)),
 un (.asg 5 (.c (.bool true)))])
 (.drop [11, 12, 13] .ret)))))
abbrev X9 : List RS := [.t 4, .t 5]
theorem X5 : A4 Try.prog I7 14 Yt X9 = true := by kernel_rfl
end Go.Proofs.Ytidaaijecmkndaa.Ax
