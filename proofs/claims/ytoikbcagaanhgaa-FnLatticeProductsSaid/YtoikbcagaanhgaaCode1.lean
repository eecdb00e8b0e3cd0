/-
  The small code of the functions, written by program; that the program's code is this one, the kernel looks at.
-/
import Derived.Test.YtoikbcagaanhgaaAx3
import Derived.Test.YtoikbcagaanhgaaProg
import Derived.KernelRfl
import Derived.Test.YtoikbcagaanhgaaNum
namespace Go.Proofs.Ytoikbcagaanhgaa.Ax
open Go
set_option maxRecDepth 100000

/- loop.example/g01078/laws.rBig: [code=0, code=1] -/
def c_laws_rBig : ACode :=
 (.seq (.reg [⟨none, .asg 2 (.c (.bool false))⟩])
 (.seq (.reg [⟨none, .mov 3 (.t 0)⟩,
 ⟨none, .len 4 (.t 3)⟩,
 ⟨none, .bin 5 .gtr (.t 4) (.c (.int .i64 65536))⟩,
 ⟨none, .asg 2 (.t 5)⟩])
 (.drop [3, 4, 5] .ret)))
abbrev r_laws_rBig : List RS := [.t 2]
theorem k_laws_rBig : fitsF Try.prog f_laws_rBig 6 c_laws_rBig r_laws_rBig = true := by kernel_rfl

/- loop.example/g01078/laws.rInts: [a=0, b=1, a=2, b=3, i=5] -/
def c_laws_rInts_l1 : ACode :=
 (.seq (.seq (.reg [⟨none, .mov 11 (.t 5)⟩,
 ⟨none, .mov 12 (.t 0)⟩,
 ⟨none, .len 13 (.t 12)⟩,
 ⟨none, .bin 14 .lss (.t 11) (.t 13)⟩])
 (.drop [11, 12, 13] (.cond (.t 14) .skip
 (.exit 0))))
 (.drop [11, 12, 13, 14] (.seq (.block 1 (.seq (.dreg [(⟨none, .mov 17 (.t 0)⟩, []),
 (⟨none, .mov 18 (.t 5)⟩, [17]),
 (⟨none, .iad 19 1 (.t 17) (.t 18)⟩, []),
 (⟨none, .ld 20 1 false (.t 19)⟩, []),
 (⟨none, .mov 21 (.t 1)⟩, [17, 18, 19, 20]),
 (⟨none, .mov 22 (.t 5)⟩, [17, 18, 19, 20, 21]),
 (⟨none, .iad 23 1 (.t 21) (.t 22)⟩, [17, 18, 19, 20]),
 (⟨none, .ld 24 1 false (.t 23)⟩, [17, 18, 19, 20])]
 [⟨none, .bin 25 .neq (.t 20) (.t 24)⟩])
 (.drop [17, 18, 19, 20, 21, 22, 23, 24] (.cond (.t 25) (.seq (.reg [⟨none, .asg 4 (.c (.bool false))⟩])
 .ret)
 .skip))))
 (.drop [17, 18, 19, 20, 21, 22, 23, 24, 25] (.reg [⟨none, .mov 15 (.t 5)⟩,
 ⟨none, .bin 16 .add (.t 15) (.c (.int .i64 1))⟩,
 ⟨none, .asg 5 (.t 16)⟩])))))
def c_laws_rInts : ACode :=
 (.seq (.reg [⟨none, .asg 4 (.c (.bool false))⟩])
 (.seq (.seq (.reg [⟨none, .mov 6 (.t 0)⟩,
 ⟨none, .len 7 (.t 6)⟩,
 ⟨none, .mov 8 (.t 1)⟩,
 ⟨none, .len 9 (.t 8)⟩,
 ⟨none, .bin 10 .neq (.t 7) (.t 9)⟩])
 (.drop [6, 7, 8, 9] (.cond (.t 10) (.seq (.reg [⟨none, .asg 4 (.c (.bool false))⟩])
 .ret)
 .skip)))
 (.drop [6, 7, 8, 9, 10] (.seq (.seq (.reg [⟨none, .asg 5 (.c (.int .i64 0))⟩])
 (.block 0 (.loop c_laws_rInts_l1)))
 (.drop [5, 11, 12, 13, 14, 17, 18, 19, 20, 21, 22, 23, 24, 25, 15, 16] (.seq (.reg [⟨none, .asg 4 (.c (.bool true))⟩])
 .ret))))))
abbrev r_laws_rInts : List RS := [.t 4]
theorem k_laws_rInts : fitsF Try.prog f_laws_rInts 26 c_laws_rInts r_laws_rInts = true := by kernel_rfl

/- loop.example/g01078/spec.l1In: [x=0, a=1, b=2, x=3, a=4, b=5] -/
def c_spec_l1In : ACode :=
 (.seq (.reg [⟨none, .asg 6 (.c (.bool false))⟩])
 (.seq (.reg [⟨none, .mov 7 (.t 0)⟩,
 ⟨none, .mov 8 (.t 1)⟩,
 ⟨none, .bin 9 .geq (.t 7) (.t 8)⟩,
 ⟨none, .asg 10 (.t 9)⟩,
 ⟨some (10, true), .mov 11 (.t 0)⟩,
 ⟨some (10, true), .mov 12 (.t 2)⟩,
 ⟨some (10, true), .bin 13 .leq (.t 11) (.t 12)⟩,
 ⟨none, .pick 14 (.t 10) (.t 13) (.c (.bool false))⟩,
 ⟨none, .asg 6 (.t 14)⟩])
 (.drop [7, 8, 9, 10, 11, 12, 13, 14] .ret)))
abbrev r_spec_l1In : List RS := [.t 6]
theorem k_spec_l1In : fitsF Try.prog f_spec_l1In 15 c_spec_l1In r_spec_l1In = true := by kernel_rfl

/- loop.example/g01078/impl.inSize: [list=0, n=1, list=2, n=3, _=5, x=6] -/
def c_impl_inSize_l1 : ACode :=
 (.seq (.reg [⟨none, .bin 10 .lss (.t 9) (.t 8)⟩])
 (.seq (.cond (.t 10) .skip
 (.exit 0))
 (.seq (.block 1 (.seq (.reg [⟨none, .iad 11 1 (.t 7) (.t 9)⟩,
 ⟨none, .ld 12 1 false (.t 11)⟩,
 ⟨none, .asg 6 (.t 12)⟩])
 (.drop [11, 12] (.seq (.reg [⟨none, .mov 13 (.t 6)⟩,
 ⟨none, .bin 14 .lss (.t 13) (.c (.int .i64 0))⟩,
 ⟨none, .asg 15 (.t 14)⟩,
 ⟨some (15, false), .mov 16 (.t 6)⟩,
 ⟨some (15, false), .mov 17 (.t 1)⟩,
 ⟨some (15, false), .bin 18 .geq (.t 16) (.t 17)⟩,
 ⟨none, .pick 19 (.t 15) (.c (.bool true)) (.t 18)⟩])
 (.drop [13, 14, 15, 16, 17, 18] (.cond (.t 19) (.seq (.reg [⟨none, .asg 4 (.c (.bool false))⟩])
 .ret)
 .skip))))))
 (.drop [11, 12, 6, 13, 14, 15, 16, 17, 18, 19] (.reg [⟨none, .bin 20 .add (.t 9) (.c (.int .i64 1))⟩,
 ⟨none, .asg 9 (.t 20)⟩])))))
def c_impl_inSize : ACode :=
 (.seq (.reg [⟨none, .asg 4 (.c (.bool false))⟩])
 (.seq (.seq (.reg [⟨none, .mov 7 (.t 0)⟩,
 ⟨none, .len 8 (.t 7)⟩,
 ⟨none, .mov 9 (.c (.int .i64 0))⟩])
 (.block 0 (.loop c_impl_inSize_l1)))
 (.drop [7, 8, 9, 10, 11, 12, 6, 13, 14, 15, 16, 17, 18, 19, 20] (.seq (.reg [⟨none, .asg 4 (.c (.bool true))⟩])
 .ret))))
abbrev r_impl_inSize : List RS := [.t 4]
theorem k_impl_inSize : fitsF Try.prog f_impl_inSize 21 c_impl_inSize r_impl_inSize = true := by kernel_rfl

/- loop.example/g01078/impl.newOrder: [n=0, n=1, o=3, x=4] -/
def c_impl_newOrder_l1 : ACode :=
 (.seq (.reg [⟨none, .bin 10 .lss (.t 9) (.t 8)⟩])
 (.seq (.cond (.t 10) .skip
 (.exit 0))
 (.seq (.block 1 (.seq (.reg [⟨none, .mov 11 (.t 9)⟩,
 ⟨none, .asg 4 (.t 11)⟩])
 (.drop [11] (.reg [⟨none, .mov 12 (.t 3)⟩,
 ⟨none, .mov 13 (.t 4)⟩,
 ⟨none, .mov 14 (.t 0)⟩,
 ⟨none, .mk 15 1 (.bool false) (.t 14)⟩,
 ⟨none, .iad 16 1 (.t 12) (.t 13)⟩,
 ⟨none, .st 1 (.t 16) (.t 15)⟩]))))
 (.drop [11, 4, 12, 13, 14, 15, 16] (.reg [⟨none, .bin 17 .add (.t 9) (.c (.int .i64 1))⟩,
 ⟨none, .asg 9 (.t 17)⟩])))))
def c_impl_newOrder : ACode :=
 (.seq (.reg [⟨none, .asg 2 (.c (.nilsl 1))⟩])
 (.seq (.reg [⟨none, .mov 5 (.t 0)⟩,
 ⟨none, .mk 6 1 (.nilsl 1) (.t 5)⟩,
 ⟨none, .asg 3 (.t 6)⟩])
 (.drop [5, 6] (.seq (.seq (.reg [⟨none, .mov 7 (.t 3)⟩,
 ⟨none, .len 8 (.t 7)⟩,
 ⟨none, .mov 9 (.c (.int .i64 0))⟩])
 (.drop [7] (.block 0 (.loop c_impl_newOrder_l1))))
 (.drop [7, 8, 9, 10, 11, 4, 12, 13, 14, 15, 16, 17] (.seq (.reg [⟨none, .mov 18 (.t 3)⟩,
 ⟨none, .asg 2 (.t 18)⟩])
 (.drop [18] .ret)))))))
abbrev r_impl_newOrder : List RS := [.t 2]
theorem k_impl_newOrder : fitsF Try.prog f_impl_newOrder 19 c_impl_newOrder r_impl_newOrder = true := by kernel_rfl

/- (loop.example/g01078/impl.order).poset: [o=0, o=1, p=3, x=4, list=5, y=6] -/
def c_impl_order_poset_l1 : ACode :=
 (.seq (.reg [⟨none, .bin 18 .lss (.t 17) (.t 16)⟩])
 (.seq (.cond (.t 18) .skip
 (.exit 2))
 (.seq (.block 3 (.seq (.reg [⟨none, .mov 19 (.t 17)⟩,
 ⟨none, .asg 6 (.t 19)⟩])
 (.drop [19] (.seq (.reg [⟨none, .mov 20 (.t 0)⟩,
 ⟨none, .mov 21 (.t 6)⟩,
 ⟨none, .iad 22 1 (.t 20) (.t 21)⟩,
 ⟨none, .ld 23 1 false (.t 22)⟩,
 ⟨none, .mov 24 (.t 4)⟩,
 ⟨none, .iad 25 1 (.t 23) (.t 24)⟩,
 ⟨none, .ld 26 1 false (.t 25)⟩])
 (.drop [20, 21, 22, 23, 24, 25] (.cond (.t 26) (.reg [⟨none, .mov 27 (.t 5)⟩,
 ⟨none, .mov 28 (.t 6)⟩,
 ⟨none, .bsl 29 1 [(.t 28)]⟩,
 ⟨none, .app 30 1 (.t 27) (.t 29)⟩,
 ⟨none, .asg 5 (.t 30)⟩])
 .skip))))))
 (.drop [19, 6, 20, 21, 22, 23, 24, 25, 26, 27, 28, 29, 30] (.reg [⟨none, .bin 31 .add (.t 17) (.c (.int .i64 1))⟩,
 ⟨none, .asg 17 (.t 31)⟩])))))
def c_impl_order_poset_l2 : ACode :=
 (.seq (.reg [⟨none, .bin 12 .lss (.t 11) (.t 10)⟩])
 (.seq (.cond (.t 12) .skip
 (.exit 0))
 (.seq (.block 1 (.seq (.reg [⟨none, .mov 13 (.t 11)⟩,
 ⟨none, .asg 4 (.t 13)⟩])
 (.drop [13] (.seq (.reg [⟨none, .bsl 14 1 []⟩,
 ⟨none, .asg 5 (.t 14)⟩])
 (.drop [14] (.seq (.seq (.reg [⟨none, .mov 15 (.t 0)⟩,
 ⟨none, .len 16 (.t 15)⟩,
 ⟨none, .mov 17 (.c (.int .i64 0))⟩])
 (.drop [15] (.block 2 (.loop c_impl_order_poset_l1))))
 (.drop [15, 16, 17, 18, 19, 6, 20, 21, 22, 23, 24, 25, 26, 27, 28, 29, 30, 31] (.reg [⟨none, .fadr 32 0 (.t 3)⟩,
 ⟨none, .ld 33 1 false (.t 32)⟩,
 ⟨none, .mov 34 (.t 5)⟩,
 ⟨none, .bsl 35 1 [(.t 34)]⟩,
 ⟨none, .app 36 1 (.t 33) (.t 35)⟩,
 ⟨none, .fadr 37 0 (.t 3)⟩,
 ⟨none, .st 1 (.t 37) (.t 36)⟩]))))))))
 (.drop [13, 4, 14, 5, 15, 16, 17, 18, 19, 6, 20, 21, 22, 23, 24, 25, 26, 27, 28, 29, 30, 31, 32, 33, 34, 35, 36, 37] (.reg [⟨none, .bin 38 .add (.t 11) (.c (.int .i64 1))⟩,
 ⟨none, .asg 11 (.t 38)⟩])))))
def c_impl_order_poset : ACode :=
 (.seq (.reg [⟨none, .alc 2 (.agg [.nilsl 1])⟩])
 (.seq (.reg [⟨none, .bsl 7 1 []⟩,
 ⟨none, .bld 8 [.nilsl 1] [(0, 1, (.t 7))]⟩,
 ⟨none, .alc 3 (.agg [.nilsl 1])⟩,
 ⟨none, .st 1 (.t 3) (.t 8)⟩])
 (.drop [7, 8] (.seq (.seq (.reg [⟨none, .mov 9 (.t 0)⟩,
 ⟨none, .len 10 (.t 9)⟩,
 ⟨none, .mov 11 (.c (.int .i64 0))⟩])
 (.drop [9] (.block 0 (.loop c_impl_order_poset_l2))))
 (.drop [9, 10, 11, 12, 13, 4, 14, 5, 15, 16, 17, 18, 19, 6, 20, 21, 22, 23, 24, 25, 26, 27, 28, 29, 30, 31, 32, 33, 34, 35, 36, 37, 38] (.seq (.reg [⟨none, .ld 39 1 true (.t 3)⟩,
 ⟨none, .st 1 (.t 2) (.t 39)⟩])
 (.drop [39] .ret)))))))
abbrev r_impl_order_poset : List RS := [.c 2 1 true]
theorem k_impl_order_poset : fitsF Try.prog f_impl_order_poset 40 c_impl_order_poset r_impl_order_poset = true := by kernel_rfl

/- loop.example/g01078/spec.l24Product: [p=0, q=1, p=2, q=3, out=5, m=6, x=7, y=8, below=9, i=10, k=11] -/
def c_spec_l24Product_l1 : ACode :=
 (.seq (.seq (.reg [⟨none, .mov 40 (.t 11)⟩,
 ⟨none, .fadr 41 0 (.t 3)⟩,
 ⟨none, .ld 42 1 false (.t 41)⟩,
 ⟨none, .mov 43 (.t 8)⟩,
 ⟨none, .iad 44 1 (.t 42) (.t 43)⟩,
 ⟨none, .ld 45 1 false (.t 44)⟩,
 ⟨none, .len 46 (.t 45)⟩,
 ⟨none, .bin 47 .lss (.t 40) (.t 46)⟩])
 (.drop [40, 41, 42, 43, 44, 45, 46] (.cond (.t 47) .skip
 (.exit 6))))
 (.drop [40, 41, 42, 43, 44, 45, 46, 47] (.seq (.block 7 (.dreg [(⟨none, .mov 50 (.t 9)⟩, [69]),
 (⟨none, .fadr 51 0 (.t 2)⟩, [50]),
 (⟨none, .ld 52 1 false (.t 51)⟩, [50]),
 (⟨none, .mov 53 (.t 7)⟩, [50, 51, 52]),
 (⟨none, .iad 54 1 (.t 52) (.t 53)⟩, [50]),
 (⟨none, .ld 55 1 false (.t 54)⟩, [50]),
 (⟨none, .mov 56 (.t 10)⟩, [50, 51, 52, 53, 54, 55]),
 (⟨none, .iad 57 1 (.t 55) (.t 56)⟩, [50]),
 (⟨none, .ld 58 1 false (.t 57)⟩, [50]),
 (⟨none, .mov 59 (.t 6)⟩, [50, 51, 52, 53, 54, 55, 56, 57, 58]),
 (⟨none, .bin 60 .mul (.t 58) (.t 59)⟩, [50]),
 (⟨none, .fadr 61 0 (.t 3)⟩, [50, 51, 52, 53, 54, 55, 56, 57, 58, 59, 60]),
 (⟨none, .ld 62 1 false (.t 61)⟩, [50, 51, 52, 53, 54, 55, 56, 57, 58, 59, 60]),
 (⟨none, .mov 63 (.t 8)⟩, [50, 51, 52, 53, 54, 55, 56, 57, 58, 59, 60, 61, 62]),
 (⟨none, .iad 64 1 (.t 62) (.t 63)⟩, [50, 51, 52, 53, 54, 55, 56, 57, 58, 59, 60]),
 (⟨none, .ld 65 1 false (.t 64)⟩, [50, 51, 52, 53, 54, 55, 56, 57, 58, 59, 60]),
 (⟨none, .mov 66 (.t 11)⟩, [50, 51, 52, 53, 54, 55, 56, 57, 58, 59, 60, 61, 62, 63, 64, 65]),
 (⟨none, .iad 67 1 (.t 65) (.t 66)⟩, [50, 51, 52, 53, 54, 55, 56, 57, 58, 59, 60]),
 (⟨none, .ld 68 1 false (.t 67)⟩, [50, 51, 52, 53, 54, 55, 56, 57, 58, 59, 60]),
 (⟨none, .bin 69 .add (.t 60) (.t 68)⟩, [50]),
 (⟨none, .bsl 70 1 [(.t 69)]⟩, [50])]
 [⟨none, .app 71 1 (.t 50) (.t 70)⟩,
 ⟨none, .asg 9 (.t 71)⟩]))
 (.drop [50, 51, 52, 53, 54, 55, 56, 57, 58, 59, 60, 61, 62, 63, 64, 65, 66, 67, 68, 69, 70, 71] (.reg [⟨none, .mov 48 (.t 11)⟩,
 ⟨none, .bin 49 .add (.t 48) (.c (.int .i64 1))⟩,
 ⟨none, .asg 11 (.t 49)⟩])))))
def c_spec_l24Product_l2 : ACode :=
 (.seq (.seq (.reg [⟨none, .mov 30 (.t 10)⟩,
 ⟨none, .fadr 31 0 (.t 2)⟩,
 ⟨none, .ld 32 1 false (.t 31)⟩,
 ⟨none, .mov 33 (.t 7)⟩,
 ⟨none, .iad 34 1 (.t 32) (.t 33)⟩,
 ⟨none, .ld 35 1 false (.t 34)⟩,
 ⟨none, .len 36 (.t 35)⟩,
 ⟨none, .bin 37 .lss (.t 30) (.t 36)⟩])
 (.drop [30, 31, 32, 33, 34, 35, 36] (.cond (.t 37) .skip
 (.exit 4))))
 (.drop [30, 31, 32, 33, 34, 35, 36, 37] (.seq (.block 5 (.seq (.reg [⟨none, .asg 11 (.c (.int .i64 0))⟩])
 (.block 6 (.loop c_spec_l24Product_l1))))
 (.drop [11, 40, 41, 42, 43, 44, 45, 46, 47, 50, 51, 52, 53, 54, 55, 56, 57, 58, 59, 60, 61, 62, 63, 64, 65, 66, 67, 68, 69, 70, 71, 48, 49] (.reg [⟨none, .mov 38 (.t 10)⟩,
 ⟨none, .bin 39 .add (.t 38) (.c (.int .i64 1))⟩,
 ⟨none, .asg 10 (.t 39)⟩])))))
def c_spec_l24Product_l3 : ACode :=
 (.seq (.seq (.reg [⟨none, .mov 24 (.t 8)⟩,
 ⟨none, .mov 25 (.t 6)⟩,
 ⟨none, .bin 26 .lss (.t 24) (.t 25)⟩])
 (.drop [24, 25] (.cond (.t 26) .skip
 (.exit 2))))
 (.drop [24, 25, 26] (.seq (.block 3 (.seq (.reg [⟨none, .bsl 29 1 []⟩,
 ⟨none, .asg 9 (.t 29)⟩])
 (.drop [29] (.seq (.seq (.reg [⟨none, .asg 10 (.c (.int .i64 0))⟩])
 (.block 4 (.loop c_spec_l24Product_l2)))
 (.drop [10, 30, 31, 32, 33, 34, 35, 36, 37, 11, 40, 41, 42, 43, 44, 45, 46, 47, 50, 51, 52, 53, 54, 55, 56, 57, 58, 59, 60, 61, 62, 63, 64, 65, 66, 67, 68, 69, 70, 71, 48, 49, 38, 39] (.reg [⟨none, .fadr 72 0 (.t 5)⟩,
 ⟨none, .ld 73 1 false (.t 72)⟩,
 ⟨none, .mov 74 (.t 9)⟩,
 ⟨none, .bsl 75 1 [(.t 74)]⟩,
 ⟨none, .app 76 1 (.t 73) (.t 75)⟩,
 ⟨none, .fadr 77 0 (.t 5)⟩,
 ⟨none, .st 1 (.t 77) (.t 76)⟩]))))))
 (.drop [29, 9, 10, 30, 31, 32, 33, 34, 35, 36, 37, 11, 40, 41, 42, 43, 44, 45, 46, 47, 50, 51, 52, 53, 54, 55, 56, 57, 58, 59, 60, 61, 62, 63, 64, 65, 66, 67, 68, 69, 70, 71, 48, 49, 38, 39, 72, 73, 74, 75, 76, 77] (.reg [⟨none, .mov 27 (.t 8)⟩,
 ⟨none, .bin 28 .add (.t 27) (.c (.int .i64 1))⟩,
 ⟨none, .asg 8 (.t 28)⟩])))))
def c_spec_l24Product_l4 : ACode :=
 (.seq (.seq (.reg [⟨none, .mov 17 (.t 7)⟩,
 ⟨none, .fadr 18 0 (.t 2)⟩,
 ⟨none, .ld 19 1 false (.t 18)⟩,
 ⟨none, .len 20 (.t 19)⟩,
 ⟨none, .bin 21 .lss (.t 17) (.t 20)⟩])
 (.drop [17, 18, 19, 20] (.cond (.t 21) .skip
 (.exit 0))))
 (.drop [17, 18, 19, 20, 21] (.seq (.block 1 (.seq (.reg [⟨none, .asg 8 (.c (.int .i64 0))⟩])
 (.block 2 (.loop c_spec_l24Product_l3))))
 (.drop [8, 24, 25, 26, 29, 9, 10, 30, 31, 32, 33, 34, 35, 36, 37, 11, 40, 41, 42, 43, 44, 45, 46, 47, 50, 51, 52, 53, 54, 55, 56, 57, 58, 59, 60, 61, 62, 63, 64, 65, 66, 67, 68, 69, 70, 71, 48, 49, 38, 39, 72, 73, 74, 75, 76, 77, 27, 28] (.reg [⟨none, .mov 22 (.t 7)⟩,
 ⟨none, .bin 23 .add (.t 22) (.c (.int .i64 1))⟩,
 ⟨none, .asg 7 (.t 23)⟩])))))
def c_spec_l24Product : ACode :=
 (.seq (.reg [⟨none, .box 2 (.t 0)⟩,
 ⟨none, .box 3 (.t 1)⟩,
 ⟨none, .alc 4 (.agg [.nilsl 1])⟩])
 (.seq (.reg [⟨none, .bsl 12 1 []⟩,
 ⟨none, .bld 13 [.nilsl 1] [(0, 1, (.t 12))]⟩,
 ⟨none, .alc 5 (.agg [.nilsl 1])⟩,
 ⟨none, .st 1 (.t 5) (.t 13)⟩])
 (.drop [12, 13] (.seq (.reg [⟨none, .fadr 14 0 (.t 3)⟩,
 ⟨none, .ld 15 1 false (.t 14)⟩,
 ⟨none, .len 16 (.t 15)⟩,
 ⟨none, .asg 6 (.t 16)⟩])
 (.drop [14, 15, 16] (.seq (.seq (.reg [⟨none, .asg 7 (.c (.int .i64 0))⟩])
 (.block 0 (.loop c_spec_l24Product_l4)))
 (.drop [7, 17, 18, 19, 20, 21, 8, 24, 25, 26, 29, 9, 10, 30, 31, 32, 33, 34, 35, 36, 37, 11, 40, 41, 42, 43, 44, 45, 46, 47, 50, 51, 52, 53, 54, 55, 56, 57, 58, 59, 60, 61, 62, 63, 64, 65, 66, 67, 68, 69, 70, 71, 48, 49, 38, 39, 72, 73, 74, 75, 76, 77, 27, 28, 22, 23] (.seq (.reg [⟨none, .ld 78 1 true (.t 5)⟩,
 ⟨none, .st 1 (.t 4) (.t 78)⟩])
 (.drop [78] .ret)))))))))
abbrev r_spec_l24Product : List RS := [.c 4 1 true]
theorem k_spec_l24Product : fitsF Try.prog f_spec_l24Product 79 c_spec_l24Product r_spec_l24Product = true := by kernel_rfl

/- loop.example/g01078/spec.l1Own: [l=0, l=1] -/
def c_spec_l1Own : ACode :=
 (.seq (.reg [⟨none, .asg 2 (.c (.nilsl 1))⟩])
 (.seq (.reg [⟨none, .bsl 3 1 []⟩,
 ⟨none, .mov 4 (.t 0)⟩,
 ⟨none, .app 5 1 (.t 3) (.t 4)⟩,
 ⟨none, .asg 2 (.t 5)⟩])
 (.drop [3, 4, 5] .ret)))
abbrev r_spec_l1Own : List RS := [.t 2]
theorem k_spec_l1Own : fitsF Try.prog f_spec_l1Own 6 c_spec_l1Own r_spec_l1Own = true := by kernel_rfl

/- loop.example/g01078/spec.l6Identity: [n=0, n=1, out=3, x=4] -/
def c_spec_l6Identity_l1 : ACode :=
 (.seq (.seq (.reg [⟨none, .mov 6 (.t 4)⟩,
 ⟨none, .mov 7 (.t 0)⟩,
 ⟨none, .bin 8 .lss (.t 6) (.t 7)⟩])
 (.drop [6, 7] (.cond (.t 8) .skip
 (.exit 0))))
 (.drop [6, 7, 8] (.seq (.block 1 (.reg [⟨none, .mov 11 (.t 3)⟩,
 ⟨none, .mov 12 (.t 4)⟩,
 ⟨none, .bsl 13 1 [(.t 12)]⟩,
 ⟨none, .app 14 1 (.t 11) (.t 13)⟩,
 ⟨none, .asg 3 (.t 14)⟩]))
 (.drop [11, 12, 13, 14] (.reg [⟨none, .mov 9 (.t 4)⟩,
 ⟨none, .bin 10 .add (.t 9) (.c (.int .i64 1))⟩,
 ⟨none, .asg 4 (.t 10)⟩])))))
def c_spec_l6Identity : ACode :=
 (.seq (.reg [⟨none, .asg 2 (.c (.nilsl 1))⟩])
 (.seq (.reg [⟨none, .bsl 5 1 []⟩,
 ⟨none, .asg 3 (.t 5)⟩])
 (.drop [5] (.seq (.seq (.reg [⟨none, .asg 4 (.c (.int .i64 0))⟩])
 (.block 0 (.loop c_spec_l6Identity_l1)))
 (.drop [4, 6, 7, 8, 11, 12, 13, 14, 9, 10] (.seq (.reg [⟨none, .mov 15 (.t 3)⟩,
 ⟨none, .asg 2 (.t 15)⟩])
 (.drop [15] .ret)))))))
abbrev r_spec_l6Identity : List RS := [.t 2]
theorem k_spec_l6Identity : fitsF Try.prog f_spec_l6Identity 16 c_spec_l6Identity r_spec_l6Identity = true := by kernel_rfl

/- (*loop.example/g01078/impl.lattice).bottom: [l=0, l=1, b=3, x=4] -/
def c_impl_lattice_bottom_l1 : ACode :=
 (.seq (.reg [⟨none, .bin 11 .lss (.t 10) (.t 9)⟩])
 (.seq (.cond (.t 11) .skip
 (.exit 0))
 (.seq (.block 1 (.seq (.reg [⟨none, .mov 12 (.t 10)⟩,
 ⟨none, .asg 4 (.t 12)⟩])
 (.drop [12] (.reg [⟨none, .mov 13 (.t 0)⟩,
 ⟨none, .nck 14 (.t 13)⟩,
 ⟨none, .fadr 15 1 (.t 14)⟩,
 ⟨none, .ld 16 1 false (.t 15)⟩,
 ⟨none, .mov 17 (.t 3)⟩,
 ⟨none, .iad 18 1 (.t 16) (.t 17)⟩,
 ⟨none, .ld 19 1 false (.t 18)⟩,
 ⟨none, .mov 20 (.t 4)⟩,
 ⟨none, .iad 21 1 (.t 19) (.t 20)⟩,
 ⟨none, .ld 22 1 false (.t 21)⟩,
 ⟨none, .asg 3 (.t 22)⟩]))))
 (.drop [12, 4, 13, 14, 15, 16, 17, 18, 19, 20, 21, 22] (.reg [⟨none, .bin 23 .add (.t 10) (.c (.int .i64 1))⟩,
 ⟨none, .asg 10 (.t 23)⟩])))))
def c_impl_lattice_bottom : ACode :=
 (.seq (.reg [⟨none, .asg 2 (.c (.int .i64 0))⟩])
 (.seq (.reg [⟨none, .asg 3 (.c (.int .i64 0))⟩])
 (.seq (.seq (.reg [⟨none, .mov 5 (.t 0)⟩,
 ⟨none, .nck 6 (.t 5)⟩,
 ⟨none, .fadr 7 0 (.t 6)⟩,
 ⟨none, .ld 8 1 false (.t 7)⟩,
 ⟨none, .len 9 (.t 8)⟩,
 ⟨none, .mov 10 (.c (.int .i64 0))⟩])
 (.drop [5, 6, 7, 8] (.block 0 (.loop c_impl_lattice_bottom_l1))))
 (.drop [5, 6, 7, 8, 9, 10, 11, 12, 4, 13, 14, 15, 16, 17, 18, 19, 20, 21, 22, 23] (.seq (.reg [⟨none, .mov 24 (.t 3)⟩,
 ⟨none, .asg 2 (.t 24)⟩])
 (.drop [24] .ret))))))
abbrev r_impl_lattice_bottom : List RS := [.t 2]
theorem k_impl_lattice_bottom : fitsF Try.prog f_impl_lattice_bottom 25 c_impl_lattice_bottom r_impl_lattice_bottom = true := by kernel_rfl

/- (*loop.example/g01078/impl.lattice).top: [l=0, l=1, t=3, x=4] -/
def c_impl_lattice_top_l1 : ACode :=
 (.seq (.reg [⟨none, .bin 11 .lss (.t 10) (.t 9)⟩])
 (.seq (.cond (.t 11) .skip
 (.exit 0))
 (.seq (.block 1 (.seq (.reg [⟨none, .mov 12 (.t 10)⟩,
 ⟨none, .asg 4 (.t 12)⟩])
 (.drop [12] (.reg [⟨none, .mov 13 (.t 0)⟩,
 ⟨none, .nck 14 (.t 13)⟩,
 ⟨none, .fadr 15 2 (.t 14)⟩,
 ⟨none, .ld 16 1 false (.t 15)⟩,
 ⟨none, .mov 17 (.t 3)⟩,
 ⟨none, .iad 18 1 (.t 16) (.t 17)⟩,
 ⟨none, .ld 19 1 false (.t 18)⟩,
 ⟨none, .mov 20 (.t 4)⟩,
 ⟨none, .iad 21 1 (.t 19) (.t 20)⟩,
 ⟨none, .ld 22 1 false (.t 21)⟩,
 ⟨none, .asg 3 (.t 22)⟩]))))
 (.drop [12, 4, 13, 14, 15, 16, 17, 18, 19, 20, 21, 22] (.reg [⟨none, .bin 23 .add (.t 10) (.c (.int .i64 1))⟩,
 ⟨none, .asg 10 (.t 23)⟩])))))
def c_impl_lattice_top : ACode :=
 (.seq (.reg [⟨none, .asg 2 (.c (.int .i64 0))⟩])
 (.seq (.reg [⟨none, .asg 3 (.c (.int .i64 0))⟩])
 (.seq (.seq (.reg [⟨none, .mov 5 (.t 0)⟩,
 ⟨none, .nck 6 (.t 5)⟩,
 ⟨none, .fadr 7 0 (.t 6)⟩,
 ⟨none, .ld 8 1 false (.t 7)⟩,
 ⟨none, .len 9 (.t 8)⟩,
 ⟨none, .mov 10 (.c (.int .i64 0))⟩])
 (.drop [5, 6, 7, 8] (.block 0 (.loop c_impl_lattice_top_l1))))
 (.drop [5, 6, 7, 8, 9, 10, 11, 12, 4, 13, 14, 15, 16, 17, 18, 19, 20, 21, 22, 23] (.seq (.reg [⟨none, .mov 24 (.t 3)⟩,
 ⟨none, .asg 2 (.t 24)⟩])
 (.drop [24] .ret))))))
abbrev r_impl_lattice_top : List RS := [.t 2]
theorem k_impl_lattice_top : fitsF Try.prog f_impl_lattice_top 25 c_impl_lattice_top r_impl_lattice_top = true := by kernel_rfl

/- (loop.example/g01078/impl.order).those: [o=0, so=1, o=2, so=3, list=5, x=6] -/
def c_impl_order_those_l1 : ACode :=
 (.seq (.reg [⟨none, .bin 11 .lss (.t 10) (.t 9)⟩])
 (.seq (.cond (.t 11) .skip
 (.exit 0))
 (.seq (.block 1 (.seq (.reg [⟨none, .mov 12 (.t 10)⟩,
 ⟨none, .asg 6 (.t 12)⟩])
 (.drop [12] (.seq (.reg [⟨none, .mov 13 (.t 1)⟩,
 ⟨none, .mov 14 (.t 6)⟩,
 ⟨none, .cally 15 (.t 13) [(.t 14)]⟩])
 (.drop [13, 14] (.cond (.t 15) (.reg [⟨none, .mov 16 (.t 5)⟩,
 ⟨none, .mov 17 (.t 6)⟩,
 ⟨none, .bsl 18 1 [(.t 17)]⟩,
 ⟨none, .app 19 1 (.t 16) (.t 18)⟩,
 ⟨none, .asg 5 (.t 19)⟩])
 .skip))))))
 (.drop [12, 6, 13, 14, 15, 16, 17, 18, 19] (.reg [⟨none, .bin 20 .add (.t 10) (.c (.int .i64 1))⟩,
 ⟨none, .asg 10 (.t 20)⟩])))))
def c_impl_order_those : ACode :=
 (.seq (.reg [⟨none, .asg 4 (.c (.nilsl 1))⟩])
 (.seq (.reg [⟨none, .bsl 7 1 []⟩,
 ⟨none, .asg 5 (.t 7)⟩])
 (.drop [7] (.seq (.seq (.reg [⟨none, .mov 8 (.t 0)⟩,
 ⟨none, .len 9 (.t 8)⟩,
 ⟨none, .mov 10 (.c (.int .i64 0))⟩])
 (.drop [8] (.block 0 (.loop c_impl_order_those_l1))))
 (.drop [8, 9, 10, 11, 12, 6, 13, 14, 15, 16, 17, 18, 19, 20] (.seq (.reg [⟨none, .mov 21 (.t 5)⟩,
 ⟨none, .asg 4 (.t 21)⟩])
 (.drop [21] .ret)))))))
abbrev r_impl_order_those : List RS := [.t 4]
theorem k_impl_order_those : fitsF Try.prog f_impl_order_those 22 c_impl_order_those r_impl_order_those = true := by kernel_rfl

/- (*loop.example/g01078/spec.l1Cur).next: [c=0, c=1, b=3] -/
def c_spec_l1Cur_next_k1 : ACode :=
 (.seq (.dreg [(⟨none, .mov 4 (.t 0)⟩, []),
 (⟨none, .nck 5 (.t 4)⟩, []),
 (⟨none, .fadr 6 1 (.t 5)⟩, []),
 (⟨none, .ld 7 1 false (.t 6)⟩, []),
 (⟨none, .mov 8 (.t 0)⟩, [4, 5, 6, 7]),
 (⟨none, .nck 9 (.t 8)⟩, [4, 5, 6, 7]),
 (⟨none, .fadr 10 0 (.t 9)⟩, [4, 5, 6, 7]),
 (⟨none, .ld 11 1 false (.t 10)⟩, [4, 5, 6, 7]),
 (⟨none, .len 12 (.t 11)⟩, [4, 5, 6, 7])]
 [⟨none, .bin 13 .lss (.t 7) (.t 12)⟩])
 (.drop [4, 5, 6, 7, 8, 9, 10, 11, 12] (.cond (.t 13) (.dreg [(⟨none, .mov 14 (.t 0)⟩, []),
 (⟨none, .nck 15 (.t 14)⟩, []),
 (⟨none, .fadr 16 0 (.t 15)⟩, []),
 (⟨none, .ld 17 1 false (.t 16)⟩, []),
 (⟨none, .mov 18 (.t 0)⟩, [14, 15, 16, 17]),
 (⟨none, .nck 19 (.t 18)⟩, [14, 15, 16, 17]),
 (⟨none, .fadr 20 1 (.t 19)⟩, [14, 15, 16, 17]),
 (⟨none, .ld 21 1 false (.t 20)⟩, [14, 15, 16, 17])]
 [⟨none, .iad 22 1 (.t 17) (.t 21)⟩,
 ⟨none, .ld 23 1 false (.t 22)⟩,
 ⟨none, .cnv 24 .i64 (.t 23)⟩,
 ⟨none, .asg 3 (.t 24)⟩])
 .skip)))
def c_spec_l1Cur_next : ACode :=
 (.seq (.reg [⟨none, .asg 2 (.c (.int .i64 0))⟩])
 (.seq (.reg [⟨none, .asg 3 (.c (.int .i64 0))⟩])
 (.seq (.cut c_spec_l1Cur_next_k1)
 (.drop [4, 5, 6, 7, 8, 9, 10, 11, 12, 13, 14, 15, 16, 17, 18, 19, 20, 21, 22, 23, 24] (.seq (.reg [⟨none, .mov 25 (.t 0)⟩,
 ⟨none, .nck 26 (.t 25)⟩,
 ⟨none, .fadr 27 1 (.t 26)⟩,
 ⟨none, .ld 28 1 false (.t 27)⟩,
 ⟨none, .bin 29 .add (.t 28) (.c (.int .i64 1))⟩,
 ⟨none, .nck 30 (.t 25)⟩,
 ⟨none, .fadr 31 1 (.t 30)⟩,
 ⟨none, .st 1 (.t 31) (.t 29)⟩])
 (.drop [25, 26, 27, 28, 29, 30, 31] (.seq (.reg [⟨none, .mov 32 (.t 0)⟩,
 ⟨none, .mov 33 (.t 0)⟩,
 ⟨none, .nck 34 (.t 33)⟩,
 ⟨none, .fadr 35 2 (.t 34)⟩,
 ⟨none, .ld 36 1 false (.t 35)⟩,
 ⟨none, .bin 37 .mul (.t 36) (.c (.int .u64 6364136223846793005))⟩,
 ⟨none, .mov 38 (.t 3)⟩,
 ⟨none, .cnv 39 .u64 (.t 38)⟩,
 ⟨none, .bin 40 .add (.t 37) (.t 39)⟩,
 ⟨none, .bin 41 .add (.t 40) (.c (.int .u64 550289))⟩,
 ⟨none, .nck 42 (.t 32)⟩,
 ⟨none, .fadr 43 2 (.t 42)⟩,
 ⟨none, .st 1 (.t 43) (.t 41)⟩])
 (.drop [32, 33, 34, 35, 36, 37, 38, 39, 40, 41, 42, 43] (.seq (.seq (.dreg [(⟨none, .mov 44 (.t 0)⟩, []),
 (⟨none, .nck 45 (.t 44)⟩, []),
 (⟨none, .fadr 46 1 (.t 45)⟩, []),
 (⟨none, .ld 47 1 false (.t 46)⟩, []),
 (⟨none, .mov 48 (.t 0)⟩, [44, 45, 46, 47]),
 (⟨none, .nck 49 (.t 48)⟩, [44, 45, 46, 47]),
 (⟨none, .fadr 50 0 (.t 49)⟩, [44, 45, 46, 47]),
 (⟨none, .ld 51 1 false (.t 50)⟩, [44, 45, 46, 47]),
 (⟨none, .len 52 (.t 51)⟩, [44, 45, 46, 47])]
 [⟨none, .bin 53 .leq (.t 47) (.t 52)⟩])
 (.drop [44, 45, 46, 47, 48, 49, 50, 51, 52] (.cond (.t 53) (.seq (.reg [⟨none, .mov 54 (.t 3)⟩,
 ⟨none, .asg 2 (.t 54)⟩])
 (.drop [54] .ret))
 .skip)))
 (.drop [44, 45, 46, 47, 48, 49, 50, 51, 52, 53, 54] (.seq (.reg [⟨none, .mov 55 (.t 0)⟩,
 ⟨none, .nck 56 (.t 55)⟩,
 ⟨none, .fadr 57 2 (.t 56)⟩,
 ⟨none, .ld 58 1 false (.t 57)⟩,
 ⟨none, .bin 59 .shr (.t 58) (.c (.int .u64 40))⟩,
 ⟨none, .bin 60 .and (.t 59) (.c (.int .u64 255))⟩,
 ⟨none, .cnv 61 .i64 (.t 60)⟩,
 ⟨none, .asg 2 (.t 61)⟩])
 (.drop [55, 56, 57, 58, 59, 60, 61] .ret))))))))))))
abbrev r_spec_l1Cur_next : List RS := [.t 2]
theorem k_spec_l1Cur_next : fitsF Try.prog f_spec_l1Cur_next 62 c_spec_l1Cur_next r_spec_l1Cur_next = true := by kernel_rfl

/- loop.example/g01078/spec.l23From: [n=0, pairs=1, n=2, pairs=3, leq=5, x=6, row=7, i=8, z=9, x=10, y=11, p=12, y=13, below=14, x=15] -/
def c_spec_l23From_l1 : ACode :=
 (.seq (.seq (.reg [⟨none, .mov 17 (.t 6)⟩,
 ⟨none, .mov 18 (.t 0)⟩,
 ⟨none, .bin 19 .lss (.t 17) (.t 18)⟩])
 (.drop [17, 18] (.cond (.t 19) .skip
 (.exit 0))))
 (.drop [17, 18, 19] (.seq (.block 1 (.seq (.reg [⟨none, .mov 22 (.t 0)⟩,
 ⟨none, .mk 23 1 (.bool false) (.t 22)⟩,
 ⟨none, .asg 7 (.t 23)⟩])
 (.drop [22, 23] (.seq (.reg [⟨none, .mov 24 (.t 7)⟩,
 ⟨none, .mov 25 (.t 6)⟩,
 ⟨none, .iad 26 1 (.t 24) (.t 25)⟩,
 ⟨none, .st 1 (.t 26) (.c (.bool true))⟩])
 (.drop [24, 25, 26] (.reg [⟨none, .mov 27 (.t 5)⟩,
 ⟨none, .mov 28 (.t 7)⟩,
 ⟨none, .bsl 29 1 [(.t 28)]⟩,
 ⟨none, .app 30 1 (.t 27) (.t 29)⟩,
 ⟨none, .asg 5 (.t 30)⟩]))))))
 (.drop [22, 23, 7, 24, 25, 26, 27, 28, 29, 30] (.reg [⟨none, .mov 20 (.t 6)⟩,
 ⟨none, .bin 21 .add (.t 20) (.c (.int .i64 1))⟩,
 ⟨none, .asg 6 (.t 21)⟩])))))
def c_spec_l23From_l2 : ACode :=
 (.seq (.seq (.reg [⟨none, .mov 31 (.t 8)⟩,
 ⟨none, .mov 32 (.t 1)⟩,
 ⟨none, .len 33 (.t 32)⟩,
 ⟨none, .bin 34 .lss (.t 31) (.t 33)⟩])
 (.drop [31, 32, 33] (.cond (.t 34) .skip
 (.exit 2))))
 (.drop [31, 32, 33, 34] (.seq (.block 3 (.dreg [(⟨none, .mov 37 (.t 5)⟩, []),
 (⟨none, .mov 38 (.t 1)⟩, [37]),
 (⟨none, .mov 39 (.t 8)⟩, [37, 38]),
 (⟨none, .iad 40 2 (.t 38) (.t 39)⟩, [37]),
 (⟨none, .aad 41 1 2 (.t 40) (.c (.int .i64 0))⟩, [37]),
 (⟨none, .ld 42 1 false (.t 41)⟩, [37]),
 (⟨none, .iad 43 1 (.t 37) (.t 42)⟩, []),
 (⟨none, .ld 44 1 false (.t 43)⟩, []),
 (⟨none, .mov 45 (.t 1)⟩, [37, 38, 39, 40, 41, 42, 43, 44]),
 (⟨none, .mov 46 (.t 8)⟩, [37, 38, 39, 40, 41, 42, 43, 44, 45]),
 (⟨none, .iad 47 2 (.t 45) (.t 46)⟩, [37, 38, 39, 40, 41, 42, 43, 44]),
 (⟨none, .aad 48 1 2 (.t 47) (.c (.int .i64 1))⟩, [37, 38, 39, 40, 41, 42, 43, 44]),
 (⟨none, .ld 49 1 false (.t 48)⟩, [37, 38, 39, 40, 41, 42, 43, 44])]
 [⟨none, .iad 50 1 (.t 44) (.t 49)⟩,
 ⟨none, .st 1 (.t 50) (.c (.bool true))⟩]))
 (.drop [37, 38, 39, 40, 41, 42, 43, 44, 45, 46, 47, 48, 49, 50] (.reg [⟨none, .mov 35 (.t 8)⟩,
 ⟨none, .bin 36 .add (.t 35) (.c (.int .i64 1))⟩,
 ⟨none, .asg 8 (.t 36)⟩])))))
def c_spec_l23From_l3 : ACode :=
 (.seq (.seq (.reg [⟨none, .mov 61 (.t 11)⟩,
 ⟨none, .mov 62 (.t 0)⟩,
 ⟨none, .bin 63 .lss (.t 61) (.t 62)⟩])
 (.drop [61, 62] (.cond (.t 63) .skip
 (.exit 8))))
 (.drop [61, 62, 63] (.seq (.block 9 (.dreg [(⟨none, .mov 66 (.t 5)⟩, [77, 85]),
 (⟨none, .mov 67 (.t 10)⟩, [66, 77, 85]),
 (⟨none, .iad 68 1 (.t 66) (.t 67)⟩, [77, 85]),
 (⟨none, .ld 69 1 false (.t 68)⟩, [77, 85]),
 (⟨none, .mov 70 (.t 11)⟩, [66, 67, 68, 69, 77, 85]),
 (⟨none, .mov 71 (.t 5)⟩, [66, 67, 68, 69, 70]),
 (⟨none, .mov 72 (.t 10)⟩, [66, 67, 68, 69, 70, 71]),
 (⟨none, .iad 73 1 (.t 71) (.t 72)⟩, [66, 67, 68, 69, 70]),
 (⟨none, .ld 74 1 false (.t 73)⟩, [66, 67, 68, 69, 70]),
 (⟨none, .mov 75 (.t 11)⟩, [66, 67, 68, 69, 70, 71, 72, 73, 74]),
 (⟨none, .iad 76 1 (.t 74) (.t 75)⟩, [66, 67, 68, 69, 70]),
 (⟨none, .ld 77 1 false (.t 76)⟩, [66, 67, 68, 69, 70]),
 (⟨none, .asg 78 (.t 77)⟩, [66, 67, 68, 69, 70]),
 (⟨some (78, false), .mov 79 (.t 5)⟩, [66, 67, 68, 69, 70, 77]),
 (⟨some (78, false), .mov 80 (.t 10)⟩, [66, 67, 68, 69, 70, 79, 77]),
 (⟨some (78, false), .iad 81 1 (.t 79) (.t 80)⟩, [66, 67, 68, 69, 70, 77]),
 (⟨some (78, false), .ld 82 1 false (.t 81)⟩, [66, 67, 68, 69, 70, 77]),
 (⟨some (78, false), .mov 83 (.t 9)⟩, [66, 67, 68, 69, 70, 79, 80, 81, 82, 77]),
 (⟨some (78, false), .iad 84 1 (.t 82) (.t 83)⟩, [66, 67, 68, 69, 70, 77]),
 (⟨some (78, false), .ld 85 1 false (.t 84)⟩, [66, 67, 68, 69, 70, 77]),
 (⟨some (78, false), .asg 86 (.t 85)⟩, [66, 67, 68, 69, 70, 77]),
 (⟨some (86, true), .mov 87 (.t 5)⟩, [66, 67, 68, 69, 70, 77, 85]),
 (⟨some (86, true), .mov 88 (.t 9)⟩, [66, 67, 68, 69, 70, 87, 77, 85]),
 (⟨some (86, true), .iad 89 1 (.t 87) (.t 88)⟩, [66, 67, 68, 69, 70, 77, 85]),
 (⟨some (86, true), .ld 90 1 false (.t 89)⟩, [66, 67, 68, 69, 70, 77, 85]),
 (⟨some (86, true), .mov 91 (.t 11)⟩, [66, 67, 68, 69, 70, 87, 88, 89, 90, 77, 85]),
 (⟨some (86, true), .iad 92 1 (.t 90) (.t 91)⟩, [66, 67, 68, 69, 70, 77, 85]),
 (⟨some (86, true), .ld 93 1 false (.t 92)⟩, [66, 67, 68, 69, 70, 77, 85]),
 (⟨some (78, false), .pick 94 (.t 86) (.t 93) (.c (.bool false))⟩, [66, 67, 68, 69, 70, 77, 85]),
 (⟨none, .pick 95 (.t 78) (.c (.bool true)) (.t 94)⟩, [66, 67, 68, 69, 70, 77, 85])]
 [⟨none, .iad 96 1 (.t 69) (.t 70)⟩,
 ⟨none, .st 1 (.t 96) (.t 95)⟩]))
 (.drop [66, 67, 68, 69, 70, 71, 72, 73, 74, 75, 76, 77, 78, 79, 80, 81, 82, 83, 84, 85, 86, 87, 88, 89, 90, 91, 92, 93, 94, 95, 96] (.reg [⟨none, .mov 64 (.t 11)⟩,
 ⟨none, .bin 65 .add (.t 64) (.c (.int .i64 1))⟩,
 ⟨none, .asg 11 (.t 65)⟩])))))
def c_spec_l23From_l4 : ACode :=
 (.seq (.seq (.reg [⟨none, .mov 56 (.t 10)⟩,
 ⟨none, .mov 57 (.t 0)⟩,
 ⟨none, .bin 58 .lss (.t 56) (.t 57)⟩])
 (.drop [56, 57] (.cond (.t 58) .skip
 (.exit 6))))
 (.drop [56, 57, 58] (.seq (.block 7 (.seq (.reg [⟨none, .asg 11 (.c (.int .i64 0))⟩])
 (.block 8 (.loop c_spec_l23From_l3))))
 (.drop [11, 61, 62, 63, 66, 67, 68, 69, 70, 71, 72, 73, 74, 75, 76, 77, 78, 79, 80, 81, 82, 83, 84, 85, 86, 87, 88, 89, 90, 91, 92, 93, 94, 95, 96, 64, 65] (.reg [⟨none, .mov 59 (.t 10)⟩,
 ⟨none, .bin 60 .add (.t 59) (.c (.int .i64 1))⟩,
 ⟨none, .asg 10 (.t 60)⟩])))))
def c_spec_l23From_l5 : ACode :=
 (.seq (.seq (.reg [⟨none, .mov 51 (.t 9)⟩,
 ⟨none, .mov 52 (.t 0)⟩,
 ⟨none, .bin 53 .lss (.t 51) (.t 52)⟩])
 (.drop [51, 52] (.cond (.t 53) .skip
 (.exit 4))))
 (.drop [51, 52, 53] (.seq (.block 5 (.seq (.reg [⟨none, .asg 10 (.c (.int .i64 0))⟩])
 (.block 6 (.loop c_spec_l23From_l4))))
 (.drop [10, 56, 57, 58, 11, 61, 62, 63, 66, 67, 68, 69, 70, 71, 72, 73, 74, 75, 76, 77, 78, 79, 80, 81, 82, 83, 84, 85, 86, 87, 88, 89, 90, 91, 92, 93, 94, 95, 96, 64, 65, 59, 60] (.reg [⟨none, .mov 54 (.t 9)⟩,
 ⟨none, .bin 55 .add (.t 54) (.c (.int .i64 1))⟩,
 ⟨none, .asg 9 (.t 55)⟩])))))
def c_spec_l23From_l6 : ACode :=
 (.seq (.seq (.reg [⟨none, .mov 105 (.t 15)⟩,
 ⟨none, .mov 106 (.t 0)⟩,
 ⟨none, .bin 107 .lss (.t 105) (.t 106)⟩])
 (.drop [105, 106] (.cond (.t 107) .skip
 (.exit 12))))
 (.drop [105, 106, 107] (.seq (.block 13 (.seq (.reg [⟨none, .mov 110 (.t 5)⟩,
 ⟨none, .mov 111 (.t 15)⟩,
 ⟨none, .iad 112 1 (.t 110) (.t 111)⟩,
 ⟨none, .ld 113 1 false (.t 112)⟩,
 ⟨none, .mov 114 (.t 13)⟩,
 ⟨none, .iad 115 1 (.t 113) (.t 114)⟩,
 ⟨none, .ld 116 1 false (.t 115)⟩])
 (.drop [110, 111, 112, 113, 114, 115] (.cond (.t 116) (.reg [⟨none, .mov 117 (.t 14)⟩,
 ⟨none, .mov 118 (.t 15)⟩,
 ⟨none, .bsl 119 1 [(.t 118)]⟩,
 ⟨none, .app 120 1 (.t 117) (.t 119)⟩,
 ⟨none, .asg 14 (.t 120)⟩])
 .skip))))
 (.drop [110, 111, 112, 113, 114, 115, 116, 117, 118, 119, 120] (.reg [⟨none, .mov 108 (.t 15)⟩,
 ⟨none, .bin 109 .add (.t 108) (.c (.int .i64 1))⟩,
 ⟨none, .asg 15 (.t 109)⟩])))))
def c_spec_l23From_l7 : ACode :=
 (.seq (.seq (.reg [⟨none, .mov 99 (.t 13)⟩,
 ⟨none, .mov 100 (.t 0)⟩,
 ⟨none, .bin 101 .lss (.t 99) (.t 100)⟩])
 (.drop [99, 100] (.cond (.t 101) .skip
 (.exit 10))))
 (.drop [99, 100, 101] (.seq (.block 11 (.seq (.reg [⟨none, .bsl 104 1 []⟩,
 ⟨none, .asg 14 (.t 104)⟩])
 (.drop [104] (.seq (.seq (.reg [⟨none, .asg 15 (.c (.int .i64 0))⟩])
 (.block 12 (.loop c_spec_l23From_l6)))
 (.drop [15, 105, 106, 107, 110, 111, 112, 113, 114, 115, 116, 117, 118, 119, 120, 108, 109] (.reg [⟨none, .fadr 121 0 (.t 12)⟩,
 ⟨none, .ld 122 1 false (.t 121)⟩,
 ⟨none, .mov 123 (.t 14)⟩,
 ⟨none, .bsl 124 1 [(.t 123)]⟩,
 ⟨none, .app 125 1 (.t 122) (.t 124)⟩,
 ⟨none, .fadr 126 0 (.t 12)⟩,
 ⟨none, .st 1 (.t 126) (.t 125)⟩]))))))
 (.drop [104, 14, 15, 105, 106, 107, 110, 111, 112, 113, 114, 115, 116, 117, 118, 119, 120, 108, 109, 121, 122, 123, 124, 125, 126] (.reg [⟨none, .mov 102 (.t 13)⟩,
 ⟨none, .bin 103 .add (.t 102) (.c (.int .i64 1))⟩,
 ⟨none, .asg 13 (.t 103)⟩])))))
def c_spec_l23From : ACode :=
 (.seq (.reg [⟨none, .alc 4 (.agg [.nilsl 1])⟩])
 (.seq (.reg [⟨none, .bsl 16 1 []⟩,
 ⟨none, .asg 5 (.t 16)⟩])
 (.drop [16] (.seq (.seq (.reg [⟨none, .asg 6 (.c (.int .i64 0))⟩])
 (.block 0 (.loop c_spec_l23From_l1)))
 (.drop [6, 17, 18, 19, 22, 23, 7, 24, 25, 26, 27, 28, 29, 30, 20, 21] (.seq (.seq (.reg [⟨none, .asg 8 (.c (.int .i64 0))⟩])
 (.block 2 (.loop c_spec_l23From_l2)))
 (.drop [8, 31, 32, 33, 34, 37, 38, 39, 40, 41, 42, 43, 44, 45, 46, 47, 48, 49, 50, 35, 36] (.seq (.seq (.reg [⟨none, .asg 9 (.c (.int .i64 0))⟩])
 (.block 4 (.loop c_spec_l23From_l5)))
 (.drop [9, 51, 52, 53, 10, 56, 57, 58, 11, 61, 62, 63, 66, 67, 68, 69, 70, 71, 72, 73, 74, 75, 76, 77, 78, 79, 80, 81, 82, 83, 84, 85, 86, 87, 88, 89, 90, 91, 92, 93, 94, 95, 96, 64, 65, 59, 60, 54, 55] (.seq (.reg [⟨none, .bsl 97 1 []⟩,
 ⟨none, .bld 98 [.nilsl 1] [(0, 1, (.t 97))]⟩,
 ⟨none, .alc 12 (.agg [.nilsl 1])⟩,
 ⟨none, .st 1 (.t 12) (.t 98)⟩])
 (.drop [97, 98] (.seq (.seq (.reg [⟨none, .asg 13 (.c (.int .i64 0))⟩])
 (.block 10 (.loop c_spec_l23From_l7)))
 (.drop [13, 99, 100, 101, 104, 14, 15, 105, 106, 107, 110, 111, 112, 113, 114, 115, 116, 117, 118, 119, 120, 108, 109, 121, 122, 123, 124, 125, 126, 102, 103] (.seq (.reg [⟨none, .ld 127 1 true (.t 12)⟩,
 ⟨none, .st 1 (.t 4) (.t 127)⟩])
 (.drop [127] .ret)))))))))))))))
abbrev r_spec_l23From : List RS := [.c 4 1 true]
theorem k_spec_l23From : fitsF Try.prog f_spec_l23From 128 c_spec_l23From r_spec_l23From = true := by kernel_rfl

/- loop.example/g01078/impl.rises: [list=0, list=1, i=3] -/
def c_impl_rises_l1 : ACode :=
 (.seq (.seq (.reg [⟨none, .mov 4 (.t 3)⟩,
 ⟨none, .mov 5 (.t 0)⟩,
 ⟨none, .len 6 (.t 5)⟩,
 ⟨none, .bin 7 .lss (.t 4) (.t 6)⟩])
 (.drop [4, 5, 6] (.cond (.t 7) .skip
 (.exit 0))))
 (.drop [4, 5, 6, 7] (.seq (.block 1 (.seq (.dreg [(⟨none, .mov 10 (.t 0)⟩, []),
 (⟨none, .mov 11 (.t 3)⟩, [10]),
 (⟨none, .bin 12 .sub (.t 11) (.c (.int .i64 1))⟩, [10]),
 (⟨none, .iad 13 1 (.t 10) (.t 12)⟩, []),
 (⟨none, .ld 14 1 false (.t 13)⟩, []),
 (⟨none, .mov 15 (.t 0)⟩, [10, 11, 12, 13, 14]),
 (⟨none, .mov 16 (.t 3)⟩, [10, 11, 12, 13, 14, 15]),
 (⟨none, .iad 17 1 (.t 15) (.t 16)⟩, [10, 11, 12, 13, 14]),
 (⟨none, .ld 18 1 false (.t 17)⟩, [10, 11, 12, 13, 14])]
 [⟨none, .bin 19 .geq (.t 14) (.t 18)⟩])
 (.drop [10, 11, 12, 13, 14, 15, 16, 17, 18] (.cond (.t 19) (.seq (.reg [⟨none, .asg 2 (.c (.bool false))⟩])
 .ret)
 .skip))))
 (.drop [10, 11, 12, 13, 14, 15, 16, 17, 18, 19] (.reg [⟨none, .mov 8 (.t 3)⟩,
 ⟨none, .bin 9 .add (.t 8) (.c (.int .i64 1))⟩,
 ⟨none, .asg 3 (.t 9)⟩])))))
def c_impl_rises : ACode :=
 (.seq (.reg [⟨none, .asg 2 (.c (.bool false))⟩])
 (.seq (.seq (.reg [⟨none, .asg 3 (.c (.int .i64 1))⟩])
 (.block 0 (.loop c_impl_rises_l1)))
 (.drop [3, 4, 5, 6, 7, 10, 11, 12, 13, 14, 15, 16, 17, 18, 19, 8, 9] (.seq (.reg [⟨none, .asg 2 (.c (.bool true))⟩])
 .ret))))
abbrev r_impl_rises : List RS := [.t 2]
theorem k_impl_rises : fitsF Try.prog f_impl_rises 20 c_impl_rises r_impl_rises = true := by kernel_rfl

/- (loop.example/g01078/impl.order).isOrder: [o=0, o=1, x=3, y=4, z=5] -/
def c_impl_order_isOrder_k1 : ACode :=
 (.seq (.reg [⟨none, .mov 24 (.t 3)⟩,
 ⟨none, .mov 25 (.t 4)⟩,
 ⟨none, .bin 26 .neq (.t 24) (.t 25)⟩,
 ⟨none, .asg 27 (.t 26)⟩,
 ⟨some (27, true), .mov 28 (.t 0)⟩,
 ⟨some (27, true), .mov 29 (.t 3)⟩,
 ⟨some (27, true), .iad 30 1 (.t 28) (.t 29)⟩,
 ⟨some (27, true), .ld 31 1 false (.t 30)⟩,
 ⟨some (27, true), .mov 32 (.t 4)⟩,
 ⟨some (27, true), .iad 33 1 (.t 31) (.t 32)⟩,
 ⟨some (27, true), .ld 34 1 false (.t 33)⟩,
 ⟨none, .pick 35 (.t 27) (.t 34) (.c (.bool false))⟩,
 ⟨none, .asg 36 (.t 35)⟩,
 ⟨some (36, true), .mov 37 (.t 0)⟩,
 ⟨some (36, true), .mov 38 (.t 4)⟩,
 ⟨some (36, true), .iad 39 1 (.t 37) (.t 38)⟩,
 ⟨some (36, true), .ld 40 1 false (.t 39)⟩,
 ⟨some (36, true), .mov 41 (.t 3)⟩,
 ⟨some (36, true), .iad 42 1 (.t 40) (.t 41)⟩,
 ⟨some (36, true), .ld 43 1 false (.t 42)⟩,
 ⟨none, .pick 44 (.t 36) (.t 43) (.c (.bool false))⟩])
 (.drop [24, 25, 26, 27, 28, 29, 30, 31, 32, 33, 34, 35, 36, 37, 38, 39, 40, 41, 42, 43] (.cond (.t 44) (.seq (.reg [⟨none, .asg 2 (.c (.bool false))⟩])
 .ret)
 .skip)))
def c_impl_order_isOrder_l1 : ACode :=
 (.seq (.reg [⟨none, .bin 48 .lss (.t 47) (.t 46)⟩])
 (.seq (.cond (.t 48) .skip
 (.exit 4))
 (.seq (.block 5 (.seq (.reg [⟨none, .mov 49 (.t 47)⟩,
 ⟨none, .asg 5 (.t 49)⟩])
 (.drop [49] (.seq (.reg [⟨none, .mov 50 (.t 0)⟩,
 ⟨none, .mov 51 (.t 3)⟩,
 ⟨none, .iad 52 1 (.t 50) (.t 51)⟩,
 ⟨none, .ld 53 1 false (.t 52)⟩,
 ⟨none, .mov 54 (.t 4)⟩,
 ⟨none, .iad 55 1 (.t 53) (.t 54)⟩,
 ⟨none, .ld 56 1 false (.t 55)⟩,
 ⟨none, .asg 57 (.t 56)⟩,
 ⟨some (57, true), .mov 58 (.t 0)⟩,
 ⟨some (57, true), .mov 59 (.t 4)⟩,
 ⟨some (57, true), .iad 60 1 (.t 58) (.t 59)⟩,
 ⟨some (57, true), .ld 61 1 false (.t 60)⟩,
 ⟨some (57, true), .mov 62 (.t 5)⟩,
 ⟨some (57, true), .iad 63 1 (.t 61) (.t 62)⟩,
 ⟨some (57, true), .ld 64 1 false (.t 63)⟩,
 ⟨none, .pick 65 (.t 57) (.t 64) (.c (.bool false))⟩,
 ⟨none, .asg 66 (.t 65)⟩,
 ⟨some (66, true), .mov 67 (.t 0)⟩,
 ⟨some (66, true), .mov 68 (.t 3)⟩,
 ⟨some (66, true), .iad 69 1 (.t 67) (.t 68)⟩,
 ⟨some (66, true), .ld 70 1 false (.t 69)⟩,
 ⟨some (66, true), .mov 71 (.t 5)⟩,
 ⟨some (66, true), .iad 72 1 (.t 70) (.t 71)⟩,
 ⟨some (66, true), .ld 73 1 false (.t 72)⟩,
 ⟨some (66, true), .un 74 .not (.t 73)⟩,
 ⟨none, .pick 75 (.t 66) (.t 74) (.c (.bool false))⟩])
 (.drop [50, 51, 52, 53, 54, 55, 56, 57, 58, 59, 60, 61, 62, 63, 64, 65, 66, 67, 68, 69, 70, 71, 72, 73, 74] (.cond (.t 75) (.seq (.reg [⟨none, .asg 2 (.c (.bool false))⟩])
 .ret)
 .skip))))))
 (.drop [49, 5, 50, 51, 52, 53, 54, 55, 56, 57, 58, 59, 60, 61, 62, 63, 64, 65, 66, 67, 68, 69, 70, 71, 72, 73, 74, 75] (.reg [⟨none, .bin 76 .add (.t 47) (.c (.int .i64 1))⟩,
 ⟨none, .asg 47 (.t 76)⟩])))))
def c_impl_order_isOrder_l2 : ACode :=
 (.seq (.reg [⟨none, .bin 22 .lss (.t 21) (.t 20)⟩])
 (.seq (.cond (.t 22) .skip
 (.exit 2))
 (.seq (.block 3 (.seq (.reg [⟨none, .mov 23 (.t 21)⟩,
 ⟨none, .asg 4 (.t 23)⟩])
 (.drop [23] (.seq (.cut c_impl_order_isOrder_k1)
 (.drop [24, 25, 26, 27, 28, 29, 30, 31, 32, 33, 34, 35, 36, 37, 38, 39, 40, 41, 42, 43, 44] (.seq (.reg [⟨none, .mov 45 (.t 0)⟩,
 ⟨none, .len 46 (.t 45)⟩,
 ⟨none, .mov 47 (.c (.int .i64 0))⟩])
 (.drop [45] (.block 4 (.loop c_impl_order_isOrder_l1)))))))))
 (.drop [23, 4, 24, 25, 26, 27, 28, 29, 30, 31, 32, 33, 34, 35, 36, 37, 38, 39, 40, 41, 42, 43, 44, 45, 46, 47, 48, 49, 5, 50, 51, 52, 53, 54, 55, 56, 57, 58, 59, 60, 61, 62, 63, 64, 65, 66, 67, 68, 69, 70, 71, 72, 73, 74, 75, 76] (.reg [⟨none, .bin 77 .add (.t 21) (.c (.int .i64 1))⟩,
 ⟨none, .asg 21 (.t 77)⟩])))))
def c_impl_order_isOrder_l3 : ACode :=
 (.seq (.reg [⟨none, .bin 9 .lss (.t 8) (.t 7)⟩])
 (.seq (.cond (.t 9) .skip
 (.exit 0))
 (.seq (.block 1 (.seq (.reg [⟨none, .mov 10 (.t 8)⟩,
 ⟨none, .asg 3 (.t 10)⟩])
 (.drop [10] (.seq (.seq (.reg [⟨none, .mov 11 (.t 0)⟩,
 ⟨none, .mov 12 (.t 3)⟩,
 ⟨none, .iad 13 1 (.t 11) (.t 12)⟩,
 ⟨none, .ld 14 1 false (.t 13)⟩,
 ⟨none, .mov 15 (.t 3)⟩,
 ⟨none, .iad 16 1 (.t 14) (.t 15)⟩,
 ⟨none, .ld 17 1 false (.t 16)⟩,
 ⟨none, .un 18 .not (.t 17)⟩])
 (.drop [11, 12, 13, 14, 15, 16, 17] (.cond (.t 18) (.seq (.reg [⟨none, .asg 2 (.c (.bool false))⟩])
 .ret)
 .skip)))
 (.drop [11, 12, 13, 14, 15, 16, 17, 18] (.seq (.reg [⟨none, .mov 19 (.t 0)⟩,
 ⟨none, .len 20 (.t 19)⟩,
 ⟨none, .mov 21 (.c (.int .i64 0))⟩])
 (.drop [19] (.block 2 (.loop c_impl_order_isOrder_l2)))))))))
 (.drop [10, 3, 11, 12, 13, 14, 15, 16, 17, 18, 19, 20, 21, 22, 23, 4, 24, 25, 26, 27, 28, 29, 30, 31, 32, 33, 34, 35, 36, 37, 38, 39, 40, 41, 42, 43, 44, 45, 46, 47, 48, 49, 5, 50, 51, 52, 53, 54, 55, 56, 57, 58, 59, 60, 61, 62, 63, 64, 65, 66, 67, 68, 69, 70, 71, 72, 73, 74, 75, 76, 77] (.reg [⟨none, .bin 78 .add (.t 8) (.c (.int .i64 1))⟩,
 ⟨none, .asg 8 (.t 78)⟩])))))
def c_impl_order_isOrder : ACode :=
 (.seq (.reg [⟨none, .asg 2 (.c (.bool false))⟩])
 (.seq (.seq (.reg [⟨none, .mov 6 (.t 0)⟩,
 ⟨none, .len 7 (.t 6)⟩,
 ⟨none, .mov 8 (.c (.int .i64 0))⟩])
 (.drop [6] (.block 0 (.loop c_impl_order_isOrder_l3))))
 (.drop [6, 7, 8, 9, 10, 3, 11, 12, 13, 14, 15, 16, 17, 18, 19, 20, 21, 22, 23, 4, 24, 25, 26, 27, 28, 29, 30, 31, 32, 33, 34, 35, 36, 37, 38, 39, 40, 41, 42, 43, 44, 45, 46, 47, 48, 49, 5, 50, 51, 52, 53, 54, 55, 56, 57, 58, 59, 60, 61, 62, 63, 64, 65, 66, 67, 68, 69, 70, 71, 72, 73, 74, 75, 76, 77, 78] (.seq (.reg [⟨none, .asg 2 (.c (.bool true))⟩])
 .ret))))
abbrev r_impl_order_isOrder : List RS := [.t 2]
theorem k_impl_order_isOrder : fitsF Try.prog f_impl_order_isOrder 79 c_impl_order_isOrder r_impl_order_isOrder = true := by kernel_rfl

/- loop.example/g01078/spec.l1Has: [l=0, n=1, l=2, n=3, i=5] -/
def c_spec_l1Has_l1 : ACode :=
 (.seq (.seq (.reg [⟨none, .mov 6 (.t 5)⟩,
 ⟨none, .mov 7 (.t 0)⟩,
 ⟨none, .len 8 (.t 7)⟩,
 ⟨none, .bin 9 .lss (.t 6) (.t 8)⟩])
 (.drop [6, 7, 8] (.cond (.t 9) .skip
 (.exit 0))))
 (.drop [6, 7, 8, 9] (.seq (.block 1 (.seq (.reg [⟨none, .mov 12 (.t 0)⟩,
 ⟨none, .mov 13 (.t 5)⟩,
 ⟨none, .iad 14 1 (.t 12) (.t 13)⟩,
 ⟨none, .ld 15 1 false (.t 14)⟩,
 ⟨none, .mov 16 (.t 1)⟩,
 ⟨none, .bin 17 .eql (.t 15) (.t 16)⟩])
 (.drop [12, 13, 14, 15, 16] (.cond (.t 17) (.seq (.reg [⟨none, .asg 4 (.c (.bool true))⟩])
 .ret)
 .skip))))
 (.drop [12, 13, 14, 15, 16, 17] (.reg [⟨none, .mov 10 (.t 5)⟩,
 ⟨none, .bin 11 .add (.t 10) (.c (.int .i64 1))⟩,
 ⟨none, .asg 5 (.t 11)⟩])))))
def c_spec_l1Has : ACode :=
 (.seq (.reg [⟨none, .asg 4 (.c (.bool false))⟩])
 (.seq (.seq (.reg [⟨none, .asg 5 (.c (.int .i64 0))⟩])
 (.block 0 (.loop c_spec_l1Has_l1)))
 (.drop [5, 6, 7, 8, 9, 12, 13, 14, 15, 16, 17, 10, 11] (.seq (.reg [⟨none, .asg 4 (.c (.bool false))⟩])
 .ret))))
abbrev r_spec_l1Has : List RS := [.t 4]
theorem k_spec_l1Has : fitsF Try.prog f_spec_l1Has 18 c_spec_l1Has r_spec_l1Has = true := by kernel_rfl

/- loop.example/g01078/spec.l1Put: [l=0, n=1, l=2, n=3, k=5] -/
def c_spec_l1Put_l1 : ACode :=
 (.seq (.seq (.reg [⟨none, .mov 6 (.t 5)⟩,
 ⟨none, .mov 7 (.t 0)⟩,
 ⟨none, .len 8 (.t 7)⟩,
 ⟨none, .bin 9 .lss (.t 6) (.t 8)⟩,
 ⟨none, .asg 10 (.t 9)⟩,
 ⟨some (10, true), .mov 11 (.t 0)⟩,
 ⟨some (10, true), .mov 12 (.t 5)⟩,
 ⟨some (10, true), .iad 13 1 (.t 11) (.t 12)⟩,
 ⟨some (10, true), .ld 14 1 false (.t 13)⟩,
 ⟨some (10, true), .mov 15 (.t 1)⟩,
 ⟨some (10, true), .bin 16 .lss (.t 14) (.t 15)⟩,
 ⟨none, .pick 17 (.t 10) (.t 16) (.c (.bool false))⟩])
 (.drop [6, 7, 8, 9, 10, 11, 12, 13, 14, 15, 16] (.cond (.t 17) .skip
 (.exit 0))))
 (.drop [6, 7, 8, 9, 10, 11, 12, 13, 14, 15, 16, 17] (.block 1 (.reg [⟨none, .mov 18 (.t 5)⟩,
 ⟨none, .bin 19 .add (.t 18) (.c (.int .i64 1))⟩,
 ⟨none, .asg 5 (.t 19)⟩]))))
def c_spec_l1Put_k1 : ACode :=
 (.seq (.reg [⟨none, .mov 20 (.t 5)⟩,
 ⟨none, .mov 21 (.t 0)⟩,
 ⟨none, .len 22 (.t 21)⟩,
 ⟨none, .bin 23 .lss (.t 20) (.t 22)⟩,
 ⟨none, .asg 24 (.t 23)⟩,
 ⟨some (24, true), .mov 25 (.t 0)⟩,
 ⟨some (24, true), .mov 26 (.t 5)⟩,
 ⟨some (24, true), .iad 27 1 (.t 25) (.t 26)⟩,
 ⟨some (24, true), .ld 28 1 false (.t 27)⟩,
 ⟨some (24, true), .mov 29 (.t 1)⟩,
 ⟨some (24, true), .bin 30 .eql (.t 28) (.t 29)⟩,
 ⟨none, .pick 31 (.t 24) (.t 30) (.c (.bool false))⟩])
 (.drop [20, 21, 22, 23, 24, 25, 26, 27, 28, 29, 30] (.cond (.t 31) (.seq (.reg [⟨none, .mov 32 (.t 0)⟩,
 ⟨none, .asg 4 (.t 32)⟩])
 (.drop [32] .ret))
 .skip)))
def c_spec_l1Put : ACode :=
 (.seq (.reg [⟨none, .asg 4 (.c (.nilsl 1))⟩])
 (.seq (.reg [⟨none, .asg 5 (.c (.int .i64 0))⟩])
 (.seq (.block 0 (.loop c_spec_l1Put_l1))
 (.drop [6, 7, 8, 9, 10, 11, 12, 13, 14, 15, 16, 17, 18, 19] (.seq (.cut c_spec_l1Put_k1)
 (.drop [20, 21, 22, 23, 24, 25, 26, 27, 28, 29, 30, 31, 32] (.seq (.dreg [(⟨none, .bsl 33 1 []⟩, [38]),
 (⟨none, .mov 34 (.t 0)⟩, [33, 38]),
 (⟨none, .mov 35 (.t 5)⟩, [33, 34, 38]),
 (⟨none, .slc 36 1 (.t 34) none (some (.t 35))⟩, [33, 38]),
 (⟨none, .app 37 1 (.t 33) (.t 36)⟩, [38]),
 (⟨none, .mov 38 (.t 1)⟩, [33, 34, 35, 36, 37, 33]),
 (⟨none, .bsl 39 1 [(.t 38)]⟩, [33, 34, 35, 36, 37, 33]),
 (⟨none, .app 40 1 (.t 37) (.t 39)⟩, [33, 38]),
 (⟨none, .mov 41 (.t 0)⟩, [33, 34, 35, 36, 37, 38, 39, 40, 33, 38, 37]),
 (⟨none, .mov 42 (.t 5)⟩, [33, 34, 35, 36, 37, 38, 39, 40, 41, 33, 38, 37]),
 (⟨none, .slc 43 1 (.t 41) (some (.t 42)) none⟩, [33, 34, 35, 36, 37, 38, 39, 40, 33, 38, 37])]
 [⟨none, .app 44 1 (.t 40) (.t 43)⟩,
 ⟨none, .asg 4 (.t 44)⟩])
 (.drop [33, 34, 35, 36, 37, 38, 39, 40, 41, 42, 43, 44] .ret))))))))
abbrev r_spec_l1Put : List RS := [.t 4]
theorem k_spec_l1Put : fitsF Try.prog f_spec_l1Put 45 c_spec_l1Put r_spec_l1Put = true := by kernel_rfl

/- (loop.example/g01078/impl.order).greatest: [o=0, list=1, o=2, list=3, _=5, x=6, top=7, _=8, y=9] -/
def c_impl_order_greatest_l1 : ACode :=
 (.seq (.reg [⟨none, .bin 19 .lss (.t 18) (.t 17)⟩])
 (.seq (.cond (.t 19) .skip
 (.exit 2))
 (.seq (.block 3 (.seq (.reg [⟨none, .iad 20 1 (.t 16) (.t 18)⟩,
 ⟨none, .ld 21 1 false (.t 20)⟩,
 ⟨none, .asg 9 (.t 21)⟩])
 (.drop [20, 21] (.reg [⟨none, .mov 22 (.t 7)⟩,
 ⟨none, .asg 23 (.t 22)⟩,
 ⟨some (23, true), .mov 24 (.t 0)⟩,
 ⟨some (23, true), .mov 25 (.t 9)⟩,
 ⟨some (23, true), .iad 26 1 (.t 24) (.t 25)⟩,
 ⟨some (23, true), .ld 27 1 false (.t 26)⟩,
 ⟨some (23, true), .mov 28 (.t 6)⟩,
 ⟨some (23, true), .iad 29 1 (.t 27) (.t 28)⟩,
 ⟨some (23, true), .ld 30 1 false (.t 29)⟩,
 ⟨none, .pick 31 (.t 23) (.t 30) (.c (.bool false))⟩,
 ⟨none, .asg 7 (.t 31)⟩]))))
 (.drop [20, 21, 9, 22, 23, 24, 25, 26, 27, 28, 29, 30, 31] (.reg [⟨none, .bin 32 .add (.t 18) (.c (.int .i64 1))⟩,
 ⟨none, .asg 18 (.t 32)⟩])))))
def c_impl_order_greatest_l2 : ACode :=
 (.seq (.reg [⟨none, .bin 13 .lss (.t 12) (.t 11)⟩])
 (.seq (.cond (.t 13) .skip
 (.exit 0))
 (.seq (.block 1 (.seq (.reg [⟨none, .iad 14 1 (.t 10) (.t 12)⟩,
 ⟨none, .ld 15 1 false (.t 14)⟩,
 ⟨none, .asg 6 (.t 15)⟩])
 (.drop [14, 15] (.seq (.reg [⟨none, .asg 7 (.c (.bool true))⟩])
 (.seq (.seq (.reg [⟨none, .mov 16 (.t 1)⟩,
 ⟨none, .len 17 (.t 16)⟩,
 ⟨none, .mov 18 (.c (.int .i64 0))⟩])
 (.block 2 (.loop c_impl_order_greatest_l1)))
 (.drop [16, 17, 18, 19, 20, 21, 9, 22, 23, 24, 25, 26, 27, 28, 29, 30, 31, 32] (.seq (.reg [⟨none, .mov 33 (.t 7)⟩])
 (.cond (.t 33) (.seq (.reg [⟨none, .mov 34 (.t 6)⟩,
 ⟨none, .asg 4 (.t 34)⟩])
 (.drop [34] .ret))
 .skip))))))))
 (.drop [14, 15, 6, 7, 16, 17, 18, 19, 20, 21, 9, 22, 23, 24, 25, 26, 27, 28, 29, 30, 31, 32, 33, 34] (.reg [⟨none, .bin 35 .add (.t 12) (.c (.int .i64 1))⟩,
 ⟨none, .asg 12 (.t 35)⟩])))))
def c_impl_order_greatest : ACode :=
 (.seq (.reg [⟨none, .asg 4 (.c (.int .i64 0))⟩])
 (.seq (.seq (.reg [⟨none, .mov 10 (.t 1)⟩,
 ⟨none, .len 11 (.t 10)⟩,
 ⟨none, .mov 12 (.c (.int .i64 0))⟩])
 (.block 0 (.loop c_impl_order_greatest_l2)))
 (.drop [10, 11, 12, 13, 14, 15, 6, 7, 16, 17, 18, 19, 20, 21, 9, 22, 23, 24, 25, 26, 27, 28, 29, 30, 31, 32, 33, 34, 35] (.seq (.reg [⟨none, .asg 4 (.c (.int .i64 (-1)))⟩])
 .ret))))
abbrev r_impl_order_greatest : List RS := [.t 4]
theorem k_impl_order_greatest : fitsF Try.prog f_impl_order_greatest 36 c_impl_order_greatest r_impl_order_greatest = true := by kernel_rfl

/- (loop.example/g01078/impl.order).meetTable$1: [z=0, z=4] -/
def c_impl_order_meetTable_1 : ACode :=
 (.seq (.reg [⟨none, .asg 5 (.c (.bool false))⟩])
 (.seq (.dreg [(⟨none, .ld 6 1 false (.t 1)⟩, []),
 (⟨none, .mov 7 (.t 0)⟩, [6]),
 (⟨none, .iad 8 1 (.t 6) (.t 7)⟩, []),
 (⟨none, .ld 9 1 false (.t 8)⟩, []),
 (⟨none, .ld 10 1 false (.t 2)⟩, [6, 7, 8, 9]),
 (⟨none, .iad 11 1 (.t 9) (.t 10)⟩, []),
 (⟨none, .ld 12 1 false (.t 11)⟩, []),
 (⟨none, .asg 13 (.t 12)⟩, []),
 (⟨some (13, true), .ld 14 1 false (.t 1)⟩, [12]),
 (⟨some (13, true), .mov 15 (.t 0)⟩, [14, 12]),
 (⟨some (13, true), .iad 16 1 (.t 14) (.t 15)⟩, [12]),
 (⟨some (13, true), .ld 17 1 false (.t 16)⟩, [12]),
 (⟨some (13, true), .ld 18 1 false (.t 3)⟩, [14, 15, 16, 17, 12])]
 [⟨some (13, true), .iad 19 1 (.t 17) (.t 18)⟩,
 ⟨some (13, true), .ld 20 1 false (.t 19)⟩,
 ⟨none, .pick 21 (.t 13) (.t 20) (.c (.bool false))⟩,
 ⟨none, .asg 5 (.t 21)⟩])
 (.drop [6, 7, 8, 9, 10, 11, 12, 13, 14, 15, 16, 17, 18, 19, 20, 21] .ret)))
abbrev r_impl_order_meetTable_1 : List RS := [.t 5]
theorem k_impl_order_meetTable_1 : fitsF Try.prog f_impl_order_meetTable_1 22 c_impl_order_meetTable_1 r_impl_order_meetTable_1 = true := by kernel_rfl

/- (loop.example/g01078/impl.order).less: [o=0, x=1, y=2, o=3, x=4, y=5] -/
def c_impl_order_less : ACode :=
 (.seq (.reg [⟨none, .asg 6 (.c (.bool false))⟩])
 (.seq (.reg [⟨none, .mov 7 (.t 1)⟩,
 ⟨none, .mov 8 (.t 2)⟩,
 ⟨none, .bin 9 .neq (.t 7) (.t 8)⟩,
 ⟨none, .asg 10 (.t 9)⟩,
 ⟨some (10, true), .mov 11 (.t 0)⟩,
 ⟨some (10, true), .mov 12 (.t 1)⟩,
 ⟨some (10, true), .iad 13 1 (.t 11) (.t 12)⟩,
 ⟨some (10, true), .ld 14 1 false (.t 13)⟩,
 ⟨some (10, true), .mov 15 (.t 2)⟩,
 ⟨some (10, true), .iad 16 1 (.t 14) (.t 15)⟩,
 ⟨some (10, true), .ld 17 1 false (.t 16)⟩,
 ⟨none, .pick 18 (.t 10) (.t 17) (.c (.bool false))⟩,
 ⟨none, .asg 6 (.t 18)⟩])
 (.drop [7, 8, 9, 10, 11, 12, 13, 14, 15, 16, 17, 18] .ret)))
abbrev r_impl_order_less : List RS := [.t 6]
theorem k_impl_order_less : fitsF Try.prog f_impl_order_less 19 c_impl_order_less r_impl_order_less = true := by kernel_rfl

/- loop.example/g01078/laws.rTable: [a=0, b=1, a=2, b=3, i=5] -/
def c_laws_rTable_l1 : ACode :=
 (.seq (.seq (.reg [⟨none, .mov 11 (.t 5)⟩,
 ⟨none, .mov 12 (.t 0)⟩,
 ⟨none, .len 13 (.t 12)⟩,
 ⟨none, .bin 14 .lss (.t 11) (.t 13)⟩])
 (.drop [11, 12, 13] (.cond (.t 14) .skip
 (.exit 0))))
 (.drop [11, 12, 13, 14] (.seq (.block 1 (.seq (.dreg [(⟨none, .mov 17 (.t 0)⟩, []),
 (⟨none, .mov 18 (.t 5)⟩, [17]),
 (⟨none, .iad 19 1 (.t 17) (.t 18)⟩, []),
 (⟨none, .ld 20 1 false (.t 19)⟩, []),
 (⟨none, .mov 21 (.t 1)⟩, [17, 18, 19, 20]),
 (⟨none, .mov 22 (.t 5)⟩, [17, 18, 19, 20, 21]),
 (⟨none, .iad 23 1 (.t 21) (.t 22)⟩, [17, 18, 19, 20]),
 (⟨none, .ld 24 1 false (.t 23)⟩, [17, 18, 19, 20])]
 [⟨none, .call 25 f_laws_rInts [((.t 20), false), ((.t 24), false)]⟩,
 ⟨none, .un 26 .not (.t 25)⟩])
 (.drop [17, 18, 19, 20, 21, 22, 23, 24, 25] (.cond (.t 26) (.seq (.reg [⟨none, .asg 4 (.c (.bool false))⟩])
 .ret)
 .skip))))
 (.drop [17, 18, 19, 20, 21, 22, 23, 24, 25, 26] (.reg [⟨none, .mov 15 (.t 5)⟩,
 ⟨none, .bin 16 .add (.t 15) (.c (.int .i64 1))⟩,
 ⟨none, .asg 5 (.t 16)⟩])))))
def c_laws_rTable : ACode :=
 (.seq (.reg [⟨none, .asg 4 (.c (.bool false))⟩])
 (.seq (.seq (.reg [⟨none, .mov 6 (.t 0)⟩,
 ⟨none, .len 7 (.t 6)⟩,
 ⟨none, .mov 8 (.t 1)⟩,
 ⟨none, .len 9 (.t 8)⟩,
 ⟨none, .bin 10 .neq (.t 7) (.t 9)⟩])
 (.drop [6, 7, 8, 9] (.cond (.t 10) (.seq (.reg [⟨none, .asg 4 (.c (.bool false))⟩])
 .ret)
 .skip)))
 (.drop [6, 7, 8, 9, 10] (.seq (.seq (.reg [⟨none, .asg 5 (.c (.int .i64 0))⟩])
 (.block 0 (.loop c_laws_rTable_l1)))
 (.drop [5, 11, 12, 13, 14, 17, 18, 19, 20, 21, 22, 23, 24, 25, 26, 15, 16] (.seq (.reg [⟨none, .asg 4 (.c (.bool true))⟩])
 .ret))))))
abbrev r_laws_rTable : List RS := [.t 4]
theorem k_laws_rTable : fitsF Try.prog f_laws_rTable 27 c_laws_rTable r_laws_rTable = true := by kernel_rfl

/- (*loop.example/g01078/spec.l1Cur).pick: [c=0, n=1, c=2, n=3, x=5] -/
def c_spec_l1Cur_pick : ACode :=
 (.seq (.reg [⟨none, .asg 4 (.c (.int .i64 0))⟩])
 (.seq (.seq (.reg [⟨none, .mov 6 (.t 1)⟩,
 ⟨none, .bin 7 .leq (.t 6) (.c (.int .i64 1))⟩])
 (.drop [6] (.cond (.t 7) (.seq (.reg [⟨none, .asg 4 (.c (.int .i64 0))⟩])
 .ret)
 .skip)))
 (.drop [6, 7] (.seq (.reg [⟨none, .mov 8 (.t 0)⟩,
 ⟨none, .call 9 f_spec_l1Cur_next [((.t 8), true)]⟩,
 ⟨none, .asg 5 (.t 9)⟩])
 (.drop [8, 9] (.seq (.seq (.reg [⟨none, .mov 10 (.t 1)⟩,
 ⟨none, .bin 11 .gtr (.t 10) (.c (.int .i64 200))⟩])
 (.drop [10] (.cond (.t 11) (.reg [⟨none, .mov 12 (.t 5)⟩,
 ⟨none, .bin 13 .mul (.t 12) (.c (.int .i64 256))⟩,
 ⟨none, .mov 14 (.t 0)⟩,
 ⟨none, .call 15 f_spec_l1Cur_next [((.t 14), true)]⟩,
 ⟨none, .bin 16 .add (.t 13) (.t 15)⟩,
 ⟨none, .asg 5 (.t 16)⟩])
 .skip)))
 (.drop [10, 11, 12, 13, 14, 15, 16] (.seq (.reg [⟨none, .mov 17 (.t 5)⟩,
 ⟨none, .mov 18 (.t 1)⟩,
 ⟨none, .bin 19 .rem (.t 17) (.t 18)⟩,
 ⟨none, .asg 4 (.t 19)⟩])
 (.drop [17, 18, 19] .ret)))))))))
abbrev r_spec_l1Cur_pick : List RS := [.t 4]
theorem k_spec_l1Cur_pick : fitsF Try.prog f_spec_l1Cur_pick 20 c_spec_l1Cur_pick r_spec_l1Cur_pick = true := by kernel_rfl

/- loop.example/g01078/spec.l24Known: [k=0, k=1] -/
def c_spec_l24Known : ACode :=
 (.seq (.reg [⟨none, .alc 2 (.agg [.nilsl 1])⟩])
 (.seq (.seq (.reg [⟨none, .mov 3 (.t 0)⟩])
 (.block 0 (.seq (.reg [⟨none, .bin 5 .eql (.t 3) (.c (.int .i64 0))⟩,
 ⟨none, .asg 4 (.t 5)⟩])
 (.drop [5] (.cond (.t 4) (.seq (.reg [⟨none, .bsl 6 2 []⟩,
 ⟨none, .call 7 f_spec_l23From [((.c (.int .i64 1)), false), ((.t 6), false)]⟩,
 ⟨none, .st 1 (.t 2) (.t 7)⟩])
 (.drop [6, 7] .ret))
 (.seq (.reg [⟨none, .bin 9 .eql (.t 3) (.c (.int .i64 1))⟩,
 ⟨none, .asg 8 (.t 9)⟩])
 (.drop [9] (.cond (.t 8) (.seq (.reg [⟨none, .bld 10 [.int .i64 0, .int .i64 0] [(0, 1, (.c (.int .i64 0))), (1, 1, (.c (.int .i64 1)))]⟩,
 ⟨none, .bsl 11 2 [(.t 10)]⟩,
 ⟨none, .call 12 f_spec_l23From [((.c (.int .i64 2)), false), ((.t 11), false)]⟩,
 ⟨none, .st 1 (.t 2) (.t 12)⟩])
 (.drop [10, 11, 12] .ret))
 (.seq (.reg [⟨none, .bin 14 .eql (.t 3) (.c (.int .i64 2))⟩,
 ⟨none, .asg 13 (.t 14)⟩])
 (.drop [14] (.cond (.t 13) (.seq (.reg [⟨none, .bld 15 [.int .i64 0, .int .i64 0] [(0, 1, (.c (.int .i64 0))), (1, 1, (.c (.int .i64 1)))]⟩,
 ⟨none, .bld 16 [.int .i64 0, .int .i64 0] [(0, 1, (.c (.int .i64 1))), (1, 1, (.c (.int .i64 2)))]⟩,
 ⟨none, .bld 17 [.int .i64 0, .int .i64 0] [(0, 1, (.c (.int .i64 2))), (1, 1, (.c (.int .i64 3)))]⟩,
 ⟨none, .bsl 18 2 [(.t 15), (.t 16), (.t 17)]⟩,
 ⟨none, .call 19 f_spec_l23From [((.c (.int .i64 4)), false), ((.t 18), false)]⟩,
 ⟨none, .st 1 (.t 2) (.t 19)⟩])
 (.drop [15, 16, 17, 18, 19] .ret))
 (.seq (.reg [⟨none, .bin 21 .eql (.t 3) (.c (.int .i64 3))⟩,
 ⟨none, .asg 20 (.t 21)⟩])
 (.drop [21] (.cond (.t 20) (.seq (.reg [⟨none, .bld 22 [.int .i64 0, .int .i64 0] [(0, 1, (.c (.int .i64 0))), (1, 1, (.c (.int .i64 1)))]⟩,
 ⟨none, .bld 23 [.int .i64 0, .int .i64 0] [(0, 1, (.c (.int .i64 0))), (1, 1, (.c (.int .i64 2)))]⟩,
 ⟨none, .bld 24 [.int .i64 0, .int .i64 0] [(0, 1, (.c (.int .i64 1))), (1, 1, (.c (.int .i64 3)))]⟩,
 ⟨none, .bld 25 [.int .i64 0, .int .i64 0] [(0, 1, (.c (.int .i64 2))), (1, 1, (.c (.int .i64 3)))]⟩,
 ⟨none, .bsl 26 2 [(.t 22), (.t 23), (.t 24), (.t 25)]⟩,
 ⟨none, .call 27 f_spec_l23From [((.c (.int .i64 4)), false), ((.t 26), false)]⟩,
 ⟨none, .st 1 (.t 2) (.t 27)⟩])
 (.drop [22, 23, 24, 25, 26, 27] .ret))
 (.seq (.reg [⟨none, .bin 29 .eql (.t 3) (.c (.int .i64 4))⟩,
 ⟨none, .asg 28 (.t 29)⟩])
 (.drop [29] (.cond (.t 28) (.seq (.reg [⟨none, .bld 30 [.int .i64 0, .int .i64 0] [(0, 1, (.c (.int .i64 0))), (1, 1, (.c (.int .i64 1)))]⟩,
 ⟨none, .bld 31 [.int .i64 0, .int .i64 0] [(0, 1, (.c (.int .i64 0))), (1, 1, (.c (.int .i64 2)))]⟩,
 ⟨none, .bld 32 [.int .i64 0, .int .i64 0] [(0, 1, (.c (.int .i64 0))), (1, 1, (.c (.int .i64 3)))]⟩,
 ⟨none, .bld 33 [.int .i64 0, .int .i64 0] [(0, 1, (.c (.int .i64 1))), (1, 1, (.c (.int .i64 4)))]⟩,
 ⟨none, .bld 34 [.int .i64 0, .int .i64 0] [(0, 1, (.c (.int .i64 2))), (1, 1, (.c (.int .i64 4)))]⟩,
 ⟨none, .bld 35 [.int .i64 0, .int .i64 0] [(0, 1, (.c (.int .i64 3))), (1, 1, (.c (.int .i64 4)))]⟩,
 ⟨none, .bsl 36 2 [(.t 30), (.t 31), (.t 32), (.t 33), (.t 34), (.t 35)]⟩,
 ⟨none, .call 37 f_spec_l23From [((.c (.int .i64 5)), false), ((.t 36), false)]⟩,
 ⟨none, .st 1 (.t 2) (.t 37)⟩])
 (.drop [30, 31, 32, 33, 34, 35, 36, 37] .ret))
 (.seq (.reg [⟨none, .bin 39 .eql (.t 3) (.c (.int .i64 5))⟩,
 ⟨none, .asg 38 (.t 39)⟩])
 (.drop [39] (.cond (.t 38) (.seq (.reg [⟨none, .bld 40 [.int .i64 0, .int .i64 0] [(0, 1, (.c (.int .i64 0))), (1, 1, (.c (.int .i64 1)))]⟩,
 ⟨none, .bld 41 [.int .i64 0, .int .i64 0] [(0, 1, (.c (.int .i64 1))), (1, 1, (.c (.int .i64 2)))]⟩,
 ⟨none, .bld 42 [.int .i64 0, .int .i64 0] [(0, 1, (.c (.int .i64 0))), (1, 1, (.c (.int .i64 3)))]⟩,
 ⟨none, .bld 43 [.int .i64 0, .int .i64 0] [(0, 1, (.c (.int .i64 2))), (1, 1, (.c (.int .i64 4)))]⟩,
 ⟨none, .bld 44 [.int .i64 0, .int .i64 0] [(0, 1, (.c (.int .i64 3))), (1, 1, (.c (.int .i64 4)))]⟩,
 ⟨none, .bsl 45 2 [(.t 40), (.t 41), (.t 42), (.t 43), (.t 44)]⟩,
 ⟨none, .call 46 f_spec_l23From [((.c (.int .i64 5)), false), ((.t 45), false)]⟩,
 ⟨none, .st 1 (.t 2) (.t 46)⟩])
 (.drop [40, 41, 42, 43, 44, 45, 46] .ret))
 (.seq (.reg [⟨none, .bin 48 .eql (.t 3) (.c (.int .i64 6))⟩,
 ⟨none, .asg 47 (.t 48)⟩])
 (.drop [48] (.cond (.t 47) (.seq (.reg [⟨none, .bld 49 [.int .i64 0, .int .i64 0] [(0, 1, (.c (.int .i64 0))), (1, 1, (.c (.int .i64 1)))]⟩,
 ⟨none, .bld 50 [.int .i64 0, .int .i64 0] [(0, 1, (.c (.int .i64 0))), (1, 1, (.c (.int .i64 2)))]⟩,
 ⟨none, .bld 51 [.int .i64 0, .int .i64 0] [(0, 1, (.c (.int .i64 0))), (1, 1, (.c (.int .i64 3)))]⟩,
 ⟨none, .bld 52 [.int .i64 0, .int .i64 0] [(0, 1, (.c (.int .i64 1))), (1, 1, (.c (.int .i64 4)))]⟩,
 ⟨none, .bld 53 [.int .i64 0, .int .i64 0] [(0, 1, (.c (.int .i64 1))), (1, 1, (.c (.int .i64 5)))]⟩,
 ⟨none, .bld 54 [.int .i64 0, .int .i64 0] [(0, 1, (.c (.int .i64 2))), (1, 1, (.c (.int .i64 4)))]⟩,
 ⟨none, .bld 55 [.int .i64 0, .int .i64 0] [(0, 1, (.c (.int .i64 2))), (1, 1, (.c (.int .i64 6)))]⟩,
 ⟨none, .bld 56 [.int .i64 0, .int .i64 0] [(0, 1, (.c (.int .i64 3))), (1, 1, (.c (.int .i64 5)))]⟩,
 ⟨none, .bld 57 [.int .i64 0, .int .i64 0] [(0, 1, (.c (.int .i64 3))), (1, 1, (.c (.int .i64 6)))]⟩,
 ⟨none, .bld 58 [.int .i64 0, .int .i64 0] [(0, 1, (.c (.int .i64 4))), (1, 1, (.c (.int .i64 7)))]⟩,
 ⟨none, .bld 59 [.int .i64 0, .int .i64 0] [(0, 1, (.c (.int .i64 5))), (1, 1, (.c (.int .i64 7)))]⟩,
 ⟨none, .bld 60 [.int .i64 0, .int .i64 0] [(0, 1, (.c (.int .i64 6))), (1, 1, (.c (.int .i64 7)))]⟩,
 ⟨none, .bsl 61 2 [(.t 49), (.t 50), (.t 51), (.t 52), (.t 53), (.t 54), (.t 55), (.t 56), (.t 57), (.t 58), (.t 59), (.t 60)]⟩,
 ⟨none, .call 62 f_spec_l23From [((.c (.int .i64 8)), false), ((.t 61), false)]⟩,
 ⟨none, .st 1 (.t 2) (.t 62)⟩])
 (.drop [49, 50, 51, 52, 53, 54, 55, 56, 57, 58, 59, 60, 61, 62] .ret))
 (.seq (.reg [⟨none, .bin 64 .eql (.t 3) (.c (.int .i64 7))⟩,
 ⟨none, .asg 63 (.t 64)⟩])
 (.drop [64] (.cond (.t 63) (.seq (.reg [⟨none, .bld 65 [.int .i64 0, .int .i64 0] [(0, 1, (.c (.int .i64 0))), (1, 1, (.c (.int .i64 1)))]⟩,
 ⟨none, .bld 66 [.int .i64 0, .int .i64 0] [(0, 1, (.c (.int .i64 0))), (1, 1, (.c (.int .i64 2)))]⟩,
 ⟨none, .bld 67 [.int .i64 0, .int .i64 0] [(0, 1, (.c (.int .i64 1))), (1, 1, (.c (.int .i64 3)))]⟩,
 ⟨none, .bld 68 [.int .i64 0, .int .i64 0] [(0, 1, (.c (.int .i64 2))), (1, 1, (.c (.int .i64 3)))]⟩,
 ⟨none, .bld 69 [.int .i64 0, .int .i64 0] [(0, 1, (.c (.int .i64 2))), (1, 1, (.c (.int .i64 4)))]⟩,
 ⟨none, .bld 70 [.int .i64 0, .int .i64 0] [(0, 1, (.c (.int .i64 3))), (1, 1, (.c (.int .i64 5)))]⟩,
 ⟨none, .bld 71 [.int .i64 0, .int .i64 0] [(0, 1, (.c (.int .i64 4))), (1, 1, (.c (.int .i64 5)))]⟩,
 ⟨none, .bsl 72 2 [(.t 65), (.t 66), (.t 67), (.t 68), (.t 69), (.t 70), (.t 71)]⟩,
 ⟨none, .call 73 f_spec_l23From [((.c (.int .i64 6)), false), ((.t 72), false)]⟩,
 ⟨none, .st 1 (.t 2) (.t 73)⟩])
 (.drop [65, 66, 67, 68, 69, 70, 71, 72, 73] .ret))
 (.seq (.reg [⟨none, .bin 75 .eql (.t 3) (.c (.int .i64 8))⟩,
 ⟨none, .asg 74 (.t 75)⟩])
 (.drop [75] (.cond (.t 74) (.seq (.reg [⟨none, .bld 76 [.int .i64 0, .int .i64 0] [(0, 1, (.c (.int .i64 0))), (1, 1, (.c (.int .i64 1)))]⟩,
 ⟨none, .bld 77 [.int .i64 0, .int .i64 0] [(0, 1, (.c (.int .i64 0))), (1, 1, (.c (.int .i64 2)))]⟩,
 ⟨none, .bld 78 [.int .i64 0, .int .i64 0] [(0, 1, (.c (.int .i64 1))), (1, 1, (.c (.int .i64 3)))]⟩,
 ⟨none, .bld 79 [.int .i64 0, .int .i64 0] [(0, 1, (.c (.int .i64 2))), (1, 1, (.c (.int .i64 4)))]⟩,
 ⟨none, .bld 80 [.int .i64 0, .int .i64 0] [(0, 1, (.c (.int .i64 3))), (1, 1, (.c (.int .i64 5)))]⟩,
 ⟨none, .bld 81 [.int .i64 0, .int .i64 0] [(0, 1, (.c (.int .i64 4))), (1, 1, (.c (.int .i64 5)))]⟩,
 ⟨none, .bsl 82 2 [(.t 76), (.t 77), (.t 78), (.t 79), (.t 80), (.t 81)]⟩,
 ⟨none, .call 83 f_spec_l23From [((.c (.int .i64 6)), false), ((.t 82), false)]⟩,
 ⟨none, .st 1 (.t 2) (.t 83)⟩])
 (.drop [76, 77, 78, 79, 80, 81, 82, 83] .ret))
 (.seq (.reg [⟨none, .bin 85 .eql (.t 3) (.c (.int .i64 9))⟩,
 ⟨none, .asg 84 (.t 85)⟩])
 (.drop [85] (.cond (.t 84) (.seq (.reg [⟨none, .bld 86 [.int .i64 0, .int .i64 0] [(0, 1, (.c (.int .i64 0))), (1, 1, (.c (.int .i64 1)))]⟩,
 ⟨none, .bld 87 [.int .i64 0, .int .i64 0] [(0, 1, (.c (.int .i64 0))), (1, 1, (.c (.int .i64 2)))]⟩,
 ⟨none, .bld 88 [.int .i64 0, .int .i64 0] [(0, 1, (.c (.int .i64 0))), (1, 1, (.c (.int .i64 3)))]⟩,
 ⟨none, .bld 89 [.int .i64 0, .int .i64 0] [(0, 1, (.c (.int .i64 1))), (1, 1, (.c (.int .i64 4)))]⟩,
 ⟨none, .bld 90 [.int .i64 0, .int .i64 0] [(0, 1, (.c (.int .i64 2))), (1, 1, (.c (.int .i64 4)))]⟩,
 ⟨none, .bld 91 [.int .i64 0, .int .i64 0] [(0, 1, (.c (.int .i64 3))), (1, 1, (.c (.int .i64 5)))]⟩,
 ⟨none, .bld 92 [.int .i64 0, .int .i64 0] [(0, 1, (.c (.int .i64 2))), (1, 1, (.c (.int .i64 5)))]⟩,
 ⟨none, .bld 93 [.int .i64 0, .int .i64 0] [(0, 1, (.c (.int .i64 4))), (1, 1, (.c (.int .i64 6)))]⟩,
 ⟨none, .bld 94 [.int .i64 0, .int .i64 0] [(0, 1, (.c (.int .i64 5))), (1, 1, (.c (.int .i64 6)))]⟩,
 ⟨none, .bsl 95 2 [(.t 86), (.t 87), (.t 88), (.t 89), (.t 90), (.t 91), (.t 92), (.t 93), (.t 94)]⟩,
 ⟨none, .call 96 f_spec_l23From [((.c (.int .i64 7)), false), ((.t 95), false)]⟩,
 ⟨none, .st 1 (.t 2) (.t 96)⟩])
 (.drop [86, 87, 88, 89, 90, 91, 92, 93, 94, 95, 96] .ret))
 (.seq (.reg [⟨none, .bin 98 .eql (.t 3) (.c (.int .i64 10))⟩,
 ⟨none, .asg 97 (.t 98)⟩])
 (.drop [98] (.cond (.t 97) (.seq (.reg [⟨none, .bld 99 [.int .i64 0, .int .i64 0] [(0, 1, (.c (.int .i64 0))), (1, 1, (.c (.int .i64 1)))]⟩,
 ⟨none, .bld 100 [.int .i64 0, .int .i64 0] [(0, 1, (.c (.int .i64 1))), (1, 1, (.c (.int .i64 2)))]⟩,
 ⟨none, .bsl 101 2 [(.t 99), (.t 100)]⟩,
 ⟨none, .call 102 f_spec_l23From [((.c (.int .i64 3)), false), ((.t 101), false)]⟩,
 ⟨none, .bld 103 [.int .i64 0, .int .i64 0] [(0, 1, (.c (.int .i64 0))), (1, 1, (.c (.int .i64 1)))]⟩,
 ⟨none, .bld 104 [.int .i64 0, .int .i64 0] [(0, 1, (.c (.int .i64 1))), (1, 1, (.c (.int .i64 2)))]⟩,
 ⟨none, .bsl 105 2 [(.t 103), (.t 104)]⟩,
 ⟨none, .call 106 f_spec_l23From [((.c (.int .i64 3)), false), ((.t 105), false)]⟩,
 ⟨none, .call 107 f_spec_l24Product [((.t 102), false), ((.t 106), false)]⟩,
 ⟨none, .st 1 (.t 2) (.t 107)⟩])
 (.drop [99, 100, 101, 102, 103, 104, 105, 106, 107] .ret))
 .skip)))))))))))))))))))))))))))))))))))
 (.drop [3, 5, 4, 6, 7, 9, 8, 10, 11, 12, 14, 13, 15, 16, 17, 18, 19, 21, 20, 22, 23, 24, 25, 26, 27, 29, 28, 30, 31, 32, 33, 34, 35, 36, 37, 39, 38, 40, 41, 42, 43, 44, 45, 46, 48, 47, 49, 50, 51, 52, 53, 54, 55, 56, 57, 58, 59, 60, 61, 62, 64, 63, 65, 66, 67, 68, 69, 70, 71, 72, 73, 75, 74, 76, 77, 78, 79, 80, 81, 82, 83, 85, 84, 86, 87, 88, 89, 90, 91, 92, 93, 94, 95, 96, 98, 97, 99, 100, 101, 102, 103, 104, 105, 106, 107] (.seq (.reg [⟨none, .bld 108 [.int .i64 0, .int .i64 0] [(0, 1, (.c (.int .i64 0))), (1, 1, (.c (.int .i64 1)))]⟩,
 ⟨none, .bld 109 [.int .i64 0, .int .i64 0] [(0, 1, (.c (.int .i64 1))), (1, 1, (.c (.int .i64 2)))]⟩,
 ⟨none, .bsl 110 2 [(.t 108), (.t 109)]⟩,
 ⟨none, .call 111 f_spec_l23From [((.c (.int .i64 3)), false), ((.t 110), false)]⟩,
 ⟨none, .st 1 (.t 2) (.t 111)⟩])
 (.drop [108, 109, 110, 111] .ret)))))
abbrev r_spec_l24Known : List RS := [.c 2 1 true]
theorem k_spec_l24Known : fitsF Try.prog f_spec_l24Known 112 c_spec_l24Known r_spec_l24Known = true := by kernel_rfl

/- loop.example/g01078/impl.orderOf: [p=0, p=1, n=4, o=5, x=6, list=7, _=8, y=9] -/
def c_impl_orderOf_k1 : ACode :=
 (.seq (.reg [⟨none, .mov 25 (.t 7)⟩,
 ⟨none, .call 26 f_impl_rises [((.t 25), false)]⟩,
 ⟨none, .un 27 .not (.t 26)⟩,
 ⟨none, .asg 28 (.t 27)⟩,
 ⟨some (28, false), .mov 29 (.t 7)⟩,
 ⟨some (28, false), .mov 30 (.t 4)⟩,
 ⟨some (28, false), .call 31 f_impl_inSize [((.t 29), false), ((.t 30), false)]⟩,
 ⟨some (28, false), .un 32 .not (.t 31)⟩,
 ⟨none, .pick 33 (.t 28) (.c (.bool true)) (.t 32)⟩])
 (.drop [25, 26, 27, 28, 29, 30, 31, 32] (.cond (.t 33) (.seq (.reg [⟨none, .asg 2 (.c (.nilsl 1))⟩,
 ⟨none, .asg 3 (.c (.bool false))⟩])
 .ret)
 .skip)))
def c_impl_orderOf_l1 : ACode :=
 (.seq (.reg [⟨none, .bin 37 .lss (.t 36) (.t 35)⟩])
 (.seq (.cond (.t 37) .skip
 (.exit 2))
 (.seq (.block 3 (.seq (.reg [⟨none, .iad 38 1 (.t 34) (.t 36)⟩,
 ⟨none, .ld 39 1 false (.t 38)⟩,
 ⟨none, .asg 9 (.t 39)⟩])
 (.drop [38, 39] (.reg [⟨none, .mov 40 (.t 5)⟩,
 ⟨none, .mov 41 (.t 9)⟩,
 ⟨none, .iad 42 1 (.t 40) (.t 41)⟩,
 ⟨none, .ld 43 1 false (.t 42)⟩,
 ⟨none, .mov 44 (.t 6)⟩,
 ⟨none, .iad 45 1 (.t 43) (.t 44)⟩,
 ⟨none, .st 1 (.t 45) (.c (.bool true))⟩]))))
 (.drop [38, 39, 9, 40, 41, 42, 43, 44, 45] (.reg [⟨none, .bin 46 .add (.t 36) (.c (.int .i64 1))⟩,
 ⟨none, .asg 36 (.t 46)⟩])))))
def c_impl_orderOf_l2 : ACode :=
 (.seq (.reg [⟨none, .bin 21 .lss (.t 20) (.t 19)⟩])
 (.seq (.cond (.t 21) .skip
 (.exit 0))
 (.seq (.block 1 (.seq (.reg [⟨none, .mov 22 (.t 20)⟩,
 ⟨none, .iad 23 1 (.t 18) (.t 20)⟩,
 ⟨none, .ld 24 1 false (.t 23)⟩,
 ⟨none, .asg 6 (.t 22)⟩,
 ⟨none, .asg 7 (.t 24)⟩])
 (.drop [22, 23, 24] (.seq (.cut c_impl_orderOf_k1)
 (.drop [25, 26, 27, 28, 29, 30, 31, 32, 33] (.seq (.reg [⟨none, .mov 34 (.t 7)⟩,
 ⟨none, .len 35 (.t 34)⟩,
 ⟨none, .mov 36 (.c (.int .i64 0))⟩])
 (.block 2 (.loop c_impl_orderOf_l1))))))))
 (.drop [22, 23, 24, 6, 7, 25, 26, 27, 28, 29, 30, 31, 32, 33, 34, 35, 36, 37, 38, 39, 9, 40, 41, 42, 43, 44, 45, 46] (.reg [⟨none, .bin 47 .add (.t 20) (.c (.int .i64 1))⟩,
 ⟨none, .asg 20 (.t 47)⟩])))))
def c_impl_orderOf : ACode :=
 (.seq (.reg [⟨none, .box 1 (.t 0)⟩,
 ⟨none, .asg 2 (.c (.nilsl 1))⟩,
 ⟨none, .asg 3 (.c (.bool false))⟩])
 (.seq (.reg [⟨none, .fadr 10 0 (.t 1)⟩,
 ⟨none, .ld 11 1 false (.t 10)⟩,
 ⟨none, .len 12 (.t 11)⟩,
 ⟨none, .asg 4 (.t 12)⟩])
 (.drop [10, 11, 12] (.seq (.seq (.reg [⟨none, .mov 13 (.t 4)⟩,
 ⟨none, .bin 14 .gtr (.t 13) (.c (.int .i64 10))⟩])
 (.drop [13] (.cond (.t 14) (.seq (.reg [⟨none, .asg 2 (.c (.nilsl 1))⟩,
 ⟨none, .asg 3 (.c (.bool false))⟩])
 .ret)
 .skip)))
 (.drop [13, 14] (.seq (.reg [⟨none, .mov 15 (.t 4)⟩,
 ⟨none, .call 16 f_impl_newOrder [((.t 15), false)]⟩,
 ⟨none, .asg 5 (.t 16)⟩])
 (.drop [15, 16] (.seq (.seq (.reg [⟨none, .fadr 17 0 (.t 1)⟩,
 ⟨none, .ld 18 1 false (.t 17)⟩,
 ⟨none, .len 19 (.t 18)⟩,
 ⟨none, .mov 20 (.c (.int .i64 0))⟩])
 (.drop [17] (.block 0 (.loop c_impl_orderOf_l2))))
 (.drop [17, 18, 19, 20, 21, 22, 23, 24, 6, 7, 25, 26, 27, 28, 29, 30, 31, 32, 33, 34, 35, 36, 37, 38, 39, 9, 40, 41, 42, 43, 44, 45, 46, 47] (.seq (.reg [⟨none, .mov 48 (.t 5)⟩,
 ⟨none, .mov 49 (.t 5)⟩,
 ⟨none, .call 50 f_impl_order_isOrder [((.t 49), false)]⟩,
 ⟨none, .asg 2 (.t 48)⟩,
 ⟨none, .asg 3 (.t 50)⟩])
 (.drop [48, 49, 50] .ret)))))))))))
abbrev r_impl_orderOf : List RS := [.t 2, .t 3]
theorem k_impl_orderOf : fitsF Try.prog f_impl_orderOf 51 c_impl_orderOf r_impl_orderOf = true := by kernel_rfl

/- (loop.example/g01078/impl.order).dual: [o=0, o=1, d=3, x=4, y=5] -/
def c_impl_order_dual_l1 : ACode :=
 (.seq (.reg [⟨none, .bin 17 .lss (.t 16) (.t 15)⟩])
 (.seq (.cond (.t 17) .skip
 (.exit 2))
 (.seq (.block 3 (.seq (.reg [⟨none, .mov 18 (.t 16)⟩,
 ⟨none, .asg 5 (.t 18)⟩])
 (.drop [18] (.dreg [(⟨none, .mov 19 (.t 3)⟩, []),
 (⟨none, .mov 20 (.t 4)⟩, [19]),
 (⟨none, .iad 21 1 (.t 19) (.t 20)⟩, []),
 (⟨none, .ld 22 1 false (.t 21)⟩, []),
 (⟨none, .mov 23 (.t 5)⟩, [19, 20, 21, 22]),
 (⟨none, .mov 24 (.t 0)⟩, [19, 20, 21, 22, 23]),
 (⟨none, .mov 25 (.t 5)⟩, [19, 20, 21, 22, 23, 24]),
 (⟨none, .iad 26 1 (.t 24) (.t 25)⟩, [19, 20, 21, 22, 23]),
 (⟨none, .ld 27 1 false (.t 26)⟩, [19, 20, 21, 22, 23]),
 (⟨none, .mov 28 (.t 4)⟩, [19, 20, 21, 22, 23, 24, 25, 26, 27]),
 (⟨none, .iad 29 1 (.t 27) (.t 28)⟩, [19, 20, 21, 22, 23]),
 (⟨none, .ld 30 1 false (.t 29)⟩, [19, 20, 21, 22, 23])]
 [⟨none, .iad 31 1 (.t 22) (.t 23)⟩,
 ⟨none, .st 1 (.t 31) (.t 30)⟩]))))
 (.drop [18, 5, 19, 20, 21, 22, 23, 24, 25, 26, 27, 28, 29, 30, 31] (.reg [⟨none, .bin 32 .add (.t 16) (.c (.int .i64 1))⟩,
 ⟨none, .asg 16 (.t 32)⟩])))))
def c_impl_order_dual_l2 : ACode :=
 (.seq (.reg [⟨none, .bin 12 .lss (.t 11) (.t 10)⟩])
 (.seq (.cond (.t 12) .skip
 (.exit 0))
 (.seq (.block 1 (.seq (.reg [⟨none, .mov 13 (.t 11)⟩,
 ⟨none, .asg 4 (.t 13)⟩])
 (.drop [13] (.seq (.reg [⟨none, .mov 14 (.t 0)⟩,
 ⟨none, .len 15 (.t 14)⟩,
 ⟨none, .mov 16 (.c (.int .i64 0))⟩])
 (.drop [14] (.block 2 (.loop c_impl_order_dual_l1)))))))
 (.drop [13, 4, 14, 15, 16, 17, 18, 5, 19, 20, 21, 22, 23, 24, 25, 26, 27, 28, 29, 30, 31, 32] (.reg [⟨none, .bin 33 .add (.t 11) (.c (.int .i64 1))⟩,
 ⟨none, .asg 11 (.t 33)⟩])))))
def c_impl_order_dual : ACode :=
 (.seq (.reg [⟨none, .asg 2 (.c (.nilsl 1))⟩])
 (.seq (.reg [⟨none, .mov 6 (.t 0)⟩,
 ⟨none, .len 7 (.t 6)⟩,
 ⟨none, .call 8 f_impl_newOrder [((.t 7), false)]⟩,
 ⟨none, .asg 3 (.t 8)⟩])
 (.drop [6, 7, 8] (.seq (.seq (.reg [⟨none, .mov 9 (.t 0)⟩,
 ⟨none, .len 10 (.t 9)⟩,
 ⟨none, .mov 11 (.c (.int .i64 0))⟩])
 (.drop [9] (.block 0 (.loop c_impl_order_dual_l2))))
 (.drop [9, 10, 11, 12, 13, 4, 14, 15, 16, 17, 18, 5, 19, 20, 21, 22, 23, 24, 25, 26, 27, 28, 29, 30, 31, 32, 33] (.seq (.reg [⟨none, .mov 34 (.t 3)⟩,
 ⟨none, .asg 2 (.t 34)⟩])
 (.drop [34] .ret)))))))
abbrev r_impl_order_dual : List RS := [.t 2]
theorem k_impl_order_dual : fitsF Try.prog f_impl_order_dual 35 c_impl_order_dual r_impl_order_dual = true := by kernel_rfl

/- loop.example/g01078/spec.l23Leq: [p=0, x=1, y=2, p=3, x=4, y=5] -/
def c_spec_l23Leq : ACode :=
 (.seq (.reg [⟨none, .box 3 (.t 0)⟩,
 ⟨none, .asg 6 (.c (.bool false))⟩])
 (.seq (.reg [⟨none, .fadr 7 0 (.t 3)⟩,
 ⟨none, .ld 8 1 false (.t 7)⟩,
 ⟨none, .mov 9 (.t 2)⟩,
 ⟨none, .iad 10 1 (.t 8) (.t 9)⟩,
 ⟨none, .ld 11 1 false (.t 10)⟩,
 ⟨none, .mov 12 (.t 1)⟩,
 ⟨none, .call 13 f_spec_l1Has [((.t 11), false), ((.t 12), false)]⟩,
 ⟨none, .asg 6 (.t 13)⟩])
 (.drop [7, 8, 9, 10, 11, 12, 13] .ret)))
abbrev r_spec_l23Leq : List RS := [.t 6]
theorem k_spec_l23Leq : fitsF Try.prog f_spec_l23Leq 14 c_spec_l23Leq r_spec_l23Leq = true := by kernel_rfl

/- loop.example/g01078/spec.l2Elements: [n=0, list=1, n=2, list=3, i=5] -/
def c_spec_l2Elements_l1 : ACode :=
 (.seq (.seq (.reg [⟨none, .mov 6 (.t 5)⟩,
 ⟨none, .mov 7 (.t 1)⟩,
 ⟨none, .len 8 (.t 7)⟩,
 ⟨none, .bin 9 .lss (.t 6) (.t 8)⟩])
 (.drop [6, 7, 8] (.cond (.t 9) .skip
 (.exit 0))))
 (.drop [6, 7, 8, 9] (.seq (.block 1 (.seq (.reg [⟨none, .mov 12 (.t 1)⟩,
 ⟨none, .mov 13 (.t 5)⟩,
 ⟨none, .iad 14 1 (.t 12) (.t 13)⟩,
 ⟨none, .ld 15 1 false (.t 14)⟩,
 ⟨none, .mov 16 (.t 0)⟩,
 ⟨none, .bin 17 .sub (.t 16) (.c (.int .i64 1))⟩,
 ⟨none, .call 18 f_spec_l1In [((.t 15), false), ((.c (.int .i64 0)), false), ((.t 17), false)]⟩,
 ⟨none, .un 19 .not (.t 18)⟩])
 (.drop [12, 13, 14, 15, 16, 17, 18] (.cond (.t 19) (.seq (.reg [⟨none, .asg 4 (.c (.bool false))⟩])
 .ret)
 .skip))))
 (.drop [12, 13, 14, 15, 16, 17, 18, 19] (.reg [⟨none, .mov 10 (.t 5)⟩,
 ⟨none, .bin 11 .add (.t 10) (.c (.int .i64 1))⟩,
 ⟨none, .asg 5 (.t 11)⟩])))))
def c_spec_l2Elements : ACode :=
 (.seq (.reg [⟨none, .asg 4 (.c (.bool false))⟩])
 (.seq (.seq (.reg [⟨none, .asg 5 (.c (.int .i64 0))⟩])
 (.block 0 (.loop c_spec_l2Elements_l1)))
 (.drop [5, 6, 7, 8, 9, 12, 13, 14, 15, 16, 17, 18, 19, 10, 11] (.seq (.reg [⟨none, .asg 4 (.c (.bool true))⟩])
 .ret))))
abbrev r_spec_l2Elements : List RS := [.t 4]
theorem k_spec_l2Elements : fitsF Try.prog f_spec_l2Elements 20 c_spec_l2Elements r_spec_l2Elements = true := by kernel_rfl

/- (loop.example/g01078/impl.order).meetTable: [o=0, o=1, table=4, x=5, row=6, y=7, m=8] -/
def c_impl_order_meetTable_l1 : ACode :=
 (.seq (.reg [⟨none, .bin 19 .lss (.t 18) (.t 17)⟩])
 (.seq (.cond (.t 19) .skip
 (.exit 2))
 (.seq (.block 3 (.seq (.reg [⟨none, .mov 20 (.t 18)⟩,
 ⟨none, .alc 7 (.int .i64 0)⟩,
 ⟨none, .st 1 (.t 7) (.t 20)⟩])
 (.drop [20] (.seq (.dreg [(⟨none, .ld 21 1 false (.t 1)⟩, []),
 (⟨none, .ld 22 1 false (.t 1)⟩, [21]),
 (⟨none, .mkf 23 f_impl_order_meetTable_1 [(.t 1), (.t 5), (.t 7)]⟩, [21, 22]),
 (⟨none, .call 24 f_impl_order_those [((.t 22), false), ((.t 23), false)]⟩, [21])]
 [⟨none, .call 25 f_impl_order_greatest [((.t 21), false), ((.t 24), false)]⟩,
 ⟨none, .asg 8 (.t 25)⟩])
 (.drop [21, 22, 23, 24, 25] (.seq (.seq (.reg [⟨none, .mov 26 (.t 8)⟩,
 ⟨none, .bin 27 .lss (.t 26) (.c (.int .i64 0))⟩])
 (.drop [26] (.cond (.t 27) (.seq (.reg [⟨none, .asg 2 (.c (.nilsl 1))⟩,
 ⟨none, .asg 3 (.c (.bool false))⟩])
 .ret)
 .skip)))
 (.drop [26, 27] (.reg [⟨none, .mov 28 (.t 6)⟩,
 ⟨none, .mov 29 (.t 8)⟩,
 ⟨none, .bsl 30 1 [(.t 29)]⟩,
 ⟨none, .app 31 1 (.t 28) (.t 30)⟩,
 ⟨none, .asg 6 (.t 31)⟩]))))))))
 (.drop [20, 7, 21, 22, 23, 24, 25, 8, 26, 27, 28, 29, 30, 31] (.reg [⟨none, .bin 32 .add (.t 18) (.c (.int .i64 1))⟩,
 ⟨none, .asg 18 (.t 32)⟩])))))
def c_impl_order_meetTable_l2 : ACode :=
 (.seq (.reg [⟨none, .bin 13 .lss (.t 12) (.t 11)⟩])
 (.seq (.cond (.t 13) .skip
 (.exit 0))
 (.seq (.block 1 (.seq (.reg [⟨none, .mov 14 (.t 12)⟩,
 ⟨none, .alc 5 (.int .i64 0)⟩,
 ⟨none, .st 1 (.t 5) (.t 14)⟩])
 (.drop [14] (.seq (.reg [⟨none, .bsl 15 1 []⟩,
 ⟨none, .asg 6 (.t 15)⟩])
 (.drop [15] (.seq (.seq (.reg [⟨none, .ld 16 1 false (.t 1)⟩,
 ⟨none, .len 17 (.t 16)⟩,
 ⟨none, .mov 18 (.c (.int .i64 0))⟩])
 (.drop [16] (.block 2 (.loop c_impl_order_meetTable_l1))))
 (.drop [16, 17, 18, 19, 20, 7, 21, 22, 23, 24, 25, 8, 26, 27, 28, 29, 30, 31, 32] (.reg [⟨none, .mov 33 (.t 4)⟩,
 ⟨none, .mov 34 (.t 6)⟩,
 ⟨none, .bsl 35 1 [(.t 34)]⟩,
 ⟨none, .app 36 1 (.t 33) (.t 35)⟩,
 ⟨none, .asg 4 (.t 36)⟩]))))))))
 (.drop [14, 5, 15, 6, 16, 17, 18, 19, 20, 7, 21, 22, 23, 24, 25, 8, 26, 27, 28, 29, 30, 31, 32, 33, 34, 35, 36] (.reg [⟨none, .bin 37 .add (.t 12) (.c (.int .i64 1))⟩,
 ⟨none, .asg 12 (.t 37)⟩])))))
def c_impl_order_meetTable : ACode :=
 (.seq (.reg [⟨none, .box 1 (.t 0)⟩,
 ⟨none, .asg 2 (.c (.nilsl 1))⟩,
 ⟨none, .asg 3 (.c (.bool false))⟩])
 (.seq (.reg [⟨none, .bsl 9 1 []⟩,
 ⟨none, .asg 4 (.t 9)⟩])
 (.drop [9] (.seq (.seq (.reg [⟨none, .ld 10 1 false (.t 1)⟩,
 ⟨none, .len 11 (.t 10)⟩,
 ⟨none, .mov 12 (.c (.int .i64 0))⟩])
 (.drop [10] (.block 0 (.loop c_impl_order_meetTable_l2))))
 (.drop [10, 11, 12, 13, 14, 5, 15, 6, 16, 17, 18, 19, 20, 7, 21, 22, 23, 24, 25, 8, 26, 27, 28, 29, 30, 31, 32, 33, 34, 35, 36, 37] (.seq (.reg [⟨none, .mov 38 (.t 4)⟩,
 ⟨none, .asg 2 (.t 38)⟩,
 ⟨none, .asg 3 (.c (.bool true))⟩])
 (.drop [38] .ret)))))))
abbrev r_impl_order_meetTable : List RS := [.t 2, .t 3]
theorem k_impl_order_meetTable : fitsF Try.prog f_impl_order_meetTable 39 c_impl_order_meetTable r_impl_order_meetTable = true := by kernel_rfl

/- (loop.example/g01078/impl.order).covers: [o=0, x=1, y=2, o=3, x=4, y=5, z=7] -/
def c_impl_order_covers_l1 : ACode :=
 (.seq (.reg [⟨none, .bin 16 .lss (.t 15) (.t 14)⟩])
 (.seq (.cond (.t 16) .skip
 (.exit 0))
 (.seq (.block 1 (.seq (.reg [⟨none, .mov 17 (.t 15)⟩,
 ⟨none, .asg 7 (.t 17)⟩])
 (.drop [17] (.seq (.reg [⟨none, .mov 18 (.t 0)⟩,
 ⟨none, .mov 19 (.t 1)⟩,
 ⟨none, .mov 20 (.t 7)⟩,
 ⟨none, .call 21 f_impl_order_less [((.t 18), false), ((.t 19), false), ((.t 20), false)]⟩,
 ⟨none, .asg 22 (.t 21)⟩,
 ⟨some (22, true), .mov 23 (.t 0)⟩,
 ⟨some (22, true), .mov 24 (.t 7)⟩,
 ⟨some (22, true), .mov 25 (.t 2)⟩,
 ⟨some (22, true), .call 26 f_impl_order_less [((.t 23), false), ((.t 24), false), ((.t 25), false)]⟩,
 ⟨none, .pick 27 (.t 22) (.t 26) (.c (.bool false))⟩])
 (.drop [18, 19, 20, 21, 22, 23, 24, 25, 26] (.cond (.t 27) (.seq (.reg [⟨none, .asg 6 (.c (.bool false))⟩])
 .ret)
 .skip))))))
 (.drop [17, 7, 18, 19, 20, 21, 22, 23, 24, 25, 26, 27] (.reg [⟨none, .bin 28 .add (.t 15) (.c (.int .i64 1))⟩,
 ⟨none, .asg 15 (.t 28)⟩])))))
def c_impl_order_covers : ACode :=
 (.seq (.reg [⟨none, .asg 6 (.c (.bool false))⟩])
 (.seq (.seq (.reg [⟨none, .mov 8 (.t 0)⟩,
 ⟨none, .mov 9 (.t 1)⟩,
 ⟨none, .mov 10 (.t 2)⟩,
 ⟨none, .call 11 f_impl_order_less [((.t 8), false), ((.t 9), false), ((.t 10), false)]⟩,
 ⟨none, .un 12 .not (.t 11)⟩])
 (.drop [8, 9, 10, 11] (.cond (.t 12) (.seq (.reg [⟨none, .asg 6 (.c (.bool false))⟩])
 .ret)
 .skip)))
 (.drop [8, 9, 10, 11, 12] (.seq (.seq (.reg [⟨none, .mov 13 (.t 0)⟩,
 ⟨none, .len 14 (.t 13)⟩,
 ⟨none, .mov 15 (.c (.int .i64 0))⟩])
 (.drop [13] (.block 0 (.loop c_impl_order_covers_l1))))
 (.drop [13, 14, 15, 16, 17, 7, 18, 19, 20, 21, 22, 23, 24, 25, 26, 27, 28] (.seq (.reg [⟨none, .asg 6 (.c (.bool true))⟩])
 .ret))))))
abbrev r_impl_order_covers : List RS := [.t 6]
theorem k_impl_order_covers : fitsF Try.prog f_impl_order_covers 29 c_impl_order_covers r_impl_order_covers = true := by kernel_rfl

/- loop.example/g01078/spec.l1Rising: [l=0, lo=1, hi=2, l=3, lo=4, hi=5, i=7] -/
def c_spec_l1Rising_l1 : ACode :=
 (.seq (.seq (.reg [⟨none, .mov 8 (.t 7)⟩,
 ⟨none, .mov 9 (.t 0)⟩,
 ⟨none, .len 10 (.t 9)⟩,
 ⟨none, .bin 11 .lss (.t 8) (.t 10)⟩])
 (.drop [8, 9, 10] (.cond (.t 11) .skip
 (.exit 0))))
 (.drop [8, 9, 10, 11] (.seq (.block 1 (.seq (.dreg [(⟨none, .mov 14 (.t 0)⟩, []),
 (⟨none, .mov 15 (.t 7)⟩, [14]),
 (⟨none, .iad 16 1 (.t 14) (.t 15)⟩, []),
 (⟨none, .ld 17 1 false (.t 16)⟩, []),
 (⟨none, .mov 18 (.t 1)⟩, [14, 15, 16, 17]),
 (⟨none, .mov 19 (.t 2)⟩, [14, 15, 16, 17, 18]),
 (⟨none, .call 20 f_spec_l1In [((.t 17), false), ((.t 18), false), ((.t 19), false)]⟩, []),
 (⟨none, .un 21 .not (.t 20)⟩, []),
 (⟨none, .asg 22 (.t 21)⟩, []),
 (⟨some (22, false), .mov 23 (.t 7)⟩, [21]),
 (⟨some (22, false), .bin 24 .gtr (.t 23) (.c (.int .i64 0))⟩, [21]),
 (⟨some (22, false), .asg 25 (.t 24)⟩, [21]),
 (⟨some (25, true), .mov 26 (.t 0)⟩, [21, 24]),
 (⟨some (25, true), .mov 27 (.t 7)⟩, [26, 21, 24]),
 (⟨some (25, true), .bin 28 .sub (.t 27) (.c (.int .i64 1))⟩, [26, 21, 24]),
 (⟨some (25, true), .iad 29 1 (.t 26) (.t 28)⟩, [21, 24]),
 (⟨some (25, true), .ld 30 1 false (.t 29)⟩, [21, 24]),
 (⟨some (25, true), .mov 31 (.t 0)⟩, [26, 27, 28, 29, 30, 21, 24]),
 (⟨some (25, true), .mov 32 (.t 7)⟩, [26, 27, 28, 29, 30, 31, 21, 24]),
 (⟨some (25, true), .iad 33 1 (.t 31) (.t 32)⟩, [26, 27, 28, 29, 30, 21, 24]),
 (⟨some (25, true), .ld 34 1 false (.t 33)⟩, [26, 27, 28, 29, 30, 21, 24])]
 [⟨some (25, true), .bin 35 .geq (.t 30) (.t 34)⟩,
 ⟨some (22, false), .pick 36 (.t 25) (.t 35) (.c (.bool false))⟩,
 ⟨none, .pick 37 (.t 22) (.c (.bool true)) (.t 36)⟩])
 (.drop [14, 15, 16, 17, 18, 19, 20, 21, 22, 23, 24, 25, 26, 27, 28, 29, 30, 31, 32, 33, 34, 35, 36] (.cond (.t 37) (.seq (.reg [⟨none, .asg 6 (.c (.bool false))⟩])
 .ret)
 .skip))))
 (.drop [14, 15, 16, 17, 18, 19, 20, 21, 22, 23, 24, 25, 26, 27, 28, 29, 30, 31, 32, 33, 34, 35, 36, 37] (.reg [⟨none, .mov 12 (.t 7)⟩,
 ⟨none, .bin 13 .add (.t 12) (.c (.int .i64 1))⟩,
 ⟨none, .asg 7 (.t 13)⟩])))))
def c_spec_l1Rising : ACode :=
 (.seq (.reg [⟨none, .asg 6 (.c (.bool false))⟩])
 (.seq (.seq (.reg [⟨none, .asg 7 (.c (.int .i64 0))⟩])
 (.block 0 (.loop c_spec_l1Rising_l1)))
 (.drop [7, 8, 9, 10, 11, 14, 15, 16, 17, 18, 19, 20, 21, 22, 23, 24, 25, 26, 27, 28, 29, 30, 31, 32, 33, 34, 35, 36, 37, 12, 13] (.seq (.reg [⟨none, .asg 6 (.c (.bool true))⟩])
 .ret))))
abbrev r_spec_l1Rising : List RS := [.t 6]
theorem k_spec_l1Rising : fitsF Try.prog f_spec_l1Rising 38 c_spec_l1Rising r_spec_l1Rising = true := by kernel_rfl

/- loop.example/g01078/spec.l5Within: [x=0, y=1, x=2, y=3, i=5] -/
def c_spec_l5Within_l1 : ACode :=
 (.seq (.seq (.reg [⟨none, .mov 6 (.t 5)⟩,
 ⟨none, .mov 7 (.t 0)⟩,
 ⟨none, .len 8 (.t 7)⟩,
 ⟨none, .bin 9 .lss (.t 6) (.t 8)⟩])
 (.drop [6, 7, 8] (.cond (.t 9) .skip
 (.exit 0))))
 (.drop [6, 7, 8, 9] (.seq (.block 1 (.seq (.reg [⟨none, .mov 12 (.t 1)⟩,
 ⟨none, .mov 13 (.t 0)⟩,
 ⟨none, .mov 14 (.t 5)⟩,
 ⟨none, .iad 15 1 (.t 13) (.t 14)⟩,
 ⟨none, .ld 16 1 false (.t 15)⟩,
 ⟨none, .call 17 f_spec_l1Has [((.t 12), false), ((.t 16), false)]⟩,
 ⟨none, .un 18 .not (.t 17)⟩])
 (.drop [12, 13, 14, 15, 16, 17] (.cond (.t 18) (.seq (.reg [⟨none, .asg 4 (.c (.bool false))⟩])
 .ret)
 .skip))))
 (.drop [12, 13, 14, 15, 16, 17, 18] (.reg [⟨none, .mov 10 (.t 5)⟩,
 ⟨none, .bin 11 .add (.t 10) (.c (.int .i64 1))⟩,
 ⟨none, .asg 5 (.t 11)⟩])))))
def c_spec_l5Within : ACode :=
 (.seq (.reg [⟨none, .asg 4 (.c (.bool false))⟩])
 (.seq (.seq (.reg [⟨none, .asg 5 (.c (.int .i64 0))⟩])
 (.block 0 (.loop c_spec_l5Within_l1)))
 (.drop [5, 6, 7, 8, 9, 12, 13, 14, 15, 16, 17, 18, 10, 11] (.seq (.reg [⟨none, .asg 4 (.c (.bool true))⟩])
 .ret))))
abbrev r_spec_l5Within : List RS := [.t 4]
theorem k_spec_l5Within : fitsF Try.prog f_spec_l5Within 19 c_spec_l5Within r_spec_l5Within = true := by kernel_rfl

/- (*loop.example/g01078/spec.l1Cur).one: [c=0, n=1, c=2, n=3] -/
def c_spec_l1Cur_one : ACode :=
 (.seq (.reg [⟨none, .asg 4 (.c (.bool false))⟩])
 (.seq (.reg [⟨none, .mov 5 (.t 0)⟩,
 ⟨none, .mov 6 (.t 1)⟩,
 ⟨none, .call 7 f_spec_l1Cur_pick [((.t 5), true), ((.t 6), false)]⟩,
 ⟨none, .bin 8 .eql (.t 7) (.c (.int .i64 0))⟩,
 ⟨none, .asg 4 (.t 8)⟩])
 (.drop [5, 6, 7, 8] .ret)))
abbrev r_spec_l1Cur_one : List RS := [.t 4]
theorem k_spec_l1Cur_one : fitsF Try.prog f_spec_l1Cur_one 9 c_spec_l1Cur_one r_spec_l1Cur_one = true := by kernel_rfl

/- (*loop.example/g01078/spec.l1Cur).among: [c=0, list=1, c=2, list=3] -/
def c_spec_l1Cur_among : ACode :=
 (.seq (.reg [⟨none, .asg 4 (.c (.int .i64 0))⟩])
 (.seq (.reg [⟨none, .mov 5 (.t 1)⟩,
 ⟨none, .mov 6 (.t 0)⟩,
 ⟨none, .mov 7 (.t 1)⟩,
 ⟨none, .len 8 (.t 7)⟩,
 ⟨none, .call 9 f_spec_l1Cur_pick [((.t 6), true), ((.t 8), false)]⟩,
 ⟨none, .iad 10 1 (.t 5) (.t 9)⟩,
 ⟨none, .ld 11 1 false (.t 10)⟩,
 ⟨none, .asg 4 (.t 11)⟩])
 (.drop [5, 6, 7, 8, 9, 10, 11] .ret)))
abbrev r_spec_l1Cur_among : List RS := [.t 4]
theorem k_spec_l1Cur_among : fitsF Try.prog f_spec_l1Cur_among 12 c_spec_l1Cur_among r_spec_l1Cur_among = true := by kernel_rfl

/- loop.example/g01078/impl.latticeOf: [p=0, p=1, o=4, ok=5, meets=6, one=7, joins=8, two=9] -/
def c_impl_latticeOf_k1 : ACode :=
 (.seq (.reg [⟨none, .mov 15 (.t 5)⟩,
 ⟨none, .un 16 .not (.t 15)⟩,
 ⟨none, .asg 17 (.t 16)⟩,
 ⟨some (17, false), .mov 18 (.t 4)⟩,
 ⟨some (17, false), .len 19 (.t 18)⟩,
 ⟨some (17, false), .bin 20 .eql (.t 19) (.c (.int .i64 0))⟩,
 ⟨none, .pick 21 (.t 17) (.c (.bool true)) (.t 20)⟩])
 (.drop [15, 16, 17, 18, 19, 20] (.cond (.t 21) (.seq (.reg [⟨none, .asg 2 (.c (.nilp))⟩,
 ⟨none, .asg 3 (.c (.bool false))⟩])
 .ret)
 .skip)))
def c_impl_latticeOf : ACode :=
 (.seq (.reg [⟨none, .box 1 (.t 0)⟩,
 ⟨none, .asg 2 (.c (.nilp))⟩,
 ⟨none, .asg 3 (.c (.bool false))⟩])
 (.seq (.reg [⟨none, .ld 11 1 true (.t 1)⟩,
 ⟨none, .call 12 f_impl_orderOf [((.t 11), false)]⟩,
 ⟨none, .asg 10 (.t 12)⟩,
 ⟨none, .ext 13 (.t 10) 0⟩,
 ⟨none, .ext 14 (.t 10) 1⟩,
 ⟨none, .asg 4 (.t 13)⟩,
 ⟨none, .asg 5 (.t 14)⟩])
 (.drop [11, 12, 10, 13, 14] (.seq (.cut c_impl_latticeOf_k1)
 (.drop [15, 16, 17, 18, 19, 20, 21] (.seq (.reg [⟨none, .mov 23 (.t 4)⟩,
 ⟨none, .call 24 f_impl_order_meetTable [((.t 23), false)]⟩,
 ⟨none, .asg 22 (.t 24)⟩,
 ⟨none, .ext 25 (.t 22) 0⟩,
 ⟨none, .ext 26 (.t 22) 1⟩,
 ⟨none, .asg 6 (.t 25)⟩,
 ⟨none, .asg 7 (.t 26)⟩])
 (.drop [23, 24, 22, 25, 26] (.seq (.reg [⟨none, .mov 28 (.t 4)⟩,
 ⟨none, .call 29 f_impl_order_dual [((.t 28), false)]⟩,
 ⟨none, .call 30 f_impl_order_meetTable [((.t 29), false)]⟩,
 ⟨none, .asg 27 (.t 30)⟩,
 ⟨none, .ext 31 (.t 27) 0⟩,
 ⟨none, .ext 32 (.t 27) 1⟩,
 ⟨none, .asg 8 (.t 31)⟩,
 ⟨none, .asg 9 (.t 32)⟩])
 (.drop [28, 29, 30, 27, 31, 32] (.seq (.reg [⟨none, .mov 33 (.t 4)⟩,
 ⟨none, .mov 34 (.t 6)⟩,
 ⟨none, .mov 35 (.t 8)⟩,
 ⟨none, .bld 36 [.nilsl 1, .nilsl 1, .nilsl 1] [(0, 1, (.t 33)), (1, 1, (.t 34)), (2, 1, (.t 35))]⟩,
 ⟨none, .box 37 (.t 36)⟩,
 ⟨none, .mov 38 (.t 7)⟩,
 ⟨none, .asg 39 (.t 38)⟩,
 ⟨some (39, true), .mov 40 (.t 9)⟩,
 ⟨none, .pick 41 (.t 39) (.t 40) (.c (.bool false))⟩,
 ⟨none, .asg 2 (.t 37)⟩,
 ⟨none, .asg 3 (.t 41)⟩])
 (.drop [33, 34, 35, 36, 37, 38, 39, 40, 41] .ret)))))))))))
abbrev r_impl_latticeOf : List RS := [.t 2, .t 3]
theorem k_impl_latticeOf : fitsF Try.prog f_impl_latticeOf 42 c_impl_latticeOf r_impl_latticeOf = true := by kernel_rfl

/- loop.example/g01078/spec.l23Dual: [p=0, p=1, out=3, x=4, below=5, y=6] -/
def c_spec_l23Dual_l1 : ACode :=
 (.seq (.seq (.reg [⟨none, .mov 17 (.t 6)⟩,
 ⟨none, .fadr 18 0 (.t 1)⟩,
 ⟨none, .ld 19 1 false (.t 18)⟩,
 ⟨none, .len 20 (.t 19)⟩,
 ⟨none, .bin 21 .lss (.t 17) (.t 20)⟩])
 (.drop [17, 18, 19, 20] (.cond (.t 21) .skip
 (.exit 2))))
 (.drop [17, 18, 19, 20, 21] (.seq (.block 3 (.seq (.reg [⟨none, .ld 24 1 true (.t 1)⟩,
 ⟨none, .mov 25 (.t 4)⟩,
 ⟨none, .mov 26 (.t 6)⟩,
 ⟨none, .call 27 f_spec_l23Leq [((.t 24), false), ((.t 25), false), ((.t 26), false)]⟩])
 (.drop [24, 25, 26] (.cond (.t 27) (.reg [⟨none, .mov 28 (.t 5)⟩,
 ⟨none, .mov 29 (.t 6)⟩,
 ⟨none, .bsl 30 1 [(.t 29)]⟩,
 ⟨none, .app 31 1 (.t 28) (.t 30)⟩,
 ⟨none, .asg 5 (.t 31)⟩])
 .skip))))
 (.drop [24, 25, 26, 27, 28, 29, 30, 31] (.reg [⟨none, .mov 22 (.t 6)⟩,
 ⟨none, .bin 23 .add (.t 22) (.c (.int .i64 1))⟩,
 ⟨none, .asg 6 (.t 23)⟩])))))
def c_spec_l23Dual_l2 : ACode :=
 (.seq (.seq (.reg [⟨none, .mov 9 (.t 4)⟩,
 ⟨none, .fadr 10 0 (.t 1)⟩,
 ⟨none, .ld 11 1 false (.t 10)⟩,
 ⟨none, .len 12 (.t 11)⟩,
 ⟨none, .bin 13 .lss (.t 9) (.t 12)⟩])
 (.drop [9, 10, 11, 12] (.cond (.t 13) .skip
 (.exit 0))))
 (.drop [9, 10, 11, 12, 13] (.seq (.block 1 (.seq (.reg [⟨none, .bsl 16 1 []⟩,
 ⟨none, .asg 5 (.t 16)⟩])
 (.drop [16] (.seq (.seq (.reg [⟨none, .asg 6 (.c (.int .i64 0))⟩])
 (.block 2 (.loop c_spec_l23Dual_l1)))
 (.drop [6, 17, 18, 19, 20, 21, 24, 25, 26, 27, 28, 29, 30, 31, 22, 23] (.reg [⟨none, .fadr 32 0 (.t 3)⟩,
 ⟨none, .ld 33 1 false (.t 32)⟩,
 ⟨none, .mov 34 (.t 5)⟩,
 ⟨none, .bsl 35 1 [(.t 34)]⟩,
 ⟨none, .app 36 1 (.t 33) (.t 35)⟩,
 ⟨none, .fadr 37 0 (.t 3)⟩,
 ⟨none, .st 1 (.t 37) (.t 36)⟩]))))))
 (.drop [16, 5, 6, 17, 18, 19, 20, 21, 24, 25, 26, 27, 28, 29, 30, 31, 22, 23, 32, 33, 34, 35, 36, 37] (.reg [⟨none, .mov 14 (.t 4)⟩,
 ⟨none, .bin 15 .add (.t 14) (.c (.int .i64 1))⟩,
 ⟨none, .asg 4 (.t 15)⟩])))))
def c_spec_l23Dual : ACode :=
 (.seq (.reg [⟨none, .box 1 (.t 0)⟩,
 ⟨none, .alc 2 (.agg [.nilsl 1])⟩])
 (.seq (.reg [⟨none, .bsl 7 1 []⟩,
 ⟨none, .bld 8 [.nilsl 1] [(0, 1, (.t 7))]⟩,
 ⟨none, .alc 3 (.agg [.nilsl 1])⟩,
 ⟨none, .st 1 (.t 3) (.t 8)⟩])
 (.drop [7, 8] (.seq (.seq (.reg [⟨none, .asg 4 (.c (.int .i64 0))⟩])
 (.block 0 (.loop c_spec_l23Dual_l2)))
 (.drop [4, 9, 10, 11, 12, 13, 16, 5, 6, 17, 18, 19, 20, 21, 24, 25, 26, 27, 28, 29, 30, 31, 22, 23, 32, 33, 34, 35, 36, 37, 14, 15] (.seq (.reg [⟨none, .ld 38 1 true (.t 3)⟩,
 ⟨none, .st 1 (.t 2) (.t 38)⟩])
 (.drop [38] .ret)))))))
abbrev r_spec_l23Dual : List RS := [.c 2 1 true]
theorem k_spec_l23Dual : fitsF Try.prog f_spec_l23Dual 39 c_spec_l23Dual r_spec_l23Dual = true := by kernel_rfl

/- loop.example/g01078/spec.l2Perm: [l=0, n=1, l=2, n=3, seen=5, i=6] -/
def c_spec_l2Perm_k1 : ACode :=
 (.seq (.reg [⟨none, .mov 7 (.t 0)⟩,
 ⟨none, .len 8 (.t 7)⟩,
 ⟨none, .mov 9 (.t 1)⟩,
 ⟨none, .bin 10 .neq (.t 8) (.t 9)⟩,
 ⟨none, .asg 11 (.t 10)⟩,
 ⟨some (11, false), .mov 12 (.t 1)⟩,
 ⟨some (11, false), .mov 13 (.t 0)⟩,
 ⟨some (11, false), .call 14 f_spec_l2Elements [((.t 12), false), ((.t 13), false)]⟩,
 ⟨some (11, false), .un 15 .not (.t 14)⟩,
 ⟨none, .pick 16 (.t 11) (.c (.bool true)) (.t 15)⟩])
 (.drop [7, 8, 9, 10, 11, 12, 13, 14, 15] (.cond (.t 16) (.seq (.reg [⟨none, .asg 4 (.c (.bool false))⟩])
 .ret)
 .skip)))
def c_spec_l2Perm_l1 : ACode :=
 (.seq (.seq (.reg [⟨none, .mov 19 (.t 6)⟩,
 ⟨none, .mov 20 (.t 1)⟩,
 ⟨none, .bin 21 .lss (.t 19) (.t 20)⟩])
 (.drop [19, 20] (.cond (.t 21) .skip
 (.exit 0))))
 (.drop [19, 20, 21] (.seq (.block 1 (.seq (.seq (.reg [⟨none, .mov 24 (.t 5)⟩,
 ⟨none, .mov 25 (.t 0)⟩,
 ⟨none, .mov 26 (.t 6)⟩,
 ⟨none, .iad 27 1 (.t 25) (.t 26)⟩,
 ⟨none, .ld 28 1 false (.t 27)⟩,
 ⟨none, .iad 29 1 (.t 24) (.t 28)⟩,
 ⟨none, .ld 30 1 false (.t 29)⟩])
 (.drop [24, 25, 26, 27, 28, 29] (.cond (.t 30) (.seq (.reg [⟨none, .asg 4 (.c (.bool false))⟩])
 .ret)
 .skip)))
 (.drop [24, 25, 26, 27, 28, 29, 30] (.reg [⟨none, .mov 31 (.t 5)⟩,
 ⟨none, .mov 32 (.t 0)⟩,
 ⟨none, .mov 33 (.t 6)⟩,
 ⟨none, .iad 34 1 (.t 32) (.t 33)⟩,
 ⟨none, .ld 35 1 false (.t 34)⟩,
 ⟨none, .iad 36 1 (.t 31) (.t 35)⟩,
 ⟨none, .st 1 (.t 36) (.c (.bool true))⟩]))))
 (.drop [24, 25, 26, 27, 28, 29, 30, 31, 32, 33, 34, 35, 36] (.reg [⟨none, .mov 22 (.t 6)⟩,
 ⟨none, .bin 23 .add (.t 22) (.c (.int .i64 1))⟩,
 ⟨none, .asg 6 (.t 23)⟩])))))
def c_spec_l2Perm : ACode :=
 (.seq (.reg [⟨none, .asg 4 (.c (.bool false))⟩])
 (.seq (.cut c_spec_l2Perm_k1)
 (.drop [7, 8, 9, 10, 11, 12, 13, 14, 15, 16] (.seq (.reg [⟨none, .mov 17 (.t 1)⟩,
 ⟨none, .mk 18 1 (.bool false) (.t 17)⟩,
 ⟨none, .asg 5 (.t 18)⟩])
 (.drop [17, 18] (.seq (.seq (.reg [⟨none, .asg 6 (.c (.int .i64 0))⟩])
 (.block 0 (.loop c_spec_l2Perm_l1)))
 (.drop [6, 19, 20, 21, 24, 25, 26, 27, 28, 29, 30, 31, 32, 33, 34, 35, 36, 22, 23] (.seq (.reg [⟨none, .asg 4 (.c (.bool true))⟩])
 .ret))))))))
abbrev r_spec_l2Perm : List RS := [.t 4]
theorem k_spec_l2Perm : fitsF Try.prog f_spec_l2Perm 37 c_spec_l2Perm r_spec_l2Perm = true := by kernel_rfl

/- loop.example/g01078/spec.l23Good: [p=0, p=1, n=3, x=4, x=5, i=6, y=7] -/
def c_spec_l23Good_l1 : ACode :=
 (.seq (.seq (.reg [⟨none, .mov 13 (.t 4)⟩,
 ⟨none, .mov 14 (.t 3)⟩,
 ⟨none, .bin 15 .lss (.t 13) (.t 14)⟩])
 (.drop [13, 14] (.cond (.t 15) .skip
 (.exit 0))))
 (.drop [13, 14, 15] (.seq (.block 1 (.seq (.reg [⟨none, .fadr 18 0 (.t 1)⟩,
 ⟨none, .ld 19 1 false (.t 18)⟩,
 ⟨none, .mov 20 (.t 4)⟩,
 ⟨none, .iad 21 1 (.t 19) (.t 20)⟩,
 ⟨none, .ld 22 1 false (.t 21)⟩,
 ⟨none, .mov 23 (.t 3)⟩,
 ⟨none, .bin 24 .sub (.t 23) (.c (.int .i64 1))⟩,
 ⟨none, .call 25 f_spec_l1Rising [((.t 22), false), ((.c (.int .i64 0)), false), ((.t 24), false)]⟩,
 ⟨none, .un 26 .not (.t 25)⟩,
 ⟨none, .asg 27 (.t 26)⟩,
 ⟨some (27, false), .fadr 28 0 (.t 1)⟩,
 ⟨some (27, false), .ld 29 1 false (.t 28)⟩,
 ⟨some (27, false), .mov 30 (.t 4)⟩,
 ⟨some (27, false), .iad 31 1 (.t 29) (.t 30)⟩,
 ⟨some (27, false), .ld 32 1 false (.t 31)⟩,
 ⟨some (27, false), .mov 33 (.t 4)⟩,
 ⟨some (27, false), .call 34 f_spec_l1Has [((.t 32), false), ((.t 33), false)]⟩,
 ⟨some (27, false), .un 35 .not (.t 34)⟩,
 ⟨none, .pick 36 (.t 27) (.c (.bool true)) (.t 35)⟩])
 (.drop [18, 19, 20, 21, 22, 23, 24, 25, 26, 27, 28, 29, 30, 31, 32, 33, 34, 35] (.cond (.t 36) (.seq (.reg [⟨none, .asg 2 (.c (.bool false))⟩])
 .ret)
 .skip))))
 (.drop [18, 19, 20, 21, 22, 23, 24, 25, 26, 27, 28, 29, 30, 31, 32, 33, 34, 35, 36] (.reg [⟨none, .mov 16 (.t 4)⟩,
 ⟨none, .bin 17 .add (.t 16) (.c (.int .i64 1))⟩,
 ⟨none, .asg 4 (.t 17)⟩])))))
def c_spec_l23Good_l2 : ACode :=
 (.seq (.seq (.reg [⟨none, .mov 42 (.t 6)⟩,
 ⟨none, .fadr 43 0 (.t 1)⟩,
 ⟨none, .ld 44 1 false (.t 43)⟩,
 ⟨none, .mov 45 (.t 5)⟩,
 ⟨none, .iad 46 1 (.t 44) (.t 45)⟩,
 ⟨none, .ld 47 1 false (.t 46)⟩,
 ⟨none, .len 48 (.t 47)⟩,
 ⟨none, .bin 49 .lss (.t 42) (.t 48)⟩])
 (.drop [42, 43, 44, 45, 46, 47, 48] (.cond (.t 49) .skip
 (.exit 4))))
 (.drop [42, 43, 44, 45, 46, 47, 48, 49] (.seq (.block 5 (.seq (.reg [⟨none, .fadr 52 0 (.t 1)⟩,
 ⟨none, .ld 53 1 false (.t 52)⟩,
 ⟨none, .mov 54 (.t 5)⟩,
 ⟨none, .iad 55 1 (.t 53) (.t 54)⟩,
 ⟨none, .ld 56 1 false (.t 55)⟩,
 ⟨none, .mov 57 (.t 6)⟩,
 ⟨none, .iad 58 1 (.t 56) (.t 57)⟩,
 ⟨none, .ld 59 1 false (.t 58)⟩,
 ⟨none, .asg 7 (.t 59)⟩])
 (.drop [52, 53, 54, 55, 56, 57, 58, 59] (.seq (.dreg [(⟨none, .mov 60 (.t 7)⟩, []),
 (⟨none, .mov 61 (.t 5)⟩, [60]),
 (⟨none, .bin 62 .neq (.t 60) (.t 61)⟩, []),
 (⟨none, .asg 63 (.t 62)⟩, []),
 (⟨some (63, true), .fadr 64 0 (.t 1)⟩, [62]),
 (⟨some (63, true), .ld 65 1 false (.t 64)⟩, [62]),
 (⟨some (63, true), .mov 66 (.t 7)⟩, [64, 65, 62]),
 (⟨some (63, true), .iad 67 1 (.t 65) (.t 66)⟩, [62]),
 (⟨some (63, true), .ld 68 1 false (.t 67)⟩, [62]),
 (⟨some (63, true), .mov 69 (.t 5)⟩, [64, 65, 66, 67, 68, 62]),
 (⟨some (63, true), .call 70 f_spec_l1Has [((.t 68), false), ((.t 69), false)]⟩, [62]),
 (⟨none, .pick 71 (.t 63) (.t 70) (.c (.bool false))⟩, [62]),
 (⟨none, .asg 72 (.t 71)⟩, [62]),
 (⟨some (72, false), .fadr 73 0 (.t 1)⟩, [62, 71]),
 (⟨some (72, false), .ld 74 1 false (.t 73)⟩, [62, 71]),
 (⟨some (72, false), .mov 75 (.t 7)⟩, [73, 74, 62, 71]),
 (⟨some (72, false), .iad 76 1 (.t 74) (.t 75)⟩, [62, 71]),
 (⟨some (72, false), .ld 77 1 false (.t 76)⟩, [62, 71]),
 (⟨some (72, false), .fadr 78 0 (.t 1)⟩, [73, 74, 75, 76, 77, 62, 71]),
 (⟨some (72, false), .ld 79 1 false (.t 78)⟩, [73, 74, 75, 76, 77, 62, 71]),
 (⟨some (72, false), .mov 80 (.t 5)⟩, [73, 74, 75, 76, 77, 78, 79, 62, 71]),
 (⟨some (72, false), .iad 81 1 (.t 79) (.t 80)⟩, [73, 74, 75, 76, 77, 62, 71]),
 (⟨some (72, false), .ld 82 1 false (.t 81)⟩, [73, 74, 75, 76, 77, 62, 71])]
 [⟨some (72, false), .call 83 f_spec_l5Within [((.t 77), false), ((.t 82), false)]⟩,
 ⟨some (72, false), .un 84 .not (.t 83)⟩,
 ⟨none, .pick 85 (.t 72) (.c (.bool true)) (.t 84)⟩])
 (.drop [60, 61, 62, 63, 64, 65, 66, 67, 68, 69, 70, 71, 72, 73, 74, 75, 76, 77, 78, 79, 80, 81, 82, 83, 84] (.cond (.t 85) (.seq (.reg [⟨none, .asg 2 (.c (.bool false))⟩])
 .ret)
 .skip))))))
 (.drop [52, 53, 54, 55, 56, 57, 58, 59, 7, 60, 61, 62, 63, 64, 65, 66, 67, 68, 69, 70, 71, 72, 73, 74, 75, 76, 77, 78, 79, 80, 81, 82, 83, 84, 85] (.reg [⟨none, .mov 50 (.t 6)⟩,
 ⟨none, .bin 51 .add (.t 50) (.c (.int .i64 1))⟩,
 ⟨none, .asg 6 (.t 51)⟩])))))
def c_spec_l23Good_l3 : ACode :=
 (.seq (.seq (.reg [⟨none, .mov 37 (.t 5)⟩,
 ⟨none, .mov 38 (.t 3)⟩,
 ⟨none, .bin 39 .lss (.t 37) (.t 38)⟩])
 (.drop [37, 38] (.cond (.t 39) .skip
 (.exit 2))))
 (.drop [37, 38, 39] (.seq (.block 3 (.seq (.reg [⟨none, .asg 6 (.c (.int .i64 0))⟩])
 (.block 4 (.loop c_spec_l23Good_l2))))
 (.drop [6, 42, 43, 44, 45, 46, 47, 48, 49, 52, 53, 54, 55, 56, 57, 58, 59, 7, 60, 61, 62, 63, 64, 65, 66, 67, 68, 69, 70, 71, 72, 73, 74, 75, 76, 77, 78, 79, 80, 81, 82, 83, 84, 85, 50, 51] (.reg [⟨none, .mov 40 (.t 5)⟩,
 ⟨none, .bin 41 .add (.t 40) (.c (.int .i64 1))⟩,
 ⟨none, .asg 5 (.t 41)⟩])))))
def c_spec_l23Good : ACode :=
 (.seq (.reg [⟨none, .box 1 (.t 0)⟩,
 ⟨none, .asg 2 (.c (.bool false))⟩])
 (.seq (.reg [⟨none, .fadr 8 0 (.t 1)⟩,
 ⟨none, .ld 9 1 false (.t 8)⟩,
 ⟨none, .len 10 (.t 9)⟩,
 ⟨none, .asg 3 (.t 10)⟩])
 (.drop [8, 9, 10] (.seq (.seq (.reg [⟨none, .mov 11 (.t 3)⟩,
 ⟨none, .bin 12 .gtr (.t 11) (.c (.int .i64 10))⟩])
 (.drop [11] (.cond (.t 12) (.seq (.reg [⟨none, .asg 2 (.c (.bool false))⟩])
 .ret)
 .skip)))
 (.drop [11, 12] (.seq (.seq (.reg [⟨none, .asg 4 (.c (.int .i64 0))⟩])
 (.block 0 (.loop c_spec_l23Good_l1)))
 (.drop [4, 13, 14, 15, 18, 19, 20, 21, 22, 23, 24, 25, 26, 27, 28, 29, 30, 31, 32, 33, 34, 35, 36, 16, 17] (.seq (.seq (.reg [⟨none, .asg 5 (.c (.int .i64 0))⟩])
 (.block 2 (.loop c_spec_l23Good_l3)))
 (.drop [5, 37, 38, 39, 6, 42, 43, 44, 45, 46, 47, 48, 49, 52, 53, 54, 55, 56, 57, 58, 59, 7, 60, 61, 62, 63, 64, 65, 66, 67, 68, 69, 70, 71, 72, 73, 74, 75, 76, 77, 78, 79, 80, 81, 82, 83, 84, 85, 50, 51, 40, 41] (.seq (.reg [⟨none, .asg 2 (.c (.bool true))⟩])
 .ret))))))))))
abbrev r_spec_l23Good : List RS := [.t 2]
theorem k_spec_l23Good : fitsF Try.prog f_spec_l23Good 86 c_spec_l23Good r_spec_l23Good = true := by kernel_rfl

/- loop.example/g01078/spec.l24Bound: [p=0, some=1, p=2, some=3, low=5, z=6, all=7, i=8, i=9] -/
def c_spec_l24Bound_l1 : ACode :=
 (.seq (.seq (.reg [⟨none, .mov 18 (.t 8)⟩,
 ⟨none, .mov 19 (.t 1)⟩,
 ⟨none, .len 20 (.t 19)⟩,
 ⟨none, .bin 21 .lss (.t 18) (.t 20)⟩])
 (.drop [18, 19, 20] (.cond (.t 21) .skip
 (.exit 2))))
 (.drop [18, 19, 20, 21] (.seq (.block 3 (.dreg [(⟨none, .mov 24 (.t 7)⟩, []),
 (⟨none, .asg 25 (.t 24)⟩, []),
 (⟨some (25, true), .ld 26 1 true (.t 2)⟩, [24]),
 (⟨some (25, true), .mov 27 (.t 6)⟩, [26, 24]),
 (⟨some (25, true), .mov 28 (.t 1)⟩, [26, 27, 24]),
 (⟨some (25, true), .mov 29 (.t 8)⟩, [26, 27, 28, 24]),
 (⟨some (25, true), .iad 30 1 (.t 28) (.t 29)⟩, [26, 27, 24]),
 (⟨some (25, true), .ld 31 1 false (.t 30)⟩, [26, 27, 24])]
 [⟨some (25, true), .call 32 f_spec_l23Leq [((.t 26), false), ((.t 27), false), ((.t 31), false)]⟩,
 ⟨none, .pick 33 (.t 25) (.t 32) (.c (.bool false))⟩,
 ⟨none, .asg 7 (.t 33)⟩]))
 (.drop [24, 25, 26, 27, 28, 29, 30, 31, 32, 33] (.reg [⟨none, .mov 22 (.t 8)⟩,
 ⟨none, .bin 23 .add (.t 22) (.c (.int .i64 1))⟩,
 ⟨none, .asg 8 (.t 23)⟩])))))
def c_spec_l24Bound_l2 : ACode :=
 (.seq (.seq (.reg [⟨none, .mov 11 (.t 6)⟩,
 ⟨none, .fadr 12 0 (.t 2)⟩,
 ⟨none, .ld 13 1 false (.t 12)⟩,
 ⟨none, .len 14 (.t 13)⟩,
 ⟨none, .bin 15 .lss (.t 11) (.t 14)⟩])
 (.drop [11, 12, 13, 14] (.cond (.t 15) .skip
 (.exit 0))))
 (.drop [11, 12, 13, 14, 15] (.seq (.block 1 (.seq (.reg [⟨none, .asg 7 (.c (.bool true))⟩])
 (.seq (.seq (.reg [⟨none, .asg 8 (.c (.int .i64 0))⟩])
 (.block 2 (.loop c_spec_l24Bound_l1)))
 (.drop [8, 18, 19, 20, 21, 24, 25, 26, 27, 28, 29, 30, 31, 32, 33, 22, 23] (.seq (.reg [⟨none, .mov 34 (.t 7)⟩])
 (.cond (.t 34) (.reg [⟨none, .mov 35 (.t 5)⟩,
 ⟨none, .mov 36 (.t 6)⟩,
 ⟨none, .bsl 37 1 [(.t 36)]⟩,
 ⟨none, .app 38 1 (.t 35) (.t 37)⟩,
 ⟨none, .asg 5 (.t 38)⟩])
 .skip))))))
 (.drop [7, 8, 18, 19, 20, 21, 24, 25, 26, 27, 28, 29, 30, 31, 32, 33, 22, 23, 34, 35, 36, 37, 38] (.reg [⟨none, .mov 16 (.t 6)⟩,
 ⟨none, .bin 17 .add (.t 16) (.c (.int .i64 1))⟩,
 ⟨none, .asg 6 (.t 17)⟩])))))
def c_spec_l24Bound_l3 : ACode :=
 (.seq (.seq (.reg [⟨none, .mov 39 (.t 9)⟩,
 ⟨none, .mov 40 (.t 5)⟩,
 ⟨none, .len 41 (.t 40)⟩,
 ⟨none, .bin 42 .lss (.t 39) (.t 41)⟩])
 (.drop [39, 40, 41] (.cond (.t 42) .skip
 (.exit 4))))
 (.drop [39, 40, 41, 42] (.seq (.block 5 (.seq (.dreg [(⟨none, .mov 45 (.t 5)⟩, []),
 (⟨none, .fadr 46 0 (.t 2)⟩, [45]),
 (⟨none, .ld 47 1 false (.t 46)⟩, [45]),
 (⟨none, .mov 48 (.t 5)⟩, [45, 46, 47]),
 (⟨none, .mov 49 (.t 9)⟩, [45, 46, 47, 48]),
 (⟨none, .iad 50 1 (.t 48) (.t 49)⟩, [45, 46, 47]),
 (⟨none, .ld 51 1 false (.t 50)⟩, [45, 46, 47]),
 (⟨none, .iad 52 1 (.t 47) (.t 51)⟩, [45]),
 (⟨none, .ld 53 1 false (.t 52)⟩, [45])]
 [⟨none, .call 54 f_spec_l5Within [((.t 45), false), ((.t 53), false)]⟩])
 (.drop [45, 46, 47, 48, 49, 50, 51, 52, 53] (.cond (.t 54) (.seq (.reg [⟨none, .mov 55 (.t 5)⟩,
 ⟨none, .mov 56 (.t 9)⟩,
 ⟨none, .iad 57 1 (.t 55) (.t 56)⟩,
 ⟨none, .ld 58 1 false (.t 57)⟩,
 ⟨none, .asg 4 (.t 58)⟩])
 (.drop [55, 56, 57, 58] .ret))
 .skip))))
 (.drop [45, 46, 47, 48, 49, 50, 51, 52, 53, 54, 55, 56, 57, 58] (.reg [⟨none, .mov 43 (.t 9)⟩,
 ⟨none, .bin 44 .add (.t 43) (.c (.int .i64 1))⟩,
 ⟨none, .asg 9 (.t 44)⟩])))))
def c_spec_l24Bound : ACode :=
 (.seq (.reg [⟨none, .box 2 (.t 0)⟩,
 ⟨none, .asg 4 (.c (.int .i64 0))⟩])
 (.seq (.reg [⟨none, .bsl 10 1 []⟩,
 ⟨none, .asg 5 (.t 10)⟩])
 (.drop [10] (.seq (.seq (.reg [⟨none, .asg 6 (.c (.int .i64 0))⟩])
 (.block 0 (.loop c_spec_l24Bound_l2)))
 (.drop [6, 11, 12, 13, 14, 15, 7, 8, 18, 19, 20, 21, 24, 25, 26, 27, 28, 29, 30, 31, 32, 33, 22, 23, 34, 35, 36, 37, 38, 16, 17] (.seq (.seq (.reg [⟨none, .asg 9 (.c (.int .i64 0))⟩])
 (.block 4 (.loop c_spec_l24Bound_l3)))
 (.drop [9, 39, 40, 41, 42, 45, 46, 47, 48, 49, 50, 51, 52, 53, 54, 55, 56, 57, 58, 43, 44] (.seq (.reg [⟨none, .asg 4 (.c (.int .i64 (-1)))⟩])
 .ret))))))))
abbrev r_spec_l24Bound : List RS := [.t 4]
theorem k_spec_l24Bound : fitsF Try.prog f_spec_l24Bound 59 c_spec_l24Bound r_spec_l24Bound = true := by kernel_rfl

/- (loop.example/g01078/impl.order).upperCovers$1: [y=0, y=3] -/
def c_impl_order_upperCovers_1 : ACode :=
 (.seq (.reg [⟨none, .asg 4 (.c (.bool false))⟩])
 (.seq (.reg [⟨none, .ld 5 1 false (.t 1)⟩,
 ⟨none, .ld 6 1 false (.t 2)⟩,
 ⟨none, .mov 7 (.t 0)⟩,
 ⟨none, .call 8 f_impl_order_covers [((.t 5), false), ((.t 6), false), ((.t 7), false)]⟩,
 ⟨none, .asg 4 (.t 8)⟩])
 (.drop [5, 6, 7, 8] .ret)))
abbrev r_impl_order_upperCovers_1 : List RS := [.t 4]
theorem k_impl_order_upperCovers_1 : fitsF Try.prog f_impl_order_upperCovers_1 9 c_impl_order_upperCovers_1 r_impl_order_upperCovers_1 = true := by kernel_rfl

/- loop.example/g01078/spec.l23Less: [p=0, x=1, y=2, p=3, x=4, y=5] -/
def c_spec_l23Less : ACode :=
 (.seq (.reg [⟨none, .box 3 (.t 0)⟩,
 ⟨none, .asg 6 (.c (.bool false))⟩])
 (.seq (.reg [⟨none, .mov 7 (.t 1)⟩,
 ⟨none, .mov 8 (.t 2)⟩,
 ⟨none, .bin 9 .neq (.t 7) (.t 8)⟩,
 ⟨none, .asg 10 (.t 9)⟩,
 ⟨some (10, true), .ld 11 1 true (.t 3)⟩,
 ⟨some (10, true), .mov 12 (.t 1)⟩,
 ⟨some (10, true), .mov 13 (.t 2)⟩,
 ⟨some (10, true), .call 14 f_spec_l23Leq [((.t 11), false), ((.t 12), false), ((.t 13), false)]⟩,
 ⟨none, .pick 15 (.t 10) (.t 14) (.c (.bool false))⟩,
 ⟨none, .asg 6 (.t 15)⟩])
 (.drop [7, 8, 9, 10, 11, 12, 13, 14, 15] .ret)))
abbrev r_spec_l23Less : List RS := [.t 6]
theorem k_spec_l23Less : fitsF Try.prog f_spec_l23Less 16 c_spec_l23Less r_spec_l23Less = true := by kernel_rfl

/- (loop.example/g01078/impl.order).lowerCovers$1: [y=0, y=3] -/
def c_impl_order_lowerCovers_1 : ACode :=
 (.seq (.reg [⟨none, .asg 4 (.c (.bool false))⟩])
 (.seq (.reg [⟨none, .ld 5 1 false (.t 1)⟩,
 ⟨none, .mov 6 (.t 0)⟩,
 ⟨none, .ld 7 1 false (.t 2)⟩,
 ⟨none, .call 8 f_impl_order_covers [((.t 5), false), ((.t 6), false), ((.t 7), false)]⟩,
 ⟨none, .asg 4 (.t 8)⟩])
 (.drop [5, 6, 7, 8] .ret)))
abbrev r_impl_order_lowerCovers_1 : List RS := [.t 4]
theorem k_impl_order_lowerCovers_1 : fitsF Try.prog f_impl_order_lowerCovers_1 9 c_impl_order_lowerCovers_1 r_impl_order_lowerCovers_1 = true := by kernel_rfl

/- loop.example/g01078/impl.IsLattice: [p=0, p=1, _=3, ok=4] -/
def c_impl_IsLattice : ACode :=
 (.seq (.reg [⟨none, .box 1 (.t 0)⟩,
 ⟨none, .asg 2 (.c (.bool false))⟩])
 (.seq (.reg [⟨none, .ld 6 1 true (.t 1)⟩,
 ⟨none, .call 7 f_impl_latticeOf [((.t 6), false)]⟩,
 ⟨none, .asg 5 (.t 7)⟩,
 ⟨none, .ext 8 (.t 5) 0⟩,
 ⟨none, .ext 9 (.t 5) 1⟩,
 ⟨none, .asg 3 (.t 8)⟩,
 ⟨none, .asg 4 (.t 9)⟩])
 (.drop [6, 7, 5, 8, 9, 3] (.seq (.reg [⟨none, .mov 10 (.t 4)⟩,
 ⟨none, .asg 2 (.t 10)⟩])
 (.drop [10] .ret)))))
abbrev r_impl_IsLattice : List RS := [.t 2]
theorem k_impl_IsLattice : fitsF Try.prog f_impl_IsLattice 11 c_impl_IsLattice r_impl_IsLattice = true := by kernel_rfl

/- loop.example/g01078/impl.EndsOf: [p=0, p=1, l=5, ok=6] -/
def c_impl_EndsOf : ACode :=
 (.seq (.reg [⟨none, .box 1 (.t 0)⟩,
 ⟨none, .asg 2 (.c (.int .i64 0))⟩,
 ⟨none, .asg 3 (.c (.int .i64 0))⟩,
 ⟨none, .asg 4 (.c (.bool false))⟩])
 (.seq (.reg [⟨none, .ld 8 1 true (.t 1)⟩,
 ⟨none, .call 9 f_impl_latticeOf [((.t 8), false)]⟩,
 ⟨none, .asg 7 (.t 9)⟩,
 ⟨none, .ext 10 (.t 7) 0⟩,
 ⟨none, .ext 11 (.t 7) 1⟩,
 ⟨none, .asg 5 (.t 10)⟩,
 ⟨none, .asg 6 (.t 11)⟩])
 (.drop [8, 9, 7, 10, 11] (.seq (.seq (.reg [⟨none, .mov 12 (.t 6)⟩,
 ⟨none, .un 13 .not (.t 12)⟩])
 (.drop [12] (.cond (.t 13) (.seq (.reg [⟨none, .asg 2 (.c (.int .i64 0))⟩,
 ⟨none, .asg 3 (.c (.int .i64 0))⟩,
 ⟨none, .asg 4 (.c (.bool false))⟩])
 .ret)
 .skip)))
 (.drop [12, 13] (.seq (.reg [⟨none, .mov 14 (.t 5)⟩,
 ⟨none, .call 15 f_impl_lattice_bottom [((.t 14), false)]⟩,
 ⟨none, .mov 16 (.t 5)⟩,
 ⟨none, .call 17 f_impl_lattice_top [((.t 16), false)]⟩,
 ⟨none, .asg 2 (.t 15)⟩,
 ⟨none, .asg 3 (.t 17)⟩,
 ⟨none, .asg 4 (.c (.bool true))⟩])
 (.drop [14, 15, 16, 17] .ret)))))))
abbrev r_impl_EndsOf : List RS := [.t 2, .t 3, .t 4]
theorem k_impl_EndsOf : fitsF Try.prog f_impl_EndsOf 18 c_impl_EndsOf r_impl_EndsOf = true := by kernel_rfl

/- loop.example/g01078/impl.twoLattices: [p=0, q=1, p=2, q=3, l=7, one=8, m=9, two=10] -/
def c_impl_twoLattices : ACode :=
 (.seq (.reg [⟨none, .box 2 (.t 0)⟩,
 ⟨none, .box 3 (.t 1)⟩,
 ⟨none, .asg 4 (.c (.nilp))⟩,
 ⟨none, .asg 5 (.c (.nilp))⟩,
 ⟨none, .asg 6 (.c (.bool false))⟩])
 (.seq (.reg [⟨none, .ld 12 1 true (.t 2)⟩,
 ⟨none, .call 13 f_impl_latticeOf [((.t 12), false)]⟩,
 ⟨none, .asg 11 (.t 13)⟩,
 ⟨none, .ext 14 (.t 11) 0⟩,
 ⟨none, .ext 15 (.t 11) 1⟩,
 ⟨none, .asg 7 (.t 14)⟩,
 ⟨none, .asg 8 (.t 15)⟩])
 (.drop [12, 13, 11, 14, 15] (.seq (.reg [⟨none, .ld 17 1 true (.t 3)⟩,
 ⟨none, .call 18 f_impl_latticeOf [((.t 17), false)]⟩,
 ⟨none, .asg 16 (.t 18)⟩,
 ⟨none, .ext 19 (.t 16) 0⟩,
 ⟨none, .ext 20 (.t 16) 1⟩,
 ⟨none, .asg 9 (.t 19)⟩,
 ⟨none, .asg 10 (.t 20)⟩])
 (.drop [17, 18, 16, 19, 20] (.seq (.reg [⟨none, .mov 21 (.t 7)⟩,
 ⟨none, .mov 22 (.t 9)⟩,
 ⟨none, .mov 23 (.t 8)⟩,
 ⟨none, .asg 24 (.t 23)⟩,
 ⟨some (24, true), .mov 25 (.t 10)⟩,
 ⟨none, .pick 26 (.t 24) (.t 25) (.c (.bool false))⟩,
 ⟨none, .asg 4 (.t 21)⟩,
 ⟨none, .asg 5 (.t 22)⟩,
 ⟨none, .asg 6 (.t 26)⟩])
 (.drop [21, 22, 23, 24, 25, 26] .ret)))))))
abbrev r_impl_twoLattices : List RS := [.t 4, .t 5, .t 6]
theorem k_impl_twoLattices : fitsF Try.prog f_impl_twoLattices 27 c_impl_twoLattices r_impl_twoLattices = true := by kernel_rfl

/- loop.example/g01078/spec.l24Good: [p=0, p=1, dual=3, x=4, y=5] -/
def c_spec_l24Good_k1 : ACode :=
 (.seq (.reg [⟨none, .ld 6 1 true (.t 1)⟩,
 ⟨none, .call 7 f_spec_l23Good [((.t 6), false)]⟩,
 ⟨none, .un 8 .not (.t 7)⟩,
 ⟨none, .asg 9 (.t 8)⟩,
 ⟨some (9, false), .fadr 10 0 (.t 1)⟩,
 ⟨some (9, false), .ld 11 1 false (.t 10)⟩,
 ⟨some (9, false), .len 12 (.t 11)⟩,
 ⟨some (9, false), .bin 13 .eql (.t 12) (.c (.int .i64 0))⟩,
 ⟨none, .pick 14 (.t 9) (.c (.bool true)) (.t 13)⟩])
 (.drop [6, 7, 8, 9, 10, 11, 12, 13] (.cond (.t 14) (.seq (.reg [⟨none, .asg 2 (.c (.bool false))⟩])
 .ret)
 .skip)))
def c_spec_l24Good_l1 : ACode :=
 (.seq (.seq (.reg [⟨none, .mov 24 (.t 5)⟩,
 ⟨none, .mov 25 (.t 4)⟩,
 ⟨none, .bin 26 .lss (.t 24) (.t 25)⟩])
 (.drop [24, 25] (.cond (.t 26) .skip
 (.exit 2))))
 (.drop [24, 25, 26] (.seq (.block 3 (.seq (.reg [⟨none, .ld 29 1 true (.t 1)⟩,
 ⟨none, .mov 30 (.t 4)⟩,
 ⟨none, .mov 31 (.t 5)⟩,
 ⟨none, .bsl 32 1 [(.t 30), (.t 31)]⟩,
 ⟨none, .call 33 f_spec_l24Bound [((.t 29), false), ((.t 32), false)]⟩,
 ⟨none, .bin 34 .lss (.t 33) (.c (.int .i64 0))⟩,
 ⟨none, .asg 35 (.t 34)⟩,
 ⟨some (35, false), .ld 36 1 true (.t 3)⟩,
 ⟨some (35, false), .mov 37 (.t 4)⟩,
 ⟨some (35, false), .mov 38 (.t 5)⟩,
 ⟨some (35, false), .bsl 39 1 [(.t 37), (.t 38)]⟩,
 ⟨some (35, false), .call 40 f_spec_l24Bound [((.t 36), false), ((.t 39), false)]⟩,
 ⟨some (35, false), .bin 41 .lss (.t 40) (.c (.int .i64 0))⟩,
 ⟨none, .pick 42 (.t 35) (.c (.bool true)) (.t 41)⟩])
 (.drop [29, 30, 31, 32, 33, 34, 35, 36, 37, 38, 39, 40, 41] (.cond (.t 42) (.seq (.reg [⟨none, .asg 2 (.c (.bool false))⟩])
 .ret)
 .skip))))
 (.drop [29, 30, 31, 32, 33, 34, 35, 36, 37, 38, 39, 40, 41, 42] (.reg [⟨none, .mov 27 (.t 5)⟩,
 ⟨none, .bin 28 .add (.t 27) (.c (.int .i64 1))⟩,
 ⟨none, .asg 5 (.t 28)⟩])))))
def c_spec_l24Good_l2 : ACode :=
 (.seq (.seq (.reg [⟨none, .mov 17 (.t 4)⟩,
 ⟨none, .fadr 18 0 (.t 1)⟩,
 ⟨none, .ld 19 1 false (.t 18)⟩,
 ⟨none, .len 20 (.t 19)⟩,
 ⟨none, .bin 21 .lss (.t 17) (.t 20)⟩])
 (.drop [17, 18, 19, 20] (.cond (.t 21) .skip
 (.exit 0))))
 (.drop [17, 18, 19, 20, 21] (.seq (.block 1 (.seq (.reg [⟨none, .asg 5 (.c (.int .i64 0))⟩])
 (.block 2 (.loop c_spec_l24Good_l1))))
 (.drop [5, 24, 25, 26, 29, 30, 31, 32, 33, 34, 35, 36, 37, 38, 39, 40, 41, 42, 27, 28] (.reg [⟨none, .mov 22 (.t 4)⟩,
 ⟨none, .bin 23 .add (.t 22) (.c (.int .i64 1))⟩,
 ⟨none, .asg 4 (.t 23)⟩])))))
def c_spec_l24Good : ACode :=
 (.seq (.reg [⟨none, .box 1 (.t 0)⟩,
 ⟨none, .asg 2 (.c (.bool false))⟩])
 (.seq (.cut c_spec_l24Good_k1)
 (.drop [6, 7, 8, 9, 10, 11, 12, 13, 14] (.seq (.reg [⟨none, .ld 15 1 true (.t 1)⟩,
 ⟨none, .call 16 f_spec_l23Dual [((.t 15), false)]⟩,
 ⟨none, .alc 3 (.agg [.nilsl 1])⟩,
 ⟨none, .st 1 (.t 3) (.t 16)⟩])
 (.drop [15, 16] (.seq (.seq (.reg [⟨none, .asg 4 (.c (.int .i64 0))⟩])
 (.block 0 (.loop c_spec_l24Good_l2)))
 (.drop [4, 17, 18, 19, 20, 21, 5, 24, 25, 26, 29, 30, 31, 32, 33, 34, 35, 36, 37, 38, 39, 40, 41, 42, 27, 28, 22, 23] (.seq (.reg [⟨none, .asg 2 (.c (.bool true))⟩])
 .ret))))))))
abbrev r_spec_l24Good : List RS := [.t 2]
theorem k_spec_l24Good : fitsF Try.prog f_spec_l24Good 43 c_spec_l24Good r_spec_l24Good = true := by kernel_rfl

/- loop.example/g01078/impl.listOf: [p=0, list=1, p=2, list=3, l=6, ok=7] -/
def c_impl_listOf : ACode :=
 (.seq (.reg [⟨none, .box 2 (.t 0)⟩,
 ⟨none, .asg 4 (.c (.nilsl 1))⟩,
 ⟨none, .asg 5 (.c (.bool false))⟩])
 (.seq (.reg [⟨none, .ld 9 1 true (.t 2)⟩,
 ⟨none, .call 10 f_impl_latticeOf [((.t 9), false)]⟩,
 ⟨none, .asg 8 (.t 10)⟩,
 ⟨none, .ext 11 (.t 8) 0⟩,
 ⟨none, .ext 12 (.t 8) 1⟩,
 ⟨none, .asg 6 (.t 11)⟩,
 ⟨none, .asg 7 (.t 12)⟩])
 (.drop [9, 10, 8, 11, 12] (.seq (.seq (.reg [⟨none, .mov 13 (.t 7)⟩,
 ⟨none, .un 14 .not (.t 13)⟩])
 (.drop [13] (.cond (.t 14) (.seq (.reg [⟨none, .bsl 15 1 []⟩,
 ⟨none, .asg 4 (.t 15)⟩,
 ⟨none, .asg 5 (.c (.bool false))⟩])
 (.drop [15] .ret))
 .skip)))
 (.drop [13, 14, 15] (.seq (.reg [⟨none, .mov 16 (.t 1)⟩,
 ⟨none, .mov 17 (.t 6)⟩,
 ⟨none, .cally 18 (.t 16) [(.t 17)]⟩,
 ⟨none, .asg 4 (.t 18)⟩,
 ⟨none, .asg 5 (.c (.bool true))⟩])
 (.drop [16, 17, 18] .ret)))))))
abbrev r_impl_listOf : List RS := [.t 4, .t 5]
theorem k_impl_listOf : fitsF Try.prog f_impl_listOf 19 c_impl_listOf r_impl_listOf = true := by kernel_rfl

/- (loop.example/g01078/impl.order).upperCovers: [o=0, x=1, o=2, x=3] -/
def c_impl_order_upperCovers : ACode :=
 (.seq (.reg [⟨none, .box 2 (.t 0)⟩,
 ⟨none, .box 3 (.t 1)⟩,
 ⟨none, .asg 4 (.c (.nilsl 1))⟩])
 (.seq (.reg [⟨none, .ld 5 1 false (.t 2)⟩,
 ⟨none, .mkf 6 f_impl_order_upperCovers_1 [(.t 2), (.t 3)]⟩,
 ⟨none, .call 7 f_impl_order_those [((.t 5), false), ((.t 6), false)]⟩,
 ⟨none, .asg 4 (.t 7)⟩])
 (.drop [5, 6, 7] .ret)))
abbrev r_impl_order_upperCovers : List RS := [.t 4]
theorem k_impl_order_upperCovers : fitsF Try.prog f_impl_order_upperCovers 8 c_impl_order_upperCovers r_impl_order_upperCovers = true := by kernel_rfl

end Go.Proofs.Ytoikbcagaanhgaa.Ax
