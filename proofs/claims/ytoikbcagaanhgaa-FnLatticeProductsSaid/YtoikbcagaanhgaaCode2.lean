/-
  The small code of the functions, written by program; that the program's code is this one, the kernel looks at.
-/
import Derived.Test.YtoikbcagaanhgaaAx3
import Derived.Test.YtoikbcagaanhgaaProg
import Derived.KernelRfl
import Derived.Test.YtoikbcagaanhgaaNum
namespace Go.Proofs.Ytoikbcagaanhgaa.Ax
open Go
set_option maxRecDepth 100000

/- (*loop.example/g01078/spec.l1Cur).names2: [c=0, n=1, c=2, n=3, out=5, i=6, k=7] -/
def c_spec_l1Cur_names2_l1 : ACode :=
 (.seq (.seq (.reg [⟨none, .mov 9 (.t 6)⟩,
 ⟨none, .mov 10 (.t 1)⟩,
 ⟨none, .bin 11 .lss (.t 9) (.t 10)⟩])
 (.drop [9, 10] (.cond (.t 11) .skip
 (.exit 0))))
 (.drop [9, 10, 11] (.seq (.block 1 (.seq (.reg [⟨none, .mov 14 (.t 0)⟩,
 ⟨none, .mov 15 (.t 5)⟩,
 ⟨none, .len 16 (.t 15)⟩,
 ⟨none, .bin 17 .add (.t 16) (.c (.int .i64 1))⟩,
 ⟨none, .call 18 f_spec_l1Cur_pick [((.t 14), true), ((.t 17), false)]⟩,
 ⟨none, .asg 7 (.t 18)⟩])
 (.drop [14, 15, 16, 17, 18] (.frz [5] (.dreg [(⟨none, .bsl 19 1 []⟩, [24]),
 (⟨none, .mov 20 (.t 5)⟩, [19, 24]),
 (⟨none, .mov 21 (.t 7)⟩, [19, 20, 24]),
 (⟨none, .slc 22 1 (.t 20) none (some (.t 21))⟩, [19, 24]),
 (⟨none, .app 23 1 (.t 19) (.t 22)⟩, [24]),
 (⟨none, .mov 24 (.t 6)⟩, [19, 20, 21, 22, 23, 19]),
 (⟨none, .bsl 25 1 [(.t 24)]⟩, [19, 20, 21, 22, 23, 19]),
 (⟨none, .app 26 1 (.t 23) (.t 25)⟩, [19, 24]),
 (⟨none, .mov 27 (.t 5)⟩, [19, 20, 21, 22, 23, 24, 25, 26, 19, 24, 23]),
 (⟨none, .mov 28 (.t 7)⟩, [19, 20, 21, 22, 23, 24, 25, 26, 27, 19, 24, 23]),
 (⟨none, .slc 29 1 (.t 27) (some (.t 28)) none⟩, [19, 20, 21, 22, 23, 24, 25, 26, 19, 24, 23])]
 [⟨none, .app 30 1 (.t 26) (.t 29)⟩,
 ⟨none, .asg 5 (.t 30)⟩])))))
 (.drop [14, 15, 16, 17, 18, 7, 19, 20, 21, 22, 23, 24, 25, 26, 27, 28, 29, 30] (.reg [⟨none, .mov 12 (.t 6)⟩,
 ⟨none, .bin 13 .add (.t 12) (.c (.int .i64 1))⟩,
 ⟨none, .asg 6 (.t 13)⟩])))))
def c_spec_l1Cur_names2 : ACode :=
 (.seq (.reg [⟨none, .asg 4 (.c (.nilsl 1))⟩])
 (.seq (.reg [⟨none, .bsl 8 1 []⟩,
 ⟨none, .asg 5 (.t 8)⟩])
 (.drop [8] (.seq (.seq (.reg [⟨none, .asg 6 (.c (.int .i64 0))⟩])
 (.block 0 (.loop c_spec_l1Cur_names2_l1)))
 (.drop [6, 9, 10, 11, 14, 15, 16, 17, 18, 7, 19, 20, 21, 22, 23, 24, 25, 26, 27, 28, 29, 30, 12, 13] (.seq (.seq (.reg [⟨none, .mov 31 (.t 0)⟩,
 ⟨none, .call 32 f_spec_l1Cur_pick [((.t 31), true), ((.c (.int .i64 24)), false)]⟩])
 (.drop [31] (.block 2 (.seq (.reg [⟨none, .bin 34 .eql (.t 32) (.c (.int .i64 0))⟩,
 ⟨none, .asg 33 (.t 34)⟩])
 (.drop [34] (.cond (.t 33) (.reg [⟨none, .mov 35 (.t 5)⟩,
 ⟨none, .mov 36 (.t 1)⟩,
 ⟨none, .bsl 37 1 [(.t 36)]⟩,
 ⟨none, .app 38 1 (.t 35) (.t 37)⟩,
 ⟨none, .asg 5 (.t 38)⟩])
 (.seq (.reg [⟨none, .bin 40 .eql (.t 32) (.c (.int .i64 1))⟩,
 ⟨none, .asg 39 (.t 40)⟩])
 (.drop [40] (.cond (.t 39) (.seq (.reg [⟨none, .mov 41 (.t 1)⟩,
 ⟨none, .bin 42 .gtr (.t 41) (.c (.int .i64 0))⟩])
 (.drop [41] (.cond (.t 42) (.reg [⟨none, .mov 43 (.t 5)⟩,
 ⟨none, .mov 44 (.t 0)⟩,
 ⟨none, .mov 45 (.t 1)⟩,
 ⟨none, .call 46 f_spec_l1Cur_pick [((.t 44), true), ((.t 45), false)]⟩,
 ⟨none, .mov 47 (.t 0)⟩,
 ⟨none, .mov 48 (.t 1)⟩,
 ⟨none, .bsl 49 1 [(.c (.int .i64 0)), (.c (.int .i64 (-1))), (.t 48)]⟩,
 ⟨none, .call 50 f_spec_l1Cur_among [((.t 47), true), ((.t 49), false)]⟩,
 ⟨none, .iad 51 1 (.t 43) (.t 46)⟩,
 ⟨none, .st 1 (.t 51) (.t 50)⟩])
 .skip)))
 .skip)))))))))
 (.drop [31, 32, 34, 33, 35, 36, 37, 38, 40, 39, 41, 42, 43, 44, 45, 46, 47, 48, 49, 50, 51] (.seq (.reg [⟨none, .mov 52 (.t 5)⟩,
 ⟨none, .asg 4 (.t 52)⟩])
 (.drop [52] .ret)))))))))
abbrev r_spec_l1Cur_names2 : List RS := [.t 4]
theorem k_spec_l1Cur_names2 : fitsF Try.prog f_spec_l1Cur_names2 53 c_spec_l1Cur_names2 r_spec_l1Cur_names2 = true := by kernel_rfl

/- loop.example/g01078/spec.l24Bottom: [p=0, p=1] -/
def c_spec_l24Bottom : ACode :=
 (.seq (.reg [⟨none, .box 1 (.t 0)⟩,
 ⟨none, .asg 2 (.c (.int .i64 0))⟩])
 (.seq (.reg [⟨none, .ld 3 1 true (.t 1)⟩,
 ⟨none, .call 4 f_spec_l23Dual [((.t 3), false)]⟩,
 ⟨none, .bsl 5 1 []⟩,
 ⟨none, .call 6 f_spec_l24Bound [((.t 4), false), ((.t 5), false)]⟩,
 ⟨none, .asg 2 (.t 6)⟩])
 (.drop [3, 4, 5, 6] .ret)))
abbrev r_spec_l24Bottom : List RS := [.t 2]
theorem k_spec_l24Bottom : fitsF Try.prog f_spec_l24Bottom 7 c_spec_l24Bottom r_spec_l24Bottom = true := by kernel_rfl

/- loop.example/g01078/spec.l23Covers: [p=0, x=1, y=2, p=3, x=4, y=5, z=7] -/
def c_spec_l23Covers_l1 : ACode :=
 (.seq (.seq (.reg [⟨none, .mov 13 (.t 7)⟩,
 ⟨none, .fadr 14 0 (.t 3)⟩,
 ⟨none, .ld 15 1 false (.t 14)⟩,
 ⟨none, .len 16 (.t 15)⟩,
 ⟨none, .bin 17 .lss (.t 13) (.t 16)⟩])
 (.drop [13, 14, 15, 16] (.cond (.t 17) .skip
 (.exit 0))))
 (.drop [13, 14, 15, 16, 17] (.seq (.block 1 (.seq (.reg [⟨none, .ld 20 1 true (.t 3)⟩,
 ⟨none, .mov 21 (.t 1)⟩,
 ⟨none, .mov 22 (.t 7)⟩,
 ⟨none, .call 23 f_spec_l23Less [((.t 20), false), ((.t 21), false), ((.t 22), false)]⟩,
 ⟨none, .asg 24 (.t 23)⟩,
 ⟨some (24, true), .ld 25 1 true (.t 3)⟩,
 ⟨some (24, true), .mov 26 (.t 7)⟩,
 ⟨some (24, true), .mov 27 (.t 2)⟩,
 ⟨some (24, true), .call 28 f_spec_l23Less [((.t 25), false), ((.t 26), false), ((.t 27), false)]⟩,
 ⟨none, .pick 29 (.t 24) (.t 28) (.c (.bool false))⟩])
 (.drop [20, 21, 22, 23, 24, 25, 26, 27, 28] (.cond (.t 29) (.seq (.reg [⟨none, .asg 6 (.c (.bool false))⟩])
 .ret)
 .skip))))
 (.drop [20, 21, 22, 23, 24, 25, 26, 27, 28, 29] (.reg [⟨none, .mov 18 (.t 7)⟩,
 ⟨none, .bin 19 .add (.t 18) (.c (.int .i64 1))⟩,
 ⟨none, .asg 7 (.t 19)⟩])))))
def c_spec_l23Covers : ACode :=
 (.seq (.reg [⟨none, .box 3 (.t 0)⟩,
 ⟨none, .asg 6 (.c (.bool false))⟩])
 (.seq (.seq (.reg [⟨none, .ld 8 1 true (.t 3)⟩,
 ⟨none, .mov 9 (.t 1)⟩,
 ⟨none, .mov 10 (.t 2)⟩,
 ⟨none, .call 11 f_spec_l23Less [((.t 8), false), ((.t 9), false), ((.t 10), false)]⟩,
 ⟨none, .un 12 .not (.t 11)⟩])
 (.drop [8, 9, 10, 11] (.cond (.t 12) (.seq (.reg [⟨none, .asg 6 (.c (.bool false))⟩])
 .ret)
 .skip)))
 (.drop [8, 9, 10, 11, 12] (.seq (.seq (.reg [⟨none, .asg 7 (.c (.int .i64 0))⟩])
 (.block 0 (.loop c_spec_l23Covers_l1)))
 (.drop [7, 13, 14, 15, 16, 17, 20, 21, 22, 23, 24, 25, 26, 27, 28, 29, 18, 19] (.seq (.reg [⟨none, .asg 6 (.c (.bool true))⟩])
 .ret))))))
abbrev r_spec_l23Covers : List RS := [.t 6]
theorem k_spec_l23Covers : fitsF Try.prog f_spec_l23Covers 30 c_spec_l23Covers r_spec_l23Covers = true := by kernel_rfl

/- (loop.example/g01078/impl.order).lowerCovers: [o=0, x=1, o=2, x=3] -/
def c_impl_order_lowerCovers : ACode :=
 (.seq (.reg [⟨none, .box 2 (.t 0)⟩,
 ⟨none, .box 3 (.t 1)⟩,
 ⟨none, .asg 4 (.c (.nilsl 1))⟩])
 (.seq (.reg [⟨none, .ld 5 1 false (.t 2)⟩,
 ⟨none, .mkf 6 f_impl_order_lowerCovers_1 [(.t 2), (.t 3)]⟩,
 ⟨none, .call 7 f_impl_order_those [((.t 5), false), ((.t 6), false)]⟩,
 ⟨none, .asg 4 (.t 7)⟩])
 (.drop [5, 6, 7] .ret)))
abbrev r_impl_order_lowerCovers : List RS := [.t 4]
theorem k_impl_order_lowerCovers : fitsF Try.prog f_impl_order_lowerCovers 8 c_impl_order_lowerCovers r_impl_order_lowerCovers = true := by kernel_rfl

/- loop.example/g01078/impl.ProductLattice: [p=0, q=1, p=2, q=3, l=6, m=7, ok=8, n=9, o=10, x=11, y=12] -/
def c_impl_ProductLattice_k1 : ACode :=
 (.seq (.dreg [(⟨none, .mov 20 (.t 8)⟩, []),
 (⟨none, .un 21 .not (.t 20)⟩, []),
 (⟨none, .asg 22 (.t 21)⟩, []),
 (⟨some (22, false), .mov 23 (.t 6)⟩, [21]),
 (⟨some (22, false), .nck 24 (.t 23)⟩, [21]),
 (⟨some (22, false), .fadr 25 0 (.t 24)⟩, [21]),
 (⟨some (22, false), .ld 26 1 false (.t 25)⟩, [21]),
 (⟨some (22, false), .len 27 (.t 26)⟩, [21]),
 (⟨some (22, false), .mov 28 (.t 7)⟩, [23, 24, 25, 26, 27, 21]),
 (⟨some (22, false), .nck 29 (.t 28)⟩, [23, 24, 25, 26, 27, 21]),
 (⟨some (22, false), .fadr 30 0 (.t 29)⟩, [23, 24, 25, 26, 27, 21]),
 (⟨some (22, false), .ld 31 1 false (.t 30)⟩, [23, 24, 25, 26, 27, 21]),
 (⟨some (22, false), .len 32 (.t 31)⟩, [23, 24, 25, 26, 27, 21])]
 [⟨some (22, false), .bin 33 .mul (.t 27) (.t 32)⟩,
 ⟨some (22, false), .bin 34 .gtr (.t 33) (.c (.int .i64 10))⟩,
 ⟨none, .pick 35 (.t 22) (.c (.bool true)) (.t 34)⟩])
 (.drop [20, 21, 22, 23, 24, 25, 26, 27, 28, 29, 30, 31, 32, 33, 34] (.cond (.t 35) (.seq (.reg [⟨none, .bld 36 [.nilsl 1] []⟩,
 ⟨none, .st 1 (.t 4) (.t 36)⟩,
 ⟨none, .asg 5 (.c (.bool false))⟩])
 (.drop [36] .ret))
 .skip)))
def c_impl_ProductLattice_l1 : ACode :=
 (.seq (.reg [⟨none, .bin 58 .lss (.t 57) (.t 56)⟩])
 (.seq (.cond (.t 58) .skip
 (.exit 2))
 (.seq (.block 3 (.seq (.reg [⟨none, .mov 59 (.t 57)⟩,
 ⟨none, .asg 12 (.t 59)⟩])
 (.drop [59] (.dreg [(⟨none, .mov 60 (.t 10)⟩, [78]),
 (⟨none, .mov 61 (.t 11)⟩, [60, 78]),
 (⟨none, .iad 62 1 (.t 60) (.t 61)⟩, [78]),
 (⟨none, .ld 63 1 false (.t 62)⟩, [78]),
 (⟨none, .mov 64 (.t 12)⟩, [60, 61, 62, 63, 78]),
 (⟨none, .mov 65 (.t 6)⟩, [60, 61, 62, 63, 64]),
 (⟨none, .nck 66 (.t 65)⟩, [60, 61, 62, 63, 64]),
 (⟨none, .fadr 67 0 (.t 66)⟩, [60, 61, 62, 63, 64]),
 (⟨none, .ld 68 1 false (.t 67)⟩, [60, 61, 62, 63, 64]),
 (⟨none, .mov 69 (.t 11)⟩, [60, 61, 62, 63, 64, 65, 66, 67, 68]),
 (⟨none, .mov 70 (.t 9)⟩, [60, 61, 62, 63, 64, 65, 66, 67, 68, 69]),
 (⟨none, .bin 71 .quo (.t 69) (.t 70)⟩, [60, 61, 62, 63, 64, 65, 66, 67, 68]),
 (⟨none, .iad 72 1 (.t 68) (.t 71)⟩, [60, 61, 62, 63, 64]),
 (⟨none, .ld 73 1 false (.t 72)⟩, [60, 61, 62, 63, 64]),
 (⟨none, .mov 74 (.t 12)⟩, [60, 61, 62, 63, 64, 65, 66, 67, 68, 69, 70, 71, 72, 73]),
 (⟨none, .mov 75 (.t 9)⟩, [60, 61, 62, 63, 64, 65, 66, 67, 68, 69, 70, 71, 72, 73, 74]),
 (⟨none, .bin 76 .quo (.t 74) (.t 75)⟩, [60, 61, 62, 63, 64, 65, 66, 67, 68, 69, 70, 71, 72, 73]),
 (⟨none, .iad 77 1 (.t 73) (.t 76)⟩, [60, 61, 62, 63, 64]),
 (⟨none, .ld 78 1 false (.t 77)⟩, [60, 61, 62, 63, 64]),
 (⟨none, .asg 79 (.t 78)⟩, [60, 61, 62, 63, 64]),
 (⟨some (79, true), .mov 80 (.t 7)⟩, [60, 61, 62, 63, 64, 78]),
 (⟨some (79, true), .nck 81 (.t 80)⟩, [60, 61, 62, 63, 64, 78]),
 (⟨some (79, true), .fadr 82 0 (.t 81)⟩, [60, 61, 62, 63, 64, 78]),
 (⟨some (79, true), .ld 83 1 false (.t 82)⟩, [60, 61, 62, 63, 64, 78]),
 (⟨some (79, true), .mov 84 (.t 11)⟩, [60, 61, 62, 63, 64, 80, 81, 82, 83, 78]),
 (⟨some (79, true), .mov 85 (.t 9)⟩, [60, 61, 62, 63, 64, 80, 81, 82, 83, 84, 78]),
 (⟨some (79, true), .bin 86 .rem (.t 84) (.t 85)⟩, [60, 61, 62, 63, 64, 80, 81, 82, 83, 78]),
 (⟨some (79, true), .iad 87 1 (.t 83) (.t 86)⟩, [60, 61, 62, 63, 64, 78]),
 (⟨some (79, true), .ld 88 1 false (.t 87)⟩, [60, 61, 62, 63, 64, 78]),
 (⟨some (79, true), .mov 89 (.t 12)⟩, [60, 61, 62, 63, 64, 80, 81, 82, 83, 84, 85, 86, 87, 88, 78]),
 (⟨some (79, true), .mov 90 (.t 9)⟩, [60, 61, 62, 63, 64, 80, 81, 82, 83, 84, 85, 86, 87, 88, 89, 78]),
 (⟨some (79, true), .bin 91 .rem (.t 89) (.t 90)⟩, [60, 61, 62, 63, 64, 80, 81, 82, 83, 84, 85, 86, 87, 88, 78]),
 (⟨some (79, true), .iad 92 1 (.t 88) (.t 91)⟩, [60, 61, 62, 63, 64, 78]),
 (⟨some (79, true), .ld 93 1 false (.t 92)⟩, [60, 61, 62, 63, 64, 78]),
 (⟨none, .pick 94 (.t 79) (.t 93) (.c (.bool false))⟩, [60, 61, 62, 63, 64, 78])]
 [⟨none, .iad 95 1 (.t 63) (.t 64)⟩,
 ⟨none, .st 1 (.t 95) (.t 94)⟩]))))
 (.drop [59, 12, 60, 61, 62, 63, 64, 65, 66, 67, 68, 69, 70, 71, 72, 73, 74, 75, 76, 77, 78, 79, 80, 81, 82, 83, 84, 85, 86, 87, 88, 89, 90, 91, 92, 93, 94, 95] (.reg [⟨none, .bin 96 .add (.t 57) (.c (.int .i64 1))⟩,
 ⟨none, .asg 57 (.t 96)⟩])))))
def c_impl_ProductLattice_l2 : ACode :=
 (.seq (.reg [⟨none, .bin 53 .lss (.t 52) (.t 51)⟩])
 (.seq (.cond (.t 53) .skip
 (.exit 0))
 (.seq (.block 1 (.seq (.reg [⟨none, .mov 54 (.t 52)⟩,
 ⟨none, .asg 11 (.t 54)⟩])
 (.drop [54] (.seq (.reg [⟨none, .mov 55 (.t 10)⟩,
 ⟨none, .len 56 (.t 55)⟩,
 ⟨none, .mov 57 (.c (.int .i64 0))⟩])
 (.drop [55] (.block 2 (.loop c_impl_ProductLattice_l1)))))))
 (.drop [54, 11, 55, 56, 57, 58, 59, 12, 60, 61, 62, 63, 64, 65, 66, 67, 68, 69, 70, 71, 72, 73, 74, 75, 76, 77, 78, 79, 80, 81, 82, 83, 84, 85, 86, 87, 88, 89, 90, 91, 92, 93, 94, 95, 96] (.reg [⟨none, .bin 97 .add (.t 52) (.c (.int .i64 1))⟩,
 ⟨none, .asg 52 (.t 97)⟩])))))
def c_impl_ProductLattice : ACode :=
 (.seq (.reg [⟨none, .box 2 (.t 0)⟩,
 ⟨none, .box 3 (.t 1)⟩,
 ⟨none, .alc 4 (.agg [.nilsl 1])⟩,
 ⟨none, .asg 5 (.c (.bool false))⟩])
 (.seq (.reg [⟨none, .ld 14 1 true (.t 2)⟩,
 ⟨none, .ld 15 1 true (.t 3)⟩,
 ⟨none, .call 16 f_impl_twoLattices [((.t 14), false), ((.t 15), false)]⟩,
 ⟨none, .asg 13 (.t 16)⟩,
 ⟨none, .ext 17 (.t 13) 0⟩,
 ⟨none, .ext 18 (.t 13) 1⟩,
 ⟨none, .ext 19 (.t 13) 2⟩,
 ⟨none, .asg 6 (.t 17)⟩,
 ⟨none, .asg 7 (.t 18)⟩,
 ⟨none, .asg 8 (.t 19)⟩])
 (.drop [14, 15, 16, 13, 17, 18, 19] (.seq (.cut c_impl_ProductLattice_k1)
 (.drop [20, 21, 22, 23, 24, 25, 26, 27, 28, 29, 30, 31, 32, 33, 34, 35, 36] (.seq (.reg [⟨none, .mov 37 (.t 7)⟩,
 ⟨none, .nck 38 (.t 37)⟩,
 ⟨none, .fadr 39 0 (.t 38)⟩,
 ⟨none, .ld 40 1 false (.t 39)⟩,
 ⟨none, .len 41 (.t 40)⟩,
 ⟨none, .asg 9 (.t 41)⟩])
 (.drop [37, 38, 39, 40, 41] (.seq (.reg [⟨none, .mov 42 (.t 6)⟩,
 ⟨none, .nck 43 (.t 42)⟩,
 ⟨none, .fadr 44 0 (.t 43)⟩,
 ⟨none, .ld 45 1 false (.t 44)⟩,
 ⟨none, .len 46 (.t 45)⟩,
 ⟨none, .mov 47 (.t 9)⟩,
 ⟨none, .bin 48 .mul (.t 46) (.t 47)⟩,
 ⟨none, .call 49 f_impl_newOrder [((.t 48), false)]⟩,
 ⟨none, .asg 10 (.t 49)⟩])
 (.drop [42, 43, 44, 45, 46, 47, 48, 49] (.seq (.seq (.reg [⟨none, .mov 50 (.t 10)⟩,
 ⟨none, .len 51 (.t 50)⟩,
 ⟨none, .mov 52 (.c (.int .i64 0))⟩])
 (.drop [50] (.block 0 (.loop c_impl_ProductLattice_l2))))
 (.drop [50, 51, 52, 53, 54, 11, 55, 56, 57, 58, 59, 12, 60, 61, 62, 63, 64, 65, 66, 67, 68, 69, 70, 71, 72, 73, 74, 75, 76, 77, 78, 79, 80, 81, 82, 83, 84, 85, 86, 87, 88, 89, 90, 91, 92, 93, 94, 95, 96, 97] (.seq (.reg [⟨none, .mov 98 (.t 10)⟩,
 ⟨none, .call 99 f_impl_order_poset [((.t 98), false)]⟩,
 ⟨none, .st 1 (.t 4) (.t 99)⟩,
 ⟨none, .asg 5 (.c (.bool true))⟩])
 (.drop [98, 99] .ret)))))))))))))
abbrev r_impl_ProductLattice : List RS := [.c 4 1 true, .t 5]
theorem k_impl_ProductLattice : fitsF Try.prog f_impl_ProductLattice 100 c_impl_ProductLattice r_impl_ProductLattice = true := by kernel_rfl

/- loop.example/g01078/spec.ProductLattice: [p=0, q=1, p=2, q=3] -/
def c_spec_ProductLattice : ACode :=
 (.seq (.reg [⟨none, .box 2 (.t 0)⟩,
 ⟨none, .box 3 (.t 1)⟩,
 ⟨none, .alc 4 (.agg [.nilsl 1])⟩,
 ⟨none, .asg 5 (.c (.bool false))⟩])
 (.seq (.seq (.reg [⟨none, .ld 6 1 true (.t 2)⟩,
 ⟨none, .call 7 f_spec_l24Good [((.t 6), false)]⟩,
 ⟨none, .un 8 .not (.t 7)⟩,
 ⟨none, .asg 9 (.t 8)⟩,
 ⟨some (9, false), .ld 10 1 true (.t 3)⟩,
 ⟨some (9, false), .call 11 f_spec_l24Good [((.t 10), false)]⟩,
 ⟨some (9, false), .un 12 .not (.t 11)⟩,
 ⟨none, .pick 13 (.t 9) (.c (.bool true)) (.t 12)⟩,
 ⟨none, .asg 14 (.t 13)⟩,
 ⟨some (14, false), .fadr 15 0 (.t 2)⟩,
 ⟨some (14, false), .ld 16 1 false (.t 15)⟩,
 ⟨some (14, false), .len 17 (.t 16)⟩,
 ⟨some (14, false), .fadr 18 0 (.t 3)⟩,
 ⟨some (14, false), .ld 19 1 false (.t 18)⟩,
 ⟨some (14, false), .len 20 (.t 19)⟩,
 ⟨some (14, false), .bin 21 .mul (.t 17) (.t 20)⟩,
 ⟨some (14, false), .bin 22 .gtr (.t 21) (.c (.int .i64 10))⟩,
 ⟨none, .pick 23 (.t 14) (.c (.bool true)) (.t 22)⟩])
 (.drop [6, 7, 8, 9, 10, 11, 12, 13, 14, 15, 16, 17, 18, 19, 20, 21, 22] (.cond (.t 23) (.seq (.reg [⟨none, .bld 24 [.nilsl 1] []⟩,
 ⟨none, .st 1 (.t 4) (.t 24)⟩,
 ⟨none, .asg 5 (.c (.bool false))⟩])
 (.drop [24] .ret))
 .skip)))
 (.drop [6, 7, 8, 9, 10, 11, 12, 13, 14, 15, 16, 17, 18, 19, 20, 21, 22, 23, 24] (.seq (.reg [⟨none, .ld 25 1 true (.t 2)⟩,
 ⟨none, .ld 26 1 true (.t 3)⟩,
 ⟨none, .call 27 f_spec_l24Product [((.t 25), false), ((.t 26), false)]⟩,
 ⟨none, .st 1 (.t 4) (.t 27)⟩,
 ⟨none, .asg 5 (.c (.bool true))⟩])
 (.drop [25, 26, 27] .ret)))))
abbrev r_spec_ProductLattice : List RS := [.c 4 1 true, .t 5]
theorem k_spec_ProductLattice : fitsF Try.prog f_spec_ProductLattice 28 c_spec_ProductLattice r_spec_ProductLattice = true := by kernel_rfl

/- loop.example/g01078/impl.StackLattice: [p=0, q=1, p=2, q=3, l=6, m=7, ok=8, n=9, o=10, x=11, y=12] -/
def c_impl_StackLattice_k1 : ACode :=
 (.seq (.dreg [(⟨none, .mov 20 (.t 8)⟩, []),
 (⟨none, .un 21 .not (.t 20)⟩, []),
 (⟨none, .asg 22 (.t 21)⟩, []),
 (⟨some (22, false), .mov 23 (.t 6)⟩, [21]),
 (⟨some (22, false), .nck 24 (.t 23)⟩, [21]),
 (⟨some (22, false), .fadr 25 0 (.t 24)⟩, [21]),
 (⟨some (22, false), .ld 26 1 false (.t 25)⟩, [21]),
 (⟨some (22, false), .len 27 (.t 26)⟩, [21]),
 (⟨some (22, false), .mov 28 (.t 7)⟩, [23, 24, 25, 26, 27, 21]),
 (⟨some (22, false), .nck 29 (.t 28)⟩, [23, 24, 25, 26, 27, 21]),
 (⟨some (22, false), .fadr 30 0 (.t 29)⟩, [23, 24, 25, 26, 27, 21]),
 (⟨some (22, false), .ld 31 1 false (.t 30)⟩, [23, 24, 25, 26, 27, 21]),
 (⟨some (22, false), .len 32 (.t 31)⟩, [23, 24, 25, 26, 27, 21])]
 [⟨some (22, false), .bin 33 .add (.t 27) (.t 32)⟩,
 ⟨some (22, false), .bin 34 .gtr (.t 33) (.c (.int .i64 10))⟩,
 ⟨none, .pick 35 (.t 22) (.c (.bool true)) (.t 34)⟩])
 (.drop [20, 21, 22, 23, 24, 25, 26, 27, 28, 29, 30, 31, 32, 33, 34] (.cond (.t 35) (.seq (.reg [⟨none, .bld 36 [.nilsl 1] []⟩,
 ⟨none, .st 1 (.t 4) (.t 36)⟩,
 ⟨none, .asg 5 (.c (.bool false))⟩])
 (.drop [36] .ret))
 .skip)))
def c_impl_StackLattice_k2 : ACode :=
 (.reg [⟨none, .mov 70 (.t 11)⟩,
 ⟨none, .mov 71 (.t 9)⟩,
 ⟨none, .bin 72 .lss (.t 70) (.t 71)⟩,
 ⟨none, .asg 73 (.t 72)⟩,
 ⟨some (73, true), .mov 74 (.t 12)⟩,
 ⟨some (73, true), .mov 75 (.t 9)⟩,
 ⟨some (73, true), .bin 76 .lss (.t 74) (.t 75)⟩,
 ⟨none, .pick 77 (.t 73) (.t 76) (.c (.bool false))⟩,
 ⟨none, .asg 69 (.t 77)⟩])
def c_impl_StackLattice_k3 : ACode :=
 (.reg [⟨none, .mov 95 (.t 11)⟩,
 ⟨none, .mov 96 (.t 9)⟩,
 ⟨none, .bin 97 .geq (.t 95) (.t 96)⟩,
 ⟨none, .asg 98 (.t 97)⟩,
 ⟨some (98, true), .mov 99 (.t 12)⟩,
 ⟨some (98, true), .mov 100 (.t 9)⟩,
 ⟨some (98, true), .bin 101 .geq (.t 99) (.t 100)⟩,
 ⟨none, .pick 102 (.t 98) (.t 101) (.c (.bool false))⟩,
 ⟨none, .asg 94 (.t 102)⟩])
def c_impl_StackLattice_l1 : ACode :=
 (.seq (.reg [⟨none, .bin 58 .lss (.t 57) (.t 56)⟩])
 (.seq (.cond (.t 58) .skip
 (.exit 2))
 (.seq (.block 3 (.seq (.reg [⟨none, .mov 59 (.t 57)⟩,
 ⟨none, .asg 12 (.t 59)⟩])
 (.drop [59] (.block 4 (.seq (.cut c_impl_StackLattice_k2)
 (.drop [70, 71, 72, 73, 74, 75, 76, 77] (.cond (.t 69) (.dreg [(⟨none, .mov 78 (.t 10)⟩, []),
 (⟨none, .mov 79 (.t 11)⟩, [78]),
 (⟨none, .iad 80 1 (.t 78) (.t 79)⟩, []),
 (⟨none, .ld 81 1 false (.t 80)⟩, []),
 (⟨none, .mov 82 (.t 12)⟩, [78, 79, 80, 81]),
 (⟨none, .mov 83 (.t 6)⟩, [78, 79, 80, 81, 82]),
 (⟨none, .nck 84 (.t 83)⟩, [78, 79, 80, 81, 82]),
 (⟨none, .fadr 85 0 (.t 84)⟩, [78, 79, 80, 81, 82]),
 (⟨none, .ld 86 1 false (.t 85)⟩, [78, 79, 80, 81, 82]),
 (⟨none, .mov 87 (.t 11)⟩, [78, 79, 80, 81, 82, 83, 84, 85, 86]),
 (⟨none, .iad 88 1 (.t 86) (.t 87)⟩, [78, 79, 80, 81, 82]),
 (⟨none, .ld 89 1 false (.t 88)⟩, [78, 79, 80, 81, 82]),
 (⟨none, .mov 90 (.t 12)⟩, [78, 79, 80, 81, 82, 83, 84, 85, 86, 87, 88, 89]),
 (⟨none, .iad 91 1 (.t 89) (.t 90)⟩, [78, 79, 80, 81, 82]),
 (⟨none, .ld 92 1 false (.t 91)⟩, [78, 79, 80, 81, 82])]
 [⟨none, .iad 93 1 (.t 81) (.t 82)⟩,
 ⟨none, .st 1 (.t 93) (.t 92)⟩])
 (.seq (.cut c_impl_StackLattice_k3)
 (.drop [95, 96, 97, 98, 99, 100, 101, 102] (.cond (.t 94) (.dreg [(⟨none, .mov 103 (.t 10)⟩, []),
 (⟨none, .mov 104 (.t 11)⟩, [103]),
 (⟨none, .iad 105 1 (.t 103) (.t 104)⟩, []),
 (⟨none, .ld 106 1 false (.t 105)⟩, []),
 (⟨none, .mov 107 (.t 12)⟩, [103, 104, 105, 106]),
 (⟨none, .mov 108 (.t 7)⟩, [103, 104, 105, 106, 107]),
 (⟨none, .nck 109 (.t 108)⟩, [103, 104, 105, 106, 107]),
 (⟨none, .fadr 110 0 (.t 109)⟩, [103, 104, 105, 106, 107]),
 (⟨none, .ld 111 1 false (.t 110)⟩, [103, 104, 105, 106, 107]),
 (⟨none, .mov 112 (.t 11)⟩, [103, 104, 105, 106, 107, 108, 109, 110, 111]),
 (⟨none, .mov 113 (.t 9)⟩, [103, 104, 105, 106, 107, 108, 109, 110, 111, 112]),
 (⟨none, .bin 114 .sub (.t 112) (.t 113)⟩, [103, 104, 105, 106, 107, 108, 109, 110, 111]),
 (⟨none, .iad 115 1 (.t 111) (.t 114)⟩, [103, 104, 105, 106, 107]),
 (⟨none, .ld 116 1 false (.t 115)⟩, [103, 104, 105, 106, 107]),
 (⟨none, .mov 117 (.t 12)⟩, [103, 104, 105, 106, 107, 108, 109, 110, 111, 112, 113, 114, 115, 116]),
 (⟨none, .mov 118 (.t 9)⟩, [103, 104, 105, 106, 107, 108, 109, 110, 111, 112, 113, 114, 115, 116, 117]),
 (⟨none, .bin 119 .sub (.t 117) (.t 118)⟩, [103, 104, 105, 106, 107, 108, 109, 110, 111, 112, 113, 114, 115, 116]),
 (⟨none, .iad 120 1 (.t 116) (.t 119)⟩, [103, 104, 105, 106, 107]),
 (⟨none, .ld 121 1 false (.t 120)⟩, [103, 104, 105, 106, 107])]
 [⟨none, .iad 122 1 (.t 106) (.t 107)⟩,
 ⟨none, .st 1 (.t 122) (.t 121)⟩])
 (.reg [⟨none, .mov 60 (.t 10)⟩,
 ⟨none, .mov 61 (.t 11)⟩,
 ⟨none, .iad 62 1 (.t 60) (.t 61)⟩,
 ⟨none, .ld 63 1 false (.t 62)⟩,
 ⟨none, .mov 64 (.t 12)⟩,
 ⟨none, .mov 65 (.t 11)⟩,
 ⟨none, .mov 66 (.t 9)⟩,
 ⟨none, .bin 67 .lss (.t 65) (.t 66)⟩,
 ⟨none, .iad 68 1 (.t 63) (.t 64)⟩,
 ⟨none, .st 1 (.t 68) (.t 67)⟩])))))))))))
 (.drop [59, 12, 70, 71, 72, 73, 74, 75, 76, 77, 69, 78, 79, 80, 81, 82, 83, 84, 85, 86, 87, 88, 89, 90, 91, 92, 93, 95, 96, 97, 98, 99, 100, 101, 102, 94, 103, 104, 105, 106, 107, 108, 109, 110, 111, 112, 113, 114, 115, 116, 117, 118, 119, 120, 121, 122, 60, 61, 62, 63, 64, 65, 66, 67, 68] (.reg [⟨none, .bin 123 .add (.t 57) (.c (.int .i64 1))⟩,
 ⟨none, .asg 57 (.t 123)⟩])))))
def c_impl_StackLattice_l2 : ACode :=
 (.seq (.reg [⟨none, .bin 53 .lss (.t 52) (.t 51)⟩])
 (.seq (.cond (.t 53) .skip
 (.exit 0))
 (.seq (.block 1 (.seq (.reg [⟨none, .mov 54 (.t 52)⟩,
 ⟨none, .asg 11 (.t 54)⟩])
 (.drop [54] (.seq (.reg [⟨none, .mov 55 (.t 10)⟩,
 ⟨none, .len 56 (.t 55)⟩,
 ⟨none, .mov 57 (.c (.int .i64 0))⟩])
 (.drop [55] (.block 2 (.loop c_impl_StackLattice_l1)))))))
 (.drop [54, 11, 55, 56, 57, 58, 59, 12, 70, 71, 72, 73, 74, 75, 76, 77, 69, 78, 79, 80, 81, 82, 83, 84, 85, 86, 87, 88, 89, 90, 91, 92, 93, 95, 96, 97, 98, 99, 100, 101, 102, 94, 103, 104, 105, 106, 107, 108, 109, 110, 111, 112, 113, 114, 115, 116, 117, 118, 119, 120, 121, 122, 60, 61, 62, 63, 64, 65, 66, 67, 68, 123] (.reg [⟨none, .bin 124 .add (.t 52) (.c (.int .i64 1))⟩,
 ⟨none, .asg 52 (.t 124)⟩])))))
def c_impl_StackLattice : ACode :=
 (.seq (.reg [⟨none, .box 2 (.t 0)⟩,
 ⟨none, .box 3 (.t 1)⟩,
 ⟨none, .alc 4 (.agg [.nilsl 1])⟩,
 ⟨none, .asg 5 (.c (.bool false))⟩])
 (.seq (.reg [⟨none, .ld 14 1 true (.t 2)⟩,
 ⟨none, .ld 15 1 true (.t 3)⟩,
 ⟨none, .call 16 f_impl_twoLattices [((.t 14), false), ((.t 15), false)]⟩,
 ⟨none, .asg 13 (.t 16)⟩,
 ⟨none, .ext 17 (.t 13) 0⟩,
 ⟨none, .ext 18 (.t 13) 1⟩,
 ⟨none, .ext 19 (.t 13) 2⟩,
 ⟨none, .asg 6 (.t 17)⟩,
 ⟨none, .asg 7 (.t 18)⟩,
 ⟨none, .asg 8 (.t 19)⟩])
 (.drop [14, 15, 16, 13, 17, 18, 19] (.seq (.cut c_impl_StackLattice_k1)
 (.drop [20, 21, 22, 23, 24, 25, 26, 27, 28, 29, 30, 31, 32, 33, 34, 35, 36] (.seq (.reg [⟨none, .mov 37 (.t 6)⟩,
 ⟨none, .nck 38 (.t 37)⟩,
 ⟨none, .fadr 39 0 (.t 38)⟩,
 ⟨none, .ld 40 1 false (.t 39)⟩,
 ⟨none, .len 41 (.t 40)⟩,
 ⟨none, .asg 9 (.t 41)⟩])
 (.drop [37, 38, 39, 40, 41] (.seq (.reg [⟨none, .mov 42 (.t 9)⟩,
 ⟨none, .mov 43 (.t 7)⟩,
 ⟨none, .nck 44 (.t 43)⟩,
 ⟨none, .fadr 45 0 (.t 44)⟩,
 ⟨none, .ld 46 1 false (.t 45)⟩,
 ⟨none, .len 47 (.t 46)⟩,
 ⟨none, .bin 48 .add (.t 42) (.t 47)⟩,
 ⟨none, .call 49 f_impl_newOrder [((.t 48), false)]⟩,
 ⟨none, .asg 10 (.t 49)⟩])
 (.drop [42, 43, 44, 45, 46, 47, 48, 49] (.seq (.seq (.reg [⟨none, .mov 50 (.t 10)⟩,
 ⟨none, .len 51 (.t 50)⟩,
 ⟨none, .mov 52 (.c (.int .i64 0))⟩])
 (.drop [50] (.block 0 (.loop c_impl_StackLattice_l2))))
 (.drop [50, 51, 52, 53, 54, 11, 55, 56, 57, 58, 59, 12, 70, 71, 72, 73, 74, 75, 76, 77, 69, 78, 79, 80, 81, 82, 83, 84, 85, 86, 87, 88, 89, 90, 91, 92, 93, 95, 96, 97, 98, 99, 100, 101, 102, 94, 103, 104, 105, 106, 107, 108, 109, 110, 111, 112, 113, 114, 115, 116, 117, 118, 119, 120, 121, 122, 60, 61, 62, 63, 64, 65, 66, 67, 68, 123, 124] (.seq (.reg [⟨none, .mov 125 (.t 10)⟩,
 ⟨none, .call 126 f_impl_order_poset [((.t 125), false)]⟩,
 ⟨none, .st 1 (.t 4) (.t 126)⟩,
 ⟨none, .asg 5 (.c (.bool true))⟩])
 (.drop [125, 126] .ret)))))))))))))
abbrev r_impl_StackLattice : List RS := [.c 4 1 true, .t 5]
theorem k_impl_StackLattice : fitsF Try.prog f_impl_StackLattice 127 c_impl_StackLattice r_impl_StackLattice = true := by kernel_rfl

/- loop.example/g01078/spec.StackLattice: [p=0, q=1, p=2, q=3, out=6, x=7, y=8, below=9, k=10] -/
def c_spec_StackLattice_k1 : ACode :=
 (.seq (.reg [⟨none, .ld 11 1 true (.t 2)⟩,
 ⟨none, .call 12 f_spec_l24Good [((.t 11), false)]⟩,
 ⟨none, .un 13 .not (.t 12)⟩,
 ⟨none, .asg 14 (.t 13)⟩,
 ⟨some (14, false), .ld 15 1 true (.t 3)⟩,
 ⟨some (14, false), .call 16 f_spec_l24Good [((.t 15), false)]⟩,
 ⟨some (14, false), .un 17 .not (.t 16)⟩,
 ⟨none, .pick 18 (.t 14) (.c (.bool true)) (.t 17)⟩,
 ⟨none, .asg 19 (.t 18)⟩,
 ⟨some (19, false), .fadr 20 0 (.t 2)⟩,
 ⟨some (19, false), .ld 21 1 false (.t 20)⟩,
 ⟨some (19, false), .len 22 (.t 21)⟩,
 ⟨some (19, false), .fadr 23 0 (.t 3)⟩,
 ⟨some (19, false), .ld 24 1 false (.t 23)⟩,
 ⟨some (19, false), .len 25 (.t 24)⟩,
 ⟨some (19, false), .bin 26 .add (.t 22) (.t 25)⟩,
 ⟨some (19, false), .bin 27 .gtr (.t 26) (.c (.int .i64 10))⟩,
 ⟨none, .pick 28 (.t 19) (.c (.bool true)) (.t 27)⟩])
 (.drop [11, 12, 13, 14, 15, 16, 17, 18, 19, 20, 21, 22, 23, 24, 25, 26, 27] (.cond (.t 28) (.seq (.reg [⟨none, .bld 29 [.nilsl 1] []⟩,
 ⟨none, .st 1 (.t 4) (.t 29)⟩,
 ⟨none, .asg 5 (.c (.bool false))⟩])
 (.drop [29] .ret))
 .skip)))
def c_spec_StackLattice_l1 : ACode :=
 (.seq (.seq (.reg [⟨none, .mov 32 (.t 7)⟩,
 ⟨none, .fadr 33 0 (.t 2)⟩,
 ⟨none, .ld 34 1 false (.t 33)⟩,
 ⟨none, .len 35 (.t 34)⟩,
 ⟨none, .bin 36 .lss (.t 32) (.t 35)⟩])
 (.drop [32, 33, 34, 35] (.cond (.t 36) .skip
 (.exit 0))))
 (.drop [32, 33, 34, 35, 36] (.seq (.block 1 (.dreg [(⟨none, .fadr 39 0 (.t 6)⟩, [46]),
 (⟨none, .ld 40 1 false (.t 39)⟩, [46]),
 (⟨none, .fadr 41 0 (.t 2)⟩, [39, 40]),
 (⟨none, .ld 42 1 false (.t 41)⟩, [39, 40]),
 (⟨none, .mov 43 (.t 7)⟩, [39, 40, 41, 42]),
 (⟨none, .iad 44 1 (.t 42) (.t 43)⟩, [39, 40]),
 (⟨none, .ld 45 1 false (.t 44)⟩, [39, 40]),
 (⟨none, .call 46 f_spec_l1Own [((.t 45), false)]⟩, [39, 40]),
 (⟨none, .bsl 47 1 [(.t 46)]⟩, [39, 40])]
 [⟨none, .app 48 1 (.t 40) (.t 47)⟩,
 ⟨none, .fadr 49 0 (.t 6)⟩,
 ⟨none, .st 1 (.t 49) (.t 48)⟩]))
 (.drop [39, 40, 41, 42, 43, 44, 45, 46, 47, 48, 49] (.reg [⟨none, .mov 37 (.t 7)⟩,
 ⟨none, .bin 38 .add (.t 37) (.c (.int .i64 1))⟩,
 ⟨none, .asg 7 (.t 38)⟩])))))
def c_spec_StackLattice_l2 : ACode :=
 (.seq (.seq (.reg [⟨none, .mov 61 (.t 10)⟩,
 ⟨none, .fadr 62 0 (.t 3)⟩,
 ⟨none, .ld 63 1 false (.t 62)⟩,
 ⟨none, .mov 64 (.t 8)⟩,
 ⟨none, .iad 65 1 (.t 63) (.t 64)⟩,
 ⟨none, .ld 66 1 false (.t 65)⟩,
 ⟨none, .len 67 (.t 66)⟩,
 ⟨none, .bin 68 .lss (.t 61) (.t 67)⟩])
 (.drop [61, 62, 63, 64, 65, 66, 67] (.cond (.t 68) .skip
 (.exit 4))))
 (.drop [61, 62, 63, 64, 65, 66, 67, 68] (.seq (.block 5 (.dreg [(⟨none, .mov 71 (.t 9)⟩, [83]),
 (⟨none, .fadr 72 0 (.t 2)⟩, [71]),
 (⟨none, .ld 73 1 false (.t 72)⟩, [71]),
 (⟨none, .len 74 (.t 73)⟩, [71]),
 (⟨none, .fadr 75 0 (.t 3)⟩, [71, 72, 73, 74]),
 (⟨none, .ld 76 1 false (.t 75)⟩, [71, 72, 73, 74]),
 (⟨none, .mov 77 (.t 8)⟩, [71, 72, 73, 74, 75, 76]),
 (⟨none, .iad 78 1 (.t 76) (.t 77)⟩, [71, 72, 73, 74]),
 (⟨none, .ld 79 1 false (.t 78)⟩, [71, 72, 73, 74]),
 (⟨none, .mov 80 (.t 10)⟩, [71, 72, 73, 74, 75, 76, 77, 78, 79]),
 (⟨none, .iad 81 1 (.t 79) (.t 80)⟩, [71, 72, 73, 74]),
 (⟨none, .ld 82 1 false (.t 81)⟩, [71, 72, 73, 74]),
 (⟨none, .bin 83 .add (.t 74) (.t 82)⟩, [71]),
 (⟨none, .bsl 84 1 [(.t 83)]⟩, [71])]
 [⟨none, .app 85 1 (.t 71) (.t 84)⟩,
 ⟨none, .asg 9 (.t 85)⟩]))
 (.drop [71, 72, 73, 74, 75, 76, 77, 78, 79, 80, 81, 82, 83, 84, 85] (.reg [⟨none, .mov 69 (.t 10)⟩,
 ⟨none, .bin 70 .add (.t 69) (.c (.int .i64 1))⟩,
 ⟨none, .asg 10 (.t 70)⟩])))))
def c_spec_StackLattice_l3 : ACode :=
 (.seq (.seq (.reg [⟨none, .mov 50 (.t 8)⟩,
 ⟨none, .fadr 51 0 (.t 3)⟩,
 ⟨none, .ld 52 1 false (.t 51)⟩,
 ⟨none, .len 53 (.t 52)⟩,
 ⟨none, .bin 54 .lss (.t 50) (.t 53)⟩])
 (.drop [50, 51, 52, 53] (.cond (.t 54) .skip
 (.exit 2))))
 (.drop [50, 51, 52, 53, 54] (.seq (.block 3 (.seq (.reg [⟨none, .fadr 57 0 (.t 2)⟩,
 ⟨none, .ld 58 1 false (.t 57)⟩,
 ⟨none, .len 59 (.t 58)⟩,
 ⟨none, .call 60 f_spec_l6Identity [((.t 59), false)]⟩,
 ⟨none, .asg 9 (.t 60)⟩])
 (.drop [57, 58, 59, 60] (.seq (.seq (.reg [⟨none, .asg 10 (.c (.int .i64 0))⟩])
 (.block 4 (.loop c_spec_StackLattice_l2)))
 (.drop [10, 61, 62, 63, 64, 65, 66, 67, 68, 71, 72, 73, 74, 75, 76, 77, 78, 79, 80, 81, 82, 83, 84, 85, 69, 70] (.reg [⟨none, .fadr 86 0 (.t 6)⟩,
 ⟨none, .ld 87 1 false (.t 86)⟩,
 ⟨none, .mov 88 (.t 9)⟩,
 ⟨none, .bsl 89 1 [(.t 88)]⟩,
 ⟨none, .app 90 1 (.t 87) (.t 89)⟩,
 ⟨none, .fadr 91 0 (.t 6)⟩,
 ⟨none, .st 1 (.t 91) (.t 90)⟩]))))))
 (.drop [57, 58, 59, 60, 9, 10, 61, 62, 63, 64, 65, 66, 67, 68, 71, 72, 73, 74, 75, 76, 77, 78, 79, 80, 81, 82, 83, 84, 85, 69, 70, 86, 87, 88, 89, 90, 91] (.reg [⟨none, .mov 55 (.t 8)⟩,
 ⟨none, .bin 56 .add (.t 55) (.c (.int .i64 1))⟩,
 ⟨none, .asg 8 (.t 56)⟩])))))
def c_spec_StackLattice : ACode :=
 (.seq (.reg [⟨none, .box 2 (.t 0)⟩,
 ⟨none, .box 3 (.t 1)⟩,
 ⟨none, .alc 4 (.agg [.nilsl 1])⟩,
 ⟨none, .asg 5 (.c (.bool false))⟩])
 (.seq (.cut c_spec_StackLattice_k1)
 (.drop [11, 12, 13, 14, 15, 16, 17, 18, 19, 20, 21, 22, 23, 24, 25, 26, 27, 28, 29] (.seq (.reg [⟨none, .bsl 30 1 []⟩,
 ⟨none, .bld 31 [.nilsl 1] [(0, 1, (.t 30))]⟩,
 ⟨none, .alc 6 (.agg [.nilsl 1])⟩,
 ⟨none, .st 1 (.t 6) (.t 31)⟩])
 (.drop [30, 31] (.seq (.seq (.reg [⟨none, .asg 7 (.c (.int .i64 0))⟩])
 (.block 0 (.loop c_spec_StackLattice_l1)))
 (.drop [7, 32, 33, 34, 35, 36, 39, 40, 41, 42, 43, 44, 45, 46, 47, 48, 49, 37, 38] (.seq (.seq (.reg [⟨none, .asg 8 (.c (.int .i64 0))⟩])
 (.block 2 (.loop c_spec_StackLattice_l3)))
 (.drop [8, 50, 51, 52, 53, 54, 57, 58, 59, 60, 9, 10, 61, 62, 63, 64, 65, 66, 67, 68, 71, 72, 73, 74, 75, 76, 77, 78, 79, 80, 81, 82, 83, 84, 85, 69, 70, 86, 87, 88, 89, 90, 91, 55, 56] (.seq (.reg [⟨none, .ld 92 1 true (.t 6)⟩,
 ⟨none, .st 1 (.t 4) (.t 92)⟩,
 ⟨none, .asg 5 (.c (.bool true))⟩])
 (.drop [92] .ret)))))))))))
abbrev r_spec_StackLattice : List RS := [.c 4 1 true, .t 5]
theorem k_spec_StackLattice : fitsF Try.prog f_spec_StackLattice 93 c_spec_StackLattice r_spec_StackLattice = true := by kernel_rfl

/- (*loop.example/g01078/impl.lattice).atoms: [l=0, l=1] -/
def c_impl_lattice_atoms : ACode :=
 (.seq (.reg [⟨none, .asg 2 (.c (.nilsl 1))⟩])
 (.seq (.dreg [(⟨none, .mov 3 (.t 0)⟩, []),
 (⟨none, .nck 4 (.t 3)⟩, []),
 (⟨none, .fadr 5 0 (.t 4)⟩, []),
 (⟨none, .ld 6 1 false (.t 5)⟩, []),
 (⟨none, .mov 7 (.t 0)⟩, [3, 4, 5, 6]),
 (⟨none, .call 8 f_impl_lattice_bottom [((.t 7), false)]⟩, [3, 4, 5, 6])]
 [⟨none, .call 9 f_impl_order_upperCovers [((.t 6), false), ((.t 8), false)]⟩,
 ⟨none, .asg 2 (.t 9)⟩])
 (.drop [3, 4, 5, 6, 7, 8, 9] .ret)))
abbrev r_impl_lattice_atoms : List RS := [.t 2]
theorem k_impl_lattice_atoms : fitsF Try.prog f_impl_lattice_atoms 10 c_impl_lattice_atoms r_impl_lattice_atoms = true := by kernel_rfl

/- loop.example/g01078/spec.l24Atoms: [p=0, p=1, out=3, bottom=4, x=5] -/
def c_spec_l24Atoms_l1 : ACode :=
 (.seq (.seq (.reg [⟨none, .mov 9 (.t 5)⟩,
 ⟨none, .fadr 10 0 (.t 1)⟩,
 ⟨none, .ld 11 1 false (.t 10)⟩,
 ⟨none, .len 12 (.t 11)⟩,
 ⟨none, .bin 13 .lss (.t 9) (.t 12)⟩])
 (.drop [9, 10, 11, 12] (.cond (.t 13) .skip
 (.exit 0))))
 (.drop [9, 10, 11, 12, 13] (.seq (.block 1 (.seq (.reg [⟨none, .ld 16 1 true (.t 1)⟩,
 ⟨none, .mov 17 (.t 4)⟩,
 ⟨none, .mov 18 (.t 5)⟩,
 ⟨none, .call 19 f_spec_l23Covers [((.t 16), false), ((.t 17), false), ((.t 18), false)]⟩])
 (.drop [16, 17, 18] (.cond (.t 19) (.reg [⟨none, .mov 20 (.t 3)⟩,
 ⟨none, .mov 21 (.t 5)⟩,
 ⟨none, .bsl 22 1 [(.t 21)]⟩,
 ⟨none, .app 23 1 (.t 20) (.t 22)⟩,
 ⟨none, .asg 3 (.t 23)⟩])
 .skip))))
 (.drop [16, 17, 18, 19, 20, 21, 22, 23] (.reg [⟨none, .mov 14 (.t 5)⟩,
 ⟨none, .bin 15 .add (.t 14) (.c (.int .i64 1))⟩,
 ⟨none, .asg 5 (.t 15)⟩])))))
def c_spec_l24Atoms : ACode :=
 (.seq (.reg [⟨none, .box 1 (.t 0)⟩,
 ⟨none, .asg 2 (.c (.nilsl 1))⟩])
 (.seq (.reg [⟨none, .bsl 6 1 []⟩,
 ⟨none, .asg 3 (.t 6)⟩])
 (.drop [6] (.seq (.reg [⟨none, .ld 7 1 true (.t 1)⟩,
 ⟨none, .call 8 f_spec_l24Bottom [((.t 7), false)]⟩,
 ⟨none, .asg 4 (.t 8)⟩])
 (.drop [7, 8] (.seq (.seq (.reg [⟨none, .asg 5 (.c (.int .i64 0))⟩])
 (.block 0 (.loop c_spec_l24Atoms_l1)))
 (.drop [5, 9, 10, 11, 12, 13, 16, 17, 18, 19, 20, 21, 22, 23, 14, 15] (.seq (.reg [⟨none, .mov 24 (.t 3)⟩,
 ⟨none, .asg 2 (.t 24)⟩])
 (.drop [24] .ret)))))))))
abbrev r_spec_l24Atoms : List RS := [.t 2]
theorem k_spec_l24Atoms : fitsF Try.prog f_spec_l24Atoms 25 c_spec_l24Atoms r_spec_l24Atoms = true := by kernel_rfl

/- (*loop.example/g01078/spec.l1Cur).poset: [c=0, c=1, n=3, pairs=4, x=5, y=6, names=7, i=8, p=9, x=10] -/
def c_spec_l1Cur_poset_l1 : ACode :=
 (.seq (.seq (.reg [⟨none, .mov 22 (.t 6)⟩,
 ⟨none, .mov 23 (.t 3)⟩,
 ⟨none, .bin 24 .lss (.t 22) (.t 23)⟩])
 (.drop [22, 23] (.cond (.t 24) .skip
 (.exit 2))))
 (.drop [22, 23, 24] (.seq (.block 3 (.seq (.reg [⟨none, .mov 27 (.t 0)⟩,
 ⟨none, .call 28 f_spec_l1Cur_one [((.t 27), true), ((.c (.int .i64 3)), false)]⟩])
 (.drop [27] (.cond (.t 28) (.reg [⟨none, .mov 29 (.t 4)⟩,
 ⟨none, .mov 30 (.t 5)⟩,
 ⟨none, .mov 31 (.t 6)⟩,
 ⟨none, .bld 32 [.int .i64 0, .int .i64 0] [(0, 1, (.t 30)), (1, 1, (.t 31))]⟩,
 ⟨none, .bsl 33 2 [(.t 32)]⟩,
 ⟨none, .app 34 2 (.t 29) (.t 33)⟩,
 ⟨none, .asg 4 (.t 34)⟩])
 .skip))))
 (.drop [27, 28, 29, 30, 31, 32, 33, 34] (.reg [⟨none, .mov 25 (.t 6)⟩,
 ⟨none, .bin 26 .add (.t 25) (.c (.int .i64 1))⟩,
 ⟨none, .asg 6 (.t 26)⟩])))))
def c_spec_l1Cur_poset_l2 : ACode :=
 (.seq (.seq (.reg [⟨none, .mov 15 (.t 5)⟩,
 ⟨none, .mov 16 (.t 3)⟩,
 ⟨none, .bin 17 .lss (.t 15) (.t 16)⟩])
 (.drop [15, 16] (.cond (.t 17) .skip
 (.exit 0))))
 (.drop [15, 16, 17] (.seq (.block 1 (.seq (.reg [⟨none, .mov 20 (.t 5)⟩,
 ⟨none, .bin 21 .add (.t 20) (.c (.int .i64 1))⟩,
 ⟨none, .asg 6 (.t 21)⟩])
 (.drop [20, 21] (.block 2 (.loop c_spec_l1Cur_poset_l1)))))
 (.drop [20, 21, 6, 22, 23, 24, 27, 28, 29, 30, 31, 32, 33, 34, 25, 26] (.reg [⟨none, .mov 18 (.t 5)⟩,
 ⟨none, .bin 19 .add (.t 18) (.c (.int .i64 1))⟩,
 ⟨none, .asg 5 (.t 19)⟩])))))
def c_spec_l1Cur_poset_k1 : ACode :=
 (.reg [⟨none, .mov 38 (.t 7)⟩,
 ⟨none, .mov 39 (.t 3)⟩,
 ⟨none, .call 40 f_spec_l2Perm [((.t 38), false), ((.t 39), false)]⟩,
 ⟨none, .asg 41 (.t 40)⟩,
 ⟨some (41, true), .mov 42 (.t 0)⟩,
 ⟨some (41, true), .call 43 f_spec_l1Cur_one [((.t 42), true), ((.c (.int .i64 2)), false)]⟩,
 ⟨none, .pick 44 (.t 41) (.t 43) (.c (.bool false))⟩])
def c_spec_l1Cur_poset_l3 : ACode :=
 (.seq (.seq (.reg [⟨none, .mov 45 (.t 8)⟩,
 ⟨none, .mov 46 (.t 4)⟩,
 ⟨none, .len 47 (.t 46)⟩,
 ⟨none, .bin 48 .lss (.t 45) (.t 47)⟩])
 (.drop [45, 46, 47] (.cond (.t 48) .skip
 (.exit 4))))
 (.drop [45, 46, 47, 48] (.seq (.block 5 (.dreg [(⟨none, .mov 51 (.t 4)⟩, []),
 (⟨none, .mov 52 (.t 8)⟩, [51]),
 (⟨none, .mov 53 (.t 7)⟩, [51, 52]),
 (⟨none, .mov 54 (.t 4)⟩, [51, 52, 53]),
 (⟨none, .mov 55 (.t 8)⟩, [51, 52, 53, 54]),
 (⟨none, .iad 56 2 (.t 54) (.t 55)⟩, [51, 52, 53]),
 (⟨none, .aad 57 1 2 (.t 56) (.c (.int .i64 0))⟩, [51, 52, 53]),
 (⟨none, .ld 58 1 false (.t 57)⟩, [51, 52, 53]),
 (⟨none, .iad 59 1 (.t 53) (.t 58)⟩, [51, 52]),
 (⟨none, .ld 60 1 false (.t 59)⟩, [51, 52]),
 (⟨none, .mov 61 (.t 7)⟩, [51, 52, 53, 54, 55, 56, 57, 58, 59, 60]),
 (⟨none, .mov 62 (.t 4)⟩, [51, 52, 53, 54, 55, 56, 57, 58, 59, 60, 61]),
 (⟨none, .mov 63 (.t 8)⟩, [51, 52, 53, 54, 55, 56, 57, 58, 59, 60, 61, 62]),
 (⟨none, .iad 64 2 (.t 62) (.t 63)⟩, [51, 52, 53, 54, 55, 56, 57, 58, 59, 60, 61]),
 (⟨none, .aad 65 1 2 (.t 64) (.c (.int .i64 1))⟩, [51, 52, 53, 54, 55, 56, 57, 58, 59, 60, 61]),
 (⟨none, .ld 66 1 false (.t 65)⟩, [51, 52, 53, 54, 55, 56, 57, 58, 59, 60, 61]),
 (⟨none, .iad 67 1 (.t 61) (.t 66)⟩, [51, 52, 53, 54, 55, 56, 57, 58, 59, 60]),
 (⟨none, .ld 68 1 false (.t 67)⟩, [51, 52, 53, 54, 55, 56, 57, 58, 59, 60]),
 (⟨none, .bld 69 [.int .i64 0, .int .i64 0] [(0, 1, (.t 60)), (1, 1, (.t 68))]⟩, [51, 52])]
 [⟨none, .iad 70 2 (.t 51) (.t 52)⟩,
 ⟨none, .st 2 (.t 70) (.t 69)⟩]))
 (.drop [51, 52, 53, 54, 55, 56, 57, 58, 59, 60, 61, 62, 63, 64, 65, 66, 67, 68, 69, 70] (.reg [⟨none, .mov 49 (.t 8)⟩,
 ⟨none, .bin 50 .add (.t 49) (.c (.int .i64 1))⟩,
 ⟨none, .asg 8 (.t 50)⟩])))))
def c_spec_l1Cur_poset_k2 : ACode :=
 (.seq (.reg [⟨none, .mov 35 (.t 0)⟩,
 ⟨none, .mov 36 (.t 3)⟩,
 ⟨none, .call 37 f_spec_l1Cur_names2 [((.t 35), true), ((.t 36), false)]⟩,
 ⟨none, .asg 7 (.t 37)⟩])
 (.drop [35, 36, 37] (.seq (.cut c_spec_l1Cur_poset_k1)
 (.drop [38, 39, 40, 41, 42, 43] (.cond (.t 44) (.seq (.reg [⟨none, .asg 8 (.c (.int .i64 0))⟩])
 (.block 4 (.loop c_spec_l1Cur_poset_l3)))
 .skip)))))
def c_spec_l1Cur_poset_k3 : ACode :=
 (.seq (.reg [⟨none, .mov 74 (.t 3)⟩,
 ⟨none, .bin 75 .eql (.t 74) (.c (.int .i64 0))⟩,
 ⟨none, .asg 76 (.t 75)⟩,
 ⟨some (76, false), .mov 77 (.t 0)⟩,
 ⟨some (76, false), .call 78 f_spec_l1Cur_one [((.t 77), true), ((.c (.int .i64 16)), false)]⟩,
 ⟨some (76, false), .un 79 .not (.t 78)⟩,
 ⟨none, .pick 80 (.t 76) (.c (.bool true)) (.t 79)⟩])
 (.drop [74, 75, 76, 77, 78, 79] (.cond (.t 80) (.seq (.reg [⟨none, .ld 81 1 true (.t 9)⟩,
 ⟨none, .st 1 (.t 2) (.t 81)⟩])
 (.drop [81] .ret))
 .skip)))
def c_spec_l1Cur_poset_l4 : ACode :=
 (.seq (.seq (.dreg [(⟨none, .fadr 130 0 (.t 9)⟩, [147]),
 (⟨none, .ld 131 1 false (.t 130)⟩, [147]),
 (⟨none, .len 132 (.t 131)⟩, [147]),
 (⟨none, .mov 133 (.t 0)⟩, [130, 131, 132]),
 (⟨none, .call 134 f_spec_l1Cur_pick [((.t 133), true), ((.c (.int .i64 2)), false)]⟩, [147, 130, 131, 132]),
 (⟨none, .bin 135 .add (.c (.int .i64 10)) (.t 134)⟩, [130, 131, 132])]
 [⟨none, .bin 136 .lss (.t 132) (.t 135)⟩])
 (.drop [130, 131, 132, 133, 134, 135] (.cond (.t 136) .skip
 (.exit 7))))
 (.drop [130, 131, 132, 133, 134, 135, 136] (.block 8 (.reg [⟨none, .fadr 137 0 (.t 9)⟩,
 ⟨none, .ld 138 1 false (.t 137)⟩,
 ⟨none, .fadr 139 0 (.t 9)⟩,
 ⟨none, .ld 140 1 false (.t 139)⟩,
 ⟨none, .len 141 (.t 140)⟩,
 ⟨none, .bsl 142 1 [(.t 141)]⟩,
 ⟨none, .bsl 143 1 [(.t 142)]⟩,
 ⟨none, .app 144 1 (.t 138) (.t 143)⟩,
 ⟨none, .fadr 145 0 (.t 9)⟩,
 ⟨none, .st 1 (.t 145) (.t 144)⟩]))))
def c_spec_l1Cur_poset : ACode :=
 (.seq (.reg [⟨none, .alc 2 (.agg [.nilsl 1])⟩])
 (.seq (.reg [⟨none, .mov 11 (.t 0)⟩,
 ⟨none, .bsl 12 1 [(.c (.int .i64 0)), (.c (.int .i64 1)), (.c (.int .i64 2)), (.c (.int .i64 3)), (.c (.int .i64 4)), (.c (.int .i64 4)), (.c (.int .i64 5)), (.c (.int .i64 5)), (.c (.int .i64 6)), (.c (.int .i64 7))]⟩,
 ⟨none, .call 13 f_spec_l1Cur_among [((.t 11), true), ((.t 12), false)]⟩,
 ⟨none, .asg 3 (.t 13)⟩])
 (.drop [11, 12, 13] (.seq (.reg [⟨none, .bsl 14 2 []⟩,
 ⟨none, .asg 4 (.t 14)⟩])
 (.drop [14] (.seq (.seq (.reg [⟨none, .asg 5 (.c (.int .i64 0))⟩])
 (.block 0 (.loop c_spec_l1Cur_poset_l2)))
 (.drop [5, 15, 16, 17, 20, 21, 6, 22, 23, 24, 27, 28, 29, 30, 31, 32, 33, 34, 25, 26, 18, 19] (.seq (.cut c_spec_l1Cur_poset_k2)
 (.drop [35, 36, 37, 7, 38, 39, 40, 41, 42, 43, 44, 8, 45, 46, 47, 48, 51, 52, 53, 54, 55, 56, 57, 58, 59, 60, 61, 62, 63, 64, 65, 66, 67, 68, 69, 70, 49, 50] (.seq (.reg [⟨none, .mov 71 (.t 3)⟩,
 ⟨none, .mov 72 (.t 4)⟩,
 ⟨none, .call 73 f_spec_l23From [((.t 71), false), ((.t 72), false)]⟩,
 ⟨none, .alc 9 (.agg [.nilsl 1])⟩,
 ⟨none, .st 1 (.t 9) (.t 73)⟩])
 (.drop [71, 72, 73] (.seq (.cut c_spec_l1Cur_poset_k3)
 (.drop [74, 75, 76, 77, 78, 79, 80, 81] (.seq (.reg [⟨none, .mov 82 (.t 0)⟩,
 ⟨none, .mov 83 (.t 3)⟩,
 ⟨none, .call 84 f_spec_l1Cur_pick [((.t 82), true), ((.t 83), false)]⟩,
 ⟨none, .asg 10 (.t 84)⟩])
 (.drop [82, 83, 84] (.seq (.seq (.reg [⟨none, .mov 85 (.t 0)⟩,
 ⟨none, .call 86 f_spec_l1Cur_pick [((.t 85), true), ((.c (.int .i64 4)), false)]⟩])
 (.drop [85] (.block 6 (.seq (.reg [⟨none, .bin 88 .eql (.t 86) (.c (.int .i64 0))⟩,
 ⟨none, .asg 87 (.t 88)⟩])
 (.drop [88] (.cond (.t 87) (.frz [200009] (.dreg [(⟨none, .fadr 89 0 (.t 9)⟩, []),
 (⟨none, .ld 90 1 false (.t 89)⟩, []),
 (⟨none, .mov 91 (.t 10)⟩, [89, 90]),
 (⟨none, .fadr 92 0 (.t 9)⟩, [89, 90, 91]),
 (⟨none, .ld 93 1 false (.t 92)⟩, [89, 90, 91]),
 (⟨none, .mov 94 (.t 10)⟩, [89, 90, 91, 92, 93]),
 (⟨none, .iad 95 1 (.t 93) (.t 94)⟩, [89, 90, 91]),
 (⟨none, .ld 96 1 false (.t 95)⟩, [89, 90, 91]),
 (⟨none, .slc 97 1 (.t 96) (some (.c (.int .i64 1))) none⟩, [89, 90, 91])]
 [⟨none, .iad 98 1 (.t 90) (.t 91)⟩,
 ⟨none, .st 1 (.t 98) (.t 97)⟩]))
 (.seq (.reg [⟨none, .bin 100 .eql (.t 86) (.c (.int .i64 1))⟩,
 ⟨none, .asg 99 (.t 100)⟩])
 (.drop [100] (.cond (.t 99) (.dregl [(0, .fadr 101 0 (.t 9)),
 (1, .ld 102 1 false (.t 101)),
 (2, .mov 103 (.t 10)),
 (3, .fadr 104 0 (.t 9)),
 (4, .ld 105 1 false (.t 104)),
 (5, .mov 106 (.t 10)),
 (6, .iad 107 1 (.t 105) (.t 106)),
 (7, .ld 108 1 false (.t 107)),
 (8, .mov 109 (.t 3))]
 [(9, .bsl 110 1 [(.t 109)], [0, 1, 2, 3, 4, 5, 6, 7, 8], []),
 (10, .app 111 1 (.t 108) (.t 110), [0, 1, 2, 3, 4, 5, 6, 7], [108]),
 (11, .iad 112 1 (.t 102) (.t 103), [0, 1, 2], []),
 (12, .st 1 (.t 112) (.t 111), [], [])])
 (.seq (.reg [⟨none, .bin 114 .eql (.t 86) (.c (.int .i64 2))⟩,
 ⟨none, .asg 113 (.t 114)⟩])
 (.drop [114] (.cond (.t 113) (.frz [200009] (.dreg [(⟨none, .fadr 115 0 (.t 9)⟩, [147]),
 (⟨none, .ld 116 1 false (.t 115)⟩, [147]),
 (⟨none, .mov 117 (.t 10)⟩, [147, 115, 116]),
 (⟨none, .fadr 118 0 (.t 9)⟩, [147, 115, 116, 117]),
 (⟨none, .ld 119 1 false (.t 118)⟩, [147, 115, 116, 117]),
 (⟨none, .mov 120 (.t 10)⟩, [147, 115, 116, 117, 118, 119]),
 (⟨none, .iad 121 1 (.t 119) (.t 120)⟩, [147, 115, 116, 117]),
 (⟨none, .ld 122 1 false (.t 121)⟩, [147, 115, 116, 117]),
 (⟨none, .mov 123 (.t 0)⟩, [115, 116, 117, 118, 119, 120, 121, 122]),
 (⟨none, .mov 124 (.t 3)⟩, [115, 116, 117, 118, 119, 120, 121, 122, 123]),
 (⟨none, .call 125 f_spec_l1Cur_pick [((.t 123), true), ((.t 124), false)]⟩, [147, 115, 116, 117, 118, 119, 120, 121, 122]),
 (⟨none, .call 126 f_spec_l1Put [((.t 122), false), ((.t 125), false)]⟩, [115, 116, 117])]
 [⟨none, .iad 127 1 (.t 116) (.t 117)⟩,
 ⟨none, .st 1 (.t 127) (.t 126)⟩]))
 (.seq (.reg [⟨none, .bin 129 .eql (.t 86) (.c (.int .i64 3))⟩,
 ⟨none, .asg 128 (.t 129)⟩])
 (.drop [129] (.cond (.t 128) (.block 7 (.loop c_spec_l1Cur_poset_l4))
 .skip)))))))))))))))
 (.drop [85, 86, 88, 87, 89, 90, 91, 92, 93, 94, 95, 96, 97, 98, 100, 99, 101, 102, 103, 104, 105, 106, 107, 108, 109, 110, 111, 112, 114, 113, 115, 116, 117, 118, 119, 120, 121, 122, 123, 124, 125, 126, 127, 129, 128, 130, 131, 132, 133, 134, 135, 136, 137, 138, 139, 140, 141, 142, 143, 144, 145] (.seq (.reg [⟨none, .ld 146 1 true (.t 9)⟩,
 ⟨none, .st 1 (.t 2) (.t 146)⟩])
 (.drop [146] .ret)))))))))))))))))))
abbrev r_spec_l1Cur_poset : List RS := [.c 2 1 true]
theorem k_spec_l1Cur_poset : fitsF Try.prog f_spec_l1Cur_poset 147 c_spec_l1Cur_poset r_spec_l1Cur_poset = true := by kernel_rfl

/- loop.example/g01078/spec.l23Pairs: [p=0, p=1, out=3, x=4, y=5] -/
def c_spec_l23Pairs_l1 : ACode :=
 (.seq (.seq (.reg [⟨none, .mov 14 (.t 5)⟩,
 ⟨none, .fadr 15 0 (.t 1)⟩,
 ⟨none, .ld 16 1 false (.t 15)⟩,
 ⟨none, .len 17 (.t 16)⟩,
 ⟨none, .bin 18 .lss (.t 14) (.t 17)⟩])
 (.drop [14, 15, 16, 17] (.cond (.t 18) .skip
 (.exit 2))))
 (.drop [14, 15, 16, 17, 18] (.seq (.block 3 (.seq (.reg [⟨none, .ld 21 1 true (.t 1)⟩,
 ⟨none, .mov 22 (.t 4)⟩,
 ⟨none, .mov 23 (.t 5)⟩,
 ⟨none, .call 24 f_spec_l23Covers [((.t 21), false), ((.t 22), false), ((.t 23), false)]⟩])
 (.drop [21, 22, 23] (.cond (.t 24) (.reg [⟨none, .mov 25 (.t 3)⟩,
 ⟨none, .mov 26 (.t 4)⟩,
 ⟨none, .mov 27 (.t 5)⟩,
 ⟨none, .bld 28 [.int .i64 0, .int .i64 0] [(0, 1, (.t 26)), (1, 1, (.t 27))]⟩,
 ⟨none, .bsl 29 2 [(.t 28)]⟩,
 ⟨none, .app 30 2 (.t 25) (.t 29)⟩,
 ⟨none, .asg 3 (.t 30)⟩])
 .skip))))
 (.drop [21, 22, 23, 24, 25, 26, 27, 28, 29, 30] (.reg [⟨none, .mov 19 (.t 5)⟩,
 ⟨none, .bin 20 .add (.t 19) (.c (.int .i64 1))⟩,
 ⟨none, .asg 5 (.t 20)⟩])))))
def c_spec_l23Pairs_l2 : ACode :=
 (.seq (.seq (.reg [⟨none, .mov 7 (.t 4)⟩,
 ⟨none, .fadr 8 0 (.t 1)⟩,
 ⟨none, .ld 9 1 false (.t 8)⟩,
 ⟨none, .len 10 (.t 9)⟩,
 ⟨none, .bin 11 .lss (.t 7) (.t 10)⟩])
 (.drop [7, 8, 9, 10] (.cond (.t 11) .skip
 (.exit 0))))
 (.drop [7, 8, 9, 10, 11] (.seq (.block 1 (.seq (.reg [⟨none, .asg 5 (.c (.int .i64 0))⟩])
 (.block 2 (.loop c_spec_l23Pairs_l1))))
 (.drop [5, 14, 15, 16, 17, 18, 21, 22, 23, 24, 25, 26, 27, 28, 29, 30, 19, 20] (.reg [⟨none, .mov 12 (.t 4)⟩,
 ⟨none, .bin 13 .add (.t 12) (.c (.int .i64 1))⟩,
 ⟨none, .asg 4 (.t 13)⟩])))))
def c_spec_l23Pairs : ACode :=
 (.seq (.reg [⟨none, .box 1 (.t 0)⟩,
 ⟨none, .asg 2 (.c (.nilsl 2))⟩])
 (.seq (.reg [⟨none, .bsl 6 2 []⟩,
 ⟨none, .asg 3 (.t 6)⟩])
 (.drop [6] (.seq (.seq (.reg [⟨none, .asg 4 (.c (.int .i64 0))⟩])
 (.block 0 (.loop c_spec_l23Pairs_l2)))
 (.drop [4, 7, 8, 9, 10, 11, 5, 14, 15, 16, 17, 18, 21, 22, 23, 24, 25, 26, 27, 28, 29, 30, 19, 20, 12, 13] (.seq (.reg [⟨none, .mov 31 (.t 3)⟩,
 ⟨none, .asg 2 (.t 31)⟩])
 (.drop [31] .ret)))))))
abbrev r_spec_l23Pairs : List RS := [.t 2]
theorem k_spec_l23Pairs : fitsF Try.prog f_spec_l23Pairs 32 c_spec_l23Pairs r_spec_l23Pairs = true := by kernel_rfl

/- (*loop.example/g01078/impl.lattice).irreducibles$1: [x=0, x=2] -/
def c_impl_lattice_irreducibles_1 : ACode :=
 (.seq (.reg [⟨none, .asg 3 (.c (.bool false))⟩])
 (.seq (.reg [⟨none, .ld 4 1 false (.t 1)⟩,
 ⟨none, .nck 5 (.t 4)⟩,
 ⟨none, .fadr 6 0 (.t 5)⟩,
 ⟨none, .ld 7 1 false (.t 6)⟩,
 ⟨none, .mov 8 (.t 0)⟩,
 ⟨none, .call 9 f_impl_order_lowerCovers [((.t 7), false), ((.t 8), false)]⟩,
 ⟨none, .len 10 (.t 9)⟩,
 ⟨none, .bin 11 .eql (.t 10) (.c (.int .i64 1))⟩,
 ⟨none, .asg 3 (.t 11)⟩])
 (.drop [4, 5, 6, 7, 8, 9, 10, 11] .ret)))
abbrev r_impl_lattice_irreducibles_1 : List RS := [.t 3]
theorem k_impl_lattice_irreducibles_1 : fitsF Try.prog f_impl_lattice_irreducibles_1 12 c_impl_lattice_irreducibles_1 r_impl_lattice_irreducibles_1 = true := by kernel_rfl

/- loop.example/g01078/impl.AtomsOf: [p=0, p=1] -/
def c_impl_AtomsOf : ACode :=
 (.seq (.reg [⟨none, .box 1 (.t 0)⟩,
 ⟨none, .asg 2 (.c (.nilsl 1))⟩,
 ⟨none, .asg 3 (.c (.bool false))⟩])
 (.seq (.reg [⟨none, .ld 4 1 true (.t 1)⟩,
 ⟨none, .call 5 f_impl_listOf [((.t 4), false), ((.c (.clo f_impl_lattice_atoms [])), false)]⟩,
 ⟨none, .ext 6 (.t 5) 0⟩,
 ⟨none, .ext 7 (.t 5) 1⟩,
 ⟨none, .asg 2 (.t 6)⟩,
 ⟨none, .asg 3 (.t 7)⟩])
 (.drop [4, 5, 6, 7] .ret)))
abbrev r_impl_AtomsOf : List RS := [.t 2, .t 3]
theorem k_impl_AtomsOf : fitsF Try.prog f_impl_AtomsOf 8 c_impl_AtomsOf r_impl_AtomsOf = true := by kernel_rfl

/- loop.example/g01078/spec.AtomsOf: [p=0, p=1] -/
def c_spec_AtomsOf : ACode :=
 (.seq (.reg [⟨none, .box 1 (.t 0)⟩,
 ⟨none, .asg 2 (.c (.nilsl 1))⟩,
 ⟨none, .asg 3 (.c (.bool false))⟩])
 (.seq (.seq (.reg [⟨none, .ld 4 1 true (.t 1)⟩,
 ⟨none, .call 5 f_spec_l24Good [((.t 4), false)]⟩,
 ⟨none, .un 6 .not (.t 5)⟩])
 (.drop [4, 5] (.cond (.t 6) (.seq (.reg [⟨none, .bsl 7 1 []⟩,
 ⟨none, .asg 2 (.t 7)⟩,
 ⟨none, .asg 3 (.c (.bool false))⟩])
 (.drop [7] .ret))
 .skip)))
 (.drop [4, 5, 6, 7] (.seq (.reg [⟨none, .ld 8 1 true (.t 1)⟩,
 ⟨none, .call 9 f_spec_l24Atoms [((.t 8), false)]⟩,
 ⟨none, .asg 2 (.t 9)⟩,
 ⟨none, .asg 3 (.c (.bool true))⟩])
 (.drop [8, 9] .ret)))))
abbrev r_spec_AtomsOf : List RS := [.t 2, .t 3]
theorem k_spec_AtomsOf : fitsF Try.prog f_spec_AtomsOf 10 c_spec_AtomsOf r_spec_AtomsOf = true := by kernel_rfl

/- (*loop.example/g01078/spec.l1Cur).lattice: [c=0, c=1, p=3, n=4, names=5, pairs=6, i=7] -/
def c_spec_l1Cur_lattice_k1 : ACode :=
 (.reg [⟨none, .mov 21 (.t 5)⟩,
 ⟨none, .mov 22 (.t 4)⟩,
 ⟨none, .call 23 f_spec_l2Perm [((.t 21), false), ((.t 22), false)]⟩,
 ⟨none, .asg 24 (.t 23)⟩,
 ⟨some (24, true), .mov 25 (.t 0)⟩,
 ⟨some (24, true), .call 26 f_spec_l1Cur_one [((.t 25), true), ((.c (.int .i64 2)), false)]⟩,
 ⟨none, .pick 27 (.t 24) (.t 26) (.c (.bool false))⟩])
def c_spec_l1Cur_lattice_l1 : ACode :=
 (.seq (.seq (.reg [⟨none, .mov 30 (.t 7)⟩,
 ⟨none, .mov 31 (.t 6)⟩,
 ⟨none, .len 32 (.t 31)⟩,
 ⟨none, .bin 33 .lss (.t 30) (.t 32)⟩])
 (.drop [30, 31, 32] (.cond (.t 33) .skip
 (.exit 0))))
 (.drop [30, 31, 32, 33] (.seq (.block 1 (.dreg [(⟨none, .mov 36 (.t 6)⟩, []),
 (⟨none, .mov 37 (.t 7)⟩, [36]),
 (⟨none, .mov 38 (.t 5)⟩, [36, 37]),
 (⟨none, .mov 39 (.t 6)⟩, [36, 37, 38]),
 (⟨none, .mov 40 (.t 7)⟩, [36, 37, 38, 39]),
 (⟨none, .iad 41 2 (.t 39) (.t 40)⟩, [36, 37, 38]),
 (⟨none, .aad 42 1 2 (.t 41) (.c (.int .i64 0))⟩, [36, 37, 38]),
 (⟨none, .ld 43 1 false (.t 42)⟩, [36, 37, 38]),
 (⟨none, .iad 44 1 (.t 38) (.t 43)⟩, [36, 37]),
 (⟨none, .ld 45 1 false (.t 44)⟩, [36, 37]),
 (⟨none, .mov 46 (.t 5)⟩, [36, 37, 38, 39, 40, 41, 42, 43, 44, 45]),
 (⟨none, .mov 47 (.t 6)⟩, [36, 37, 38, 39, 40, 41, 42, 43, 44, 45, 46]),
 (⟨none, .mov 48 (.t 7)⟩, [36, 37, 38, 39, 40, 41, 42, 43, 44, 45, 46, 47]),
 (⟨none, .iad 49 2 (.t 47) (.t 48)⟩, [36, 37, 38, 39, 40, 41, 42, 43, 44, 45, 46]),
 (⟨none, .aad 50 1 2 (.t 49) (.c (.int .i64 1))⟩, [36, 37, 38, 39, 40, 41, 42, 43, 44, 45, 46]),
 (⟨none, .ld 51 1 false (.t 50)⟩, [36, 37, 38, 39, 40, 41, 42, 43, 44, 45, 46]),
 (⟨none, .iad 52 1 (.t 46) (.t 51)⟩, [36, 37, 38, 39, 40, 41, 42, 43, 44, 45]),
 (⟨none, .ld 53 1 false (.t 52)⟩, [36, 37, 38, 39, 40, 41, 42, 43, 44, 45]),
 (⟨none, .bld 54 [.int .i64 0, .int .i64 0] [(0, 1, (.t 45)), (1, 1, (.t 53))]⟩, [36, 37])]
 [⟨none, .iad 55 2 (.t 36) (.t 37)⟩,
 ⟨none, .st 2 (.t 55) (.t 54)⟩]))
 (.drop [36, 37, 38, 39, 40, 41, 42, 43, 44, 45, 46, 47, 48, 49, 50, 51, 52, 53, 54, 55] (.reg [⟨none, .mov 34 (.t 7)⟩,
 ⟨none, .bin 35 .add (.t 34) (.c (.int .i64 1))⟩,
 ⟨none, .asg 7 (.t 35)⟩])))))
def c_spec_l1Cur_lattice : ACode :=
 (.seq (.reg [⟨none, .alc 2 (.agg [.nilsl 1])⟩])
 (.seq (.seq (.reg [⟨none, .mov 8 (.t 0)⟩,
 ⟨none, .call 9 f_spec_l1Cur_one [((.t 8), true), ((.c (.int .i64 10)), false)]⟩])
 (.drop [8] (.cond (.t 9) (.seq (.reg [⟨none, .mov 10 (.t 0)⟩,
 ⟨none, .call 11 f_spec_l1Cur_poset [((.t 10), true)]⟩,
 ⟨none, .st 1 (.t 2) (.t 11)⟩])
 (.drop [10, 11] .ret))
 .skip)))
 (.drop [8, 9, 10, 11] (.seq (.reg [⟨none, .mov 12 (.t 0)⟩,
 ⟨none, .call 13 f_spec_l1Cur_pick [((.t 12), true), ((.c (.int .i64 12)), false)]⟩,
 ⟨none, .call 14 f_spec_l24Known [((.t 13), false)]⟩,
 ⟨none, .alc 3 (.agg [.nilsl 1])⟩,
 ⟨none, .st 1 (.t 3) (.t 14)⟩])
 (.drop [12, 13, 14] (.seq (.reg [⟨none, .fadr 15 0 (.t 3)⟩,
 ⟨none, .ld 16 1 false (.t 15)⟩,
 ⟨none, .len 17 (.t 16)⟩,
 ⟨none, .asg 4 (.t 17)⟩])
 (.drop [15, 16, 17] (.seq (.seq (.reg [⟨none, .mov 18 (.t 0)⟩,
 ⟨none, .mov 19 (.t 4)⟩,
 ⟨none, .call 20 f_spec_l1Cur_names2 [((.t 18), true), ((.t 19), false)]⟩,
 ⟨none, .asg 5 (.t 20)⟩])
 (.drop [18, 19, 20] (.seq (.cut c_spec_l1Cur_lattice_k1)
 (.drop [21, 22, 23, 24, 25, 26] (.cond (.t 27) (.seq (.reg [⟨none, .ld 28 1 true (.t 3)⟩,
 ⟨none, .call 29 f_spec_l23Pairs [((.t 28), false)]⟩,
 ⟨none, .asg 6 (.t 29)⟩])
 (.drop [28, 29] (.seq (.seq (.reg [⟨none, .asg 7 (.c (.int .i64 0))⟩])
 (.block 0 (.loop c_spec_l1Cur_lattice_l1)))
 (.drop [7, 30, 31, 32, 33, 36, 37, 38, 39, 40, 41, 42, 43, 44, 45, 46, 47, 48, 49, 50, 51, 52, 53, 54, 55, 34, 35] (.reg [⟨none, .mov 56 (.t 4)⟩,
 ⟨none, .mov 57 (.t 6)⟩,
 ⟨none, .call 58 f_spec_l23From [((.t 56), false), ((.t 57), false)]⟩,
 ⟨none, .st 1 (.t 3) (.t 58)⟩])))))
 .skip)))))
 (.drop [18, 19, 20, 5, 21, 22, 23, 24, 25, 26, 27, 28, 29, 6, 7, 30, 31, 32, 33, 36, 37, 38, 39, 40, 41, 42, 43, 44, 45, 46, 47, 48, 49, 50, 51, 52, 53, 54, 55, 34, 35, 56, 57, 58] (.seq (.reg [⟨none, .ld 59 1 true (.t 3)⟩,
 ⟨none, .st 1 (.t 2) (.t 59)⟩])
 (.drop [59] .ret)))))))))))
abbrev r_spec_l1Cur_lattice : List RS := [.c 2 1 true]
theorem k_spec_l1Cur_lattice : fitsF Try.prog f_spec_l1Cur_lattice 60 c_spec_l1Cur_lattice r_spec_l1Cur_lattice = true := by kernel_rfl

/- (*loop.example/g01078/impl.lattice).irreducibles: [l=0, l=1] -/
def c_impl_lattice_irreducibles : ACode :=
 (.seq (.reg [⟨none, .box 1 (.t 0)⟩,
 ⟨none, .asg 2 (.c (.nilsl 1))⟩])
 (.seq (.reg [⟨none, .ld 3 1 false (.t 1)⟩,
 ⟨none, .nck 4 (.t 3)⟩,
 ⟨none, .fadr 5 0 (.t 4)⟩,
 ⟨none, .ld 6 1 false (.t 5)⟩,
 ⟨none, .mkf 7 f_impl_lattice_irreducibles_1 [(.t 1)]⟩,
 ⟨none, .call 8 f_impl_order_those [((.t 6), false), ((.t 7), false)]⟩,
 ⟨none, .asg 2 (.t 8)⟩])
 (.drop [3, 4, 5, 6, 7, 8] .ret)))
abbrev r_impl_lattice_irreducibles : List RS := [.t 2]
theorem k_impl_lattice_irreducibles : fitsF Try.prog f_impl_lattice_irreducibles 9 c_impl_lattice_irreducibles r_impl_lattice_irreducibles = true := by kernel_rfl

/- loop.example/g01078/spec.DrawProductLattice: [code=0, code=1, c=4] -/
def c_spec_DrawProductLattice : ACode :=
 (.seq (.reg [⟨none, .alc 2 (.agg [.nilsl 1])⟩,
 ⟨none, .alc 3 (.agg [.nilsl 1])⟩])
 (.seq (.reg [⟨none, .mov 5 (.t 0)⟩,
 ⟨none, .bld 6 [.nilsl 1, .int .i64 0, .int .u64 0] [(0, 1, (.t 5))]⟩,
 ⟨none, .box 7 (.t 6)⟩,
 ⟨none, .asg 4 (.t 7)⟩])
 (.drop [5, 6, 7] (.seq (.seq (.reg [⟨none, .mov 8 (.t 4)⟩,
 ⟨none, .call 9 f_spec_l1Cur_one [((.t 8), true), ((.c (.int .i64 2)), false)]⟩])
 (.drop [8] (.cond (.t 9) (.seq (.reg [⟨none, .mov 10 (.t 4)⟩,
 ⟨none, .call 11 f_spec_l1Cur_pick [((.t 10), true), ((.c (.int .i64 4)), false)]⟩,
 ⟨none, .call 12 f_spec_l24Known [((.t 11), false)]⟩,
 ⟨none, .mov 13 (.t 4)⟩,
 ⟨none, .call 14 f_spec_l1Cur_pick [((.t 13), true), ((.c (.int .i64 6)), false)]⟩,
 ⟨none, .call 15 f_spec_l24Known [((.t 14), false)]⟩,
 ⟨none, .st 1 (.t 2) (.t 12)⟩,
 ⟨none, .st 1 (.t 3) (.t 15)⟩])
 (.drop [10, 11, 12, 13, 14, 15] .ret))
 .skip)))
 (.drop [8, 9, 10, 11, 12, 13, 14, 15] (.seq (.reg [⟨none, .mov 16 (.t 4)⟩,
 ⟨none, .call 17 f_spec_l1Cur_lattice [((.t 16), true)]⟩,
 ⟨none, .mov 18 (.t 4)⟩,
 ⟨none, .call 19 f_spec_l1Cur_lattice [((.t 18), true)]⟩,
 ⟨none, .st 1 (.t 2) (.t 17)⟩,
 ⟨none, .st 1 (.t 3) (.t 19)⟩])
 (.drop [16, 17, 18, 19] .ret)))))))
abbrev r_spec_DrawProductLattice : List RS := [.c 2 1 true, .c 3 1 true]
theorem k_spec_DrawProductLattice : fitsF Try.prog f_spec_DrawProductLattice 20 c_spec_DrawProductLattice r_spec_DrawProductLattice = true := by kernel_rfl

/- loop.example/g01078/impl.JoinIrreducibles: [p=0, p=1] -/
def c_impl_JoinIrreducibles : ACode :=
 (.seq (.reg [⟨none, .box 1 (.t 0)⟩,
 ⟨none, .asg 2 (.c (.nilsl 1))⟩,
 ⟨none, .asg 3 (.c (.bool false))⟩])
 (.seq (.reg [⟨none, .ld 4 1 true (.t 1)⟩,
 ⟨none, .call 5 f_impl_listOf [((.t 4), false), ((.c (.clo f_impl_lattice_irreducibles [])), false)]⟩,
 ⟨none, .ext 6 (.t 5) 0⟩,
 ⟨none, .ext 7 (.t 5) 1⟩,
 ⟨none, .asg 2 (.t 6)⟩,
 ⟨none, .asg 3 (.t 7)⟩])
 (.drop [4, 5, 6, 7] .ret)))
abbrev r_impl_JoinIrreducibles : List RS := [.t 2, .t 3]
theorem k_impl_JoinIrreducibles : fitsF Try.prog f_impl_JoinIrreducibles 8 c_impl_JoinIrreducibles r_impl_JoinIrreducibles = true := by kernel_rfl

/- loop.example/g01078/spec.DrawStackLattice: [code=0, code=1] -/
def c_spec_DrawStackLattice : ACode :=
 (.seq (.reg [⟨none, .alc 2 (.agg [.nilsl 1])⟩,
 ⟨none, .alc 3 (.agg [.nilsl 1])⟩])
 (.seq (.reg [⟨none, .mov 4 (.t 0)⟩,
 ⟨none, .call 5 f_spec_DrawProductLattice [((.t 4), false)]⟩,
 ⟨none, .ext 6 (.t 5) 0⟩,
 ⟨none, .ext 7 (.t 5) 1⟩,
 ⟨none, .st 1 (.t 2) (.t 6)⟩,
 ⟨none, .st 1 (.t 3) (.t 7)⟩])
 (.drop [4, 5, 6, 7] .ret)))
abbrev r_spec_DrawStackLattice : List RS := [.c 2 1 true, .c 3 1 true]
theorem k_spec_DrawStackLattice : fitsF Try.prog f_spec_DrawStackLattice 8 c_spec_DrawStackLattice r_spec_DrawStackLattice = true := by kernel_rfl

/- loop.example/g01078/laws.FnLatticeProducts: [code=0, code=1, p=3, q=4, r=5, ok=6, want=7, wants=8, a=9, one=10, b=11, two=12, c=13, three=14, want=15, wants=16, x=17, four=18, y=19, five=20, z=21, six=22, u=23, v=24, w=25, fine=26, want=27, wants=28, bottom=29, _=30, one=31, _=32, top=33, two=34, low=35, high=36, three=37] -/
def c_laws_FnLatticeProducts_k1 : ACode :=
 (.seq (.reg [⟨none, .ld 52 1 true (.t 3)⟩,
 ⟨none, .ld 53 1 true (.t 4)⟩,
 ⟨none, .call 54 f_spec_ProductLattice [((.t 52), false), ((.t 53), false)]⟩,
 ⟨none, .asg 51 (.t 54)⟩,
 ⟨none, .ext 55 (.t 51) 0⟩,
 ⟨none, .ext 56 (.t 51) 1⟩,
 ⟨none, .alc 7 (.agg [.nilsl 1])⟩,
 ⟨none, .st 1 (.t 7) (.t 55)⟩,
 ⟨none, .asg 8 (.t 56)⟩])
 (.drop [52, 53, 54, 51, 55, 56] (.seq (.reg [⟨none, .mov 57 (.t 6)⟩,
 ⟨none, .mov 58 (.t 8)⟩,
 ⟨none, .binb 59 .neq (.t 57) (.t 58)⟩,
 ⟨none, .asg 60 (.t 59)⟩,
 ⟨some (60, false), .fadr 61 0 (.t 5)⟩,
 ⟨some (60, false), .ld 62 1 false (.t 61)⟩,
 ⟨some (60, false), .fadr 63 0 (.t 7)⟩,
 ⟨some (60, false), .ld 64 1 false (.t 63)⟩,
 ⟨some (60, false), .call 65 f_laws_rTable [((.t 62), false), ((.t 64), false)]⟩,
 ⟨some (60, false), .un 66 .not (.t 65)⟩,
 ⟨none, .pick 67 (.t 60) (.c (.bool true)) (.t 66)⟩])
 (.drop [57, 58, 59, 60, 61, 62, 63, 64, 65, 66] (.cond (.t 67) (.seq (.reg [⟨none, .asg 2 (.c (.bool false))⟩])
 .ret)
 .skip)))))
def c_laws_FnLatticeProducts_k2 : ACode :=
 (.seq (.reg [⟨none, .ld 85 1 true (.t 5)⟩,
 ⟨none, .call 86 f_spec_AtomsOf [((.t 85), false)]⟩,
 ⟨none, .asg 84 (.t 86)⟩,
 ⟨none, .ext 87 (.t 84) 0⟩,
 ⟨none, .ext 88 (.t 84) 1⟩,
 ⟨none, .asg 15 (.t 87)⟩,
 ⟨none, .asg 16 (.t 88)⟩])
 (.drop [85, 86, 84, 87, 88] (.seq (.reg [⟨none, .mov 89 (.t 14)⟩,
 ⟨none, .mov 90 (.t 16)⟩,
 ⟨none, .binb 91 .neq (.t 89) (.t 90)⟩,
 ⟨none, .asg 92 (.t 91)⟩,
 ⟨some (92, false), .mov 93 (.t 13)⟩,
 ⟨some (92, false), .mov 94 (.t 15)⟩,
 ⟨some (92, false), .call 95 f_laws_rInts [((.t 93), false), ((.t 94), false)]⟩,
 ⟨some (92, false), .un 96 .not (.t 95)⟩,
 ⟨none, .pick 97 (.t 92) (.c (.bool true)) (.t 96)⟩])
 (.drop [89, 90, 91, 92, 93, 94, 95, 96] (.cond (.t 97) (.seq (.reg [⟨none, .asg 2 (.c (.bool false))⟩])
 .ret)
 .skip)))))
def c_laws_FnLatticeProducts_k3 : ACode :=
 (.seq (.reg [⟨none, .ld 98 1 true (.t 5)⟩,
 ⟨none, .call 99 f_impl_IsLattice [((.t 98), false)]⟩,
 ⟨none, .un 100 .not (.t 99)⟩,
 ⟨none, .asg 101 (.t 100)⟩,
 ⟨some (101, false), .mov 102 (.t 10)⟩,
 ⟨some (101, false), .un 103 .not (.t 102)⟩,
 ⟨none, .pick 104 (.t 101) (.c (.bool true)) (.t 103)⟩,
 ⟨none, .asg 105 (.t 104)⟩,
 ⟨some (105, false), .mov 106 (.t 12)⟩,
 ⟨some (105, false), .un 107 .not (.t 106)⟩,
 ⟨none, .pick 108 (.t 105) (.c (.bool true)) (.t 107)⟩,
 ⟨none, .asg 109 (.t 108)⟩,
 ⟨some (109, false), .mov 110 (.t 14)⟩,
 ⟨some (109, false), .un 111 .not (.t 110)⟩,
 ⟨none, .pick 112 (.t 109) (.c (.bool true)) (.t 111)⟩,
 ⟨none, .asg 113 (.t 112)⟩,
 ⟨some (113, false), .mov 114 (.t 13)⟩,
 ⟨some (113, false), .len 115 (.t 114)⟩,
 ⟨some (113, false), .mov 116 (.t 9)⟩,
 ⟨some (113, false), .len 117 (.t 116)⟩,
 ⟨some (113, false), .mov 118 (.t 11)⟩,
 ⟨some (113, false), .len 119 (.t 118)⟩,
 ⟨some (113, false), .bin 120 .add (.t 117) (.t 119)⟩,
 ⟨some (113, false), .bin 121 .neq (.t 115) (.t 120)⟩,
 ⟨none, .pick 122 (.t 113) (.c (.bool true)) (.t 121)⟩])
 (.drop [98, 99, 100, 101, 102, 103, 104, 105, 106, 107, 108, 109, 110, 111, 112, 113, 114, 115, 116, 117, 118, 119, 120, 121] (.cond (.t 122) (.seq (.reg [⟨none, .asg 2 (.c (.bool false))⟩])
 .ret)
 .skip)))
def c_laws_FnLatticeProducts_k4 : ACode :=
 (.seq (.reg [⟨none, .mov 68 (.t 6)⟩])
 (.cond (.t 68) (.seq (.reg [⟨none, .ld 70 1 true (.t 3)⟩,
 ⟨none, .call 71 f_impl_AtomsOf [((.t 70), false)]⟩,
 ⟨none, .asg 69 (.t 71)⟩,
 ⟨none, .ext 72 (.t 69) 0⟩,
 ⟨none, .ext 73 (.t 69) 1⟩,
 ⟨none, .asg 9 (.t 72)⟩,
 ⟨none, .asg 10 (.t 73)⟩])
 (.drop [70, 71, 69, 72, 73] (.seq (.reg [⟨none, .ld 75 1 true (.t 4)⟩,
 ⟨none, .call 76 f_impl_AtomsOf [((.t 75), false)]⟩,
 ⟨none, .asg 74 (.t 76)⟩,
 ⟨none, .ext 77 (.t 74) 0⟩,
 ⟨none, .ext 78 (.t 74) 1⟩,
 ⟨none, .asg 11 (.t 77)⟩,
 ⟨none, .asg 12 (.t 78)⟩])
 (.drop [75, 76, 74, 77, 78] (.seq (.reg [⟨none, .ld 80 1 true (.t 5)⟩,
 ⟨none, .call 81 f_impl_AtomsOf [((.t 80), false)]⟩,
 ⟨none, .asg 79 (.t 81)⟩,
 ⟨none, .ext 82 (.t 79) 0⟩,
 ⟨none, .ext 83 (.t 79) 1⟩,
 ⟨none, .asg 13 (.t 82)⟩,
 ⟨none, .asg 14 (.t 83)⟩])
 (.drop [80, 81, 79, 82, 83] (.seq (.cut c_laws_FnLatticeProducts_k2)
 (.drop [85, 86, 84, 87, 88, 15, 16, 89, 90, 91, 92, 93, 94, 95, 96, 97] (.seq (.cut c_laws_FnLatticeProducts_k3)
 (.drop [98, 99, 100, 101, 102, 103, 104, 105, 106, 107, 108, 109, 110, 111, 112, 113, 114, 115, 116, 117, 118, 119, 120, 121, 122] (.seq (.reg [⟨none, .ld 124 1 true (.t 3)⟩,
 ⟨none, .call 125 f_impl_JoinIrreducibles [((.t 124), false)]⟩,
 ⟨none, .asg 123 (.t 125)⟩,
 ⟨none, .ext 126 (.t 123) 0⟩,
 ⟨none, .ext 127 (.t 123) 1⟩,
 ⟨none, .asg 17 (.t 126)⟩,
 ⟨none, .asg 18 (.t 127)⟩])
 (.drop [124, 125, 123, 126, 127] (.seq (.reg [⟨none, .ld 129 1 true (.t 4)⟩,
 ⟨none, .call 130 f_impl_JoinIrreducibles [((.t 129), false)]⟩,
 ⟨none, .asg 128 (.t 130)⟩,
 ⟨none, .ext 131 (.t 128) 0⟩,
 ⟨none, .ext 132 (.t 128) 1⟩,
 ⟨none, .asg 19 (.t 131)⟩,
 ⟨none, .asg 20 (.t 132)⟩])
 (.drop [129, 130, 128, 131, 132] (.seq (.reg [⟨none, .ld 134 1 true (.t 5)⟩,
 ⟨none, .call 135 f_impl_JoinIrreducibles [((.t 134), false)]⟩,
 ⟨none, .asg 133 (.t 135)⟩,
 ⟨none, .ext 136 (.t 133) 0⟩,
 ⟨none, .ext 137 (.t 133) 1⟩,
 ⟨none, .asg 21 (.t 136)⟩,
 ⟨none, .asg 22 (.t 137)⟩])
 (.drop [134, 135, 133, 136, 137] (.seq (.reg [⟨none, .mov 138 (.t 18)⟩,
 ⟨none, .un 139 .not (.t 138)⟩,
 ⟨none, .asg 140 (.t 139)⟩,
 ⟨some (140, false), .mov 141 (.t 20)⟩,
 ⟨some (140, false), .un 142 .not (.t 141)⟩,
 ⟨none, .pick 143 (.t 140) (.c (.bool true)) (.t 142)⟩,
 ⟨none, .asg 144 (.t 143)⟩,
 ⟨some (144, false), .mov 145 (.t 22)⟩,
 ⟨some (144, false), .un 146 .not (.t 145)⟩,
 ⟨none, .pick 147 (.t 144) (.c (.bool true)) (.t 146)⟩,
 ⟨none, .asg 148 (.t 147)⟩,
 ⟨some (148, false), .mov 149 (.t 21)⟩,
 ⟨some (148, false), .len 150 (.t 149)⟩,
 ⟨some (148, false), .mov 151 (.t 17)⟩,
 ⟨some (148, false), .len 152 (.t 151)⟩,
 ⟨some (148, false), .mov 153 (.t 19)⟩,
 ⟨some (148, false), .len 154 (.t 153)⟩,
 ⟨some (148, false), .bin 155 .add (.t 152) (.t 154)⟩,
 ⟨some (148, false), .bin 156 .neq (.t 150) (.t 155)⟩,
 ⟨none, .pick 157 (.t 148) (.c (.bool true)) (.t 156)⟩])
 (.drop [138, 139, 140, 141, 142, 143, 144, 145, 146, 147, 148, 149, 150, 151, 152, 153, 154, 155, 156] (.cond (.t 157) (.seq (.reg [⟨none, .asg 2 (.c (.bool false))⟩])
 .ret)
 .skip)))))))))))))))))))
 .skip))
def c_laws_FnLatticeProducts_k5 : ACode :=
 (.seq (.reg [⟨none, .ld 170 1 true (.t 23)⟩,
 ⟨none, .ld 171 1 true (.t 24)⟩,
 ⟨none, .call 172 f_spec_StackLattice [((.t 170), false), ((.t 171), false)]⟩,
 ⟨none, .asg 169 (.t 172)⟩,
 ⟨none, .ext 173 (.t 169) 0⟩,
 ⟨none, .ext 174 (.t 169) 1⟩,
 ⟨none, .alc 27 (.agg [.nilsl 1])⟩,
 ⟨none, .st 1 (.t 27) (.t 173)⟩,
 ⟨none, .asg 28 (.t 174)⟩])
 (.drop [170, 171, 172, 169, 173, 174] (.seq (.reg [⟨none, .mov 175 (.t 26)⟩,
 ⟨none, .mov 176 (.t 28)⟩,
 ⟨none, .binb 177 .neq (.t 175) (.t 176)⟩,
 ⟨none, .asg 178 (.t 177)⟩,
 ⟨some (178, false), .fadr 179 0 (.t 25)⟩,
 ⟨some (178, false), .ld 180 1 false (.t 179)⟩,
 ⟨some (178, false), .fadr 181 0 (.t 27)⟩,
 ⟨some (178, false), .ld 182 1 false (.t 181)⟩,
 ⟨some (178, false), .call 183 f_laws_rTable [((.t 180), false), ((.t 182), false)]⟩,
 ⟨some (178, false), .un 184 .not (.t 183)⟩,
 ⟨none, .pick 185 (.t 178) (.c (.bool true)) (.t 184)⟩])
 (.drop [175, 176, 177, 178, 179, 180, 181, 182, 183, 184] (.cond (.t 185) (.seq (.reg [⟨none, .asg 2 (.c (.bool false))⟩])
 .ret)
 .skip)))))
def c_laws_FnLatticeProducts : ACode :=
 (.seq (.reg [⟨none, .asg 2 (.c (.bool false))⟩])
 (.seq (.seq (.reg [⟨none, .mov 38 (.t 0)⟩,
 ⟨none, .call 39 f_laws_rBig [((.t 38), false)]⟩])
 (.drop [38] (.cond (.t 39) (.seq (.reg [⟨none, .asg 2 (.c (.bool true))⟩])
 .ret)
 .skip)))
 (.drop [38, 39] (.seq (.reg [⟨none, .mov 41 (.t 0)⟩,
 ⟨none, .call 42 f_spec_DrawProductLattice [((.t 41), false)]⟩,
 ⟨none, .asg 40 (.t 42)⟩,
 ⟨none, .ext 43 (.t 40) 0⟩,
 ⟨none, .ext 44 (.t 40) 1⟩,
 ⟨none, .alc 3 (.agg [.nilsl 1])⟩,
 ⟨none, .alc 4 (.agg [.nilsl 1])⟩,
 ⟨none, .st 1 (.t 3) (.t 43)⟩,
 ⟨none, .st 1 (.t 4) (.t 44)⟩])
 (.drop [41, 42, 40, 43, 44] (.seq (.reg [⟨none, .ld 46 1 true (.t 3)⟩,
 ⟨none, .ld 47 1 true (.t 4)⟩,
 ⟨none, .call 48 f_impl_ProductLattice [((.t 46), false), ((.t 47), false)]⟩,
 ⟨none, .asg 45 (.t 48)⟩,
 ⟨none, .ext 49 (.t 45) 0⟩,
 ⟨none, .ext 50 (.t 45) 1⟩,
 ⟨none, .alc 5 (.agg [.nilsl 1])⟩,
 ⟨none, .st 1 (.t 5) (.t 49)⟩,
 ⟨none, .asg 6 (.t 50)⟩])
 (.drop [46, 47, 48, 45, 49, 50] (.seq (.cut c_laws_FnLatticeProducts_k1)
 (.drop [52, 53, 54, 51, 55, 56, 7, 8, 57, 58, 59, 60, 61, 62, 63, 64, 65, 66, 67] (.seq (.cut c_laws_FnLatticeProducts_k4)
 (.drop [68, 70, 71, 69, 72, 73, 9, 10, 75, 76, 74, 77, 78, 11, 12, 80, 81, 79, 82, 83, 13, 14, 85, 86, 84, 87, 88, 15, 16, 89, 90, 91, 92, 93, 94, 95, 96, 97, 98, 99, 100, 101, 102, 103, 104, 105, 106, 107, 108, 109, 110, 111, 112, 113, 114, 115, 116, 117, 118, 119, 120, 121, 122, 124, 125, 123, 126, 127, 17, 18, 129, 130, 128, 131, 132, 19, 20, 134, 135, 133, 136, 137, 21, 22, 138, 139, 140, 141, 142, 143, 144, 145, 146, 147, 148, 149, 150, 151, 152, 153, 154, 155, 156, 157] (.seq (.reg [⟨none, .mov 159 (.t 0)⟩,
 ⟨none, .call 160 f_spec_DrawStackLattice [((.t 159), false)]⟩,
 ⟨none, .asg 158 (.t 160)⟩,
 ⟨none, .ext 161 (.t 158) 0⟩,
 ⟨none, .ext 162 (.t 158) 1⟩,
 ⟨none, .alc 23 (.agg [.nilsl 1])⟩,
 ⟨none, .alc 24 (.agg [.nilsl 1])⟩,
 ⟨none, .st 1 (.t 23) (.t 161)⟩,
 ⟨none, .st 1 (.t 24) (.t 162)⟩])
 (.drop [159, 160, 158, 161, 162] (.seq (.reg [⟨none, .ld 164 1 true (.t 23)⟩,
 ⟨none, .ld 165 1 true (.t 24)⟩,
 ⟨none, .call 166 f_impl_StackLattice [((.t 164), false), ((.t 165), false)]⟩,
 ⟨none, .asg 163 (.t 166)⟩,
 ⟨none, .ext 167 (.t 163) 0⟩,
 ⟨none, .ext 168 (.t 163) 1⟩,
 ⟨none, .alc 25 (.agg [.nilsl 1])⟩,
 ⟨none, .st 1 (.t 25) (.t 167)⟩,
 ⟨none, .asg 26 (.t 168)⟩])
 (.drop [164, 165, 166, 163, 167, 168] (.seq (.cut c_laws_FnLatticeProducts_k5)
 (.drop [170, 171, 172, 169, 173, 174, 27, 28, 175, 176, 177, 178, 179, 180, 181, 182, 183, 184, 185] (.seq (.seq (.reg [⟨none, .mov 186 (.t 26)⟩])
 (.cond (.t 186) (.seq (.reg [⟨none, .ld 188 1 true (.t 23)⟩,
 ⟨none, .call 189 f_impl_EndsOf [((.t 188), false)]⟩,
 ⟨none, .asg 187 (.t 189)⟩,
 ⟨none, .ext 190 (.t 187) 0⟩,
 ⟨none, .ext 191 (.t 187) 1⟩,
 ⟨none, .ext 192 (.t 187) 2⟩,
 ⟨none, .asg 29 (.t 190)⟩,
 ⟨none, .asg 30 (.t 191)⟩,
 ⟨none, .asg 31 (.t 192)⟩])
 (.drop [188, 189, 187, 190, 191, 192, 30] (.seq (.reg [⟨none, .ld 194 1 true (.t 24)⟩,
 ⟨none, .call 195 f_impl_EndsOf [((.t 194), false)]⟩,
 ⟨none, .asg 193 (.t 195)⟩,
 ⟨none, .ext 196 (.t 193) 0⟩,
 ⟨none, .ext 197 (.t 193) 1⟩,
 ⟨none, .ext 198 (.t 193) 2⟩,
 ⟨none, .asg 32 (.t 196)⟩,
 ⟨none, .asg 33 (.t 197)⟩,
 ⟨none, .asg 34 (.t 198)⟩])
 (.drop [194, 195, 193, 196, 197, 198, 32] (.seq (.reg [⟨none, .ld 200 1 true (.t 25)⟩,
 ⟨none, .call 201 f_impl_EndsOf [((.t 200), false)]⟩,
 ⟨none, .asg 199 (.t 201)⟩,
 ⟨none, .ext 202 (.t 199) 0⟩,
 ⟨none, .ext 203 (.t 199) 1⟩,
 ⟨none, .ext 204 (.t 199) 2⟩,
 ⟨none, .asg 35 (.t 202)⟩,
 ⟨none, .asg 36 (.t 203)⟩,
 ⟨none, .asg 37 (.t 204)⟩])
 (.drop [200, 201, 199, 202, 203, 204] (.seq (.reg [⟨none, .ld 205 1 true (.t 25)⟩,
 ⟨none, .call 206 f_impl_IsLattice [((.t 205), false)]⟩,
 ⟨none, .un 207 .not (.t 206)⟩,
 ⟨none, .asg 208 (.t 207)⟩,
 ⟨some (208, false), .mov 209 (.t 31)⟩,
 ⟨some (208, false), .un 210 .not (.t 209)⟩,
 ⟨none, .pick 211 (.t 208) (.c (.bool true)) (.t 210)⟩,
 ⟨none, .asg 212 (.t 211)⟩,
 ⟨some (212, false), .mov 213 (.t 34)⟩,
 ⟨some (212, false), .un 214 .not (.t 213)⟩,
 ⟨none, .pick 215 (.t 212) (.c (.bool true)) (.t 214)⟩,
 ⟨none, .asg 216 (.t 215)⟩,
 ⟨some (216, false), .mov 217 (.t 37)⟩,
 ⟨some (216, false), .un 218 .not (.t 217)⟩,
 ⟨none, .pick 219 (.t 216) (.c (.bool true)) (.t 218)⟩,
 ⟨none, .asg 220 (.t 219)⟩,
 ⟨some (220, false), .mov 221 (.t 35)⟩,
 ⟨some (220, false), .mov 222 (.t 29)⟩,
 ⟨some (220, false), .bin 223 .neq (.t 221) (.t 222)⟩,
 ⟨none, .pick 224 (.t 220) (.c (.bool true)) (.t 223)⟩,
 ⟨none, .asg 225 (.t 224)⟩,
 ⟨some (225, false), .mov 226 (.t 36)⟩,
 ⟨some (225, false), .mov 227 (.t 33)⟩,
 ⟨some (225, false), .fadr 228 0 (.t 23)⟩,
 ⟨some (225, false), .ld 229 1 false (.t 228)⟩,
 ⟨some (225, false), .len 230 (.t 229)⟩,
 ⟨some (225, false), .bin 231 .add (.t 227) (.t 230)⟩,
 ⟨some (225, false), .bin 232 .neq (.t 226) (.t 231)⟩,
 ⟨none, .pick 233 (.t 225) (.c (.bool true)) (.t 232)⟩])
 (.drop [205, 206, 207, 208, 209, 210, 211, 212, 213, 214, 215, 216, 217, 218, 219, 220, 221, 222, 223, 224, 225, 226, 227, 228, 229, 230, 231, 232] (.cond (.t 233) (.seq (.reg [⟨none, .asg 2 (.c (.bool false))⟩])
 .ret)
 .skip)))))))))
 .skip))
 (.drop [186, 188, 189, 187, 190, 191, 192, 29, 30, 31, 194, 195, 193, 196, 197, 198, 32, 33, 34, 200, 201, 199, 202, 203, 204, 35, 36, 37, 205, 206, 207, 208, 209, 210, 211, 212, 213, 214, 215, 216, 217, 218, 219, 220, 221, 222, 223, 224, 225, 226, 227, 228, 229, 230, 231, 232, 233] (.seq (.reg [⟨none, .asg 2 (.c (.bool true))⟩])
 .ret))))))))))))))))))))
abbrev r_laws_FnLatticeProducts : List RS := [.t 2]
theorem k_laws_FnLatticeProducts : fitsF Try.prog f_laws_FnLatticeProducts 234 c_laws_FnLatticeProducts r_laws_FnLatticeProducts = true := by kernel_rfl

end Go.Proofs.Ytoikbcagaanhgaa.Ax
