/-
  The small code of the functions, written by program; that the program's code is this one, the kernel looks at.
-/
import Derived.Test.YtoikbcagaanhgaaAx3
import Derived.Test.YtoikbcagaanhgaaProg
import Derived.KernelRfl
import Derived.Test.YtoikbcagaanhgaaNum
namespace Go.Proofs.Ytoikbcagaanhgaa.Ax
open Go
set_option maxRecDepth 100000

/- loop.example/g01078/spec.l23Good: [p=0, p=1, n=3, x=4, x=5, i=6, y=7] -/
def c_spec_l23Good_l1 : ACode :=
 (.seq (.seq (.reg [un (.mov 13 (.t 4)),
 un (.mov 14 (.t 3)),
 un (.bin 15 .lss (.t 13) (.t 14))])
 (.drop [13, 14] (.cond (.t 15) .skip
 (.exit 0))))
 (.drop [13, 14, 15] (.seq (.block 1 (.seq (.reg [un (.fadr 18 0 (.t 1)),
 un (.ld 19 1 false (.t 18)),
 un (.mov 20 (.t 4)),
 un (.iad 21 1 (.t 19) (.t 20)),
 un (.ld 22 1 false (.t 21)),
 un (.mov 23 (.t 3)),
 un (.bin 24 .sub (.t 23) (.c (.int .i64 1))),
 un (.call 25 f_spec_l1Rising [((.t 22), false), ((.c (.int .i64 0)), false), ((.t 24), false)]),
 un (.un 26 .not (.t 25)),
 un (.asg 27 (.t 26)),
 ⟨some (27, false), .fadr 28 0 (.t 1)⟩,
 ⟨some (27, false), .ld 29 1 false (.t 28)⟩,
 ⟨some (27, false), .mov 30 (.t 4)⟩,
 ⟨some (27, false), .iad 31 1 (.t 29) (.t 30)⟩,
 ⟨some (27, false), .ld 32 1 false (.t 31)⟩,
 ⟨some (27, false), .mov 33 (.t 4)⟩,
 ⟨some (27, false), .call 34 f_spec_l1Has [((.t 32), false), ((.t 33), false)]⟩,
 ⟨some (27, false), .un 35 .not (.t 34)⟩,
 un (.pick 36 (.t 27) (.c (.bool true)) (.t 35))])
 (.drop [18, 19, 20, 21, 22, 23, 24, 25, 26, 27, 28, 29, 30, 31, 32, 33, 34, 35] (.cond (.t 36) (.seq (.reg [un (.asg 2 (.c (.bool false)))])
 .ret)
 .skip))))
 (.drop [18, 19, 20, 21, 22, 23, 24, 25, 26, 27, 28, 29, 30, 31, 32, 33, 34, 35, 36] (.reg [un (.mov 16 (.t 4)),
 un (.bin 17 .add (.t 16) (.c (.int .i64 1))),
 un (.asg 4 (.t 17))])))))
def c_spec_l23Good_l2 : ACode :=
 (.seq (.seq (.reg [un (.mov 42 (.t 6)),
 un (.fadr 43 0 (.t 1)),
 un (.ld 44 1 false (.t 43)),
 un (.mov 45 (.t 5)),
 un (.iad 46 1 (.t 44) (.t 45)),
 un (.ld 47 1 false (.t 46)),
 un (.len 48 (.t 47)),
 un (.bin 49 .lss (.t 42) (.t 48))])
 (.drop [42, 43, 44, 45, 46, 47, 48] (.cond (.t 49) .skip
 (.exit 4))))
 (.drop [42, 43, 44, 45, 46, 47, 48, 49] (.seq (.block 5 (.seq (.reg [un (.fadr 52 0 (.t 1)),
 un (.ld 53 1 false (.t 52)),
 un (.mov 54 (.t 5)),
 un (.iad 55 1 (.t 53) (.t 54)),
 un (.ld 56 1 false (.t 55)),
 un (.mov 57 (.t 6)),
 un (.iad 58 1 (.t 56) (.t 57)),
 un (.ld 59 1 false (.t 58)),
 un (.asg 7 (.t 59))])
 (.drop [52, 53, 54, 55, 56, 57, 58, 59] (.seq (.dreg [(un (.mov 60 (.t 7)), []),
 (un (.mov 61 (.t 5)), [60]),
 (un (.bin 62 .neq (.t 60) (.t 61)), []),
 (un (.asg 63 (.t 62)), []),
 (⟨some (63, true), .fadr 64 0 (.t 1)⟩, [62]),
 (⟨some (63, true), .ld 65 1 false (.t 64)⟩, [62]),
 (⟨some (63, true), .mov 66 (.t 7)⟩, [64, 65, 62]),
 (⟨some (63, true), .iad 67 1 (.t 65) (.t 66)⟩, [62]),
 (⟨some (63, true), .ld 68 1 false (.t 67)⟩, [62]),
 (⟨some (63, true), .mov 69 (.t 5)⟩, [64, 65, 66, 67, 68, 62]),
 (⟨some (63, true), .call 70 f_spec_l1Has [((.t 68), false), ((.t 69), false)]⟩, [62]),
 (un (.pick 71 (.t 63) (.t 70) (.c (.bool false))), [62]),
 (un (.asg 72 (.t 71)), [62]),
 (⟨some (72, false), .fadr 73 0 (.t 1)⟩, [62, 71]),
 (⟨some (72, false), .ld 74 1 false (.t 73)⟩, [62, 71]),
 (⟨some (72, false), .mov 75 (.t 7)⟩, [73, 74, 62, 71]),
 (⟨some (72, false), .iad 76 1 (.t 74) (.t 75)⟩, [62, 71]),
 (⟨some (72, false), .ld 77 1 false (.t 76)⟩, [62, 71]),
 (⟨some (72, false), .fadr 78 0 (.t 1)⟩, [73, 74, 75, 76, 77, 62, 71]),
 (⟨some (72, false), .ld 79 1 false (.t 78)⟩, [73, 74, 75, 76, 77, 62, 71]),
 (⟨some (72, false), .mov 80 (.t 5)⟩, [73, 74, 75, 76, 77, 78, 79, 62, 71]),
 (⟨some (72, false), .iad 81 1 (.t 79) (.t 80)⟩, [73, 74, 75, 76, 77, 62, 71]),
 (⟨some (72, false), .ld 82 1 false (.t 81)⟩, [73, 74, 75, 76, 77, 62, 71])]
 [⟨some (72, false), .call 83 f_spec_l5Within [((.t 77), false), ((.t 82), false)]⟩,
 ⟨some (72, false), .un 84 .not (.t 83)⟩,
 un (.pick 85 (.t 72) (.c (.bool true)) (.t 84))])
 (.drop [60, 61, 62, 63, 64, 65, 66, 67, 68, 69, 70, 71, 72, 73, 74, 75, 76, 77, 78, 79, 80, 81, 82, 83, 84] (.cond (.t 85) (.seq (.reg [un (.asg 2 (.c (.bool false)))])
 .ret)
 .skip))))))
 (.drop [52, 53, 54, 55, 56, 57, 58, 59, 7, 60, 61, 62, 63, 64, 65, 66, 67, 68, 69, 70, 71, 72, 73, 74, 75, 76, 77, 78, 79, 80, 81, 82, 83, 84, 85] (.reg [un (.mov 50 (.t 6)),
 un (.bin 51 .add (.t 50) (.c (.int .i64 1))),
 un (.asg 6 (.t 51))])))))
def c_spec_l23Good_l3 : ACode :=
 (.seq (.seq (.reg [un (.mov 37 (.t 5)),
 un (.mov 38 (.t 3)),
 un (.bin 39 .lss (.t 37) (.t 38))])
 (.drop [37, 38] (.cond (.t 39) .skip
 (.exit 2))))
 (.drop [37, 38, 39] (.seq (.block 3 (.seq (.reg [un (.asg 6 (.c (.int .i64 0)))])
 (.block 4 (.loop c_spec_l23Good_l2))))
 (.drop [6, 42, 43, 44, 45, 46, 47, 48, 49, 52, 53, 54, 55, 56, 57, 58, 59, 7, 60, 61, 62, 63, 64, 65, 66, 67, 68, 69, 70, 71, 72, 73, 74, 75, 76, 77, 78, 79, 80, 81, 82, 83, 84, 85, 50, 51] (.reg [un (.mov 40 (.t 5)),
 un (.bin 41 .add (.t 40) (.c (.int .i64 1))),
 un (.asg 5 (.t 41))])))))
def c_spec_l23Good : ACode :=
 (.seq (.reg [un (.box 1 (.t 0)),
 un (.asg 2 (.c (.bool false)))])
 (.seq (.reg [un (.fadr 8 0 (.t 1)),
 un (.ld 9 1 false (.t 8)),
 un (.len 10 (.t 9)),
 un (.asg 3 (.t 10))])
 (.drop [8, 9, 10] (.seq (.seq (.reg [un (.mov 11 (.t 3)),
 un (.bin 12 .gtr (.t 11) (.c (.int .i64 10)))])
 (.drop [11] (.cond (.t 12) (.seq (.reg [un (.asg 2 (.c (.bool false)))])
 .ret)
 .skip)))
 (.drop [11, 12] (.seq (.seq (.reg [un (.asg 4 (.c (.int .i64 0)))])
 (.block 0 (.loop c_spec_l23Good_l1)))
 (.drop [4, 13, 14, 15, 18, 19, 20, 21, 22, 23, 24, 25, 26, 27, 28, 29, 30, 31, 32, 33, 34, 35, 36, 16, 17] (.seq (.seq (.reg [un (.asg 5 (.c (.int .i64 0)))])
 (.block 2 (.loop c_spec_l23Good_l3)))
 (.drop [5, 37, 38, 39, 6, 42, 43, 44, 45, 46, 47, 48, 49, 52, 53, 54, 55, 56, 57, 58, 59, 7, 60, 61, 62, 63, 64, 65, 66, 67, 68, 69, 70, 71, 72, 73, 74, 75, 76, 77, 78, 79, 80, 81, 82, 83, 84, 85, 50, 51, 40, 41] (.seq (.reg [un (.asg 2 (.c (.bool true)))])
 .ret))))))))))
abbrev r_spec_l23Good : List RS := [.t 2]
theorem k_spec_l23Good : fitsF Try.prog f_spec_l23Good 86 c_spec_l23Good r_spec_l23Good = true := by kernel_rfl

/- loop.example/g01078/spec.l24Bound: [p=0, some=1, p=2, some=3, low=5, z=6, all=7, i=8, i=9] -/
def c_spec_l24Bound_l1 : ACode :=
 (.seq (.seq (.reg [un (.mov 18 (.t 8)),
 un (.mov 19 (.t 1)),
 un (.len 20 (.t 19)),
 un (.bin 21 .lss (.t 18) (.t 20))])
 (.drop [18, 19, 20] (.cond (.t 21) .skip
 (.exit 2))))
 (.drop [18, 19, 20, 21] (.seq (.block 3 (.dreg [(un (.mov 24 (.t 7)), []),
 (un (.asg 25 (.t 24)), []),
 (⟨some (25, true), .ld 26 1 true (.t 2)⟩, [24]),
 (⟨some (25, true), .mov 27 (.t 6)⟩, [26, 24]),
 (⟨some (25, true), .mov 28 (.t 1)⟩, [26, 27, 24]),
 (⟨some (25, true), .mov 29 (.t 8)⟩, [26, 27, 28, 24]),
 (⟨some (25, true), .iad 30 1 (.t 28) (.t 29)⟩, [26, 27, 24]),
 (⟨some (25, true), .ld 31 1 false (.t 30)⟩, [26, 27, 24])]
 [⟨some (25, true), .call 32 f_spec_l23Leq [((.t 26), false), ((.t 27), false), ((.t 31), false)]⟩,
 un (.pick 33 (.t 25) (.t 32) (.c (.bool false))),
 un (.asg 7 (.t 33))]))
 (.drop [24, 25, 26, 27, 28, 29, 30, 31, 32, 33] (.reg [un (.mov 22 (.t 8)),
 un (.bin 23 .add (.t 22) (.c (.int .i64 1))),
 un (.asg 8 (.t 23))])))))
def c_spec_l24Bound_l2 : ACode :=
 (.seq (.seq (.reg [un (.mov 11 (.t 6)),
 un (.fadr 12 0 (.t 2)),
 un (.ld 13 1 false (.t 12)),
 un (.len 14 (.t 13)),
 un (.bin 15 .lss (.t 11) (.t 14))])
 (.drop [11, 12, 13, 14] (.cond (.t 15) .skip
 (.exit 0))))
 (.drop [11, 12, 13, 14, 15] (.seq (.block 1 (.seq (.reg [un (.asg 7 (.c (.bool true)))])
 (.seq (.seq (.reg [un (.asg 8 (.c (.int .i64 0)))])
 (.block 2 (.loop c_spec_l24Bound_l1)))
 (.drop [8, 18, 19, 20, 21, 24, 25, 26, 27, 28, 29, 30, 31, 32, 33, 22, 23] (.seq (.reg [un (.mov 34 (.t 7))])
 (.cond (.t 34) (.reg [un (.mov 35 (.t 5)),
 un (.mov 36 (.t 6)),
 un (.bsl 37 1 [(.t 36)]),
 un (.app 38 1 (.t 35) (.t 37)),
 un (.asg 5 (.t 38))])
 .skip))))))
 (.drop [7, 8, 18, 19, 20, 21, 24, 25, 26, 27, 28, 29, 30, 31, 32, 33, 22, 23, 34, 35, 36, 37, 38] (.reg [un (.mov 16 (.t 6)),
 un (.bin 17 .add (.t 16) (.c (.int .i64 1))),
 un (.asg 6 (.t 17))])))))
def c_spec_l24Bound_l3 : ACode :=
 (.seq (.seq (.reg [un (.mov 39 (.t 9)),
 un (.mov 40 (.t 5)),
 un (.len 41 (.t 40)),
 un (.bin 42 .lss (.t 39) (.t 41))])
 (.drop [39, 40, 41] (.cond (.t 42) .skip
 (.exit 4))))
 (.drop [39, 40, 41, 42] (.seq (.block 5 (.seq (.dreg [(un (.mov 45 (.t 5)), []),
 (un (.fadr 46 0 (.t 2)), [45]),
 (un (.ld 47 1 false (.t 46)), [45]),
 (un (.mov 48 (.t 5)), [45, 46, 47]),
 (un (.mov 49 (.t 9)), [45, 46, 47, 48]),
 (un (.iad 50 1 (.t 48) (.t 49)), [45, 46, 47]),
 (un (.ld 51 1 false (.t 50)), [45, 46, 47]),
 (un (.iad 52 1 (.t 47) (.t 51)), [45]),
 (un (.ld 53 1 false (.t 52)), [45])]
 [un (.call 54 f_spec_l5Within [((.t 45), false), ((.t 53), false)])])
 (.drop [45, 46, 47, 48, 49, 50, 51, 52, 53] (.cond (.t 54) (.seq (.reg [un (.mov 55 (.t 5)),
 un (.mov 56 (.t 9)),
 un (.iad 57 1 (.t 55) (.t 56)),
 un (.ld 58 1 false (.t 57)),
 un (.asg 4 (.t 58))])
 (.drop [55, 56, 57, 58] .ret))
 .skip))))
 (.drop [45, 46, 47, 48, 49, 50, 51, 52, 53, 54, 55, 56, 57, 58] (.reg [un (.mov 43 (.t 9)),
 un (.bin 44 .add (.t 43) (.c (.int .i64 1))),
 un (.asg 9 (.t 44))])))))
def c_spec_l24Bound : ACode :=
 (.seq (.reg [un (.box 2 (.t 0)),
 un (.asg 4 (.c (.int .i64 0)))])
 (.seq (.reg [un (.bsl 10 1 []),
 un (.asg 5 (.t 10))])
 (.drop [10] (.seq (.seq (.reg [un (.asg 6 (.c (.int .i64 0)))])
 (.block 0 (.loop c_spec_l24Bound_l2)))
 (.drop [6, 11, 12, 13, 14, 15, 7, 8, 18, 19, 20, 21, 24, 25, 26, 27, 28, 29, 30, 31, 32, 33, 22, 23, 34, 35, 36, 37, 38, 16, 17] (.seq (.seq (.reg [un (.asg 9 (.c (.int .i64 0)))])
 (.block 4 (.loop c_spec_l24Bound_l3)))
 (.drop [9, 39, 40, 41, 42, 45, 46, 47, 48, 49, 50, 51, 52, 53, 54, 55, 56, 57, 58, 43, 44] (.seq (.reg [un (.asg 4 (.c (.int .i64 (-1))))])
 .ret))))))))
abbrev r_spec_l24Bound : List RS := [.t 4]
theorem k_spec_l24Bound : fitsF Try.prog f_spec_l24Bound 59 c_spec_l24Bound r_spec_l24Bound = true := by kernel_rfl

/- (loop.example/g01078/impl.order).upperCovers$1: [y=0, y=3] -/
def c_impl_order_upperCovers_1 : ACode :=
 (.seq (.reg [un (.asg 4 (.c (.bool false)))])
 (.seq (.reg [un (.ld 5 1 false (.t 1)),
 un (.ld 6 1 false (.t 2)),
 un (.mov 7 (.t 0)),
 un (.call 8 f_impl_order_covers [((.t 5), false), ((.t 6), false), ((.t 7), false)]),
 un (.asg 4 (.t 8))])
 (.drop [5, 6, 7, 8] .ret)))
abbrev r_impl_order_upperCovers_1 : List RS := [.t 4]
theorem k_impl_order_upperCovers_1 : fitsF Try.prog f_impl_order_upperCovers_1 9 c_impl_order_upperCovers_1 r_impl_order_upperCovers_1 = true := by kernel_rfl

/- loop.example/g01078/spec.l23Less: [p=0, x=1, y=2, p=3, x=4, y=5] -/
def c_spec_l23Less : ACode :=
 (.seq (.reg [un (.box 3 (.t 0)),
 un (.asg 6 (.c (.bool false)))])
 (.seq (.reg [un (.mov 7 (.t 1)),
 un (.mov 8 (.t 2)),
 un (.bin 9 .neq (.t 7) (.t 8)),
 un (.asg 10 (.t 9)),
 ⟨some (10, true), .ld 11 1 true (.t 3)⟩,
 ⟨some (10, true), .mov 12 (.t 1)⟩,
 ⟨some (10, true), .mov 13 (.t 2)⟩,
 ⟨some (10, true), .call 14 f_spec_l23Leq [((.t 11), false), ((.t 12), false), ((.t 13), false)]⟩,
 un (.pick 15 (.t 10) (.t 14) (.c (.bool false))),
 un (.asg 6 (.t 15))])
 (.drop [7, 8, 9, 10, 11, 12, 13, 14, 15] .ret)))
abbrev r_spec_l23Less : List RS := [.t 6]
theorem k_spec_l23Less : fitsF Try.prog f_spec_l23Less 16 c_spec_l23Less r_spec_l23Less = true := by kernel_rfl

/- (loop.example/g01078/impl.order).lowerCovers$1: [y=0, y=3] -/
def c_impl_order_lowerCovers_1 : ACode :=
 (.seq (.reg [un (.asg 4 (.c (.bool false)))])
 (.seq (.reg [un (.ld 5 1 false (.t 1)),
 un (.mov 6 (.t 0)),
 un (.ld 7 1 false (.t 2)),
 un (.call 8 f_impl_order_covers [((.t 5), false), ((.t 6), false), ((.t 7), false)]),
 un (.asg 4 (.t 8))])
 (.drop [5, 6, 7, 8] .ret)))
abbrev r_impl_order_lowerCovers_1 : List RS := [.t 4]
theorem k_impl_order_lowerCovers_1 : fitsF Try.prog f_impl_order_lowerCovers_1 9 c_impl_order_lowerCovers_1 r_impl_order_lowerCovers_1 = true := by kernel_rfl

/- loop.example/g01078/impl.IsLattice: [p=0, p=1, _=3, ok=4] -/
def c_impl_IsLattice : ACode :=
 (.seq (.reg [un (.box 1 (.t 0)),
 un (.asg 2 (.c (.bool false)))])
 (.seq (.reg [un (.ld 6 1 true (.t 1)),
 un (.call 7 f_impl_latticeOf [((.t 6), false)]),
 un (.asg 5 (.t 7)),
 un (.ext 8 (.t 5) 0),
 un (.ext 9 (.t 5) 1),
 un (.asg 3 (.t 8)),
 un (.asg 4 (.t 9))])
 (.drop [6, 7, 5, 8, 9, 3] (.seq (.reg [un (.mov 10 (.t 4)),
 un (.asg 2 (.t 10))])
 (.drop [10] .ret)))))
abbrev r_impl_IsLattice : List RS := [.t 2]
theorem k_impl_IsLattice : fitsF Try.prog f_impl_IsLattice 11 c_impl_IsLattice r_impl_IsLattice = true := by kernel_rfl

/- loop.example/g01078/impl.EndsOf: [p=0, p=1, l=5, ok=6] -/
def c_impl_EndsOf : ACode :=
 (.seq (.reg [un (.box 1 (.t 0)),
 un (.asg 2 (.c (.int .i64 0))),
 un (.asg 3 (.c (.int .i64 0))),
 un (.asg 4 (.c (.bool false)))])
 (.seq (.reg [un (.ld 8 1 true (.t 1)),
 un (.call 9 f_impl_latticeOf [((.t 8), false)]),
 un (.asg 7 (.t 9)),
 un (.ext 10 (.t 7) 0),
 un (.ext 11 (.t 7) 1),
 un (.asg 5 (.t 10)),
 un (.asg 6 (.t 11))])
 (.drop [8, 9, 7, 10, 11] (.seq (.seq (.reg [un (.mov 12 (.t 6)),
 un (.un 13 .not (.t 12))])
 (.drop [12] (.cond (.t 13) (.seq (.reg [un (.asg 2 (.c (.int .i64 0))),
 un (.asg 3 (.c (.int .i64 0))),
 un (.asg 4 (.c (.bool false)))])
 .ret)
 .skip)))
 (.drop [12, 13] (.seq (.reg [un (.mov 14 (.t 5)),
 un (.call 15 f_impl_lattice_bottom [((.t 14), false)]),
 un (.mov 16 (.t 5)),
 un (.call 17 f_impl_lattice_top [((.t 16), false)]),
 un (.asg 2 (.t 15)),
 un (.asg 3 (.t 17)),
 un (.asg 4 (.c (.bool true)))])
 (.drop [14, 15, 16, 17] .ret)))))))
abbrev r_impl_EndsOf : List RS := [.t 2, .t 3, .t 4]
theorem k_impl_EndsOf : fitsF Try.prog f_impl_EndsOf 18 c_impl_EndsOf r_impl_EndsOf = true := by kernel_rfl

/- loop.example/g01078/impl.LatticeAlgebra: [p=0, p=1, l=4, ok=5] -/
def c_impl_LatticeAlgebra : ACode :=
 (.seq (.reg [un (.box 1 (.t 0)),
 un (.alc 2 (.agg [.int .i64 0, .nilsl 2])),
 un (.asg 3 (.c (.bool false)))])
 (.seq (.reg [un (.ld 7 1 true (.t 1)),
 un (.call 8 f_impl_latticeOf [((.t 7), false)]),
 un (.asg 6 (.t 8)),
 un (.ext 9 (.t 6) 0),
 un (.ext 10 (.t 6) 1),
 un (.asg 4 (.t 9)),
 un (.asg 5 (.t 10))])
 (.drop [7, 8, 6, 9, 10] (.seq (.seq (.reg [un (.mov 11 (.t 5)),
 un (.un 12 .not (.t 11)),
 un (.asg 13 (.t 12)),
 ⟨some (13, false), .mov 14 (.t 4)⟩,
 ⟨some (13, false), .nck 15 (.t 14)⟩,
 ⟨some (13, false), .fadr 16 0 (.t 15)⟩,
 ⟨some (13, false), .ld 17 1 false (.t 16)⟩,
 ⟨some (13, false), .len 18 (.t 17)⟩,
 ⟨some (13, false), .bin 19 .gtr (.t 18) (.c (.int .i64 8))⟩,
 un (.pick 20 (.t 13) (.c (.bool true)) (.t 19))])
 (.drop [11, 12, 13, 14, 15, 16, 17, 18, 19] (.cond (.t 20) (.seq (.reg [un (.bld 21 [.int .i64 0, .nilsl 2] []),
 un (.st 2 (.t 2) (.t 21)),
 un (.asg 3 (.c (.bool false)))])
 (.drop [21] .ret))
 .skip)))
 (.drop [11, 12, 13, 14, 15, 16, 17, 18, 19, 20, 21] (.seq (.reg [un (.mov 22 (.t 4)),
 un (.call 23 f_impl_lattice_algebra [((.t 22), false)]),
 un (.st 2 (.t 2) (.t 23)),
 un (.asg 3 (.c (.bool true)))])
 (.drop [22, 23] .ret)))))))
abbrev r_impl_LatticeAlgebra : List RS := [.c 2 2 true, .t 3]
theorem k_impl_LatticeAlgebra : fitsF Try.prog f_impl_LatticeAlgebra 24 c_impl_LatticeAlgebra r_impl_LatticeAlgebra = true := by kernel_rfl

/- loop.example/g01078/laws.rAlgebra: [a=0, b=1, a=2, b=3] -/
def c_laws_rAlgebra : ACode :=
 (.seq (.reg [un (.box 2 (.t 0)),
 un (.box 3 (.t 1)),
 un (.asg 4 (.c (.bool false)))])
 (.seq (.reg [un (.fadr 5 0 (.t 2)),
 un (.ld 6 1 false (.t 5)),
 un (.fadr 7 0 (.t 3)),
 un (.ld 8 1 false (.t 7)),
 un (.bin 9 .eql (.t 6) (.t 8)),
 un (.asg 10 (.t 9)),
 ⟨some (10, true), .fadr 11 1 (.t 2)⟩,
 ⟨some (10, true), .ld 12 1 false (.t 11)⟩,
 ⟨some (10, true), .fadr 13 1 (.t 3)⟩,
 ⟨some (10, true), .ld 14 1 false (.t 13)⟩,
 ⟨some (10, true), .call 15 f_laws_rOps [((.t 12), false), ((.t 14), false)]⟩,
 un (.pick 16 (.t 10) (.t 15) (.c (.bool false))),
 un (.asg 4 (.t 16))])
 (.drop [5, 6, 7, 8, 9, 10, 11, 12, 13, 14, 15, 16] .ret)))
abbrev r_laws_rAlgebra : List RS := [.t 4]
theorem k_laws_rAlgebra : fitsF Try.prog f_laws_rAlgebra 17 c_laws_rAlgebra r_laws_rAlgebra = true := by kernel_rfl

/- loop.example/g01078/impl.LatticeOf: [a=0, a=1, p=4, l=5, ok=6] -/
def c_impl_LatticeOf_k1 : ACode :=
 (.seq (.reg [un (.ld 7 2 true (.t 1)),
 un (.call 8 f_impl_IsAlgebra [((.t 7), false)]),
 un (.un 9 .not (.t 8)),
 un (.asg 10 (.t 9)),
 ⟨some (10, false), .ld 11 2 true (.t 1)⟩,
 ⟨some (10, false), .call 12 f_impl_typeOf [((.t 11), false)]⟩,
 ⟨some (10, false), .bsl 13 1 [(.c (.int .i64 2)), (.c (.int .i64 2))]⟩,
 ⟨some (10, false), .call 14 f_impl_sameList [((.t 12), false), ((.t 13), false)]⟩,
 ⟨some (10, false), .un 15 .not (.t 14)⟩,
 un (.pick 16 (.t 10) (.c (.bool true)) (.t 15))])
 (.drop [7, 8, 9, 10, 11, 12, 13, 14, 15] (.cond (.t 16) (.seq (.reg [un (.bld 17 [.nilsl 1] []),
 un (.st 1 (.t 2) (.t 17)),
 un (.asg 3 (.c (.bool false)))])
 (.drop [17] .ret))
 .skip)))
def c_impl_LatticeOf : ACode :=
 (.seq (.reg [un (.box 1 (.t 0)),
 un (.alc 2 (.agg [.nilsl 1])),
 un (.asg 3 (.c (.bool false)))])
 (.seq (.cut c_impl_LatticeOf_k1)
 (.drop [7, 8, 9, 10, 11, 12, 13, 14, 15, 16, 17] (.seq (.dreg [(un (.fadr 18 0 (.t 1)), []),
 (un (.ld 19 1 false (.t 18)), []),
 (un (.fadr 20 1 (.t 1)), [18, 19]),
 (un (.ld 21 1 false (.t 20)), [18, 19]),
 (un (.iad 22 2 (.t 21) (.c (.int .i64 0))), [18, 19]),
 (un (.fadr 23 1 (.t 22)), [18, 19]),
 (un (.ld 24 1 false (.t 23)), [18, 19]),
 (un (.call 25 f_impl_orderOfMeet [((.t 19), false), ((.t 24), false)]), []),
 (un (.call 26 f_impl_order_poset [((.t 25), false)]), []),
 (un (.alc 4 (.agg [.nilsl 1])), [18, 19, 20, 21, 22, 23, 24, 25, 26])]
 [un (.st 1 (.t 4) (.t 26))])
 (.drop [18, 19, 20, 21, 22, 23, 24, 25, 26] (.seq (.reg [un (.ld 28 1 true (.t 4)),
 un (.call 29 f_impl_latticeOf [((.t 28), false)]),
 un (.asg 27 (.t 29)),
 un (.ext 30 (.t 27) 0),
 un (.ext 31 (.t 27) 1),
 un (.asg 5 (.t 30)),
 un (.asg 6 (.t 31))])
 (.drop [28, 29, 27, 30, 31] (.seq (.seq (.dreg [(un (.mov 32 (.t 6)), []),
 (un (.un 33 .not (.t 32)), []),
 (un (.asg 34 (.t 33)), []),
 (⟨some (34, false), .mov 35 (.t 5)⟩, [33]),
 (⟨some (34, false), .call 36 f_impl_lattice_algebra [((.t 35), false)]⟩, [33]),
 (⟨some (34, false), .ld 37 2 true (.t 1)⟩, [35, 36, 33])]
 [⟨some (34, false), .call 38 f_impl_sameAlgebra [((.t 36), false), ((.t 37), false)]⟩,
 ⟨some (34, false), .un 39 .not (.t 38)⟩,
 un (.pick 40 (.t 34) (.c (.bool true)) (.t 39))])
 (.drop [32, 33, 34, 35, 36, 37, 38, 39] (.cond (.t 40) (.seq (.reg [un (.bld 41 [.nilsl 1] []),
 un (.st 1 (.t 2) (.t 41)),
 un (.asg 3 (.c (.bool false)))])
 (.drop [41] .ret))
 .skip)))
 (.drop [32, 33, 34, 35, 36, 37, 38, 39, 40, 41] (.seq (.reg [un (.ld 42 1 true (.t 4)),
 un (.st 1 (.t 2) (.t 42)),
 un (.asg 3 (.c (.bool true)))])
 (.drop [42] .ret)))))))))))
abbrev r_impl_LatticeOf : List RS := [.c 2 1 true, .t 3]
theorem k_impl_LatticeOf : fitsF Try.prog f_impl_LatticeOf 43 c_impl_LatticeOf r_impl_LatticeOf = true := by kernel_rfl

/- loop.example/g01078/impl.JoinAll: [p=0, some=1, p=2, some=3, l=6, ok=7] -/
def c_impl_JoinAll : ACode :=
 (.seq (.reg [un (.box 2 (.t 0)),
 un (.asg 4 (.c (.int .i64 0))),
 un (.asg 5 (.c (.bool false)))])
 (.seq (.reg [un (.ld 9 1 true (.t 2)),
 un (.call 10 f_impl_latticeOf [((.t 9), false)]),
 un (.asg 8 (.t 10)),
 un (.ext 11 (.t 8) 0),
 un (.ext 12 (.t 8) 1),
 un (.asg 6 (.t 11)),
 un (.asg 7 (.t 12))])
 (.drop [9, 10, 8, 11, 12] (.seq (.seq (.reg [un (.mov 13 (.t 7)),
 un (.un 14 .not (.t 13)),
 un (.asg 15 (.t 14)),
 ⟨some (15, false), .mov 16 (.t 1)⟩,
 ⟨some (15, false), .len 17 (.t 16)⟩,
 ⟨some (15, false), .bin 18 .gtr (.t 17) (.c (.int .i64 20))⟩,
 un (.pick 19 (.t 15) (.c (.bool true)) (.t 18)),
 un (.asg 20 (.t 19)),
 ⟨some (20, false), .mov 21 (.t 6)⟩,
 ⟨some (20, false), .nck 22 (.t 21)⟩,
 ⟨some (20, false), .fadr 23 0 (.t 22)⟩,
 ⟨some (20, false), .ld 24 1 false (.t 23)⟩,
 ⟨some (20, false), .mov 25 (.t 1)⟩,
 ⟨some (20, false), .call 26 f_impl_order_has [((.t 24), false), ((.t 25), false)]⟩,
 ⟨some (20, false), .un 27 .not (.t 26)⟩,
 un (.pick 28 (.t 20) (.c (.bool true)) (.t 27))])
 (.drop [13, 14, 15, 16, 17, 18, 19, 20, 21, 22, 23, 24, 25, 26, 27] (.cond (.t 28) (.seq (.reg [un (.asg 4 (.c (.int .i64 0))),
 un (.asg 5 (.c (.bool false)))])
 .ret)
 .skip)))
 (.drop [13, 14, 15, 16, 17, 18, 19, 20, 21, 22, 23, 24, 25, 26, 27, 28] (.seq (.reg [un (.mov 29 (.t 6)),
 un (.mov 30 (.t 1)),
 un (.call 31 f_impl_lattice_joinAll [((.t 29), false), ((.t 30), false)]),
 un (.asg 4 (.t 31)),
 un (.asg 5 (.c (.bool true)))])
 (.drop [29, 30, 31] .ret)))))))
abbrev r_impl_JoinAll : List RS := [.t 4, .t 5]
theorem k_impl_JoinAll : fitsF Try.prog f_impl_JoinAll 32 c_impl_JoinAll r_impl_JoinAll = true := by kernel_rfl

/- loop.example/g01078/impl.MeetAll: [p=0, some=1, p=2, some=3, l=6, ok=7] -/
def c_impl_MeetAll : ACode :=
 (.seq (.reg [un (.box 2 (.t 0)),
 un (.asg 4 (.c (.int .i64 0))),
 un (.asg 5 (.c (.bool false)))])
 (.seq (.reg [un (.ld 9 1 true (.t 2)),
 un (.call 10 f_impl_latticeOf [((.t 9), false)]),
 un (.asg 8 (.t 10)),
 un (.ext 11 (.t 8) 0),
 un (.ext 12 (.t 8) 1),
 un (.asg 6 (.t 11)),
 un (.asg 7 (.t 12))])
 (.drop [9, 10, 8, 11, 12] (.seq (.seq (.reg [un (.mov 13 (.t 7)),
 un (.un 14 .not (.t 13)),
 un (.asg 15 (.t 14)),
 ⟨some (15, false), .mov 16 (.t 1)⟩,
 ⟨some (15, false), .len 17 (.t 16)⟩,
 ⟨some (15, false), .bin 18 .gtr (.t 17) (.c (.int .i64 20))⟩,
 un (.pick 19 (.t 15) (.c (.bool true)) (.t 18)),
 un (.asg 20 (.t 19)),
 ⟨some (20, false), .mov 21 (.t 6)⟩,
 ⟨some (20, false), .nck 22 (.t 21)⟩,
 ⟨some (20, false), .fadr 23 0 (.t 22)⟩,
 ⟨some (20, false), .ld 24 1 false (.t 23)⟩,
 ⟨some (20, false), .mov 25 (.t 1)⟩,
 ⟨some (20, false), .call 26 f_impl_order_has [((.t 24), false), ((.t 25), false)]⟩,
 ⟨some (20, false), .un 27 .not (.t 26)⟩,
 un (.pick 28 (.t 20) (.c (.bool true)) (.t 27))])
 (.drop [13, 14, 15, 16, 17, 18, 19, 20, 21, 22, 23, 24, 25, 26, 27] (.cond (.t 28) (.seq (.reg [un (.asg 4 (.c (.int .i64 0))),
 un (.asg 5 (.c (.bool false)))])
 .ret)
 .skip)))
 (.drop [13, 14, 15, 16, 17, 18, 19, 20, 21, 22, 23, 24, 25, 26, 27, 28] (.seq (.reg [un (.mov 29 (.t 6)),
 un (.mov 30 (.t 1)),
 un (.call 31 f_impl_lattice_meetAll [((.t 29), false), ((.t 30), false)]),
 un (.asg 4 (.t 31)),
 un (.asg 5 (.c (.bool true)))])
 (.drop [29, 30, 31] .ret)))))))
abbrev r_impl_MeetAll : List RS := [.t 4, .t 5]
theorem k_impl_MeetAll : fitsF Try.prog f_impl_MeetAll 32 c_impl_MeetAll r_impl_MeetAll = true := by kernel_rfl

/- loop.example/g01078/impl.JoinOf: [p=0, x=1, y=2, p=3, x=4, y=5, l=8, ok=9] -/
def c_impl_JoinOf_k1 : ACode :=
 (.seq (.reg [un (.mov 15 (.t 9)),
 un (.un 16 .not (.t 15)),
 un (.asg 17 (.t 16)),
 ⟨some (17, false), .mov 18 (.t 8)⟩,
 ⟨some (17, false), .nck 19 (.t 18)⟩,
 ⟨some (17, false), .fadr 20 0 (.t 19)⟩,
 ⟨some (17, false), .ld 21 1 false (.t 20)⟩,
 ⟨some (17, false), .mov 22 (.t 1)⟩,
 ⟨some (17, false), .mov 23 (.t 2)⟩,
 ⟨some (17, false), .bsl 24 1 [(.t 22), (.t 23)]⟩,
 ⟨some (17, false), .call 25 f_impl_order_has [((.t 21), false), ((.t 24), false)]⟩,
 ⟨some (17, false), .un 26 .not (.t 25)⟩,
 un (.pick 27 (.t 17) (.c (.bool true)) (.t 26))])
 (.drop [15, 16, 17, 18, 19, 20, 21, 22, 23, 24, 25, 26] (.cond (.t 27) (.seq (.reg [un (.asg 6 (.c (.int .i64 0))),
 un (.asg 7 (.c (.bool false)))])
 .ret)
 .skip)))
def c_impl_JoinOf : ACode :=
 (.seq (.reg [un (.box 3 (.t 0)),
 un (.asg 6 (.c (.int .i64 0))),
 un (.asg 7 (.c (.bool false)))])
 (.seq (.reg [un (.ld 11 1 true (.t 3)),
 un (.call 12 f_impl_latticeOf [((.t 11), false)]),
 un (.asg 10 (.t 12)),
 un (.ext 13 (.t 10) 0),
 un (.ext 14 (.t 10) 1),
 un (.asg 8 (.t 13)),
 un (.asg 9 (.t 14))])
 (.drop [11, 12, 10, 13, 14] (.seq (.cut c_impl_JoinOf_k1)
 (.drop [15, 16, 17, 18, 19, 20, 21, 22, 23, 24, 25, 26, 27] (.seq (.reg [un (.mov 28 (.t 8)),
 un (.nck 29 (.t 28)),
 un (.fadr 30 2 (.t 29)),
 un (.ld 31 1 false (.t 30)),
 un (.mov 32 (.t 1)),
 un (.iad 33 1 (.t 31) (.t 32)),
 un (.ld 34 1 false (.t 33)),
 un (.mov 35 (.t 2)),
 un (.iad 36 1 (.t 34) (.t 35)),
 un (.ld 37 1 false (.t 36)),
 un (.asg 6 (.t 37)),
 un (.asg 7 (.c (.bool true)))])
 (.drop [28, 29, 30, 31, 32, 33, 34, 35, 36, 37] .ret)))))))
abbrev r_impl_JoinOf : List RS := [.t 6, .t 7]
theorem k_impl_JoinOf : fitsF Try.prog f_impl_JoinOf 38 c_impl_JoinOf r_impl_JoinOf = true := by kernel_rfl

/- loop.example/g01078/impl.MeetOf: [p=0, x=1, y=2, p=3, x=4, y=5, l=8, ok=9] -/
def c_impl_MeetOf_k1 : ACode :=
 (.seq (.reg [un (.mov 15 (.t 9)),
 un (.un 16 .not (.t 15)),
 un (.asg 17 (.t 16)),
 ⟨some (17, false), .mov 18 (.t 8)⟩,
 ⟨some (17, false), .nck 19 (.t 18)⟩,
 ⟨some (17, false), .fadr 20 0 (.t 19)⟩,
 ⟨some (17, false), .ld 21 1 false (.t 20)⟩,
 ⟨some (17, false), .mov 22 (.t 1)⟩,
 ⟨some (17, false), .mov 23 (.t 2)⟩,
 ⟨some (17, false), .bsl 24 1 [(.t 22), (.t 23)]⟩,
 ⟨some (17, false), .call 25 f_impl_order_has [((.t 21), false), ((.t 24), false)]⟩,
 ⟨some (17, false), .un 26 .not (.t 25)⟩,
 un (.pick 27 (.t 17) (.c (.bool true)) (.t 26))])
 (.drop [15, 16, 17, 18, 19, 20, 21, 22, 23, 24, 25, 26] (.cond (.t 27) (.seq (.reg [un (.asg 6 (.c (.int .i64 0))),
 un (.asg 7 (.c (.bool false)))])
 .ret)
 .skip)))
def c_impl_MeetOf : ACode :=
 (.seq (.reg [un (.box 3 (.t 0)),
 un (.asg 6 (.c (.int .i64 0))),
 un (.asg 7 (.c (.bool false)))])
 (.seq (.reg [un (.ld 11 1 true (.t 3)),
 un (.call 12 f_impl_latticeOf [((.t 11), false)]),
 un (.asg 10 (.t 12)),
 un (.ext 13 (.t 10) 0),
 un (.ext 14 (.t 10) 1),
 un (.asg 8 (.t 13)),
 un (.asg 9 (.t 14))])
 (.drop [11, 12, 10, 13, 14] (.seq (.cut c_impl_MeetOf_k1)
 (.drop [15, 16, 17, 18, 19, 20, 21, 22, 23, 24, 25, 26, 27] (.seq (.reg [un (.mov 28 (.t 8)),
 un (.nck 29 (.t 28)),
 un (.fadr 30 1 (.t 29)),
 un (.ld 31 1 false (.t 30)),
 un (.mov 32 (.t 1)),
 un (.iad 33 1 (.t 31) (.t 32)),
 un (.ld 34 1 false (.t 33)),
 un (.mov 35 (.t 2)),
 un (.iad 36 1 (.t 34) (.t 35)),
 un (.ld 37 1 false (.t 36)),
 un (.asg 6 (.t 37)),
 un (.asg 7 (.c (.bool true)))])
 (.drop [28, 29, 30, 31, 32, 33, 34, 35, 36, 37] .ret)))))))
abbrev r_impl_MeetOf : List RS := [.t 6, .t 7]
theorem k_impl_MeetOf : fitsF Try.prog f_impl_MeetOf 38 c_impl_MeetOf r_impl_MeetOf = true := by kernel_rfl

/- loop.example/g01078/impl.IntervalOf: [p=0, x=1, y=2, p=3, x=4, y=5, l=8, ok=9] -/
def c_impl_IntervalOf_k1 : ACode :=
 (.seq (.reg [un (.mov 15 (.t 9)),
 un (.un 16 .not (.t 15)),
 un (.asg 17 (.t 16)),
 ⟨some (17, false), .mov 18 (.t 8)⟩,
 ⟨some (17, false), .nck 19 (.t 18)⟩,
 ⟨some (17, false), .fadr 20 0 (.t 19)⟩,
 ⟨some (17, false), .ld 21 1 false (.t 20)⟩,
 ⟨some (17, false), .mov 22 (.t 1)⟩,
 ⟨some (17, false), .mov 23 (.t 2)⟩,
 ⟨some (17, false), .bsl 24 1 [(.t 22), (.t 23)]⟩,
 ⟨some (17, false), .call 25 f_impl_order_has [((.t 21), false), ((.t 24), false)]⟩,
 ⟨some (17, false), .un 26 .not (.t 25)⟩,
 un (.pick 27 (.t 17) (.c (.bool true)) (.t 26)),
 un (.asg 28 (.t 27)),
 ⟨some (28, false), .mov 29 (.t 8)⟩,
 ⟨some (28, false), .nck 30 (.t 29)⟩,
 ⟨some (28, false), .fadr 31 0 (.t 30)⟩,
 ⟨some (28, false), .ld 32 1 false (.t 31)⟩,
 ⟨some (28, false), .mov 33 (.t 1)⟩,
 ⟨some (28, false), .iad 34 1 (.t 32) (.t 33)⟩,
 ⟨some (28, false), .ld 35 1 false (.t 34)⟩,
 ⟨some (28, false), .mov 36 (.t 2)⟩,
 ⟨some (28, false), .iad 37 1 (.t 35) (.t 36)⟩,
 ⟨some (28, false), .ld 38 1 false (.t 37)⟩,
 ⟨some (28, false), .un 39 .not (.t 38)⟩,
 un (.pick 40 (.t 28) (.c (.bool true)) (.t 39))])
 (.drop [15, 16, 17, 18, 19, 20, 21, 22, 23, 24, 25, 26, 27, 28, 29, 30, 31, 32, 33, 34, 35, 36, 37, 38, 39] (.cond (.t 40) (.seq (.reg [un (.bsl 41 1 []),
 un (.asg 6 (.t 41)),
 un (.asg 7 (.c (.bool false)))])
 (.drop [41] .ret))
 .skip)))
def c_impl_IntervalOf : ACode :=
 (.seq (.reg [un (.box 3 (.t 0)),
 un (.asg 6 (.c (.nilsl 1))),
 un (.asg 7 (.c (.bool false)))])
 (.seq (.reg [un (.ld 11 1 true (.t 3)),
 un (.call 12 f_impl_latticeOf [((.t 11), false)]),
 un (.asg 10 (.t 12)),
 un (.ext 13 (.t 10) 0),
 un (.ext 14 (.t 10) 1),
 un (.asg 8 (.t 13)),
 un (.asg 9 (.t 14))])
 (.drop [11, 12, 10, 13, 14] (.seq (.cut c_impl_IntervalOf_k1)
 (.drop [15, 16, 17, 18, 19, 20, 21, 22, 23, 24, 25, 26, 27, 28, 29, 30, 31, 32, 33, 34, 35, 36, 37, 38, 39, 40, 41] (.seq (.reg [un (.mov 42 (.t 8)),
 un (.nck 43 (.t 42)),
 un (.fadr 44 0 (.t 43)),
 un (.ld 45 1 false (.t 44)),
 un (.mov 46 (.t 1)),
 un (.mov 47 (.t 2)),
 un (.call 48 f_impl_order_interval [((.t 45), false), ((.t 46), false), ((.t 47), false)]),
 un (.asg 6 (.t 48)),
 un (.asg 7 (.c (.bool true)))])
 (.drop [42, 43, 44, 45, 46, 47, 48] .ret)))))))
abbrev r_impl_IntervalOf : List RS := [.t 6, .t 7]
theorem k_impl_IntervalOf : fitsF Try.prog f_impl_IntervalOf 49 c_impl_IntervalOf r_impl_IntervalOf = true := by kernel_rfl

/- loop.example/g01078/spec.l24Good: [p=0, p=1, dual=3, x=4, y=5] -/
def c_spec_l24Good_k1 : ACode :=
 (.seq (.reg [un (.ld 6 1 true (.t 1)),
 un (.call 7 f_spec_l23Good [((.t 6), false)]),
 un (.un 8 .not (.t 7)),
 un (.asg 9 (.t 8)),
 ⟨some (9, false), .fadr 10 0 (.t 1)⟩,
 ⟨some (9, false), .ld 11 1 false (.t 10)⟩,
 ⟨some (9, false), .len 12 (.t 11)⟩,
 ⟨some (9, false), .bin 13 .eql (.t 12) (.c (.int .i64 0))⟩,
 un (.pick 14 (.t 9) (.c (.bool true)) (.t 13))])
 (.drop [6, 7, 8, 9, 10, 11, 12, 13] (.cond (.t 14) (.seq (.reg [un (.asg 2 (.c (.bool false)))])
 .ret)
 .skip)))
def c_spec_l24Good_l1 : ACode :=
 (.seq (.seq (.reg [un (.mov 24 (.t 5)),
 un (.mov 25 (.t 4)),
 un (.bin 26 .lss (.t 24) (.t 25))])
 (.drop [24, 25] (.cond (.t 26) .skip
 (.exit 2))))
 (.drop [24, 25, 26] (.seq (.block 3 (.seq (.reg [un (.ld 29 1 true (.t 1)),
 un (.mov 30 (.t 4)),
 un (.mov 31 (.t 5)),
 un (.bsl 32 1 [(.t 30), (.t 31)]),
 un (.call 33 f_spec_l24Bound [((.t 29), false), ((.t 32), false)]),
 un (.bin 34 .lss (.t 33) (.c (.int .i64 0))),
 un (.asg 35 (.t 34)),
 ⟨some (35, false), .ld 36 1 true (.t 3)⟩,
 ⟨some (35, false), .mov 37 (.t 4)⟩,
 ⟨some (35, false), .mov 38 (.t 5)⟩,
 ⟨some (35, false), .bsl 39 1 [(.t 37), (.t 38)]⟩,
 ⟨some (35, false), .call 40 f_spec_l24Bound [((.t 36), false), ((.t 39), false)]⟩,
 ⟨some (35, false), .bin 41 .lss (.t 40) (.c (.int .i64 0))⟩,
 un (.pick 42 (.t 35) (.c (.bool true)) (.t 41))])
 (.drop [29, 30, 31, 32, 33, 34, 35, 36, 37, 38, 39, 40, 41] (.cond (.t 42) (.seq (.reg [un (.asg 2 (.c (.bool false)))])
 .ret)
 .skip))))
 (.drop [29, 30, 31, 32, 33, 34, 35, 36, 37, 38, 39, 40, 41, 42] (.reg [un (.mov 27 (.t 5)),
 un (.bin 28 .add (.t 27) (.c (.int .i64 1))),
 un (.asg 5 (.t 28))])))))
def c_spec_l24Good_l2 : ACode :=
 (.seq (.seq (.reg [un (.mov 17 (.t 4)),
 un (.fadr 18 0 (.t 1)),
 un (.ld 19 1 false (.t 18)),
 un (.len 20 (.t 19)),
 un (.bin 21 .lss (.t 17) (.t 20))])
 (.drop [17, 18, 19, 20] (.cond (.t 21) .skip
 (.exit 0))))
 (.drop [17, 18, 19, 20, 21] (.seq (.block 1 (.seq (.reg [un (.asg 5 (.c (.int .i64 0)))])
 (.block 2 (.loop c_spec_l24Good_l1))))
 (.drop [5, 24, 25, 26, 29, 30, 31, 32, 33, 34, 35, 36, 37, 38, 39, 40, 41, 42, 27, 28] (.reg [un (.mov 22 (.t 4)),
 un (.bin 23 .add (.t 22) (.c (.int .i64 1))),
 un (.asg 4 (.t 23))])))))
def c_spec_l24Good : ACode :=
 (.seq (.reg [un (.box 1 (.t 0)),
 un (.asg 2 (.c (.bool false)))])
 (.seq (.cut c_spec_l24Good_k1)
 (.drop [6, 7, 8, 9, 10, 11, 12, 13, 14] (.seq (.reg [un (.ld 15 1 true (.t 1)),
 un (.call 16 f_spec_l23Dual [((.t 15), false)]),
 un (.alc 3 (.agg [.nilsl 1])),
 un (.st 1 (.t 3) (.t 16))])
 (.drop [15, 16] (.seq (.seq (.reg [un (.asg 4 (.c (.int .i64 0)))])
 (.block 0 (.loop c_spec_l24Good_l2)))
 (.drop [4, 17, 18, 19, 20, 21, 5, 24, 25, 26, 29, 30, 31, 32, 33, 34, 35, 36, 37, 38, 39, 40, 41, 42, 27, 28, 22, 23] (.seq (.reg [un (.asg 2 (.c (.bool true)))])
 .ret))))))))
abbrev r_spec_l24Good : List RS := [.t 2]
theorem k_spec_l24Good : fitsF Try.prog f_spec_l24Good 43 c_spec_l24Good r_spec_l24Good = true := by kernel_rfl

/- loop.example/g01078/impl.listOf: [p=0, list=1, p=2, list=3, l=6, ok=7] -/
def c_impl_listOf : ACode :=
 (.seq (.reg [un (.box 2 (.t 0)),
 un (.asg 4 (.c (.nilsl 1))),
 un (.asg 5 (.c (.bool false)))])
 (.seq (.reg [un (.ld 9 1 true (.t 2)),
 un (.call 10 f_impl_latticeOf [((.t 9), false)]),
 un (.asg 8 (.t 10)),
 un (.ext 11 (.t 8) 0),
 un (.ext 12 (.t 8) 1),
 un (.asg 6 (.t 11)),
 un (.asg 7 (.t 12))])
 (.drop [9, 10, 8, 11, 12] (.seq (.seq (.reg [un (.mov 13 (.t 7)),
 un (.un 14 .not (.t 13))])
 (.drop [13] (.cond (.t 14) (.seq (.reg [un (.bsl 15 1 []),
 un (.asg 4 (.t 15)),
 un (.asg 5 (.c (.bool false)))])
 (.drop [15] .ret))
 .skip)))
 (.drop [13, 14, 15] (.seq (.reg [un (.mov 16 (.t 1)),
 un (.mov 17 (.t 6)),
 un (.cally 18 (.t 16) [(.t 17)]),
 un (.asg 4 (.t 18)),
 un (.asg 5 (.c (.bool true)))])
 (.drop [16, 17, 18] .ret)))))))
abbrev r_impl_listOf : List RS := [.t 4, .t 5]
theorem k_impl_listOf : fitsF Try.prog f_impl_listOf 19 c_impl_listOf r_impl_listOf = true := by kernel_rfl

/- loop.example/g01078/spec.l24Algebra: [p=0, p=1, n=3, dual=4, meet=5, join=6, x=7, y=8] -/
def c_spec_l24Algebra_l1 : ACode :=
 (.seq (.seq (.reg [un (.mov 21 (.t 8)),
 un (.mov 22 (.t 3)),
 un (.bin 23 .lss (.t 21) (.t 22))])
 (.drop [21, 22] (.cond (.t 23) .skip
 (.exit 2))))
 (.drop [21, 22, 23] (.seq (.block 3 (.seq (.dreg [(un (.fadr 26 1 (.t 5)), [29, 30, 32]),
 (un (.ld 27 1 false (.t 26)), [29, 30, 32]),
 (un (.ld 28 1 true (.t 1)), [26, 27, 29, 30]),
 (un (.mov 29 (.t 7)), [26, 27, 28]),
 (un (.mov 30 (.t 8)), [26, 27, 28, 29]),
 (un (.bsl 31 1 [(.t 29), (.t 30)]), [26, 27, 28]),
 (un (.call 32 f_spec_l24Bound [((.t 28), false), ((.t 31), false)]), [26, 27, 29, 30]),
 (un (.bsl 33 1 [(.t 32)]), [26, 27, 29, 30])]
 [un (.app 34 1 (.t 27) (.t 33)),
 un (.fadr 35 1 (.t 5)),
 un (.st 1 (.t 35) (.t 34))])
 (.drop [26, 27, 28, 29, 30, 31, 32, 33, 34, 35] (.dreg [(un (.fadr 36 1 (.t 6)), [39, 40, 42]),
 (un (.ld 37 1 false (.t 36)), [39, 40, 42]),
 (un (.ld 38 1 true (.t 4)), [36, 37, 39, 40]),
 (un (.mov 39 (.t 7)), [36, 37, 38]),
 (un (.mov 40 (.t 8)), [36, 37, 38, 39]),
 (un (.bsl 41 1 [(.t 39), (.t 40)]), [36, 37, 38]),
 (un (.call 42 f_spec_l24Bound [((.t 38), false), ((.t 41), false)]), [36, 37, 39, 40]),
 (un (.bsl 43 1 [(.t 42)]), [36, 37, 39, 40])]
 [un (.app 44 1 (.t 37) (.t 43)),
 un (.fadr 45 1 (.t 6)),
 un (.st 1 (.t 45) (.t 44))]))))
 (.drop [26, 27, 28, 29, 30, 31, 32, 33, 34, 35, 36, 37, 38, 39, 40, 41, 42, 43, 44, 45] (.reg [un (.mov 24 (.t 8)),
 un (.bin 25 .add (.t 24) (.c (.int .i64 1))),
 un (.asg 8 (.t 25))])))))
def c_spec_l24Algebra_l2 : ACode :=
 (.seq (.seq (.reg [un (.mov 16 (.t 7)),
 un (.mov 17 (.t 3)),
 un (.bin 18 .lss (.t 16) (.t 17))])
 (.drop [16, 17] (.cond (.t 18) .skip
 (.exit 0))))
 (.drop [16, 17, 18] (.seq (.block 1 (.seq (.reg [un (.asg 8 (.c (.int .i64 0)))])
 (.block 2 (.loop c_spec_l24Algebra_l1))))
 (.drop [8, 21, 22, 23, 26, 27, 28, 29, 30, 31, 32, 33, 34, 35, 36, 37, 38, 39, 40, 41, 42, 43, 44, 45, 24, 25] (.reg [un (.mov 19 (.t 7)),
 un (.bin 20 .add (.t 19) (.c (.int .i64 1))),
 un (.asg 7 (.t 20))])))))
def c_spec_l24Algebra : ACode :=
 (.seq (.reg [un (.box 1 (.t 0)),
 un (.alc 2 (.agg [.int .i64 0, .nilsl 2]))])
 (.seq (.reg [un (.fadr 9 0 (.t 1)),
 un (.ld 10 1 false (.t 9)),
 un (.len 11 (.t 10)),
 un (.asg 3 (.t 11))])
 (.drop [9, 10, 11] (.seq (.reg [un (.ld 12 1 true (.t 1)),
 un (.call 13 f_spec_l23Dual [((.t 12), false)]),
 un (.alc 4 (.agg [.nilsl 1])),
 un (.st 1 (.t 4) (.t 13))])
 (.drop [12, 13] (.seq (.reg [un (.bld 14 [.int .i64 0, .nilsl 1] [(0, 1, (.c (.int .i64 2)))]),
 un (.bld 15 [.int .i64 0, .nilsl 1] [(0, 1, (.c (.int .i64 2)))]),
 un (.alc 5 (.agg [.int .i64 0, .nilsl 1])),
 un (.alc 6 (.agg [.int .i64 0, .nilsl 1])),
 un (.st 2 (.t 5) (.t 14)),
 un (.st 2 (.t 6) (.t 15))])
 (.drop [14, 15] (.seq (.seq (.reg [un (.asg 7 (.c (.int .i64 0)))])
 (.block 0 (.loop c_spec_l24Algebra_l2)))
 (.drop [7, 16, 17, 18, 8, 21, 22, 23, 26, 27, 28, 29, 30, 31, 32, 33, 34, 35, 36, 37, 38, 39, 40, 41, 42, 43, 44, 45, 24, 25, 19, 20] (.seq (.reg [un (.mov 46 (.t 3)),
 un (.ld 47 2 true (.t 5)),
 un (.ld 48 2 true (.t 6)),
 un (.bsl 49 2 [(.t 47), (.t 48)]),
 un (.bld 50 [.int .i64 0, .nilsl 2] [(0, 1, (.t 46)), (1, 1, (.t 49))]),
 un (.st 2 (.t 2) (.t 50))])
 (.drop [46, 47, 48, 49, 50] .ret)))))))))))
abbrev r_spec_l24Algebra : List RS := [.c 2 2 true]
theorem k_spec_l24Algebra : fitsF Try.prog f_spec_l24Algebra 51 c_spec_l24Algebra r_spec_l24Algebra = true := by kernel_rfl

/- (loop.example/g01078/impl.order).upperCovers: [o=0, x=1, o=2, x=3] -/
def c_impl_order_upperCovers : ACode :=
 (.seq (.reg [un (.box 2 (.t 0)),
 un (.box 3 (.t 1)),
 un (.asg 4 (.c (.nilsl 1)))])
 (.seq (.reg [un (.ld 5 1 false (.t 2)),
 un (.mkf 6 f_impl_order_upperCovers_1 [(.t 2), (.t 3)]),
 un (.call 7 f_impl_order_those [((.t 5), false), ((.t 6), false)]),
 un (.asg 4 (.t 7))])
 (.drop [5, 6, 7] .ret)))
abbrev r_impl_order_upperCovers : List RS := [.t 4]
theorem k_impl_order_upperCovers : fitsF Try.prog f_impl_order_upperCovers 8 c_impl_order_upperCovers r_impl_order_upperCovers = true := by kernel_rfl

/- (*loop.example/g01078/spec.l1Cur).names2: [c=0, n=1, c=2, n=3, out=5, i=6, k=7] -/
def c_spec_l1Cur_names2_l1 : ACode :=
 (.seq (.seq (.reg [un (.mov 9 (.t 6)),
 un (.mov 10 (.t 1)),
 un (.bin 11 .lss (.t 9) (.t 10))])
 (.drop [9, 10] (.cond (.t 11) .skip
 (.exit 0))))
 (.drop [9, 10, 11] (.seq (.block 1 (.seq (.reg [un (.mov 14 (.t 0)),
 un (.mov 15 (.t 5)),
 un (.len 16 (.t 15)),
 un (.bin 17 .add (.t 16) (.c (.int .i64 1))),
 un (.call 18 f_spec_l1Cur_pick [((.t 14), true), ((.t 17), false)]),
 un (.asg 7 (.t 18))])
 (.drop [14, 15, 16, 17, 18] (.frz [5] (.dreg [(un (.bsl 19 1 []), [24]),
 (un (.mov 20 (.t 5)), [19, 24]),
 (un (.mov 21 (.t 7)), [19, 20, 24]),
 (un (.slc 22 1 (.t 20) none (some (.t 21))), [19, 24]),
 (un (.app 23 1 (.t 19) (.t 22)), [24]),
 (un (.mov 24 (.t 6)), [19, 20, 21, 22, 23, 19]),
 (un (.bsl 25 1 [(.t 24)]), [19, 20, 21, 22, 23, 19]),
 (un (.app 26 1 (.t 23) (.t 25)), [19, 24]),
 (un (.mov 27 (.t 5)), [19, 20, 21, 22, 23, 24, 25, 26, 19, 24, 23]),
 (un (.mov 28 (.t 7)), [19, 20, 21, 22, 23, 24, 25, 26, 27, 19, 24, 23]),
 (un (.slc 29 1 (.t 27) (some (.t 28)) none), [19, 20, 21, 22, 23, 24, 25, 26, 19, 24, 23])]
 [un (.app 30 1 (.t 26) (.t 29)),
 un (.asg 5 (.t 30))])))))
 (.drop [14, 15, 16, 17, 18, 7, 19, 20, 21, 22, 23, 24, 25, 26, 27, 28, 29, 30] (.reg [un (.mov 12 (.t 6)),
 un (.bin 13 .add (.t 12) (.c (.int .i64 1))),
 un (.asg 6 (.t 13))])))))
def c_spec_l1Cur_names2 : ACode :=
 (.seq (.reg [un (.asg 4 (.c (.nilsl 1)))])
 (.seq (.reg [un (.bsl 8 1 []),
 un (.asg 5 (.t 8))])
 (.drop [8] (.seq (.seq (.reg [un (.asg 6 (.c (.int .i64 0)))])
 (.block 0 (.loop c_spec_l1Cur_names2_l1)))
 (.drop [6, 9, 10, 11, 14, 15, 16, 17, 18, 7, 19, 20, 21, 22, 23, 24, 25, 26, 27, 28, 29, 30, 12, 13] (.seq (.seq (.reg [un (.mov 31 (.t 0)),
 un (.call 32 f_spec_l1Cur_pick [((.t 31), true), ((.c (.int .i64 24)), false)])])
 (.drop [31] (.block 2 (.seq (.reg [un (.bin 34 .eql (.t 32) (.c (.int .i64 0))),
 un (.asg 33 (.t 34))])
 (.drop [34] (.cond (.t 33) (.reg [un (.mov 35 (.t 5)),
 un (.mov 36 (.t 1)),
 un (.bsl 37 1 [(.t 36)]),
 un (.app 38 1 (.t 35) (.t 37)),
 un (.asg 5 (.t 38))])
 (.seq (.reg [un (.bin 40 .eql (.t 32) (.c (.int .i64 1))),
 un (.asg 39 (.t 40))])
 (.drop [40] (.cond (.t 39) (.seq (.reg [un (.mov 41 (.t 1)),
 un (.bin 42 .gtr (.t 41) (.c (.int .i64 0)))])
 (.drop [41] (.cond (.t 42) (.reg [un (.mov 43 (.t 5)),
 un (.mov 44 (.t 0)),
 un (.mov 45 (.t 1)),
 un (.call 46 f_spec_l1Cur_pick [((.t 44), true), ((.t 45), false)]),
 un (.mov 47 (.t 0)),
 un (.mov 48 (.t 1)),
 un (.bsl 49 1 [(.c (.int .i64 0)), (.c (.int .i64 (-1))), (.t 48)]),
 un (.call 50 f_spec_l1Cur_among [((.t 47), true), ((.t 49), false)]),
 un (.iad 51 1 (.t 43) (.t 46)),
 un (.st 1 (.t 51) (.t 50))])
 .skip)))
 .skip)))))))))
 (.drop [31, 32, 34, 33, 35, 36, 37, 38, 40, 39, 41, 42, 43, 44, 45, 46, 47, 48, 49, 50, 51] (.seq (.reg [un (.mov 52 (.t 5)),
 un (.asg 4 (.t 52))])
 (.drop [52] .ret)))))))))
abbrev r_spec_l1Cur_names2 : List RS := [.t 4]
theorem k_spec_l1Cur_names2 : fitsF Try.prog f_spec_l1Cur_names2 53 c_spec_l1Cur_names2 r_spec_l1Cur_names2 = true := by kernel_rfl

/- loop.example/g01078/spec.l23Covers: [p=0, x=1, y=2, p=3, x=4, y=5, z=7] -/
def c_spec_l23Covers_l1 : ACode :=
 (.seq (.seq (.reg [un (.mov 13 (.t 7)),
 un (.fadr 14 0 (.t 3)),
 un (.ld 15 1 false (.t 14)),
 un (.len 16 (.t 15)),
 un (.bin 17 .lss (.t 13) (.t 16))])
 (.drop [13, 14, 15, 16] (.cond (.t 17) .skip
 (.exit 0))))
 (.drop [13, 14, 15, 16, 17] (.seq (.block 1 (.seq (.reg [un (.ld 20 1 true (.t 3)),
 un (.mov 21 (.t 1)),
 un (.mov 22 (.t 7)),
 un (.call 23 f_spec_l23Less [((.t 20), false), ((.t 21), false), ((.t 22), false)]),
 un (.asg 24 (.t 23)),
 ⟨some (24, true), .ld 25 1 true (.t 3)⟩,
 ⟨some (24, true), .mov 26 (.t 7)⟩,
 ⟨some (24, true), .mov 27 (.t 2)⟩,
 ⟨some (24, true), .call 28 f_spec_l23Less [((.t 25), false), ((.t 26), false), ((.t 27), false)]⟩,
 un (.pick 29 (.t 24) (.t 28) (.c (.bool false)))])
 (.drop [20, 21, 22, 23, 24, 25, 26, 27, 28] (.cond (.t 29) (.seq (.reg [un (.asg 6 (.c (.bool false)))])
 .ret)
 .skip))))
 (.drop [20, 21, 22, 23, 24, 25, 26, 27, 28, 29] (.reg [un (.mov 18 (.t 7)),
 un (.bin 19 .add (.t 18) (.c (.int .i64 1))),
 un (.asg 7 (.t 19))])))))
def c_spec_l23Covers : ACode :=
 (.seq (.reg [un (.box 3 (.t 0)),
 un (.asg 6 (.c (.bool false)))])
 (.seq (.seq (.reg [un (.ld 8 1 true (.t 3)),
 un (.mov 9 (.t 1)),
 un (.mov 10 (.t 2)),
 un (.call 11 f_spec_l23Less [((.t 8), false), ((.t 9), false), ((.t 10), false)]),
 un (.un 12 .not (.t 11))])
 (.drop [8, 9, 10, 11] (.cond (.t 12) (.seq (.reg [un (.asg 6 (.c (.bool false)))])
 .ret)
 .skip)))
 (.drop [8, 9, 10, 11, 12] (.seq (.seq (.reg [un (.asg 7 (.c (.int .i64 0)))])
 (.block 0 (.loop c_spec_l23Covers_l1)))
 (.drop [7, 13, 14, 15, 16, 17, 20, 21, 22, 23, 24, 25, 26, 27, 28, 29, 18, 19] (.seq (.reg [un (.asg 6 (.c (.bool true)))])
 .ret))))))
abbrev r_spec_l23Covers : List RS := [.t 6]
theorem k_spec_l23Covers : fitsF Try.prog f_spec_l23Covers 30 c_spec_l23Covers r_spec_l23Covers = true := by kernel_rfl

/- (loop.example/g01078/impl.order).lowerCovers: [o=0, x=1, o=2, x=3] -/
def c_impl_order_lowerCovers : ACode :=
 (.seq (.reg [un (.box 2 (.t 0)),
 un (.box 3 (.t 1)),
 un (.asg 4 (.c (.nilsl 1)))])
 (.seq (.reg [un (.ld 5 1 false (.t 2)),
 un (.mkf 6 f_impl_order_lowerCovers_1 [(.t 2), (.t 3)]),
 un (.call 7 f_impl_order_those [((.t 5), false), ((.t 6), false)]),
 un (.asg 4 (.t 7))])
 (.drop [5, 6, 7] .ret)))
abbrev r_impl_order_lowerCovers : List RS := [.t 4]
theorem k_impl_order_lowerCovers : fitsF Try.prog f_impl_order_lowerCovers 8 c_impl_order_lowerCovers r_impl_order_lowerCovers = true := by kernel_rfl

/- loop.example/g01078/spec.LatticeAlgebra: [p=0, p=1] -/
def c_spec_LatticeAlgebra : ACode :=
 (.seq (.reg [un (.box 1 (.t 0)),
 un (.alc 2 (.agg [.int .i64 0, .nilsl 2])),
 un (.asg 3 (.c (.bool false)))])
 (.seq (.seq (.reg [un (.ld 4 1 true (.t 1)),
 un (.call 5 f_spec_l24Good [((.t 4), false)]),
 un (.un 6 .not (.t 5)),
 un (.asg 7 (.t 6)),
 ⟨some (7, false), .fadr 8 0 (.t 1)⟩,
 ⟨some (7, false), .ld 9 1 false (.t 8)⟩,
 ⟨some (7, false), .len 10 (.t 9)⟩,
 ⟨some (7, false), .bin 11 .gtr (.t 10) (.c (.int .i64 8))⟩,
 un (.pick 12 (.t 7) (.c (.bool true)) (.t 11))])
 (.drop [4, 5, 6, 7, 8, 9, 10, 11] (.cond (.t 12) (.seq (.reg [un (.bld 13 [.int .i64 0, .nilsl 2] []),
 un (.st 2 (.t 2) (.t 13)),
 un (.asg 3 (.c (.bool false)))])
 (.drop [13] .ret))
 .skip)))
 (.drop [4, 5, 6, 7, 8, 9, 10, 11, 12, 13] (.seq (.reg [un (.ld 14 1 true (.t 1)),
 un (.call 15 f_spec_l24Algebra [((.t 14), false)]),
 un (.st 2 (.t 2) (.t 15)),
 un (.asg 3 (.c (.bool true)))])
 (.drop [14, 15] .ret)))))
abbrev r_spec_LatticeAlgebra : List RS := [.c 2 2 true, .t 3]
theorem k_spec_LatticeAlgebra : fitsF Try.prog f_spec_LatticeAlgebra 16 c_spec_LatticeAlgebra r_spec_LatticeAlgebra = true := by kernel_rfl

/- loop.example/g01078/spec.IsLattice: [p=0, p=1] -/
def c_spec_IsLattice : ACode :=
 (.seq (.reg [un (.box 1 (.t 0)),
 un (.asg 2 (.c (.bool false)))])
 (.seq (.reg [un (.ld 3 1 true (.t 1)),
 un (.call 4 f_spec_l24Good [((.t 3), false)]),
 un (.asg 2 (.t 4))])
 (.drop [3, 4] .ret)))
abbrev r_spec_IsLattice : List RS := [.t 2]
theorem k_spec_IsLattice : fitsF Try.prog f_spec_IsLattice 5 c_spec_IsLattice r_spec_IsLattice = true := by kernel_rfl

/- loop.example/g01078/spec.l24Irreducibles: [p=0, p=1, out=3, y=4, n=5, x=6] -/
def c_spec_l24Irreducibles_l1 : ACode :=
 (.seq (.seq (.reg [un (.mov 15 (.t 6)),
 un (.fadr 16 0 (.t 1)),
 un (.ld 17 1 false (.t 16)),
 un (.len 18 (.t 17)),
 un (.bin 19 .lss (.t 15) (.t 18))])
 (.drop [15, 16, 17, 18] (.cond (.t 19) .skip
 (.exit 2))))
 (.drop [15, 16, 17, 18, 19] (.seq (.block 3 (.seq (.reg [un (.ld 22 1 true (.t 1)),
 un (.mov 23 (.t 6)),
 un (.mov 24 (.t 4)),
 un (.call 25 f_spec_l23Covers [((.t 22), false), ((.t 23), false), ((.t 24), false)])])
 (.drop [22, 23, 24] (.cond (.t 25) (.reg [un (.mov 26 (.t 5)),
 un (.bin 27 .add (.t 26) (.c (.int .i64 1))),
 un (.asg 5 (.t 27))])
 .skip))))
 (.drop [22, 23, 24, 25, 26, 27] (.reg [un (.mov 20 (.t 6)),
 un (.bin 21 .add (.t 20) (.c (.int .i64 1))),
 un (.asg 6 (.t 21))])))))
def c_spec_l24Irreducibles_l2 : ACode :=
 (.seq (.seq (.reg [un (.mov 8 (.t 4)),
 un (.fadr 9 0 (.t 1)),
 un (.ld 10 1 false (.t 9)),
 un (.len 11 (.t 10)),
 un (.bin 12 .lss (.t 8) (.t 11))])
 (.drop [8, 9, 10, 11] (.cond (.t 12) .skip
 (.exit 0))))
 (.drop [8, 9, 10, 11, 12] (.seq (.block 1 (.seq (.reg [un (.asg 5 (.c (.int .i64 0)))])
 (.seq (.seq (.reg [un (.asg 6 (.c (.int .i64 0)))])
 (.block 2 (.loop c_spec_l24Irreducibles_l1)))
 (.drop [6, 15, 16, 17, 18, 19, 22, 23, 24, 25, 26, 27, 20, 21] (.seq (.reg [un (.mov 28 (.t 5)),
 un (.bin 29 .eql (.t 28) (.c (.int .i64 1)))])
 (.drop [28] (.cond (.t 29) (.reg [un (.mov 30 (.t 3)),
 un (.mov 31 (.t 4)),
 un (.bsl 32 1 [(.t 31)]),
 un (.app 33 1 (.t 30) (.t 32)),
 un (.asg 3 (.t 33))])
 .skip)))))))
 (.drop [5, 6, 15, 16, 17, 18, 19, 22, 23, 24, 25, 26, 27, 20, 21, 28, 29, 30, 31, 32, 33] (.reg [un (.mov 13 (.t 4)),
 un (.bin 14 .add (.t 13) (.c (.int .i64 1))),
 un (.asg 4 (.t 14))])))))
def c_spec_l24Irreducibles : ACode :=
 (.seq (.reg [un (.box 1 (.t 0)),
 un (.asg 2 (.c (.nilsl 1)))])
 (.seq (.reg [un (.bsl 7 1 []),
 un (.asg 3 (.t 7))])
 (.drop [7] (.seq (.seq (.reg [un (.asg 4 (.c (.int .i64 0)))])
 (.block 0 (.loop c_spec_l24Irreducibles_l2)))
 (.drop [4, 8, 9, 10, 11, 12, 5, 6, 15, 16, 17, 18, 19, 22, 23, 24, 25, 26, 27, 20, 21, 28, 29, 30, 31, 32, 33, 13, 14] (.seq (.reg [un (.mov 34 (.t 3)),
 un (.asg 2 (.t 34))])
 (.drop [34] .ret)))))))
abbrev r_spec_l24Irreducibles : List RS := [.t 2]
theorem k_spec_l24Irreducibles : fitsF Try.prog f_spec_l24Irreducibles 35 c_spec_l24Irreducibles r_spec_l24Irreducibles = true := by kernel_rfl

/- loop.example/g01078/impl.MeetIrreducibles$1$1: [x=0, x=2] -/
def c_impl_MeetIrreducibles_1_1 : ACode :=
 (.seq (.reg [un (.asg 3 (.c (.bool false)))])
 (.seq (.reg [un (.ld 4 1 false (.t 1)),
 un (.nck 5 (.t 4)),
 un (.fadr 6 0 (.t 5)),
 un (.ld 7 1 false (.t 6)),
 un (.mov 8 (.t 0)),
 un (.call 9 f_impl_order_upperCovers [((.t 7), false), ((.t 8), false)]),
 un (.len 10 (.t 9)),
 un (.bin 11 .eql (.t 10) (.c (.int .i64 1))),
 un (.asg 3 (.t 11))])
 (.drop [4, 5, 6, 7, 8, 9, 10, 11] .ret)))
abbrev r_impl_MeetIrreducibles_1_1 : List RS := [.t 3]
theorem k_impl_MeetIrreducibles_1_1 : fitsF Try.prog f_impl_MeetIrreducibles_1_1 12 c_impl_MeetIrreducibles_1_1 r_impl_MeetIrreducibles_1_1 = true := by kernel_rfl

/- (*loop.example/g01078/spec.l1Cur).poset: [c=0, c=1, n=3, pairs=4, x=5, y=6, names=7, i=8, p=9, x=10] -/
def c_spec_l1Cur_poset_l1 : ACode :=
 (.seq (.seq (.reg [un (.mov 22 (.t 6)),
 un (.mov 23 (.t 3)),
 un (.bin 24 .lss (.t 22) (.t 23))])
 (.drop [22, 23] (.cond (.t 24) .skip
 (.exit 2))))
 (.drop [22, 23, 24] (.seq (.block 3 (.seq (.reg [un (.mov 27 (.t 0)),
 un (.call 28 f_spec_l1Cur_one [((.t 27), true), ((.c (.int .i64 3)), false)])])
 (.drop [27] (.cond (.t 28) (.reg [un (.mov 29 (.t 4)),
 un (.mov 30 (.t 5)),
 un (.mov 31 (.t 6)),
 un (.bld 32 [.int .i64 0, .int .i64 0] [(0, 1, (.t 30)), (1, 1, (.t 31))]),
 un (.bsl 33 2 [(.t 32)]),
 un (.app 34 2 (.t 29) (.t 33)),
 un (.asg 4 (.t 34))])
 .skip))))
 (.drop [27, 28, 29, 30, 31, 32, 33, 34] (.reg [un (.mov 25 (.t 6)),
 un (.bin 26 .add (.t 25) (.c (.int .i64 1))),
 un (.asg 6 (.t 26))])))))
def c_spec_l1Cur_poset_l2 : ACode :=
 (.seq (.seq (.reg [un (.mov 15 (.t 5)),
 un (.mov 16 (.t 3)),
 un (.bin 17 .lss (.t 15) (.t 16))])
 (.drop [15, 16] (.cond (.t 17) .skip
 (.exit 0))))
 (.drop [15, 16, 17] (.seq (.block 1 (.seq (.reg [un (.mov 20 (.t 5)),
 un (.bin 21 .add (.t 20) (.c (.int .i64 1))),
 un (.asg 6 (.t 21))])
 (.drop [20, 21] (.block 2 (.loop c_spec_l1Cur_poset_l1)))))
 (.drop [20, 21, 6, 22, 23, 24, 27, 28, 29, 30, 31, 32, 33, 34, 25, 26] (.reg [un (.mov 18 (.t 5)),
 un (.bin 19 .add (.t 18) (.c (.int .i64 1))),
 un (.asg 5 (.t 19))])))))
def c_spec_l1Cur_poset_k1 : ACode :=
 (.reg [un (.mov 38 (.t 7)),
 un (.mov 39 (.t 3)),
 un (.call 40 f_spec_l2Perm [((.t 38), false), ((.t 39), false)]),
 un (.asg 41 (.t 40)),
 ⟨some (41, true), .mov 42 (.t 0)⟩,
 ⟨some (41, true), .call 43 f_spec_l1Cur_one [((.t 42), true), ((.c (.int .i64 2)), false)]⟩,
 un (.pick 44 (.t 41) (.t 43) (.c (.bool false)))])
def c_spec_l1Cur_poset_l3 : ACode :=
 (.seq (.seq (.reg [un (.mov 45 (.t 8)),
 un (.mov 46 (.t 4)),
 un (.len 47 (.t 46)),
 un (.bin 48 .lss (.t 45) (.t 47))])
 (.drop [45, 46, 47] (.cond (.t 48) .skip
 (.exit 4))))
 (.drop [45, 46, 47, 48] (.seq (.block 5 (.dreg [(un (.mov 51 (.t 4)), []),
 (un (.mov 52 (.t 8)), [51]),
 (un (.mov 53 (.t 7)), [51, 52]),
 (un (.mov 54 (.t 4)), [51, 52, 53]),
 (un (.mov 55 (.t 8)), [51, 52, 53, 54]),
 (un (.iad 56 2 (.t 54) (.t 55)), [51, 52, 53]),
 (un (.aad 57 1 2 (.t 56) (.c (.int .i64 0))), [51, 52, 53]),
 (un (.ld 58 1 false (.t 57)), [51, 52, 53]),
 (un (.iad 59 1 (.t 53) (.t 58)), [51, 52]),
 (un (.ld 60 1 false (.t 59)), [51, 52]),
 (un (.mov 61 (.t 7)), [51, 52, 53, 54, 55, 56, 57, 58, 59, 60]),
 (un (.mov 62 (.t 4)), [51, 52, 53, 54, 55, 56, 57, 58, 59, 60, 61]),
 (un (.mov 63 (.t 8)), [51, 52, 53, 54, 55, 56, 57, 58, 59, 60, 61, 62]),
 (un (.iad 64 2 (.t 62) (.t 63)), [51, 52, 53, 54, 55, 56, 57, 58, 59, 60, 61]),
 (un (.aad 65 1 2 (.t 64) (.c (.int .i64 1))), [51, 52, 53, 54, 55, 56, 57, 58, 59, 60, 61]),
 (un (.ld 66 1 false (.t 65)), [51, 52, 53, 54, 55, 56, 57, 58, 59, 60, 61]),
 (un (.iad 67 1 (.t 61) (.t 66)), [51, 52, 53, 54, 55, 56, 57, 58, 59, 60]),
 (un (.ld 68 1 false (.t 67)), [51, 52, 53, 54, 55, 56, 57, 58, 59, 60]),
 (un (.bld 69 [.int .i64 0, .int .i64 0] [(0, 1, (.t 60)), (1, 1, (.t 68))]), [51, 52])]
 [un (.iad 70 2 (.t 51) (.t 52)),
 un (.st 2 (.t 70) (.t 69))]))
 (.drop [51, 52, 53, 54, 55, 56, 57, 58, 59, 60, 61, 62, 63, 64, 65, 66, 67, 68, 69, 70] (.reg [un (.mov 49 (.t 8)),
 un (.bin 50 .add (.t 49) (.c (.int .i64 1))),
 un (.asg 8 (.t 50))])))))
def c_spec_l1Cur_poset_k2 : ACode :=
 (.seq (.reg [un (.mov 35 (.t 0)),
 un (.mov 36 (.t 3)),
 un (.call 37 f_spec_l1Cur_names2 [((.t 35), true), ((.t 36), false)]),
 un (.asg 7 (.t 37))])
 (.drop [35, 36, 37] (.seq (.cut c_spec_l1Cur_poset_k1)
 (.drop [38, 39, 40, 41, 42, 43] (.cond (.t 44) (.seq (.reg [un (.asg 8 (.c (.int .i64 0)))])
 (.block 4 (.loop c_spec_l1Cur_poset_l3)))
 .skip)))))
def c_spec_l1Cur_poset_k3 : ACode :=
 (.seq (.reg [un (.mov 74 (.t 3)),
 un (.bin 75 .eql (.t 74) (.c (.int .i64 0))),
 un (.asg 76 (.t 75)),
 ⟨some (76, false), .mov 77 (.t 0)⟩,
 ⟨some (76, false), .call 78 f_spec_l1Cur_one [((.t 77), true), ((.c (.int .i64 16)), false)]⟩,
 ⟨some (76, false), .un 79 .not (.t 78)⟩,
 un (.pick 80 (.t 76) (.c (.bool true)) (.t 79))])
 (.drop [74, 75, 76, 77, 78, 79] (.cond (.t 80) (.seq (.reg [un (.ld 81 1 true (.t 9)),
 un (.st 1 (.t 2) (.t 81))])
 (.drop [81] .ret))
 .skip)))
def c_spec_l1Cur_poset_l4 : ACode :=
 (.seq (.seq (.dreg [(un (.fadr 130 0 (.t 9)), [147]),
 (un (.ld 131 1 false (.t 130)), [147]),
 (un (.len 132 (.t 131)), [147]),
 (un (.mov 133 (.t 0)), [130, 131, 132]),
 (un (.call 134 f_spec_l1Cur_pick [((.t 133), true), ((.c (.int .i64 2)), false)]), [147, 130, 131, 132]),
 (un (.bin 135 .add (.c (.int .i64 10)) (.t 134)), [130, 131, 132])]
 [un (.bin 136 .lss (.t 132) (.t 135))])
 (.drop [130, 131, 132, 133, 134, 135] (.cond (.t 136) .skip
 (.exit 7))))
 (.drop [130, 131, 132, 133, 134, 135, 136] (.block 8 (.reg [un (.fadr 137 0 (.t 9)),
 un (.ld 138 1 false (.t 137)),
 un (.fadr 139 0 (.t 9)),
 un (.ld 140 1 false (.t 139)),
 un (.len 141 (.t 140)),
 un (.bsl 142 1 [(.t 141)]),
 un (.bsl 143 1 [(.t 142)]),
 un (.app 144 1 (.t 138) (.t 143)),
 un (.fadr 145 0 (.t 9)),
 un (.st 1 (.t 145) (.t 144))]))))
def c_spec_l1Cur_poset : ACode :=
 (.seq (.reg [un (.alc 2 (.agg [.nilsl 1]))])
 (.seq (.reg [un (.mov 11 (.t 0)),
 un (.bsl 12 1 [(.c (.int .i64 0)), (.c (.int .i64 1)), (.c (.int .i64 2)), (.c (.int .i64 3)), (.c (.int .i64 4)), (.c (.int .i64 4)), (.c (.int .i64 5)), (.c (.int .i64 5)), (.c (.int .i64 6)), (.c (.int .i64 7))]),
 un (.call 13 f_spec_l1Cur_among [((.t 11), true), ((.t 12), false)]),
 un (.asg 3 (.t 13))])
 (.drop [11, 12, 13] (.seq (.reg [un (.bsl 14 2 []),
 un (.asg 4 (.t 14))])
 (.drop [14] (.seq (.seq (.reg [un (.asg 5 (.c (.int .i64 0)))])
 (.block 0 (.loop c_spec_l1Cur_poset_l2)))
 (.drop [5, 15, 16, 17, 20, 21, 6, 22, 23, 24, 27, 28, 29, 30, 31, 32, 33, 34, 25, 26, 18, 19] (.seq (.cut c_spec_l1Cur_poset_k2)
 (.drop [35, 36, 37, 7, 38, 39, 40, 41, 42, 43, 44, 8, 45, 46, 47, 48, 51, 52, 53, 54, 55, 56, 57, 58, 59, 60, 61, 62, 63, 64, 65, 66, 67, 68, 69, 70, 49, 50] (.seq (.reg [un (.mov 71 (.t 3)),
 un (.mov 72 (.t 4)),
 un (.call 73 f_spec_l23From [((.t 71), false), ((.t 72), false)]),
 un (.alc 9 (.agg [.nilsl 1])),
 un (.st 1 (.t 9) (.t 73))])
 (.drop [71, 72, 73] (.seq (.cut c_spec_l1Cur_poset_k3)
 (.drop [74, 75, 76, 77, 78, 79, 80, 81] (.seq (.reg [un (.mov 82 (.t 0)),
 un (.mov 83 (.t 3)),
 un (.call 84 f_spec_l1Cur_pick [((.t 82), true), ((.t 83), false)]),
 un (.asg 10 (.t 84))])
 (.drop [82, 83, 84] (.seq (.seq (.reg [un (.mov 85 (.t 0)),
 un (.call 86 f_spec_l1Cur_pick [((.t 85), true), ((.c (.int .i64 4)), false)])])
 (.drop [85] (.block 6 (.seq (.reg [un (.bin 88 .eql (.t 86) (.c (.int .i64 0))),
 un (.asg 87 (.t 88))])
 (.drop [88] (.cond (.t 87) (.frz [200009] (.dreg [(un (.fadr 89 0 (.t 9)), []),
 (un (.ld 90 1 false (.t 89)), []),
 (un (.mov 91 (.t 10)), [89, 90]),
 (un (.fadr 92 0 (.t 9)), [89, 90, 91]),
 (un (.ld 93 1 false (.t 92)), [89, 90, 91]),
 (un (.mov 94 (.t 10)), [89, 90, 91, 92, 93]),
 (un (.iad 95 1 (.t 93) (.t 94)), [89, 90, 91]),
 (un (.ld 96 1 false (.t 95)), [89, 90, 91]),
 (un (.slc 97 1 (.t 96) (some (.c (.int .i64 1))) none), [89, 90, 91])]
 [un (.iad 98 1 (.t 90) (.t 91)),
 un (.st 1 (.t 98) (.t 97))]))
 (.seq (.reg [un (.bin 100 .eql (.t 86) (.c (.int .i64 1))),
 un (.asg 99 (.t 100))])
 (.drop [100] (.cond (.t 99) (.dregl [(0, .fadr 101 0 (.t 9)),
 (1, .ld 102 1 false (.t 101)),
 (2, .mov 103 (.t 10)),
 (3, .fadr 104 0 (.t 9)),
 (4, .ld 105 1 false (.t 104)),
 (5, .mov 106 (.t 10)),
 (6, .iad 107 1 (.t 105) (.t 106)),
 (7, .ld 108 1 false (.t 107)),
 (8, .mov 109 (.t 3))]
 [(9, .bsl 110 1 [(.t 109)], [0, 1, 2, 3, 4, 5, 6, 7, 8], []),
 (10, .app 111 1 (.t 108) (.t 110), [0, 1, 2, 3, 4, 5, 6, 7], [108]),
 (11, .iad 112 1 (.t 102) (.t 103), [0, 1, 2], []),
 (12, .st 1 (.t 112) (.t 111), [], [])])
 (.seq (.reg [un (.bin 114 .eql (.t 86) (.c (.int .i64 2))),
 un (.asg 113 (.t 114))])
 (.drop [114] (.cond (.t 113) (.frz [200009] (.dreg [(un (.fadr 115 0 (.t 9)), [147]),
 (un (.ld 116 1 false (.t 115)), [147]),
 (un (.mov 117 (.t 10)), [147, 115, 116]),
 (un (.fadr 118 0 (.t 9)), [147, 115, 116, 117]),
 (un (.ld 119 1 false (.t 118)), [147, 115, 116, 117]),
 (un (.mov 120 (.t 10)), [147, 115, 116, 117, 118, 119]),
 (un (.iad 121 1 (.t 119) (.t 120)), [147, 115, 116, 117]),
 (un (.ld 122 1 false (.t 121)), [147, 115, 116, 117]),
 (un (.mov 123 (.t 0)), [115, 116, 117, 118, 119, 120, 121, 122]),
 (un (.mov 124 (.t 3)), [115, 116, 117, 118, 119, 120, 121, 122, 123]),
 (un (.call 125 f_spec_l1Cur_pick [((.t 123), true), ((.t 124), false)]), [147, 115, 116, 117, 118, 119, 120, 121, 122]),
 (un (.call 126 f_spec_l1Put [((.t 122), false), ((.t 125), false)]), [115, 116, 117])]
 [un (.iad 127 1 (.t 116) (.t 117)),
 un (.st 1 (.t 127) (.t 126))]))
 (.seq (.reg [un (.bin 129 .eql (.t 86) (.c (.int .i64 3))),
 un (.asg 128 (.t 129))])
 (.drop [129] (.cond (.t 128) (.block 7 (.loop c_spec_l1Cur_poset_l4))
 .skip)))))))))))))))
 (.drop [85, 86, 88, 87, 89, 90, 91, 92, 93, 94, 95, 96, 97, 98, 100, 99, 101, 102, 103, 104, 105, 106, 107, 108, 109, 110, 111, 112, 114, 113, 115, 116, 117, 118, 119, 120, 121, 122, 123, 124, 125, 126, 127, 129, 128, 130, 131, 132, 133, 134, 135, 136, 137, 138, 139, 140, 141, 142, 143, 144, 145] (.seq (.reg [un (.ld 146 1 true (.t 9)),
 un (.st 1 (.t 2) (.t 146))])
 (.drop [146] .ret)))))))))))))))))))
abbrev r_spec_l1Cur_poset : List RS := [.c 2 1 true]
theorem k_spec_l1Cur_poset : fitsF Try.prog f_spec_l1Cur_poset 147 c_spec_l1Cur_poset r_spec_l1Cur_poset = true := by kernel_rfl

/- loop.example/g01078/spec.l23Pairs: [p=0, p=1, out=3, x=4, y=5] -/
def c_spec_l23Pairs_l1 : ACode :=
 (.seq (.seq (.reg [un (.mov 14 (.t 5)),
 un (.fadr 15 0 (.t 1)),
 un (.ld 16 1 false (.t 15)),
 un (.len 17 (.t 16)),
 un (.bin 18 .lss (.t 14) (.t 17))])
 (.drop [14, 15, 16, 17] (.cond (.t 18) .skip
 (.exit 2))))
 (.drop [14, 15, 16, 17, 18] (.seq (.block 3 (.seq (.reg [un (.ld 21 1 true (.t 1)),
 un (.mov 22 (.t 4)),
 un (.mov 23 (.t 5)),
 un (.call 24 f_spec_l23Covers [((.t 21), false), ((.t 22), false), ((.t 23), false)])])
 (.drop [21, 22, 23] (.cond (.t 24) (.reg [un (.mov 25 (.t 3)),
 un (.mov 26 (.t 4)),
 un (.mov 27 (.t 5)),
 un (.bld 28 [.int .i64 0, .int .i64 0] [(0, 1, (.t 26)), (1, 1, (.t 27))]),
 un (.bsl 29 2 [(.t 28)]),
 un (.app 30 2 (.t 25) (.t 29)),
 un (.asg 3 (.t 30))])
 .skip))))
 (.drop [21, 22, 23, 24, 25, 26, 27, 28, 29, 30] (.reg [un (.mov 19 (.t 5)),
 un (.bin 20 .add (.t 19) (.c (.int .i64 1))),
 un (.asg 5 (.t 20))])))))
def c_spec_l23Pairs_l2 : ACode :=
 (.seq (.seq (.reg [un (.mov 7 (.t 4)),
 un (.fadr 8 0 (.t 1)),
 un (.ld 9 1 false (.t 8)),
 un (.len 10 (.t 9)),
 un (.bin 11 .lss (.t 7) (.t 10))])
 (.drop [7, 8, 9, 10] (.cond (.t 11) .skip
 (.exit 0))))
 (.drop [7, 8, 9, 10, 11] (.seq (.block 1 (.seq (.reg [un (.asg 5 (.c (.int .i64 0)))])
 (.block 2 (.loop c_spec_l23Pairs_l1))))
 (.drop [5, 14, 15, 16, 17, 18, 21, 22, 23, 24, 25, 26, 27, 28, 29, 30, 19, 20] (.reg [un (.mov 12 (.t 4)),
 un (.bin 13 .add (.t 12) (.c (.int .i64 1))),
 un (.asg 4 (.t 13))])))))
def c_spec_l23Pairs : ACode :=
 (.seq (.reg [un (.box 1 (.t 0)),
 un (.asg 2 (.c (.nilsl 2)))])
 (.seq (.reg [un (.bsl 6 2 []),
 un (.asg 3 (.t 6))])
 (.drop [6] (.seq (.seq (.reg [un (.asg 4 (.c (.int .i64 0)))])
 (.block 0 (.loop c_spec_l23Pairs_l2)))
 (.drop [4, 7, 8, 9, 10, 11, 5, 14, 15, 16, 17, 18, 21, 22, 23, 24, 25, 26, 27, 28, 29, 30, 19, 20, 12, 13] (.seq (.reg [un (.mov 31 (.t 3)),
 un (.asg 2 (.t 31))])
 (.drop [31] .ret)))))))
abbrev r_spec_l23Pairs : List RS := [.t 2]
theorem k_spec_l23Pairs : fitsF Try.prog f_spec_l23Pairs 32 c_spec_l23Pairs r_spec_l23Pairs = true := by kernel_rfl

/- (*loop.example/g01078/impl.lattice).irreducibles$1: [x=0, x=2] -/
def c_impl_lattice_irreducibles_1 : ACode :=
 (.seq (.reg [un (.asg 3 (.c (.bool false)))])
 (.seq (.reg [un (.ld 4 1 false (.t 1)),
 un (.nck 5 (.t 4)),
 un (.fadr 6 0 (.t 5)),
 un (.ld 7 1 false (.t 6)),
 un (.mov 8 (.t 0)),
 un (.call 9 f_impl_order_lowerCovers [((.t 7), false), ((.t 8), false)]),
 un (.len 10 (.t 9)),
 un (.bin 11 .eql (.t 10) (.c (.int .i64 1))),
 un (.asg 3 (.t 11))])
 (.drop [4, 5, 6, 7, 8, 9, 10, 11] .ret)))
abbrev r_impl_lattice_irreducibles_1 : List RS := [.t 3]
theorem k_impl_lattice_irreducibles_1 : fitsF Try.prog f_impl_lattice_irreducibles_1 12 c_impl_lattice_irreducibles_1 r_impl_lattice_irreducibles_1 = true := by kernel_rfl

/- loop.example/g01078/spec.JoinIrreducibles: [p=0, p=1] -/
def c_spec_JoinIrreducibles : ACode :=
 (.seq (.reg [un (.box 1 (.t 0)),
 un (.asg 2 (.c (.nilsl 1))),
 un (.asg 3 (.c (.bool false)))])
 (.seq (.seq (.reg [un (.ld 4 1 true (.t 1)),
 un (.call 5 f_spec_l24Good [((.t 4), false)]),
 un (.un 6 .not (.t 5))])
 (.drop [4, 5] (.cond (.t 6) (.seq (.reg [un (.bsl 7 1 []),
 un (.asg 2 (.t 7)),
 un (.asg 3 (.c (.bool false)))])
 (.drop [7] .ret))
 .skip)))
 (.drop [4, 5, 6, 7] (.seq (.reg [un (.ld 8 1 true (.t 1)),
 un (.call 9 f_spec_l24Irreducibles [((.t 8), false)]),
 un (.asg 2 (.t 9)),
 un (.asg 3 (.c (.bool true)))])
 (.drop [8, 9] .ret)))))
abbrev r_spec_JoinIrreducibles : List RS := [.t 2, .t 3]
theorem k_spec_JoinIrreducibles : fitsF Try.prog f_spec_JoinIrreducibles 10 c_spec_JoinIrreducibles r_spec_JoinIrreducibles = true := by kernel_rfl

/- loop.example/g01078/spec.MeetIrreducibles: [p=0, p=1] -/
def c_spec_MeetIrreducibles : ACode :=
 (.seq (.reg [un (.box 1 (.t 0)),
 un (.asg 2 (.c (.nilsl 1))),
 un (.asg 3 (.c (.bool false)))])
 (.seq (.seq (.reg [un (.ld 4 1 true (.t 1)),
 un (.call 5 f_spec_l24Good [((.t 4), false)]),
 un (.un 6 .not (.t 5))])
 (.drop [4, 5] (.cond (.t 6) (.seq (.reg [un (.bsl 7 1 []),
 un (.asg 2 (.t 7)),
 un (.asg 3 (.c (.bool false)))])
 (.drop [7] .ret))
 .skip)))
 (.drop [4, 5, 6, 7] (.seq (.reg [un (.ld 8 1 true (.t 1)),
 un (.call 9 f_spec_l23Dual [((.t 8), false)]),
 un (.call 10 f_spec_l24Irreducibles [((.t 9), false)]),
 un (.asg 2 (.t 10)),
 un (.asg 3 (.c (.bool true)))])
 (.drop [8, 9, 10] .ret)))))
abbrev r_spec_MeetIrreducibles : List RS := [.t 2, .t 3]
theorem k_spec_MeetIrreducibles : fitsF Try.prog f_spec_MeetIrreducibles 11 c_spec_MeetIrreducibles r_spec_MeetIrreducibles = true := by kernel_rfl

/- (*loop.example/g01078/spec.l1Cur).lattice: [c=0, c=1, p=3, n=4, names=5, pairs=6, i=7] -/
def c_spec_l1Cur_lattice_k1 : ACode :=
 (.reg [un (.mov 21 (.t 5)),
 un (.mov 22 (.t 4)),
 un (.call 23 f_spec_l2Perm [((.t 21), false), ((.t 22), false)]),
 un (.asg 24 (.t 23)),
 ⟨some (24, true), .mov 25 (.t 0)⟩,
 ⟨some (24, true), .call 26 f_spec_l1Cur_one [((.t 25), true), ((.c (.int .i64 2)), false)]⟩,
 un (.pick 27 (.t 24) (.t 26) (.c (.bool false)))])
def c_spec_l1Cur_lattice_l1 : ACode :=
 (.seq (.seq (.reg [un (.mov 30 (.t 7)),
 un (.mov 31 (.t 6)),
 un (.len 32 (.t 31)),
 un (.bin 33 .lss (.t 30) (.t 32))])
 (.drop [30, 31, 32] (.cond (.t 33) .skip
 (.exit 0))))
 (.drop [30, 31, 32, 33] (.seq (.block 1 (.dreg [(un (.mov 36 (.t 6)), []),
 (un (.mov 37 (.t 7)), [36]),
 (un (.mov 38 (.t 5)), [36, 37]),
 (un (.mov 39 (.t 6)), [36, 37, 38]),
 (un (.mov 40 (.t 7)), [36, 37, 38, 39]),
 (un (.iad 41 2 (.t 39) (.t 40)), [36, 37, 38]),
 (un (.aad 42 1 2 (.t 41) (.c (.int .i64 0))), [36, 37, 38]),
 (un (.ld 43 1 false (.t 42)), [36, 37, 38]),
 (un (.iad 44 1 (.t 38) (.t 43)), [36, 37]),
 (un (.ld 45 1 false (.t 44)), [36, 37]),
 (un (.mov 46 (.t 5)), [36, 37, 38, 39, 40, 41, 42, 43, 44, 45]),
 (un (.mov 47 (.t 6)), [36, 37, 38, 39, 40, 41, 42, 43, 44, 45, 46]),
 (un (.mov 48 (.t 7)), [36, 37, 38, 39, 40, 41, 42, 43, 44, 45, 46, 47]),
 (un (.iad 49 2 (.t 47) (.t 48)), [36, 37, 38, 39, 40, 41, 42, 43, 44, 45, 46]),
 (un (.aad 50 1 2 (.t 49) (.c (.int .i64 1))), [36, 37, 38, 39, 40, 41, 42, 43, 44, 45, 46]),
 (un (.ld 51 1 false (.t 50)), [36, 37, 38, 39, 40, 41, 42, 43, 44, 45, 46]),
 (un (.iad 52 1 (.t 46) (.t 51)), [36, 37, 38, 39, 40, 41, 42, 43, 44, 45]),
 (un (.ld 53 1 false (.t 52)), [36, 37, 38, 39, 40, 41, 42, 43, 44, 45]),
 (un (.bld 54 [.int .i64 0, .int .i64 0] [(0, 1, (.t 45)), (1, 1, (.t 53))]), [36, 37])]
 [un (.iad 55 2 (.t 36) (.t 37)),
 un (.st 2 (.t 55) (.t 54))]))
 (.drop [36, 37, 38, 39, 40, 41, 42, 43, 44, 45, 46, 47, 48, 49, 50, 51, 52, 53, 54, 55] (.reg [un (.mov 34 (.t 7)),
 un (.bin 35 .add (.t 34) (.c (.int .i64 1))),
 un (.asg 7 (.t 35))])))))
def c_spec_l1Cur_lattice : ACode :=
 (.seq (.reg [un (.alc 2 (.agg [.nilsl 1]))])
 (.seq (.seq (.reg [un (.mov 8 (.t 0)),
 un (.call 9 f_spec_l1Cur_one [((.t 8), true), ((.c (.int .i64 10)), false)])])
 (.drop [8] (.cond (.t 9) (.seq (.reg [un (.mov 10 (.t 0)),
 un (.call 11 f_spec_l1Cur_poset [((.t 10), true)]),
 un (.st 1 (.t 2) (.t 11))])
 (.drop [10, 11] .ret))
 .skip)))
 (.drop [8, 9, 10, 11] (.seq (.reg [un (.mov 12 (.t 0)),
 un (.call 13 f_spec_l1Cur_pick [((.t 12), true), ((.c (.int .i64 12)), false)]),
 un (.call 14 f_spec_l24Known [((.t 13), false)]),
 un (.alc 3 (.agg [.nilsl 1])),
 un (.st 1 (.t 3) (.t 14))])
 (.drop [12, 13, 14] (.seq (.reg [un (.fadr 15 0 (.t 3)),
 un (.ld 16 1 false (.t 15)),
 un (.len 17 (.t 16)),
 un (.asg 4 (.t 17))])
 (.drop [15, 16, 17] (.seq (.seq (.reg [un (.mov 18 (.t 0)),
 un (.mov 19 (.t 4)),
 un (.call 20 f_spec_l1Cur_names2 [((.t 18), true), ((.t 19), false)]),
 un (.asg 5 (.t 20))])
 (.drop [18, 19, 20] (.seq (.cut c_spec_l1Cur_lattice_k1)
 (.drop [21, 22, 23, 24, 25, 26] (.cond (.t 27) (.seq (.reg [un (.ld 28 1 true (.t 3)),
 un (.call 29 f_spec_l23Pairs [((.t 28), false)]),
 un (.asg 6 (.t 29))])
 (.drop [28, 29] (.seq (.seq (.reg [un (.asg 7 (.c (.int .i64 0)))])
 (.block 0 (.loop c_spec_l1Cur_lattice_l1)))
 (.drop [7, 30, 31, 32, 33, 36, 37, 38, 39, 40, 41, 42, 43, 44, 45, 46, 47, 48, 49, 50, 51, 52, 53, 54, 55, 34, 35] (.reg [un (.mov 56 (.t 4)),
 un (.mov 57 (.t 6)),
 un (.call 58 f_spec_l23From [((.t 56), false), ((.t 57), false)]),
 un (.st 1 (.t 3) (.t 58))])))))
 .skip)))))
 (.drop [18, 19, 20, 5, 21, 22, 23, 24, 25, 26, 27, 28, 29, 6, 7, 30, 31, 32, 33, 36, 37, 38, 39, 40, 41, 42, 43, 44, 45, 46, 47, 48, 49, 50, 51, 52, 53, 54, 55, 34, 35, 56, 57, 58] (.seq (.reg [un (.ld 59 1 true (.t 3)),
 un (.st 1 (.t 2) (.t 59))])
 (.drop [59] .ret)))))))))))
abbrev r_spec_l1Cur_lattice : List RS := [.c 2 1 true]
theorem k_spec_l1Cur_lattice : fitsF Try.prog f_spec_l1Cur_lattice 60 c_spec_l1Cur_lattice r_spec_l1Cur_lattice = true := by kernel_rfl

/- (*loop.example/g01078/impl.lattice).irreducibles: [l=0, l=1] -/
def c_impl_lattice_irreducibles : ACode :=
 (.seq (.reg [un (.box 1 (.t 0)),
 un (.asg 2 (.c (.nilsl 1)))])
 (.seq (.reg [un (.ld 3 1 false (.t 1)),
 un (.nck 4 (.t 3)),
 un (.fadr 5 0 (.t 4)),
 un (.ld 6 1 false (.t 5)),
 un (.mkf 7 f_impl_lattice_irreducibles_1 [(.t 1)]),
 un (.call 8 f_impl_order_those [((.t 6), false), ((.t 7), false)]),
 un (.asg 2 (.t 8))])
 (.drop [3, 4, 5, 6, 7, 8] .ret)))
abbrev r_impl_lattice_irreducibles : List RS := [.t 2]
theorem k_impl_lattice_irreducibles : fitsF Try.prog f_impl_lattice_irreducibles 9 c_impl_lattice_irreducibles r_impl_lattice_irreducibles = true := by kernel_rfl

/- loop.example/g01078/impl.MeetIrreducibles$1: [l=0, l=1] -/
def c_impl_MeetIrreducibles_1 : ACode :=
 (.seq (.reg [un (.box 1 (.t 0)),
 un (.asg 2 (.c (.nilsl 1)))])
 (.seq (.reg [un (.ld 3 1 false (.t 1)),
 un (.nck 4 (.t 3)),
 un (.fadr 5 0 (.t 4)),
 un (.ld 6 1 false (.t 5)),
 un (.mkf 7 f_impl_MeetIrreducibles_1_1 [(.t 1)]),
 un (.call 8 f_impl_order_those [((.t 6), false), ((.t 7), false)]),
 un (.asg 2 (.t 8))])
 (.drop [3, 4, 5, 6, 7, 8] .ret)))
abbrev r_impl_MeetIrreducibles_1 : List RS := [.t 2]
theorem k_impl_MeetIrreducibles_1 : fitsF Try.prog f_impl_MeetIrreducibles_1 9 c_impl_MeetIrreducibles_1 r_impl_MeetIrreducibles_1 = true := by kernel_rfl

/- loop.example/g01078/impl.JoinIrreducibles: [p=0, p=1] -/
def c_impl_JoinIrreducibles : ACode :=
 (.seq (.reg [un (.box 1 (.t 0)),
 un (.asg 2 (.c (.nilsl 1))),
 un (.asg 3 (.c (.bool false)))])
 (.seq (.reg [un (.ld 4 1 true (.t 1)),
 un (.call 5 f_impl_listOf [((.t 4), false), ((.c (.clo f_impl_lattice_irreducibles [])), false)]),
 un (.ext 6 (.t 5) 0),
 un (.ext 7 (.t 5) 1),
 un (.asg 2 (.t 6)),
 un (.asg 3 (.t 7))])
 (.drop [4, 5, 6, 7] .ret)))
abbrev r_impl_JoinIrreducibles : List RS := [.t 2, .t 3]
theorem k_impl_JoinIrreducibles : fitsF Try.prog f_impl_JoinIrreducibles 8 c_impl_JoinIrreducibles r_impl_JoinIrreducibles = true := by kernel_rfl

/- loop.example/g01078/impl.MeetIrreducibles: [p=0, p=1] -/
def c_impl_MeetIrreducibles : ACode :=
 (.seq (.reg [un (.box 1 (.t 0)),
 un (.asg 2 (.c (.nilsl 1))),
 un (.asg 3 (.c (.bool false)))])
 (.seq (.reg [un (.ld 4 1 true (.t 1)),
 un (.call 5 f_impl_listOf [((.t 4), false), ((.c (.clo f_impl_MeetIrreducibles_1 [])), false)]),
 un (.ext 6 (.t 5) 0),
 un (.ext 7 (.t 5) 1),
 un (.asg 2 (.t 6)),
 un (.asg 3 (.t 7))])
 (.drop [4, 5, 6, 7] .ret)))
abbrev r_impl_MeetIrreducibles : List RS := [.t 2, .t 3]
theorem k_impl_MeetIrreducibles : fitsF Try.prog f_impl_MeetIrreducibles 8 c_impl_MeetIrreducibles r_impl_MeetIrreducibles = true := by kernel_rfl

/- loop.example/g01078/spec.DrawIsLattice: [code=0, code=1, c=3] -/
def c_spec_DrawIsLattice : ACode :=
 (.seq (.reg [un (.alc 2 (.agg [.nilsl 1]))])
 (.seq (.reg [un (.mov 4 (.t 0)),
 un (.bld 5 [.nilsl 1, .int .i64 0, .int .u64 0] [(0, 1, (.t 4))]),
 un (.box 6 (.t 5)),
 un (.asg 3 (.t 6))])
 (.drop [4, 5, 6] (.seq (.reg [un (.mov 7 (.t 3)),
 un (.call 8 f_spec_l1Cur_lattice [((.t 7), true)]),
 un (.st 1 (.t 2) (.t 8))])
 (.drop [7, 8] .ret)))))
abbrev r_spec_DrawIsLattice : List RS := [.c 2 1 true]
theorem k_spec_DrawIsLattice : fitsF Try.prog f_spec_DrawIsLattice 9 c_spec_DrawIsLattice r_spec_DrawIsLattice = true := by kernel_rfl

/- loop.example/g01078/spec.DrawLatticeAlgebra: [code=0, code=1] -/
def c_spec_DrawLatticeAlgebra : ACode :=
 (.seq (.reg [un (.alc 2 (.agg [.nilsl 1]))])
 (.seq (.reg [un (.mov 3 (.t 0)),
 un (.call 4 f_spec_DrawIsLattice [((.t 3), false)]),
 un (.st 1 (.t 2) (.t 4))])
 (.drop [3, 4] .ret)))
abbrev r_spec_DrawLatticeAlgebra : List RS := [.c 2 1 true]
theorem k_spec_DrawLatticeAlgebra : fitsF Try.prog f_spec_DrawLatticeAlgebra 5 c_spec_DrawLatticeAlgebra r_spec_DrawLatticeAlgebra = true := by kernel_rfl

/- loop.example/g01078/laws.FnLattices: [code=0, code=1, p=3, a=4, ok=5, want=6, wants=7, back=8, one=9, low=10, one=11, want=12, wants=13, high=14, two=15, want=16, wants=17, dual=18, three=19, x=20, under=21, over=22, i=23, is=24, four=25, i=26, is=27, four=28, y=29, four=30, z=31, five=32, w=33, j=34, six=35, m=36, seven=37, b=38, eight=39, bottom=40, top=41, four=42, all=43, five=44] -/
def c_laws_FnLattices_k1 : ACode :=
 (.seq (.reg [un (.ld 55 1 true (.t 3)),
 un (.call 56 f_spec_LatticeAlgebra [((.t 55), false)]),
 un (.asg 54 (.t 56)),
 un (.ext 57 (.t 54) 0),
 un (.ext 58 (.t 54) 1),
 un (.alc 6 (.agg [.int .i64 0, .nilsl 2])),
 un (.st 2 (.t 6) (.t 57)),
 un (.asg 7 (.t 58))])
 (.drop [55, 56, 54, 57, 58] (.seq (.reg [un (.mov 59 (.t 5)),
 un (.mov 60 (.t 7)),
 un (.binb 61 .neq (.t 59) (.t 60)),
 un (.asg 62 (.t 61)),
 ⟨some (62, false), .ld 63 2 true (.t 4)⟩,
 ⟨some (62, false), .ld 64 2 true (.t 6)⟩,
 ⟨some (62, false), .call 65 f_laws_rAlgebra [((.t 63), false), ((.t 64), false)]⟩,
 ⟨some (62, false), .un 66 .not (.t 65)⟩,
 un (.pick 67 (.t 62) (.c (.bool true)) (.t 66))])
 (.drop [59, 60, 61, 62, 63, 64, 65, 66] (.cond (.t 67) (.seq (.reg [un (.asg 2 (.c (.bool false)))])
 .ret)
 .skip)))))
def c_laws_FnLattices_k2 : ACode :=
 (.seq (.reg [un (.mov 68 (.t 5))])
 (.cond (.t 68) (.seq (.reg [un (.ld 70 2 true (.t 4)),
 un (.call 71 f_impl_LatticeOf [((.t 70), false)]),
 un (.asg 69 (.t 71)),
 un (.ext 72 (.t 69) 0),
 un (.ext 73 (.t 69) 1),
 un (.alc 8 (.agg [.nilsl 1])),
 un (.st 1 (.t 8) (.t 72)),
 un (.asg 9 (.t 73))])
 (.drop [70, 71, 69, 72, 73] (.seq (.reg [un (.mov 74 (.t 9)),
 un (.un 75 .not (.t 74)),
 un (.asg 76 (.t 75)),
 ⟨some (76, false), .fadr 77 0 (.t 8)⟩,
 ⟨some (76, false), .ld 78 1 false (.t 77)⟩,
 ⟨some (76, false), .fadr 79 0 (.t 3)⟩,
 ⟨some (76, false), .ld 80 1 false (.t 79)⟩,
 ⟨some (76, false), .call 81 f_laws_rTable [((.t 78), false), ((.t 80), false)]⟩,
 ⟨some (76, false), .un 82 .not (.t 81)⟩,
 un (.pick 83 (.t 76) (.c (.bool true)) (.t 82))])
 (.drop [74, 75, 76, 77, 78, 79, 80, 81, 82] (.cond (.t 83) (.seq (.reg [un (.asg 2 (.c (.bool false)))])
 .ret)
 .skip)))))
 .skip))
def c_laws_FnLattices_k3 : ACode :=
 (.seq (.reg [un (.ld 98 1 true (.t 3)),
 un (.call 99 f_spec_JoinIrreducibles [((.t 98), false)]),
 un (.asg 97 (.t 99)),
 un (.ext 100 (.t 97) 0),
 un (.ext 101 (.t 97) 1),
 un (.asg 12 (.t 100)),
 un (.asg 13 (.t 101))])
 (.drop [98, 99, 97, 100, 101] (.seq (.reg [un (.mov 102 (.t 11)),
 un (.mov 103 (.t 13)),
 un (.binb 104 .neq (.t 102) (.t 103)),
 un (.asg 105 (.t 104)),
 ⟨some (105, false), .mov 106 (.t 11)⟩,
 ⟨some (105, false), .un 107 .not (.t 106)⟩,
 un (.pick 108 (.t 105) (.c (.bool true)) (.t 107)),
 un (.asg 109 (.t 108)),
 ⟨some (109, false), .mov 110 (.t 10)⟩,
 ⟨some (109, false), .mov 111 (.t 12)⟩,
 ⟨some (109, false), .call 112 f_laws_rInts [((.t 110), false), ((.t 111), false)]⟩,
 ⟨some (109, false), .un 113 .not (.t 112)⟩,
 un (.pick 114 (.t 109) (.c (.bool true)) (.t 113))])
 (.drop [102, 103, 104, 105, 106, 107, 108, 109, 110, 111, 112, 113] (.cond (.t 114) (.seq (.reg [un (.asg 2 (.c (.bool false)))])
 .ret)
 .skip)))))
def c_laws_FnLattices_k4 : ACode :=
 (.seq (.reg [un (.ld 121 1 true (.t 3)),
 un (.call 122 f_spec_MeetIrreducibles [((.t 121), false)]),
 un (.asg 120 (.t 122)),
 un (.ext 123 (.t 120) 0),
 un (.ext 124 (.t 120) 1),
 un (.asg 16 (.t 123)),
 un (.asg 17 (.t 124))])
 (.drop [121, 122, 120, 123, 124] (.seq (.reg [un (.mov 125 (.t 15)),
 un (.mov 126 (.t 17)),
 un (.binb 127 .neq (.t 125) (.t 126)),
 un (.asg 128 (.t 127)),
 ⟨some (128, false), .mov 129 (.t 15)⟩,
 ⟨some (128, false), .un 130 .not (.t 129)⟩,
 un (.pick 131 (.t 128) (.c (.bool true)) (.t 130)),
 un (.asg 132 (.t 131)),
 ⟨some (132, false), .mov 133 (.t 14)⟩,
 ⟨some (132, false), .mov 134 (.t 16)⟩,
 ⟨some (132, false), .call 135 f_laws_rInts [((.t 133), false), ((.t 134), false)]⟩,
 ⟨some (132, false), .un 136 .not (.t 135)⟩,
 un (.pick 137 (.t 132) (.c (.bool true)) (.t 136))])
 (.drop [125, 126, 127, 128, 129, 130, 131, 132, 133, 134, 135, 136] (.cond (.t 137) (.seq (.reg [un (.asg 2 (.c (.bool false)))])
 .ret)
 .skip)))))
def c_laws_FnLattices_k5 : ACode :=
 (.seq (.reg [un (.mov 143 (.t 19)),
 un (.un 144 .not (.t 143)),
 un (.asg 145 (.t 144)),
 ⟨some (145, false), .ld 146 1 true (.t 18)⟩,
 ⟨some (145, false), .call 147 f_impl_IsLattice [((.t 146), false)]⟩,
 ⟨some (145, false), .un 148 .not (.t 147)⟩,
 un (.pick 149 (.t 145) (.c (.bool true)) (.t 148))])
 (.drop [143, 144, 145, 146, 147, 148] (.cond (.t 149) (.seq (.reg [un (.asg 2 (.c (.bool false)))])
 .ret)
 .skip)))
def c_laws_FnLattices_l1 : ACode :=
 (.seq (.seq (.reg [un (.mov 159 (.t 23)),
 un (.mov 160 (.t 10)),
 un (.len 161 (.t 160)),
 un (.bin 162 .lss (.t 159) (.t 161))])
 (.drop [159, 160, 161] (.cond (.t 162) .skip
 (.exit 2))))
 (.drop [159, 160, 161, 162] (.seq (.block 3 (.seq (.dreg [(un (.ld 166 1 true (.t 3)), []),
 (un (.mov 167 (.t 10)), [166]),
 (un (.mov 168 (.t 23)), [166, 167]),
 (un (.iad 169 1 (.t 167) (.t 168)), [166]),
 (un (.ld 170 1 false (.t 169)), [166]),
 (un (.mov 171 (.t 20)), [166, 167, 168, 169, 170]),
 (un (.call 172 f_impl_IsAtMost [((.t 166), false), ((.t 170), false), ((.t 171), false)]), []),
 (un (.asg 165 (.t 172)), []),
 (un (.ext 173 (.t 165) 0), [172]),
 (un (.ext 174 (.t 165) 1), [173, 172, 173])]
 [un (.asg 24 (.t 173)),
 un (.asg 25 (.t 174))])
 (.drop [166, 167, 168, 169, 170, 171, 172, 165, 173, 174] (.seq (.reg [un (.mov 175 (.t 25)),
 un (.un 176 .not (.t 175))])
 (.drop [175] (.cond (.t 176) (.seq (.reg [un (.asg 2 (.c (.bool false)))])
 .ret)
 (.seq (.reg [un (.mov 177 (.t 24))])
 (.cond (.t 177) (.reg [un (.mov 178 (.t 21)),
 un (.mov 179 (.t 10)),
 un (.mov 180 (.t 23)),
 un (.iad 181 1 (.t 179) (.t 180)),
 un (.ld 182 1 false (.t 181)),
 un (.bsl 183 1 [(.t 182)]),
 un (.app 184 1 (.t 178) (.t 183)),
 un (.asg 21 (.t 184))])
 .skip))))))))
 (.drop [166, 167, 168, 169, 170, 171, 172, 165, 173, 174, 24, 25, 175, 176, 177, 178, 179, 180, 181, 182, 183, 184] (.reg [un (.mov 163 (.t 23)),
 un (.bin 164 .add (.t 163) (.c (.int .i64 1))),
 un (.asg 23 (.t 164))])))))
def c_laws_FnLattices_l2 : ACode :=
 (.seq (.seq (.reg [un (.mov 185 (.t 26)),
 un (.mov 186 (.t 14)),
 un (.len 187 (.t 186)),
 un (.bin 188 .lss (.t 185) (.t 187))])
 (.drop [185, 186, 187] (.cond (.t 188) .skip
 (.exit 4))))
 (.drop [185, 186, 187, 188] (.seq (.block 5 (.seq (.dreg [(un (.ld 192 1 true (.t 3)), []),
 (un (.mov 193 (.t 20)), [192]),
 (un (.mov 194 (.t 14)), [192, 193]),
 (un (.mov 195 (.t 26)), [192, 193, 194]),
 (un (.iad 196 1 (.t 194) (.t 195)), [192, 193]),
 (un (.ld 197 1 false (.t 196)), [192, 193]),
 (un (.call 198 f_impl_IsAtMost [((.t 192), false), ((.t 193), false), ((.t 197), false)]), []),
 (un (.asg 191 (.t 198)), []),
 (un (.ext 199 (.t 191) 0), [198]),
 (un (.ext 200 (.t 191) 1), [199, 198, 199])]
 [un (.asg 27 (.t 199)),
 un (.asg 28 (.t 200))])
 (.drop [192, 193, 194, 195, 196, 197, 198, 191, 199, 200] (.seq (.reg [un (.mov 201 (.t 28)),
 un (.un 202 .not (.t 201))])
 (.drop [201] (.cond (.t 202) (.seq (.reg [un (.asg 2 (.c (.bool false)))])
 .ret)
 (.seq (.reg [un (.mov 203 (.t 27))])
 (.cond (.t 203) (.reg [un (.mov 204 (.t 22)),
 un (.mov 205 (.t 14)),
 un (.mov 206 (.t 26)),
 un (.iad 207 1 (.t 205) (.t 206)),
 un (.ld 208 1 false (.t 207)),
 un (.bsl 209 1 [(.t 208)]),
 un (.app 210 1 (.t 204) (.t 209)),
 un (.asg 22 (.t 210))])
 .skip))))))))
 (.drop [192, 193, 194, 195, 196, 197, 198, 191, 199, 200, 27, 28, 201, 202, 203, 204, 205, 206, 207, 208, 209, 210] (.reg [un (.mov 189 (.t 26)),
 un (.bin 190 .add (.t 189) (.c (.int .i64 1))),
 un (.asg 26 (.t 190))])))))
def c_laws_FnLattices_k6 : ACode :=
 (.seq (.reg [un (.mov 223 (.t 30)),
 un (.un 224 .not (.t 223)),
 un (.asg 225 (.t 224)),
 ⟨some (225, false), .mov 226 (.t 32)⟩,
 ⟨some (225, false), .un 227 .not (.t 226)⟩,
 un (.pick 228 (.t 225) (.c (.bool true)) (.t 227)),
 un (.asg 229 (.t 228)),
 ⟨some (229, false), .mov 230 (.t 29)⟩,
 ⟨some (229, false), .mov 231 (.t 20)⟩,
 ⟨some (229, false), .bin 232 .neq (.t 230) (.t 231)⟩,
 un (.pick 233 (.t 229) (.c (.bool true)) (.t 232)),
 un (.asg 234 (.t 233)),
 ⟨some (234, false), .mov 235 (.t 31)⟩,
 ⟨some (234, false), .mov 236 (.t 20)⟩,
 ⟨some (234, false), .bin 237 .neq (.t 235) (.t 236)⟩,
 un (.pick 238 (.t 234) (.c (.bool true)) (.t 237))])
 (.drop [223, 224, 225, 226, 227, 228, 229, 230, 231, 232, 233, 234, 235, 236, 237] (.cond (.t 238) (.seq (.reg [un (.asg 2 (.c (.bool false)))])
 .ret)
 .skip)))
def c_laws_FnLattices_l3 : ACode :=
 (.seq (.seq (.reg [un (.mov 239 (.t 33)),
 un (.fadr 240 0 (.t 3)),
 un (.ld 241 1 false (.t 240)),
 un (.len 242 (.t 241)),
 un (.bin 243 .lss (.t 239) (.t 242))])
 (.drop [239, 240, 241, 242] (.cond (.t 243) .skip
 (.exit 6))))
 (.drop [239, 240, 241, 242, 243] (.seq (.block 7 (.seq (.reg [un (.ld 247 1 true (.t 3)),
 un (.mov 248 (.t 20)),
 un (.mov 249 (.t 33)),
 un (.call 250 f_impl_JoinOf [((.t 247), false), ((.t 248), false), ((.t 249), false)]),
 un (.asg 246 (.t 250)),
 un (.ext 251 (.t 246) 0),
 un (.ext 252 (.t 246) 1),
 un (.asg 34 (.t 251)),
 un (.asg 35 (.t 252))])
 (.drop [247, 248, 249, 250, 246, 251, 252] (.seq (.reg [un (.ld 254 1 true (.t 18)),
 un (.mov 255 (.t 20)),
 un (.mov 256 (.t 33)),
 un (.call 257 f_impl_MeetOf [((.t 254), false), ((.t 255), false), ((.t 256), false)]),
 un (.asg 253 (.t 257)),
 un (.ext 258 (.t 253) 0),
 un (.ext 259 (.t 253) 1),
 un (.asg 36 (.t 258)),
 un (.asg 37 (.t 259))])
 (.drop [254, 255, 256, 257, 253, 258, 259] (.seq (.reg [un (.ld 261 1 true (.t 3)),
 un (.mov 262 (.t 20)),
 un (.mov 263 (.t 34)),
 un (.call 264 f_impl_MeetOf [((.t 261), false), ((.t 262), false), ((.t 263), false)]),
 un (.asg 260 (.t 264)),
 un (.ext 265 (.t 260) 0),
 un (.ext 266 (.t 260) 1),
 un (.asg 38 (.t 265)),
 un (.asg 39 (.t 266))])
 (.drop [261, 262, 263, 264, 260, 265, 266] (.seq (.reg [un (.mov 267 (.t 35)),
 un (.un 268 .not (.t 267)),
 un (.asg 269 (.t 268)),
 ⟨some (269, false), .mov 270 (.t 37)⟩,
 ⟨some (269, false), .un 271 .not (.t 270)⟩,
 un (.pick 272 (.t 269) (.c (.bool true)) (.t 271)),
 un (.asg 273 (.t 272)),
 ⟨some (273, false), .mov 274 (.t 39)⟩,
 ⟨some (273, false), .un 275 .not (.t 274)⟩,
 un (.pick 276 (.t 273) (.c (.bool true)) (.t 275)),
 un (.asg 277 (.t 276)),
 ⟨some (277, false), .mov 278 (.t 34)⟩,
 ⟨some (277, false), .mov 279 (.t 36)⟩,
 ⟨some (277, false), .bin 280 .neq (.t 278) (.t 279)⟩,
 un (.pick 281 (.t 277) (.c (.bool true)) (.t 280)),
 un (.asg 282 (.t 281)),
 ⟨some (282, false), .mov 283 (.t 38)⟩,
 ⟨some (282, false), .mov 284 (.t 20)⟩,
 ⟨some (282, false), .bin 285 .neq (.t 283) (.t 284)⟩,
 un (.pick 286 (.t 282) (.c (.bool true)) (.t 285))])
 (.drop [267, 268, 269, 270, 271, 272, 273, 274, 275, 276, 277, 278, 279, 280, 281, 282, 283, 284, 285] (.cond (.t 286) (.seq (.reg [un (.asg 2 (.c (.bool false)))])
 .ret)
 .skip))))))))))
 (.drop [247, 248, 249, 250, 246, 251, 252, 34, 35, 254, 255, 256, 257, 253, 258, 259, 36, 37, 261, 262, 263, 264, 260, 265, 266, 38, 39, 267, 268, 269, 270, 271, 272, 273, 274, 275, 276, 277, 278, 279, 280, 281, 282, 283, 284, 285, 286] (.reg [un (.mov 244 (.t 33)),
 un (.bin 245 .add (.t 244) (.c (.int .i64 1))),
 un (.asg 33 (.t 245))])))))
def c_laws_FnLattices_l4 : ACode :=
 (.seq (.seq (.reg [un (.mov 150 (.t 20)),
 un (.fadr 151 0 (.t 3)),
 un (.ld 152 1 false (.t 151)),
 un (.len 153 (.t 152)),
 un (.bin 154 .lss (.t 150) (.t 153))])
 (.drop [150, 151, 152, 153] (.cond (.t 154) .skip
 (.exit 0))))
 (.drop [150, 151, 152, 153, 154] (.seq (.block 1 (.seq (.reg [un (.bsl 157 1 []),
 un (.bsl 158 1 []),
 un (.asg 21 (.t 157)),
 un (.asg 22 (.t 158))])
 (.drop [157, 158] (.seq (.seq (.reg [un (.asg 23 (.c (.int .i64 0)))])
 (.block 2 (.loop c_laws_FnLattices_l1)))
 (.drop [23, 159, 160, 161, 162, 166, 167, 168, 169, 170, 171, 172, 165, 173, 174, 24, 25, 175, 176, 177, 178, 179, 180, 181, 182, 183, 184, 163, 164] (.seq (.seq (.reg [un (.asg 26 (.c (.int .i64 0)))])
 (.block 4 (.loop c_laws_FnLattices_l2)))
 (.drop [26, 185, 186, 187, 188, 192, 193, 194, 195, 196, 197, 198, 191, 199, 200, 27, 28, 201, 202, 203, 204, 205, 206, 207, 208, 209, 210, 189, 190] (.seq (.reg [un (.ld 212 1 true (.t 3)),
 un (.mov 213 (.t 21)),
 un (.call 214 f_impl_JoinAll [((.t 212), false), ((.t 213), false)]),
 un (.asg 211 (.t 214)),
 un (.ext 215 (.t 211) 0),
 un (.ext 216 (.t 211) 1),
 un (.asg 29 (.t 215)),
 un (.asg 30 (.t 216))])
 (.drop [212, 213, 214, 211, 215, 216] (.seq (.reg [un (.ld 218 1 true (.t 3)),
 un (.mov 219 (.t 22)),
 un (.call 220 f_impl_MeetAll [((.t 218), false), ((.t 219), false)]),
 un (.asg 217 (.t 220)),
 un (.ext 221 (.t 217) 0),
 un (.ext 222 (.t 217) 1),
 un (.asg 31 (.t 221)),
 un (.asg 32 (.t 222))])
 (.drop [218, 219, 220, 217, 221, 222] (.seq (.cut c_laws_FnLattices_k6)
 (.drop [223, 224, 225, 226, 227, 228, 229, 230, 231, 232, 233, 234, 235, 236, 237, 238] (.seq (.reg [un (.asg 33 (.c (.int .i64 0)))])
 (.block 6 (.loop c_laws_FnLattices_l3))))))))))))))))
 (.drop [157, 158, 21, 22, 23, 159, 160, 161, 162, 166, 167, 168, 169, 170, 171, 172, 165, 173, 174, 24, 25, 175, 176, 177, 178, 179, 180, 181, 182, 183, 184, 163, 164, 26, 185, 186, 187, 188, 192, 193, 194, 195, 196, 197, 198, 191, 199, 200, 27, 28, 201, 202, 203, 204, 205, 206, 207, 208, 209, 210, 189, 190, 212, 213, 214, 211, 215, 216, 29, 30, 218, 219, 220, 217, 221, 222, 31, 32, 223, 224, 225, 226, 227, 228, 229, 230, 231, 232, 233, 234, 235, 236, 237, 238, 33, 239, 240, 241, 242, 243, 247, 248, 249, 250, 246, 251, 252, 34, 35, 254, 255, 256, 257, 253, 258, 259, 36, 37, 261, 262, 263, 264, 260, 265, 266, 38, 39, 267, 268, 269, 270, 271, 272, 273, 274, 275, 276, 277, 278, 279, 280, 281, 282, 283, 284, 285, 286, 244, 245] (.reg [un (.mov 155 (.t 20)),
 un (.bin 156 .add (.t 155) (.c (.int .i64 1))),
 un (.asg 20 (.t 156))])))))
def c_laws_FnLattices : ACode :=
 (.seq (.reg [un (.asg 2 (.c (.bool false)))])
 (.seq (.seq (.reg [un (.mov 45 (.t 0)),
 un (.call 46 f_laws_rBig [((.t 45), false)])])
 (.drop [45] (.cond (.t 46) (.seq (.reg [un (.asg 2 (.c (.bool true)))])
 .ret)
 .skip)))
 (.drop [45, 46] (.seq (.reg [un (.mov 47 (.t 0)),
 un (.call 48 f_spec_DrawLatticeAlgebra [((.t 47), false)]),
 un (.alc 3 (.agg [.nilsl 1])),
 un (.st 1 (.t 3) (.t 48))])
 (.drop [47, 48] (.seq (.reg [un (.ld 50 1 true (.t 3)),
 un (.call 51 f_impl_LatticeAlgebra [((.t 50), false)]),
 un (.asg 49 (.t 51)),
 un (.ext 52 (.t 49) 0),
 un (.ext 53 (.t 49) 1),
 un (.alc 4 (.agg [.int .i64 0, .nilsl 2])),
 un (.st 2 (.t 4) (.t 52)),
 un (.asg 5 (.t 53))])
 (.drop [50, 51, 49, 52, 53] (.seq (.cut c_laws_FnLattices_k1)
 (.drop [55, 56, 54, 57, 58, 6, 7, 59, 60, 61, 62, 63, 64, 65, 66, 67] (.seq (.cut c_laws_FnLattices_k2)
 (.drop [68, 70, 71, 69, 72, 73, 8, 9, 74, 75, 76, 77, 78, 79, 80, 81, 82, 83] (.seq (.seq (.dreg [(un (.ld 84 1 true (.t 3)), []),
 (un (.call 85 f_impl_IsLattice [((.t 84), false)]), []),
 (un (.ld 86 1 true (.t 3)), [84, 85])]
 [un (.call 87 f_spec_IsLattice [((.t 86), false)]),
 un (.binb 88 .neq (.t 85) (.t 87))])
 (.drop [84, 85, 86, 87] (.cond (.t 88) (.seq (.reg [un (.asg 2 (.c (.bool false)))])
 .ret)
 .skip)))
 (.drop [84, 85, 86, 87, 88] (.seq (.seq (.reg [un (.ld 89 1 true (.t 3)),
 un (.call 90 f_impl_IsLattice [((.t 89), false)]),
 un (.un 91 .not (.t 90))])
 (.drop [89, 90] (.cond (.t 91) (.seq (.reg [un (.asg 2 (.c (.bool true)))])
 .ret)
 .skip)))
 (.drop [89, 90, 91] (.seq (.reg [un (.ld 93 1 true (.t 3)),
 un (.call 94 f_impl_JoinIrreducibles [((.t 93), false)]),
 un (.asg 92 (.t 94)),
 un (.ext 95 (.t 92) 0),
 un (.ext 96 (.t 92) 1),
 un (.asg 10 (.t 95)),
 un (.asg 11 (.t 96))])
 (.drop [93, 94, 92, 95, 96] (.seq (.cut c_laws_FnLattices_k3)
 (.drop [98, 99, 97, 100, 101, 12, 13, 102, 103, 104, 105, 106, 107, 108, 109, 110, 111, 112, 113, 114] (.seq (.reg [un (.ld 116 1 true (.t 3)),
 un (.call 117 f_impl_MeetIrreducibles [((.t 116), false)]),
 un (.asg 115 (.t 117)),
 un (.ext 118 (.t 115) 0),
 un (.ext 119 (.t 115) 1),
 un (.asg 14 (.t 118)),
 un (.asg 15 (.t 119))])
 (.drop [116, 117, 115, 118, 119] (.seq (.cut c_laws_FnLattices_k4)
 (.drop [121, 122, 120, 123, 124, 16, 17, 125, 126, 127, 128, 129, 130, 131, 132, 133, 134, 135, 136, 137] (.seq (.reg [un (.ld 139 1 true (.t 3)),
 un (.call 140 f_impl_DualPoset [((.t 139), false)]),
 un (.asg 138 (.t 140)),
 un (.ext 141 (.t 138) 0),
 un (.ext 142 (.t 138) 1),
 un (.alc 18 (.agg [.nilsl 1])),
 un (.st 1 (.t 18) (.t 141)),
 un (.asg 19 (.t 142))])
 (.drop [139, 140, 138, 141, 142] (.seq (.cut c_laws_FnLattices_k5)
 (.drop [143, 144, 145, 146, 147, 148, 149] (.seq (.seq (.reg [un (.asg 20 (.c (.int .i64 0)))])
 (.block 0 (.loop c_laws_FnLattices_l4)))
 (.drop [20, 150, 151, 152, 153, 154, 157, 158, 21, 22, 23, 159, 160, 161, 162, 166, 167, 168, 169, 170, 171, 172, 165, 173, 174, 24, 25, 175, 176, 177, 178, 179, 180, 181, 182, 183, 184, 163, 164, 26, 185, 186, 187, 188, 192, 193, 194, 195, 196, 197, 198, 191, 199, 200, 27, 28, 201, 202, 203, 204, 205, 206, 207, 208, 209, 210, 189, 190, 212, 213, 214, 211, 215, 216, 29, 30, 218, 219, 220, 217, 221, 222, 31, 32, 223, 224, 225, 226, 227, 228, 229, 230, 231, 232, 233, 234, 235, 236, 237, 238, 33, 239, 240, 241, 242, 243, 247, 248, 249, 250, 246, 251, 252, 34, 35, 254, 255, 256, 257, 253, 258, 259, 36, 37, 261, 262, 263, 264, 260, 265, 266, 38, 39, 267, 268, 269, 270, 271, 272, 273, 274, 275, 276, 277, 278, 279, 280, 281, 282, 283, 284, 285, 286, 244, 245, 155, 156] (.seq (.reg [un (.ld 288 1 true (.t 3)),
 un (.call 289 f_impl_EndsOf [((.t 288), false)]),
 un (.asg 287 (.t 289)),
 un (.ext 290 (.t 287) 0),
 un (.ext 291 (.t 287) 1),
 un (.ext 292 (.t 287) 2),
 un (.asg 40 (.t 290)),
 un (.asg 41 (.t 291)),
 un (.asg 42 (.t 292))])
 (.drop [288, 289, 287, 290, 291, 292] (.seq (.reg [un (.ld 294 1 true (.t 3)),
 un (.mov 295 (.t 40)),
 un (.mov 296 (.t 41)),
 un (.call 297 f_impl_IntervalOf [((.t 294), false), ((.t 295), false), ((.t 296), false)]),
 un (.asg 293 (.t 297)),
 un (.ext 298 (.t 293) 0),
 un (.ext 299 (.t 293) 1),
 un (.asg 43 (.t 298)),
 un (.asg 44 (.t 299))])
 (.drop [294, 295, 296, 297, 293, 298, 299] (.seq (.reg [un (.mov 300 (.t 42)),
 un (.asg 301 (.t 300)),
 ⟨some (301, true), .mov 302 (.t 44)⟩,
 un (.pick 303 (.t 301) (.t 302) (.c (.bool false))),
 un (.asg 304 (.t 303)),
 ⟨some (304, true), .mov 305 (.t 43)⟩,
 ⟨some (304, true), .len 306 (.t 305)⟩,
 ⟨some (304, true), .fadr 307 0 (.t 3)⟩,
 ⟨some (304, true), .ld 308 1 false (.t 307)⟩,
 ⟨some (304, true), .len 309 (.t 308)⟩,
 ⟨some (304, true), .bin 310 .eql (.t 306) (.t 309)⟩,
 un (.pick 311 (.t 304) (.t 310) (.c (.bool false))),
 un (.asg 2 (.t 311))])
 (.drop [300, 301, 302, 303, 304, 305, 306, 307, 308, 309, 310, 311] .ret)))))))))))))))))))))))))))))))))))
abbrev r_laws_FnLattices : List RS := [.t 2]
theorem k_laws_FnLattices : fitsF Try.prog f_laws_FnLattices 312 c_laws_FnLattices r_laws_FnLattices = true := by kernel_rfl

end Go.Proofs.Ytoikbcagaanhgaa.Ax
