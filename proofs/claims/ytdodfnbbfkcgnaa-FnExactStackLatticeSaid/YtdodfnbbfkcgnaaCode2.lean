/-
  The small code of the functions, written by program; that the program's code is this one, the kernel looks at.
-/
import Derived.Test.YtdodfnbbfkcgnaaAx3
import Derived.Test.YtdodfnbbfkcgnaaProg
import Derived.KernelRfl
import Derived.Test.YtdodfnbbfkcgnaaNum
namespace Go.Proofs.Ytdodfnbbfkcgnaa.Ax
open Go
set_option maxRecDepth 100000

/- loop.example/g01078/impl.LatticeAlgebra: [p=0, p=1, l=4, ok=5] -/
def c_impl_LatticeAlgebra : ACode :=
  (.seq (.reg [⟨none, .box 1 (.t 0)⟩,
     ⟨none, .alc 2 (.agg [.int .i64 0, .nilsl 2])⟩,
     ⟨none, .asg 3 (.c (.bool false))⟩])
  (.seq (.reg [⟨none, .ld 7 1 true (.t 1)⟩,
      ⟨none, .call 8 f_impl_latticeOf [((.t 7), false)]⟩,
      ⟨none, .asg 6 (.t 8)⟩,
      ⟨none, .ext 9 (.t 6) 0⟩,
      ⟨none, .ext 10 (.t 6) 1⟩,
      ⟨none, .asg 4 (.t 9)⟩,
      ⟨none, .asg 5 (.t 10)⟩])
   (.drop [7, 8, 6, 9, 10] (.seq (.seq (.reg [⟨none, .mov 11 (.t 5)⟩,
        ⟨none, .un 12 .not (.t 11)⟩,
        ⟨none, .asg 13 (.t 12)⟩,
        ⟨some (13, false), .mov 14 (.t 4)⟩,
        ⟨some (13, false), .nck 15 (.t 14)⟩,
        ⟨some (13, false), .fadr 16 0 (.t 15)⟩,
        ⟨some (13, false), .ld 17 1 false (.t 16)⟩,
        ⟨some (13, false), .len 18 (.t 17)⟩,
        ⟨some (13, false), .bin 19 .gtr (.t 18) (.c (.int .i64 8))⟩,
        ⟨none, .pick 20 (.t 13) (.c (.bool true)) (.t 19)⟩])
     (.drop [11, 12, 13, 14, 15, 16, 17, 18, 19] (.cond (.t 20) (.seq (.reg [⟨none, .bld 21 [.int .i64 0, .nilsl 2] []⟩,
          ⟨none, .st 2 (.t 2) (.t 21)⟩,
          ⟨none, .asg 3 (.c (.bool false))⟩])
       (.drop [21] .ret))
      .skip)))
    (.drop [11, 12, 13, 14, 15, 16, 17, 18, 19, 20, 21] (.seq (.reg [⟨none, .mov 22 (.t 4)⟩,
        ⟨none, .call 23 f_impl_lattice_algebra [((.t 22), false)]⟩,
        ⟨none, .st 2 (.t 2) (.t 23)⟩,
        ⟨none, .asg 3 (.c (.bool true))⟩])
     (.drop [22, 23] .ret)))))))
abbrev r_impl_LatticeAlgebra : List RS := [.c 2 2 true, .t 3]
theorem k_impl_LatticeAlgebra : fitsF Try.prog f_impl_LatticeAlgebra 24 c_impl_LatticeAlgebra r_impl_LatticeAlgebra = true := by kernel_rfl

/- loop.example/g01078/spec.l24Good: [p=0, p=1, dual=3, x=4, y=5] -/
def c_spec_l24Good_k1 : ACode :=
  (.seq (.reg [⟨none, .ld 6 1 true (.t 1)⟩,
       ⟨none, .call 7 f_spec_l23Good [((.t 6), false)]⟩,
       ⟨none, .un 8 .not (.t 7)⟩,
       ⟨none, .asg 9 (.t 8)⟩,
       ⟨some (9, false), .fadr 10 0 (.t 1)⟩,
       ⟨some (9, false), .ld 11 1 false (.t 10)⟩,
       ⟨some (9, false), .len 12 (.t 11)⟩,
       ⟨some (9, false), .bin 13 .eql (.t 12) (.c (.int .i64 0))⟩,
       ⟨none, .pick 14 (.t 9) (.c (.bool true)) (.t 13)⟩])
    (.drop [6, 7, 8, 9, 10, 11, 12, 13] (.cond (.t 14) (.seq (.reg [⟨none, .asg 2 (.c (.bool false))⟩])
      .ret)
     .skip)))
def c_spec_l24Good_l1 : ACode :=
  (.seq (.seq (.reg [⟨none, .mov 24 (.t 5)⟩,
      ⟨none, .mov 25 (.t 4)⟩,
      ⟨none, .bin 26 .lss (.t 24) (.t 25)⟩])
   (.drop [24, 25] (.cond (.t 26) .skip
    (.exit 2))))
  (.drop [24, 25, 26] (.seq (.block 3 (.seq (.reg [⟨none, .ld 29 1 true (.t 1)⟩,
        ⟨none, .mov 30 (.t 4)⟩,
        ⟨none, .mov 31 (.t 5)⟩,
        ⟨none, .bsl 32 1 [(.t 30), (.t 31)]⟩,
        ⟨none, .call 33 f_spec_l24Bound [((.t 29), false), ((.t 32), false)]⟩,
        ⟨none, .bin 34 .lss (.t 33) (.c (.int .i64 0))⟩,
        ⟨none, .asg 35 (.t 34)⟩,
        ⟨some (35, false), .ld 36 1 true (.t 3)⟩,
        ⟨some (35, false), .mov 37 (.t 4)⟩,
        ⟨some (35, false), .mov 38 (.t 5)⟩,
        ⟨some (35, false), .bsl 39 1 [(.t 37), (.t 38)]⟩,
        ⟨some (35, false), .call 40 f_spec_l24Bound [((.t 36), false), ((.t 39), false)]⟩,
        ⟨some (35, false), .bin 41 .lss (.t 40) (.c (.int .i64 0))⟩,
        ⟨none, .pick 42 (.t 35) (.c (.bool true)) (.t 41)⟩])
     (.drop [29, 30, 31, 32, 33, 34, 35, 36, 37, 38, 39, 40, 41] (.cond (.t 42) (.seq (.reg [⟨none, .asg 2 (.c (.bool false))⟩])
       .ret)
      .skip))))
   (.drop [29, 30, 31, 32, 33, 34, 35, 36, 37, 38, 39, 40, 41, 42] (.reg [⟨none, .mov 27 (.t 5)⟩,
      ⟨none, .bin 28 .add (.t 27) (.c (.int .i64 1))⟩,
      ⟨none, .asg 5 (.t 28)⟩])))))
def c_spec_l24Good_l2 : ACode :=
  (.seq (.seq (.reg [⟨none, .mov 17 (.t 4)⟩,
      ⟨none, .fadr 18 0 (.t 1)⟩,
      ⟨none, .ld 19 1 false (.t 18)⟩,
      ⟨none, .len 20 (.t 19)⟩,
      ⟨none, .bin 21 .lss (.t 17) (.t 20)⟩])
   (.drop [17, 18, 19, 20] (.cond (.t 21) .skip
    (.exit 0))))
  (.drop [17, 18, 19, 20, 21] (.seq (.block 1 (.seq (.reg [⟨none, .asg 5 (.c (.int .i64 0))⟩])
     (.block 2 (.loop c_spec_l24Good_l1))))
   (.drop [5, 24, 25, 26, 29, 30, 31, 32, 33, 34, 35, 36, 37, 38, 39, 40, 41, 42, 27, 28] (.reg [⟨none, .mov 22 (.t 4)⟩,
      ⟨none, .bin 23 .add (.t 22) (.c (.int .i64 1))⟩,
      ⟨none, .asg 4 (.t 23)⟩])))))
def c_spec_l24Good : ACode :=
  (.seq (.reg [⟨none, .box 1 (.t 0)⟩,
     ⟨none, .asg 2 (.c (.bool false))⟩])
  (.seq (.cut c_spec_l24Good_k1)
   (.drop [6, 7, 8, 9, 10, 11, 12, 13, 14] (.seq (.reg [⟨none, .ld 15 1 true (.t 1)⟩,
       ⟨none, .call 16 f_spec_l23Dual [((.t 15), false)]⟩,
       ⟨none, .alc 3 (.agg [.nilsl 1])⟩,
       ⟨none, .st 1 (.t 3) (.t 16)⟩])
    (.drop [15, 16] (.seq (.seq (.reg [⟨none, .asg 4 (.c (.int .i64 0))⟩])
      (.block 0 (.loop c_spec_l24Good_l2)))
     (.drop [4, 17, 18, 19, 20, 21, 5, 24, 25, 26, 29, 30, 31, 32, 33, 34, 35, 36, 37, 38, 39, 40, 41, 42, 27, 28, 22, 23] (.seq (.reg [⟨none, .asg 2 (.c (.bool true))⟩])
      .ret))))))))
abbrev r_spec_l24Good : List RS := [.t 2]
theorem k_spec_l24Good : fitsF Try.prog f_spec_l24Good 43 c_spec_l24Good r_spec_l24Good = true := by kernel_rfl

/- loop.example/g01078/impl.twoLattices: [p=0, q=1, p=2, q=3, l=7, one=8, m=9, two=10] -/
def c_impl_twoLattices : ACode :=
  (.seq (.reg [⟨none, .box 2 (.t 0)⟩,
     ⟨none, .box 3 (.t 1)⟩,
     ⟨none, .asg 4 (.c (.nilp))⟩,
     ⟨none, .asg 5 (.c (.nilp))⟩,
     ⟨none, .asg 6 (.c (.bool false))⟩])
  (.seq (.reg [⟨none, .ld 12 1 true (.t 2)⟩,
      ⟨none, .call 13 f_impl_latticeOf [((.t 12), false)]⟩,
      ⟨none, .asg 11 (.t 13)⟩,
      ⟨none, .ext 14 (.t 11) 0⟩,
      ⟨none, .ext 15 (.t 11) 1⟩,
      ⟨none, .asg 7 (.t 14)⟩,
      ⟨none, .asg 8 (.t 15)⟩])
   (.drop [12, 13, 11, 14, 15] (.seq (.reg [⟨none, .ld 17 1 true (.t 3)⟩,
       ⟨none, .call 18 f_impl_latticeOf [((.t 17), false)]⟩,
       ⟨none, .asg 16 (.t 18)⟩,
       ⟨none, .ext 19 (.t 16) 0⟩,
       ⟨none, .ext 20 (.t 16) 1⟩,
       ⟨none, .asg 9 (.t 19)⟩,
       ⟨none, .asg 10 (.t 20)⟩])
    (.drop [17, 18, 16, 19, 20] (.seq (.reg [⟨none, .mov 21 (.t 7)⟩,
        ⟨none, .mov 22 (.t 9)⟩,
        ⟨none, .mov 23 (.t 8)⟩,
        ⟨none, .asg 24 (.t 23)⟩,
        ⟨some (24, true), .mov 25 (.t 10)⟩,
        ⟨none, .pick 26 (.t 24) (.t 25) (.c (.bool false))⟩,
        ⟨none, .asg 4 (.t 21)⟩,
        ⟨none, .asg 5 (.t 22)⟩,
        ⟨none, .asg 6 (.t 26)⟩])
     (.drop [21, 22, 23, 24, 25, 26] .ret)))))))
abbrev r_impl_twoLattices : List RS := [.t 4, .t 5, .t 6]
theorem k_impl_twoLattices : fitsF Try.prog f_impl_twoLattices 27 c_impl_twoLattices r_impl_twoLattices = true := by kernel_rfl

/- loop.example/g01078/spec.l24Close: [p=0, some=1, p=2, some=3, out=5, i=6, dual=7, n=8, now=9, i=10, k=11] -/
def c_spec_l24Close_l1 : ACode :=
  (.seq (.seq (.reg [⟨none, .mov 13 (.t 6)⟩,
      ⟨none, .mov 14 (.t 1)⟩,
      ⟨none, .len 15 (.t 14)⟩,
      ⟨none, .bin 16 .lss (.t 13) (.t 15)⟩])
   (.drop [13, 14, 15] (.cond (.t 16) .skip
    (.exit 0))))
  (.drop [13, 14, 15, 16] (.seq (.block 1 (.reg [⟨none, .mov 19 (.t 5)⟩,
       ⟨none, .mov 20 (.t 1)⟩,
       ⟨none, .mov 21 (.t 6)⟩,
       ⟨none, .iad 22 1 (.t 20) (.t 21)⟩,
       ⟨none, .ld 23 1 false (.t 22)⟩,
       ⟨none, .call 24 f_spec_l1Put [((.t 19), false), ((.t 23), false)]⟩,
       ⟨none, .asgf 5 (.t 24)⟩]))
   (.drop [19, 20, 21, 22, 23, 24] (.reg [⟨none, .mov 17 (.t 6)⟩,
      ⟨none, .bin 18 .add (.t 17) (.c (.int .i64 1))⟩,
      ⟨none, .asg 6 (.t 18)⟩])))))
def c_spec_l24Close_l2 : ACode :=
  (.seq (.seq (.reg [⟨none, .mov 42 (.t 11)⟩,
      ⟨none, .mov 43 (.t 10)⟩,
      ⟨none, .bin 44 .lss (.t 42) (.t 43)⟩])
   (.drop [42, 43] (.cond (.t 44) .skip
    (.exit 6))))
  (.drop [42, 43, 44] (.seq (.block 7 (.dreg [(⟨none, .mov 47 (.t 5)⟩, [52, 56, 64, 68]),
       (⟨none, .ld 48 1 true (.t 2)⟩, [47, 52, 56, 64, 68]),
       (⟨none, .mov 49 (.t 9)⟩, [47, 48, 64, 68]),
       (⟨none, .mov 50 (.t 10)⟩, [47, 48, 49, 64, 68]),
       (⟨none, .iad 51 1 (.t 49) (.t 50)⟩, [47, 48, 64, 68]),
       (⟨none, .ld 52 1 false (.t 51)⟩, [47, 48, 64, 68]),
       (⟨none, .mov 53 (.t 9)⟩, [47, 48, 49, 50, 51, 52, 64, 68]),
       (⟨none, .mov 54 (.t 11)⟩, [47, 48, 49, 50, 51, 52, 53, 64, 68]),
       (⟨none, .iad 55 1 (.t 53) (.t 54)⟩, [47, 48, 49, 50, 51, 52, 64, 68]),
       (⟨none, .ld 56 1 false (.t 55)⟩, [47, 48, 49, 50, 51, 52, 64, 68]),
       (⟨none, .bsl 57 1 [(.t 52), (.t 56)]⟩, [47, 48, 64, 68]),
       (⟨none, .call 58 f_spec_l24Bound [((.t 48), false), ((.t 57), false)]⟩, [47, 52, 56, 64, 68]),
       (⟨none, .call 59 f_spec_l1Put [((.t 47), false), ((.t 58), false)]⟩, [52, 56, 64, 68]),
       (⟨none, .ld 60 1 true (.t 7)⟩, [47, 48, 49, 50, 51, 52, 53, 54, 55, 56, 57, 58, 59, 52, 56, 64, 68]),
       (⟨none, .mov 61 (.t 9)⟩, [47, 48, 49, 50, 51, 52, 53, 54, 55, 56, 57, 58, 59, 60, 52, 56]),
       (⟨none, .mov 62 (.t 10)⟩, [47, 48, 49, 50, 51, 52, 53, 54, 55, 56, 57, 58, 59, 60, 61, 52, 56]),
       (⟨none, .iad 63 1 (.t 61) (.t 62)⟩, [47, 48, 49, 50, 51, 52, 53, 54, 55, 56, 57, 58, 59, 60, 52, 56]),
       (⟨none, .ld 64 1 false (.t 63)⟩, [47, 48, 49, 50, 51, 52, 53, 54, 55, 56, 57, 58, 59, 60, 52, 56]),
       (⟨none, .mov 65 (.t 9)⟩, [47, 48, 49, 50, 51, 52, 53, 54, 55, 56, 57, 58, 59, 60, 61, 62, 63, 64, 52, 56]),
       (⟨none, .mov 66 (.t 11)⟩, [47, 48, 49, 50, 51, 52, 53, 54, 55, 56, 57, 58, 59, 60, 61, 62, 63, 64, 65, 52, 56]),
       (⟨none, .iad 67 1 (.t 65) (.t 66)⟩, [47, 48, 49, 50, 51, 52, 53, 54, 55, 56, 57, 58, 59, 60, 61, 62, 63, 64, 52, 56]),
       (⟨none, .ld 68 1 false (.t 67)⟩, [47, 48, 49, 50, 51, 52, 53, 54, 55, 56, 57, 58, 59, 60, 61, 62, 63, 64, 52, 56]),
       (⟨none, .bsl 69 1 [(.t 64), (.t 68)]⟩, [47, 48, 49, 50, 51, 52, 53, 54, 55, 56, 57, 58, 59, 60, 52, 56])]
      [⟨none, .call 70 f_spec_l24Bound [((.t 60), false), ((.t 69), false)]⟩,
       ⟨none, .call 71 f_spec_l1Put [((.t 59), false), ((.t 70), false)]⟩,
       ⟨none, .asgf 5 (.t 71)⟩]))
   (.drop [47, 48, 49, 50, 51, 52, 53, 54, 55, 56, 57, 58, 59, 60, 61, 62, 63, 64, 65, 66, 67, 68, 69, 70, 71] (.reg [⟨none, .mov 45 (.t 11)⟩,
      ⟨none, .bin 46 .add (.t 45) (.c (.int .i64 1))⟩,
      ⟨none, .asg 11 (.t 46)⟩])))))
def c_spec_l24Close_l3 : ACode :=
  (.seq (.seq (.reg [⟨none, .mov 36 (.t 10)⟩,
      ⟨none, .mov 37 (.t 9)⟩,
      ⟨none, .len 38 (.t 37)⟩,
      ⟨none, .bin 39 .lss (.t 36) (.t 38)⟩])
   (.drop [36, 37, 38] (.cond (.t 39) .skip
    (.exit 4))))
  (.drop [36, 37, 38, 39] (.seq (.block 5 (.seq (.reg [⟨none, .asg 11 (.c (.int .i64 0))⟩])
     (.block 6 (.loop c_spec_l24Close_l2))))
   (.drop [11, 42, 43, 44, 47, 48, 49, 50, 51, 52, 53, 54, 55, 56, 57, 58, 59, 60, 61, 62, 63, 64, 65, 66, 67, 68, 69, 70, 71, 45, 46] (.reg [⟨none, .mov 40 (.t 10)⟩,
      ⟨none, .bin 41 .add (.t 40) (.c (.int .i64 1))⟩,
      ⟨none, .asg 10 (.t 41)⟩])))))
def c_spec_l24Close_l4 : ACode :=
  (.seq (.seq (.reg [⟨none, .mov 27 (.t 8)⟩,
      ⟨none, .fadr 28 0 (.t 2)⟩,
      ⟨none, .ld 29 1 false (.t 28)⟩,
      ⟨none, .len 30 (.t 29)⟩,
      ⟨none, .bin 31 .lss (.t 27) (.t 30)⟩])
   (.drop [27, 28, 29, 30] (.cond (.t 31) .skip
    (.exit 2))))
  (.drop [27, 28, 29, 30, 31] (.seq (.block 3 (.seq (.reg [⟨none, .mov 34 (.t 5)⟩,
        ⟨none, .call 35 f_spec_l1Own [((.t 34), false)]⟩,
        ⟨none, .asg 9 (.t 35)⟩])
     (.drop [34, 35] (.seq (.reg [⟨none, .asg 10 (.c (.int .i64 0))⟩])
      (.block 4 (.loop c_spec_l24Close_l3))))))
   (.drop [34, 35, 9, 10, 36, 37, 38, 39, 11, 42, 43, 44, 47, 48, 49, 50, 51, 52, 53, 54, 55, 56, 57, 58, 59, 60, 61, 62, 63, 64, 65, 66, 67, 68, 69, 70, 71, 45, 46, 40, 41] (.reg [⟨none, .mov 32 (.t 8)⟩,
      ⟨none, .bin 33 .add (.t 32) (.c (.int .i64 1))⟩,
      ⟨none, .asg 8 (.t 33)⟩])))))
def c_spec_l24Close : ACode :=
  (.seq (.reg [⟨none, .box 2 (.t 0)⟩,
     ⟨none, .asg 4 (.c (.nilsl 1))⟩])
  (.seq (.reg [⟨none, .bsl 12 1 []⟩,
      ⟨none, .asgf 5 (.t 12)⟩])
   (.drop [12] (.seq (.seq (.reg [⟨none, .asg 6 (.c (.int .i64 0))⟩])
     (.block 0 (.loop c_spec_l24Close_l1)))
    (.drop [6, 13, 14, 15, 16, 19, 20, 21, 22, 23, 24, 17, 18] (.seq (.reg [⟨none, .ld 25 1 true (.t 2)⟩,
        ⟨none, .call 26 f_spec_l23Dual [((.t 25), false)]⟩,
        ⟨none, .alc 7 (.agg [.nilsl 1])⟩,
        ⟨none, .st 1 (.t 7) (.t 26)⟩])
     (.drop [25, 26] (.seq (.seq (.reg [⟨none, .asg 8 (.c (.int .i64 0))⟩])
       (.block 2 (.loop c_spec_l24Close_l4)))
      (.drop [8, 27, 28, 29, 30, 31, 34, 35, 9, 10, 36, 37, 38, 39, 11, 42, 43, 44, 47, 48, 49, 50, 51, 52, 53, 54, 55, 56, 57, 58, 59, 60, 61, 62, 63, 64, 65, 66, 67, 68, 69, 70, 71, 45, 46, 40, 41, 32, 33] (.seq (.reg [⟨none, .mov 72 (.t 5)⟩,
          ⟨none, .asg 4 (.t 72)⟩])
       (.drop [72] .ret)))))))))))
abbrev r_spec_l24Close : List RS := [.t 4]
theorem k_spec_l24Close : fitsF Try.prog f_spec_l24Close 73 c_spec_l24Close r_spec_l24Close = true := by kernel_rfl

/- loop.example/g01078/spec.l24Algebra: [p=0, p=1, n=3, dual=4, meet=5, join=6, x=7, y=8] -/
def c_spec_l24Algebra_l1 : ACode :=
  (.seq (.seq (.reg [⟨none, .mov 21 (.t 8)⟩,
      ⟨none, .mov 22 (.t 3)⟩,
      ⟨none, .bin 23 .lss (.t 21) (.t 22)⟩])
   (.drop [21, 22] (.cond (.t 23) .skip
    (.exit 2))))
  (.drop [21, 22, 23] (.seq (.block 3 (.seq (.dreg [(⟨none, .fadr 26 1 (.t 5)⟩, [29, 30, 32]),
        (⟨none, .ld 27 1 false (.t 26)⟩, [29, 30, 32]),
        (⟨none, .ld 28 1 true (.t 1)⟩, [26, 27, 29, 30]),
        (⟨none, .mov 29 (.t 7)⟩, [26, 27, 28]),
        (⟨none, .mov 30 (.t 8)⟩, [26, 27, 28, 29]),
        (⟨none, .bsl 31 1 [(.t 29), (.t 30)]⟩, [26, 27, 28]),
        (⟨none, .call 32 f_spec_l24Bound [((.t 28), false), ((.t 31), false)]⟩, [26, 27, 29, 30]),
        (⟨none, .bsl 33 1 [(.t 32)]⟩, [26, 27, 29, 30])]
       [⟨none, .app 34 1 (.t 27) (.t 33)⟩,
        ⟨none, .fadr 35 1 (.t 5)⟩,
        ⟨none, .st 1 (.t 35) (.t 34)⟩])
     (.drop [26, 27, 28, 29, 30, 31, 32, 33, 34, 35] (.dreg [(⟨none, .fadr 36 1 (.t 6)⟩, [39, 40, 42]),
        (⟨none, .ld 37 1 false (.t 36)⟩, [39, 40, 42]),
        (⟨none, .ld 38 1 true (.t 4)⟩, [36, 37, 39, 40]),
        (⟨none, .mov 39 (.t 7)⟩, [36, 37, 38]),
        (⟨none, .mov 40 (.t 8)⟩, [36, 37, 38, 39]),
        (⟨none, .bsl 41 1 [(.t 39), (.t 40)]⟩, [36, 37, 38]),
        (⟨none, .call 42 f_spec_l24Bound [((.t 38), false), ((.t 41), false)]⟩, [36, 37, 39, 40]),
        (⟨none, .bsl 43 1 [(.t 42)]⟩, [36, 37, 39, 40])]
       [⟨none, .app 44 1 (.t 37) (.t 43)⟩,
        ⟨none, .fadr 45 1 (.t 6)⟩,
        ⟨none, .st 1 (.t 45) (.t 44)⟩]))))
   (.drop [26, 27, 28, 29, 30, 31, 32, 33, 34, 35, 36, 37, 38, 39, 40, 41, 42, 43, 44, 45] (.reg [⟨none, .mov 24 (.t 8)⟩,
      ⟨none, .bin 25 .add (.t 24) (.c (.int .i64 1))⟩,
      ⟨none, .asg 8 (.t 25)⟩])))))
def c_spec_l24Algebra_l2 : ACode :=
  (.seq (.seq (.reg [⟨none, .mov 16 (.t 7)⟩,
      ⟨none, .mov 17 (.t 3)⟩,
      ⟨none, .bin 18 .lss (.t 16) (.t 17)⟩])
   (.drop [16, 17] (.cond (.t 18) .skip
    (.exit 0))))
  (.drop [16, 17, 18] (.seq (.block 1 (.seq (.reg [⟨none, .asg 8 (.c (.int .i64 0))⟩])
     (.block 2 (.loop c_spec_l24Algebra_l1))))
   (.drop [8, 21, 22, 23, 26, 27, 28, 29, 30, 31, 32, 33, 34, 35, 36, 37, 38, 39, 40, 41, 42, 43, 44, 45, 24, 25] (.reg [⟨none, .mov 19 (.t 7)⟩,
      ⟨none, .bin 20 .add (.t 19) (.c (.int .i64 1))⟩,
      ⟨none, .asg 7 (.t 20)⟩])))))
def c_spec_l24Algebra : ACode :=
  (.seq (.reg [⟨none, .box 1 (.t 0)⟩,
     ⟨none, .alc 2 (.agg [.int .i64 0, .nilsl 2])⟩])
  (.seq (.reg [⟨none, .fadr 9 0 (.t 1)⟩,
      ⟨none, .ld 10 1 false (.t 9)⟩,
      ⟨none, .len 11 (.t 10)⟩,
      ⟨none, .asg 3 (.t 11)⟩])
   (.drop [9, 10, 11] (.seq (.reg [⟨none, .ld 12 1 true (.t 1)⟩,
       ⟨none, .call 13 f_spec_l23Dual [((.t 12), false)]⟩,
       ⟨none, .alc 4 (.agg [.nilsl 1])⟩,
       ⟨none, .st 1 (.t 4) (.t 13)⟩])
    (.drop [12, 13] (.seq (.reg [⟨none, .bld 14 [.int .i64 0, .nilsl 1] [(0, 1, (.c (.int .i64 2)))]⟩,
        ⟨none, .bld 15 [.int .i64 0, .nilsl 1] [(0, 1, (.c (.int .i64 2)))]⟩,
        ⟨none, .alc 5 (.agg [.int .i64 0, .nilsl 1])⟩,
        ⟨none, .alc 6 (.agg [.int .i64 0, .nilsl 1])⟩,
        ⟨none, .st 2 (.t 5) (.t 14)⟩,
        ⟨none, .st 2 (.t 6) (.t 15)⟩])
     (.drop [14, 15] (.seq (.seq (.reg [⟨none, .asg 7 (.c (.int .i64 0))⟩])
       (.block 0 (.loop c_spec_l24Algebra_l2)))
      (.drop [7, 16, 17, 18, 8, 21, 22, 23, 26, 27, 28, 29, 30, 31, 32, 33, 34, 35, 36, 37, 38, 39, 40, 41, 42, 43, 44, 45, 24, 25, 19, 20] (.seq (.reg [⟨none, .mov 46 (.t 3)⟩,
          ⟨none, .ld 47 2 true (.t 5)⟩,
          ⟨none, .ld 48 2 true (.t 6)⟩,
          ⟨none, .bsl 49 2 [(.t 47), (.t 48)]⟩,
          ⟨none, .bld 50 [.int .i64 0, .nilsl 2] [(0, 1, (.t 46)), (1, 1, (.t 49))]⟩,
          ⟨none, .st 2 (.t 2) (.t 50)⟩])
       (.drop [46, 47, 48, 49, 50] .ret)))))))))))
abbrev r_spec_l24Algebra : List RS := [.c 2 2 true]
theorem k_spec_l24Algebra : fitsF Try.prog f_spec_l24Algebra 51 c_spec_l24Algebra r_spec_l24Algebra = true := by kernel_rfl

/- loop.example/g01078/spec.ProductLattice: [p=0, q=1, p=2, q=3] -/
def c_spec_ProductLattice : ACode :=
  (.seq (.reg [⟨none, .box 2 (.t 0)⟩,
     ⟨none, .box 3 (.t 1)⟩,
     ⟨none, .alc 4 (.agg [.nilsl 1])⟩,
     ⟨none, .asg 5 (.c (.bool false))⟩])
  (.seq (.seq (.reg [⟨none, .ld 6 1 true (.t 2)⟩,
       ⟨none, .call 7 f_spec_l24Good [((.t 6), false)]⟩,
       ⟨none, .un 8 .not (.t 7)⟩,
       ⟨none, .asg 9 (.t 8)⟩,
       ⟨some (9, false), .ld 10 1 true (.t 3)⟩,
       ⟨some (9, false), .call 11 f_spec_l24Good [((.t 10), false)]⟩,
       ⟨some (9, false), .un 12 .not (.t 11)⟩,
       ⟨none, .pick 13 (.t 9) (.c (.bool true)) (.t 12)⟩,
       ⟨none, .asg 14 (.t 13)⟩,
       ⟨some (14, false), .fadr 15 0 (.t 2)⟩,
       ⟨some (14, false), .ld 16 1 false (.t 15)⟩,
       ⟨some (14, false), .len 17 (.t 16)⟩,
       ⟨some (14, false), .fadr 18 0 (.t 3)⟩,
       ⟨some (14, false), .ld 19 1 false (.t 18)⟩,
       ⟨some (14, false), .len 20 (.t 19)⟩,
       ⟨some (14, false), .bin 21 .mul (.t 17) (.t 20)⟩,
       ⟨some (14, false), .bin 22 .gtr (.t 21) (.c (.int .i64 10))⟩,
       ⟨none, .pick 23 (.t 14) (.c (.bool true)) (.t 22)⟩])
    (.drop [6, 7, 8, 9, 10, 11, 12, 13, 14, 15, 16, 17, 18, 19, 20, 21, 22] (.cond (.t 23) (.seq (.reg [⟨none, .bld 24 [.nilsl 1] []⟩,
         ⟨none, .st 1 (.t 4) (.t 24)⟩,
         ⟨none, .asg 5 (.c (.bool false))⟩])
      (.drop [24] .ret))
     .skip)))
   (.drop [6, 7, 8, 9, 10, 11, 12, 13, 14, 15, 16, 17, 18, 19, 20, 21, 22, 23, 24] (.seq (.reg [⟨none, .ld 25 1 true (.t 2)⟩,
       ⟨none, .ld 26 1 true (.t 3)⟩,
       ⟨none, .call 27 f_spec_l24Product [((.t 25), false), ((.t 26), false)]⟩,
       ⟨none, .st 1 (.t 4) (.t 27)⟩,
       ⟨none, .asg 5 (.c (.bool true))⟩])
    (.drop [25, 26, 27] .ret)))))
abbrev r_spec_ProductLattice : List RS := [.c 4 1 true, .t 5]
theorem k_spec_ProductLattice : fitsF Try.prog f_spec_ProductLattice 28 c_spec_ProductLattice r_spec_ProductLattice = true := by kernel_rfl

/- loop.example/g01078/impl.ProductLattice: [p=0, q=1, p=2, q=3, l=6, m=7, ok=8, n=9, o=10, x=11, y=12] -/
def c_impl_ProductLattice_k1 : ACode :=
  (.seq (.dreg [(⟨none, .mov 20 (.t 8)⟩, []),
        (⟨none, .un 21 .not (.t 20)⟩, []),
        (⟨none, .asg 22 (.t 21)⟩, []),
        (⟨some (22, false), .mov 23 (.t 6)⟩, [21]),
        (⟨some (22, false), .nck 24 (.t 23)⟩, [21]),
        (⟨some (22, false), .fadr 25 0 (.t 24)⟩, [21]),
        (⟨some (22, false), .ld 26 1 false (.t 25)⟩, [21]),
        (⟨some (22, false), .len 27 (.t 26)⟩, [21]),
        (⟨some (22, false), .mov 28 (.t 7)⟩, [23, 24, 25, 26, 27, 21]),
        (⟨some (22, false), .nck 29 (.t 28)⟩, [23, 24, 25, 26, 27, 21]),
        (⟨some (22, false), .fadr 30 0 (.t 29)⟩, [23, 24, 25, 26, 27, 21]),
        (⟨some (22, false), .ld 31 1 false (.t 30)⟩, [23, 24, 25, 26, 27, 21]),
        (⟨some (22, false), .len 32 (.t 31)⟩, [23, 24, 25, 26, 27, 21])]
       [⟨some (22, false), .bin 33 .mul (.t 27) (.t 32)⟩,
        ⟨some (22, false), .bin 34 .gtr (.t 33) (.c (.int .i64 10))⟩,
        ⟨none, .pick 35 (.t 22) (.c (.bool true)) (.t 34)⟩])
     (.drop [20, 21, 22, 23, 24, 25, 26, 27, 28, 29, 30, 31, 32, 33, 34] (.cond (.t 35) (.seq (.reg [⟨none, .bld 36 [.nilsl 1] []⟩,
          ⟨none, .st 1 (.t 4) (.t 36)⟩,
          ⟨none, .asg 5 (.c (.bool false))⟩])
       (.drop [36] .ret))
      .skip)))
def c_impl_ProductLattice_l1 : ACode :=
  (.seq (.reg [⟨none, .bin 58 .lss (.t 57) (.t 56)⟩])
  (.seq (.cond (.t 58) .skip
    (.exit 2))
   (.seq (.block 3 (.seq (.reg [⟨none, .mov 59 (.t 57)⟩,
         ⟨none, .asg 12 (.t 59)⟩])
      (.drop [59] (.dreg [(⟨none, .mov 60 (.t 10)⟩, [78]),
         (⟨none, .mov 61 (.t 11)⟩, [60, 78]),
         (⟨none, .iad 62 1 (.t 60) (.t 61)⟩, [78]),
         (⟨none, .ld 63 1 false (.t 62)⟩, [78]),
         (⟨none, .mov 64 (.t 12)⟩, [60, 61, 62, 63, 78]),
         (⟨none, .mov 65 (.t 6)⟩, [60, 61, 62, 63, 64]),
         (⟨none, .nck 66 (.t 65)⟩, [60, 61, 62, 63, 64]),
         (⟨none, .fadr 67 0 (.t 66)⟩, [60, 61, 62, 63, 64]),
         (⟨none, .ld 68 1 false (.t 67)⟩, [60, 61, 62, 63, 64]),
         (⟨none, .mov 69 (.t 11)⟩, [60, 61, 62, 63, 64, 65, 66, 67, 68]),
         (⟨none, .mov 70 (.t 9)⟩, [60, 61, 62, 63, 64, 65, 66, 67, 68, 69]),
         (⟨none, .bin 71 .quo (.t 69) (.t 70)⟩, [60, 61, 62, 63, 64, 65, 66, 67, 68]),
         (⟨none, .iad 72 1 (.t 68) (.t 71)⟩, [60, 61, 62, 63, 64]),
         (⟨none, .ld 73 1 false (.t 72)⟩, [60, 61, 62, 63, 64]),
         (⟨none, .mov 74 (.t 12)⟩, [60, 61, 62, 63, 64, 65, 66, 67, 68, 69, 70, 71, 72, 73]),
         (⟨none, .mov 75 (.t 9)⟩, [60, 61, 62, 63, 64, 65, 66, 67, 68, 69, 70, 71, 72, 73, 74]),
         (⟨none, .bin 76 .quo (.t 74) (.t 75)⟩, [60, 61, 62, 63, 64, 65, 66, 67, 68, 69, 70, 71, 72, 73]),
         (⟨none, .iad 77 1 (.t 73) (.t 76)⟩, [60, 61, 62, 63, 64]),
         (⟨none, .ld 78 1 false (.t 77)⟩, [60, 61, 62, 63, 64]),
         (⟨none, .asg 79 (.t 78)⟩, [60, 61, 62, 63, 64]),
         (⟨some (79, true), .mov 80 (.t 7)⟩, [60, 61, 62, 63, 64, 78]),
         (⟨some (79, true), .nck 81 (.t 80)⟩, [60, 61, 62, 63, 64, 78]),
         (⟨some (79, true), .fadr 82 0 (.t 81)⟩, [60, 61, 62, 63, 64, 78]),
         (⟨some (79, true), .ld 83 1 false (.t 82)⟩, [60, 61, 62, 63, 64, 78]),
         (⟨some (79, true), .mov 84 (.t 11)⟩, [60, 61, 62, 63, 64, 80, 81, 82, 83, 78]),
         (⟨some (79, true), .mov 85 (.t 9)⟩, [60, 61, 62, 63, 64, 80, 81, 82, 83, 84, 78]),
         (⟨some (79, true), .bin 86 .rem (.t 84) (.t 85)⟩, [60, 61, 62, 63, 64, 80, 81, 82, 83, 78]),
         (⟨some (79, true), .iad 87 1 (.t 83) (.t 86)⟩, [60, 61, 62, 63, 64, 78]),
         (⟨some (79, true), .ld 88 1 false (.t 87)⟩, [60, 61, 62, 63, 64, 78]),
         (⟨some (79, true), .mov 89 (.t 12)⟩, [60, 61, 62, 63, 64, 80, 81, 82, 83, 84, 85, 86, 87, 88, 78]),
         (⟨some (79, true), .mov 90 (.t 9)⟩, [60, 61, 62, 63, 64, 80, 81, 82, 83, 84, 85, 86, 87, 88, 89, 78]),
         (⟨some (79, true), .bin 91 .rem (.t 89) (.t 90)⟩, [60, 61, 62, 63, 64, 80, 81, 82, 83, 84, 85, 86, 87, 88, 78]),
         (⟨some (79, true), .iad 92 1 (.t 88) (.t 91)⟩, [60, 61, 62, 63, 64, 78]),
         (⟨some (79, true), .ld 93 1 false (.t 92)⟩, [60, 61, 62, 63, 64, 78]),
         (⟨none, .pick 94 (.t 79) (.t 93) (.c (.bool false))⟩, [60, 61, 62, 63, 64, 78])]
        [⟨none, .iad 95 1 (.t 63) (.t 64)⟩,
         ⟨none, .st 1 (.t 95) (.t 94)⟩]))))
    (.drop [59, 12, 60, 61, 62, 63, 64, 65, 66, 67, 68, 69, 70, 71, 72, 73, 74, 75, 76, 77, 78, 79, 80, 81, 82, 83, 84, 85, 86, 87, 88, 89, 90, 91, 92, 93, 94, 95] (.reg [⟨none, .bin 96 .add (.t 57) (.c (.int .i64 1))⟩,
       ⟨none, .asg 57 (.t 96)⟩])))))
def c_impl_ProductLattice_l2 : ACode :=
  (.seq (.reg [⟨none, .bin 53 .lss (.t 52) (.t 51)⟩])
  (.seq (.cond (.t 53) .skip
    (.exit 0))
   (.seq (.block 1 (.seq (.reg [⟨none, .mov 54 (.t 52)⟩,
         ⟨none, .asg 11 (.t 54)⟩])
      (.drop [54] (.seq (.reg [⟨none, .mov 55 (.t 10)⟩,
          ⟨none, .len 56 (.t 55)⟩,
          ⟨none, .mov 57 (.c (.int .i64 0))⟩])
       (.drop [55] (.block 2 (.loop c_impl_ProductLattice_l1)))))))
    (.drop [54, 11, 55, 56, 57, 58, 59, 12, 60, 61, 62, 63, 64, 65, 66, 67, 68, 69, 70, 71, 72, 73, 74, 75, 76, 77, 78, 79, 80, 81, 82, 83, 84, 85, 86, 87, 88, 89, 90, 91, 92, 93, 94, 95, 96] (.reg [⟨none, .bin 97 .add (.t 52) (.c (.int .i64 1))⟩,
       ⟨none, .asg 52 (.t 97)⟩])))))
def c_impl_ProductLattice : ACode :=
  (.seq (.reg [⟨none, .box 2 (.t 0)⟩,
     ⟨none, .box 3 (.t 1)⟩,
     ⟨none, .alc 4 (.agg [.nilsl 1])⟩,
     ⟨none, .asg 5 (.c (.bool false))⟩])
  (.seq (.reg [⟨none, .ld 14 1 true (.t 2)⟩,
      ⟨none, .ld 15 1 true (.t 3)⟩,
      ⟨none, .call 16 f_impl_twoLattices [((.t 14), false), ((.t 15), false)]⟩,
      ⟨none, .asg 13 (.t 16)⟩,
      ⟨none, .ext 17 (.t 13) 0⟩,
      ⟨none, .ext 18 (.t 13) 1⟩,
      ⟨none, .ext 19 (.t 13) 2⟩,
      ⟨none, .asg 6 (.t 17)⟩,
      ⟨none, .asg 7 (.t 18)⟩,
      ⟨none, .asg 8 (.t 19)⟩])
   (.drop [14, 15, 16, 13, 17, 18, 19] (.seq (.cut c_impl_ProductLattice_k1)
    (.drop [20, 21, 22, 23, 24, 25, 26, 27, 28, 29, 30, 31, 32, 33, 34, 35, 36] (.seq (.reg [⟨none, .mov 37 (.t 7)⟩,
        ⟨none, .nck 38 (.t 37)⟩,
        ⟨none, .fadr 39 0 (.t 38)⟩,
        ⟨none, .ld 40 1 false (.t 39)⟩,
        ⟨none, .len 41 (.t 40)⟩,
        ⟨none, .asg 9 (.t 41)⟩])
     (.drop [37, 38, 39, 40, 41] (.seq (.reg [⟨none, .mov 42 (.t 6)⟩,
         ⟨none, .nck 43 (.t 42)⟩,
         ⟨none, .fadr 44 0 (.t 43)⟩,
         ⟨none, .ld 45 1 false (.t 44)⟩,
         ⟨none, .len 46 (.t 45)⟩,
         ⟨none, .mov 47 (.t 9)⟩,
         ⟨none, .bin 48 .mul (.t 46) (.t 47)⟩,
         ⟨none, .call 49 f_impl_newOrder [((.t 48), false)]⟩,
         ⟨none, .asg 10 (.t 49)⟩])
      (.drop [42, 43, 44, 45, 46, 47, 48, 49] (.seq (.seq (.reg [⟨none, .mov 50 (.t 10)⟩,
           ⟨none, .len 51 (.t 50)⟩,
           ⟨none, .mov 52 (.c (.int .i64 0))⟩])
        (.drop [50] (.block 0 (.loop c_impl_ProductLattice_l2))))
       (.drop [50, 51, 52, 53, 54, 11, 55, 56, 57, 58, 59, 12, 60, 61, 62, 63, 64, 65, 66, 67, 68, 69, 70, 71, 72, 73, 74, 75, 76, 77, 78, 79, 80, 81, 82, 83, 84, 85, 86, 87, 88, 89, 90, 91, 92, 93, 94, 95, 96, 97] (.seq (.reg [⟨none, .mov 98 (.t 10)⟩,
           ⟨none, .call 99 f_impl_order_poset [((.t 98), false)]⟩,
           ⟨none, .st 1 (.t 4) (.t 99)⟩,
           ⟨none, .asg 5 (.c (.bool true))⟩])
        (.drop [98, 99] .ret)))))))))))))
abbrev r_impl_ProductLattice : List RS := [.c 4 1 true, .t 5]
theorem k_impl_ProductLattice : fitsF Try.prog f_impl_ProductLattice 100 c_impl_ProductLattice r_impl_ProductLattice = true := by kernel_rfl

/- loop.example/g01078/spec.StackLattice: [p=0, q=1, p=2, q=3, out=6, x=7, y=8, below=9, k=10] -/
def c_spec_StackLattice_k1 : ACode :=
  (.seq (.reg [⟨none, .ld 11 1 true (.t 2)⟩,
       ⟨none, .call 12 f_spec_l24Good [((.t 11), false)]⟩,
       ⟨none, .un 13 .not (.t 12)⟩,
       ⟨none, .asg 14 (.t 13)⟩,
       ⟨some (14, false), .ld 15 1 true (.t 3)⟩,
       ⟨some (14, false), .call 16 f_spec_l24Good [((.t 15), false)]⟩,
       ⟨some (14, false), .un 17 .not (.t 16)⟩,
       ⟨none, .pick 18 (.t 14) (.c (.bool true)) (.t 17)⟩,
       ⟨none, .asg 19 (.t 18)⟩,
       ⟨some (19, false), .fadr 20 0 (.t 2)⟩,
       ⟨some (19, false), .ld 21 1 false (.t 20)⟩,
       ⟨some (19, false), .len 22 (.t 21)⟩,
       ⟨some (19, false), .fadr 23 0 (.t 3)⟩,
       ⟨some (19, false), .ld 24 1 false (.t 23)⟩,
       ⟨some (19, false), .len 25 (.t 24)⟩,
       ⟨some (19, false), .bin 26 .add (.t 22) (.t 25)⟩,
       ⟨some (19, false), .bin 27 .gtr (.t 26) (.c (.int .i64 10))⟩,
       ⟨none, .pick 28 (.t 19) (.c (.bool true)) (.t 27)⟩])
    (.drop [11, 12, 13, 14, 15, 16, 17, 18, 19, 20, 21, 22, 23, 24, 25, 26, 27] (.cond (.t 28) (.seq (.reg [⟨none, .bld 29 [.nilsl 1] []⟩,
         ⟨none, .st 1 (.t 4) (.t 29)⟩,
         ⟨none, .asg 5 (.c (.bool false))⟩])
      (.drop [29] .ret))
     .skip)))
def c_spec_StackLattice_l1 : ACode :=
  (.seq (.seq (.reg [⟨none, .mov 32 (.t 7)⟩,
      ⟨none, .fadr 33 0 (.t 2)⟩,
      ⟨none, .ld 34 1 false (.t 33)⟩,
      ⟨none, .len 35 (.t 34)⟩,
      ⟨none, .bin 36 .lss (.t 32) (.t 35)⟩])
   (.drop [32, 33, 34, 35] (.cond (.t 36) .skip
    (.exit 0))))
  (.drop [32, 33, 34, 35, 36] (.seq (.block 1 (.dreg [(⟨none, .fadr 39 0 (.t 6)⟩, [46]),
       (⟨none, .ld 40 1 false (.t 39)⟩, [46]),
       (⟨none, .fadr 41 0 (.t 2)⟩, [39, 40]),
       (⟨none, .ld 42 1 false (.t 41)⟩, [39, 40]),
       (⟨none, .mov 43 (.t 7)⟩, [39, 40, 41, 42]),
       (⟨none, .iad 44 1 (.t 42) (.t 43)⟩, [39, 40]),
       (⟨none, .ld 45 1 false (.t 44)⟩, [39, 40]),
       (⟨none, .call 46 f_spec_l1Own [((.t 45), false)]⟩, [39, 40]),
       (⟨none, .bsl 47 1 [(.t 46)]⟩, [39, 40])]
      [⟨none, .app 48 1 (.t 40) (.t 47)⟩,
       ⟨none, .fadr 49 0 (.t 6)⟩,
       ⟨none, .st 1 (.t 49) (.t 48)⟩]))
   (.drop [39, 40, 41, 42, 43, 44, 45, 46, 47, 48, 49] (.reg [⟨none, .mov 37 (.t 7)⟩,
      ⟨none, .bin 38 .add (.t 37) (.c (.int .i64 1))⟩,
      ⟨none, .asg 7 (.t 38)⟩])))))
def c_spec_StackLattice_l2 : ACode :=
  (.seq (.seq (.reg [⟨none, .mov 61 (.t 10)⟩,
      ⟨none, .fadr 62 0 (.t 3)⟩,
      ⟨none, .ld 63 1 false (.t 62)⟩,
      ⟨none, .mov 64 (.t 8)⟩,
      ⟨none, .iad 65 1 (.t 63) (.t 64)⟩,
      ⟨none, .ld 66 1 false (.t 65)⟩,
      ⟨none, .len 67 (.t 66)⟩,
      ⟨none, .bin 68 .lss (.t 61) (.t 67)⟩])
   (.drop [61, 62, 63, 64, 65, 66, 67] (.cond (.t 68) .skip
    (.exit 4))))
  (.drop [61, 62, 63, 64, 65, 66, 67, 68] (.seq (.block 5 (.dreg [(⟨none, .mov 71 (.t 9)⟩, [83]),
       (⟨none, .fadr 72 0 (.t 2)⟩, [71]),
       (⟨none, .ld 73 1 false (.t 72)⟩, [71]),
       (⟨none, .len 74 (.t 73)⟩, [71]),
       (⟨none, .fadr 75 0 (.t 3)⟩, [71, 72, 73, 74]),
       (⟨none, .ld 76 1 false (.t 75)⟩, [71, 72, 73, 74]),
       (⟨none, .mov 77 (.t 8)⟩, [71, 72, 73, 74, 75, 76]),
       (⟨none, .iad 78 1 (.t 76) (.t 77)⟩, [71, 72, 73, 74]),
       (⟨none, .ld 79 1 false (.t 78)⟩, [71, 72, 73, 74]),
       (⟨none, .mov 80 (.t 10)⟩, [71, 72, 73, 74, 75, 76, 77, 78, 79]),
       (⟨none, .iad 81 1 (.t 79) (.t 80)⟩, [71, 72, 73, 74]),
       (⟨none, .ld 82 1 false (.t 81)⟩, [71, 72, 73, 74]),
       (⟨none, .bin 83 .add (.t 74) (.t 82)⟩, [71]),
       (⟨none, .bsl 84 1 [(.t 83)]⟩, [71])]
      [⟨none, .app 85 1 (.t 71) (.t 84)⟩,
       ⟨none, .asg 9 (.t 85)⟩]))
   (.drop [71, 72, 73, 74, 75, 76, 77, 78, 79, 80, 81, 82, 83, 84, 85] (.reg [⟨none, .mov 69 (.t 10)⟩,
      ⟨none, .bin 70 .add (.t 69) (.c (.int .i64 1))⟩,
      ⟨none, .asg 10 (.t 70)⟩])))))
def c_spec_StackLattice_l3 : ACode :=
  (.seq (.seq (.reg [⟨none, .mov 50 (.t 8)⟩,
      ⟨none, .fadr 51 0 (.t 3)⟩,
      ⟨none, .ld 52 1 false (.t 51)⟩,
      ⟨none, .len 53 (.t 52)⟩,
      ⟨none, .bin 54 .lss (.t 50) (.t 53)⟩])
   (.drop [50, 51, 52, 53] (.cond (.t 54) .skip
    (.exit 2))))
  (.drop [50, 51, 52, 53, 54] (.seq (.block 3 (.seq (.reg [⟨none, .fadr 57 0 (.t 2)⟩,
        ⟨none, .ld 58 1 false (.t 57)⟩,
        ⟨none, .len 59 (.t 58)⟩,
        ⟨none, .call 60 f_spec_l6Identity [((.t 59), false)]⟩,
        ⟨none, .asg 9 (.t 60)⟩])
     (.drop [57, 58, 59, 60] (.seq (.seq (.reg [⟨none, .asg 10 (.c (.int .i64 0))⟩])
       (.block 4 (.loop c_spec_StackLattice_l2)))
      (.drop [10, 61, 62, 63, 64, 65, 66, 67, 68, 71, 72, 73, 74, 75, 76, 77, 78, 79, 80, 81, 82, 83, 84, 85, 69, 70] (.reg [⟨none, .fadr 86 0 (.t 6)⟩,
         ⟨none, .ld 87 1 false (.t 86)⟩,
         ⟨none, .mov 88 (.t 9)⟩,
         ⟨none, .bsl 89 1 [(.t 88)]⟩,
         ⟨none, .app 90 1 (.t 87) (.t 89)⟩,
         ⟨none, .fadr 91 0 (.t 6)⟩,
         ⟨none, .st 1 (.t 91) (.t 90)⟩]))))))
   (.drop [57, 58, 59, 60, 9, 10, 61, 62, 63, 64, 65, 66, 67, 68, 71, 72, 73, 74, 75, 76, 77, 78, 79, 80, 81, 82, 83, 84, 85, 69, 70, 86, 87, 88, 89, 90, 91] (.reg [⟨none, .mov 55 (.t 8)⟩,
      ⟨none, .bin 56 .add (.t 55) (.c (.int .i64 1))⟩,
      ⟨none, .asg 8 (.t 56)⟩])))))
def c_spec_StackLattice : ACode :=
  (.seq (.reg [⟨none, .box 2 (.t 0)⟩,
     ⟨none, .box 3 (.t 1)⟩,
     ⟨none, .alc 4 (.agg [.nilsl 1])⟩,
     ⟨none, .asg 5 (.c (.bool false))⟩])
  (.seq (.cut c_spec_StackLattice_k1)
   (.drop [11, 12, 13, 14, 15, 16, 17, 18, 19, 20, 21, 22, 23, 24, 25, 26, 27, 28, 29] (.seq (.reg [⟨none, .bsl 30 1 []⟩,
       ⟨none, .bld 31 [.nilsl 1] [(0, 1, (.t 30))]⟩,
       ⟨none, .alc 6 (.agg [.nilsl 1])⟩,
       ⟨none, .st 1 (.t 6) (.t 31)⟩])
    (.drop [30, 31] (.seq (.seq (.reg [⟨none, .asg 7 (.c (.int .i64 0))⟩])
      (.block 0 (.loop c_spec_StackLattice_l1)))
     (.drop [7, 32, 33, 34, 35, 36, 39, 40, 41, 42, 43, 44, 45, 46, 47, 48, 49, 37, 38] (.seq (.seq (.reg [⟨none, .asg 8 (.c (.int .i64 0))⟩])
       (.block 2 (.loop c_spec_StackLattice_l3)))
      (.drop [8, 50, 51, 52, 53, 54, 57, 58, 59, 60, 9, 10, 61, 62, 63, 64, 65, 66, 67, 68, 71, 72, 73, 74, 75, 76, 77, 78, 79, 80, 81, 82, 83, 84, 85, 69, 70, 86, 87, 88, 89, 90, 91, 55, 56] (.seq (.reg [⟨none, .ld 92 1 true (.t 6)⟩,
          ⟨none, .st 1 (.t 4) (.t 92)⟩,
          ⟨none, .asg 5 (.c (.bool true))⟩])
       (.drop [92] .ret)))))))))))
abbrev r_spec_StackLattice : List RS := [.c 4 1 true, .t 5]
theorem k_spec_StackLattice : fitsF Try.prog f_spec_StackLattice 93 c_spec_StackLattice r_spec_StackLattice = true := by kernel_rfl

/- loop.example/g01078/impl.StackLattice: [p=0, q=1, p=2, q=3, l=6, m=7, ok=8, n=9, o=10, x=11, y=12] -/
def c_impl_StackLattice_k1 : ACode :=
  (.seq (.dreg [(⟨none, .mov 20 (.t 8)⟩, []),
        (⟨none, .un 21 .not (.t 20)⟩, []),
        (⟨none, .asg 22 (.t 21)⟩, []),
        (⟨some (22, false), .mov 23 (.t 6)⟩, [21]),
        (⟨some (22, false), .nck 24 (.t 23)⟩, [21]),
        (⟨some (22, false), .fadr 25 0 (.t 24)⟩, [21]),
        (⟨some (22, false), .ld 26 1 false (.t 25)⟩, [21]),
        (⟨some (22, false), .len 27 (.t 26)⟩, [21]),
        (⟨some (22, false), .mov 28 (.t 7)⟩, [23, 24, 25, 26, 27, 21]),
        (⟨some (22, false), .nck 29 (.t 28)⟩, [23, 24, 25, 26, 27, 21]),
        (⟨some (22, false), .fadr 30 0 (.t 29)⟩, [23, 24, 25, 26, 27, 21]),
        (⟨some (22, false), .ld 31 1 false (.t 30)⟩, [23, 24, 25, 26, 27, 21]),
        (⟨some (22, false), .len 32 (.t 31)⟩, [23, 24, 25, 26, 27, 21])]
       [⟨some (22, false), .bin 33 .add (.t 27) (.t 32)⟩,
        ⟨some (22, false), .bin 34 .gtr (.t 33) (.c (.int .i64 10))⟩,
        ⟨none, .pick 35 (.t 22) (.c (.bool true)) (.t 34)⟩])
     (.drop [20, 21, 22, 23, 24, 25, 26, 27, 28, 29, 30, 31, 32, 33, 34] (.cond (.t 35) (.seq (.reg [⟨none, .bld 36 [.nilsl 1] []⟩,
          ⟨none, .st 1 (.t 4) (.t 36)⟩,
          ⟨none, .asg 5 (.c (.bool false))⟩])
       (.drop [36] .ret))
      .skip)))
def c_impl_StackLattice_k2 : ACode :=
  (.reg [⟨none, .mov 70 (.t 11)⟩,
           ⟨none, .mov 71 (.t 9)⟩,
           ⟨none, .bin 72 .lss (.t 70) (.t 71)⟩,
           ⟨none, .asg 73 (.t 72)⟩,
           ⟨some (73, true), .mov 74 (.t 12)⟩,
           ⟨some (73, true), .mov 75 (.t 9)⟩,
           ⟨some (73, true), .bin 76 .lss (.t 74) (.t 75)⟩,
           ⟨none, .pick 77 (.t 73) (.t 76) (.c (.bool false))⟩,
           ⟨none, .asg 69 (.t 77)⟩])
def c_impl_StackLattice_k3 : ACode :=
  (.reg [⟨none, .mov 95 (.t 11)⟩,
             ⟨none, .mov 96 (.t 9)⟩,
             ⟨none, .bin 97 .geq (.t 95) (.t 96)⟩,
             ⟨none, .asg 98 (.t 97)⟩,
             ⟨some (98, true), .mov 99 (.t 12)⟩,
             ⟨some (98, true), .mov 100 (.t 9)⟩,
             ⟨some (98, true), .bin 101 .geq (.t 99) (.t 100)⟩,
             ⟨none, .pick 102 (.t 98) (.t 101) (.c (.bool false))⟩,
             ⟨none, .asg 94 (.t 102)⟩])
def c_impl_StackLattice_l1 : ACode :=
  (.seq (.reg [⟨none, .bin 58 .lss (.t 57) (.t 56)⟩])
  (.seq (.cond (.t 58) .skip
    (.exit 2))
   (.seq (.block 3 (.seq (.reg [⟨none, .mov 59 (.t 57)⟩,
         ⟨none, .asg 12 (.t 59)⟩])
      (.drop [59] (.block 4 (.seq (.cut c_impl_StackLattice_k2)
        (.drop [70, 71, 72, 73, 74, 75, 76, 77] (.cond (.t 69) (.dreg [(⟨none, .mov 78 (.t 10)⟩, []),
            (⟨none, .mov 79 (.t 11)⟩, [78]),
            (⟨none, .iad 80 1 (.t 78) (.t 79)⟩, []),
            (⟨none, .ld 81 1 false (.t 80)⟩, []),
            (⟨none, .mov 82 (.t 12)⟩, [78, 79, 80, 81]),
            (⟨none, .mov 83 (.t 6)⟩, [78, 79, 80, 81, 82]),
            (⟨none, .nck 84 (.t 83)⟩, [78, 79, 80, 81, 82]),
            (⟨none, .fadr 85 0 (.t 84)⟩, [78, 79, 80, 81, 82]),
            (⟨none, .ld 86 1 false (.t 85)⟩, [78, 79, 80, 81, 82]),
            (⟨none, .mov 87 (.t 11)⟩, [78, 79, 80, 81, 82, 83, 84, 85, 86]),
            (⟨none, .iad 88 1 (.t 86) (.t 87)⟩, [78, 79, 80, 81, 82]),
            (⟨none, .ld 89 1 false (.t 88)⟩, [78, 79, 80, 81, 82]),
            (⟨none, .mov 90 (.t 12)⟩, [78, 79, 80, 81, 82, 83, 84, 85, 86, 87, 88, 89]),
            (⟨none, .iad 91 1 (.t 89) (.t 90)⟩, [78, 79, 80, 81, 82]),
            (⟨none, .ld 92 1 false (.t 91)⟩, [78, 79, 80, 81, 82])]
           [⟨none, .iad 93 1 (.t 81) (.t 82)⟩,
            ⟨none, .st 1 (.t 93) (.t 92)⟩])
         (.seq (.cut c_impl_StackLattice_k3)
          (.drop [95, 96, 97, 98, 99, 100, 101, 102] (.cond (.t 94) (.dreg [(⟨none, .mov 103 (.t 10)⟩, []),
              (⟨none, .mov 104 (.t 11)⟩, [103]),
              (⟨none, .iad 105 1 (.t 103) (.t 104)⟩, []),
              (⟨none, .ld 106 1 false (.t 105)⟩, []),
              (⟨none, .mov 107 (.t 12)⟩, [103, 104, 105, 106]),
              (⟨none, .mov 108 (.t 7)⟩, [103, 104, 105, 106, 107]),
              (⟨none, .nck 109 (.t 108)⟩, [103, 104, 105, 106, 107]),
              (⟨none, .fadr 110 0 (.t 109)⟩, [103, 104, 105, 106, 107]),
              (⟨none, .ld 111 1 false (.t 110)⟩, [103, 104, 105, 106, 107]),
              (⟨none, .mov 112 (.t 11)⟩, [103, 104, 105, 106, 107, 108, 109, 110, 111]),
              (⟨none, .mov 113 (.t 9)⟩, [103, 104, 105, 106, 107, 108, 109, 110, 111, 112]),
              (⟨none, .bin 114 .sub (.t 112) (.t 113)⟩, [103, 104, 105, 106, 107, 108, 109, 110, 111]),
              (⟨none, .iad 115 1 (.t 111) (.t 114)⟩, [103, 104, 105, 106, 107]),
              (⟨none, .ld 116 1 false (.t 115)⟩, [103, 104, 105, 106, 107]),
              (⟨none, .mov 117 (.t 12)⟩, [103, 104, 105, 106, 107, 108, 109, 110, 111, 112, 113, 114, 115, 116]),
              (⟨none, .mov 118 (.t 9)⟩, [103, 104, 105, 106, 107, 108, 109, 110, 111, 112, 113, 114, 115, 116, 117]),
              (⟨none, .bin 119 .sub (.t 117) (.t 118)⟩, [103, 104, 105, 106, 107, 108, 109, 110, 111, 112, 113, 114, 115, 116]),
              (⟨none, .iad 120 1 (.t 116) (.t 119)⟩, [103, 104, 105, 106, 107]),
              (⟨none, .ld 121 1 false (.t 120)⟩, [103, 104, 105, 106, 107])]
             [⟨none, .iad 122 1 (.t 106) (.t 107)⟩,
              ⟨none, .st 1 (.t 122) (.t 121)⟩])
           (.reg [⟨none, .mov 60 (.t 10)⟩,
              ⟨none, .mov 61 (.t 11)⟩,
              ⟨none, .iad 62 1 (.t 60) (.t 61)⟩,
              ⟨none, .ld 63 1 false (.t 62)⟩,
              ⟨none, .mov 64 (.t 12)⟩,
              ⟨none, .mov 65 (.t 11)⟩,
              ⟨none, .mov 66 (.t 9)⟩,
              ⟨none, .bin 67 .lss (.t 65) (.t 66)⟩,
              ⟨none, .iad 68 1 (.t 63) (.t 64)⟩,
              ⟨none, .st 1 (.t 68) (.t 67)⟩])))))))))))
    (.drop [59, 12, 70, 71, 72, 73, 74, 75, 76, 77, 69, 78, 79, 80, 81, 82, 83, 84, 85, 86, 87, 88, 89, 90, 91, 92, 93, 95, 96, 97, 98, 99, 100, 101, 102, 94, 103, 104, 105, 106, 107, 108, 109, 110, 111, 112, 113, 114, 115, 116, 117, 118, 119, 120, 121, 122, 60, 61, 62, 63, 64, 65, 66, 67, 68] (.reg [⟨none, .bin 123 .add (.t 57) (.c (.int .i64 1))⟩,
       ⟨none, .asg 57 (.t 123)⟩])))))
def c_impl_StackLattice_l2 : ACode :=
  (.seq (.reg [⟨none, .bin 53 .lss (.t 52) (.t 51)⟩])
  (.seq (.cond (.t 53) .skip
    (.exit 0))
   (.seq (.block 1 (.seq (.reg [⟨none, .mov 54 (.t 52)⟩,
         ⟨none, .asg 11 (.t 54)⟩])
      (.drop [54] (.seq (.reg [⟨none, .mov 55 (.t 10)⟩,
          ⟨none, .len 56 (.t 55)⟩,
          ⟨none, .mov 57 (.c (.int .i64 0))⟩])
       (.drop [55] (.block 2 (.loop c_impl_StackLattice_l1)))))))
    (.drop [54, 11, 55, 56, 57, 58, 59, 12, 70, 71, 72, 73, 74, 75, 76, 77, 69, 78, 79, 80, 81, 82, 83, 84, 85, 86, 87, 88, 89, 90, 91, 92, 93, 95, 96, 97, 98, 99, 100, 101, 102, 94, 103, 104, 105, 106, 107, 108, 109, 110, 111, 112, 113, 114, 115, 116, 117, 118, 119, 120, 121, 122, 60, 61, 62, 63, 64, 65, 66, 67, 68, 123] (.reg [⟨none, .bin 124 .add (.t 52) (.c (.int .i64 1))⟩,
       ⟨none, .asg 52 (.t 124)⟩])))))
def c_impl_StackLattice : ACode :=
  (.seq (.reg [⟨none, .box 2 (.t 0)⟩,
     ⟨none, .box 3 (.t 1)⟩,
     ⟨none, .alc 4 (.agg [.nilsl 1])⟩,
     ⟨none, .asg 5 (.c (.bool false))⟩])
  (.seq (.reg [⟨none, .ld 14 1 true (.t 2)⟩,
      ⟨none, .ld 15 1 true (.t 3)⟩,
      ⟨none, .call 16 f_impl_twoLattices [((.t 14), false), ((.t 15), false)]⟩,
      ⟨none, .asg 13 (.t 16)⟩,
      ⟨none, .ext 17 (.t 13) 0⟩,
      ⟨none, .ext 18 (.t 13) 1⟩,
      ⟨none, .ext 19 (.t 13) 2⟩,
      ⟨none, .asg 6 (.t 17)⟩,
      ⟨none, .asg 7 (.t 18)⟩,
      ⟨none, .asg 8 (.t 19)⟩])
   (.drop [14, 15, 16, 13, 17, 18, 19] (.seq (.cut c_impl_StackLattice_k1)
    (.drop [20, 21, 22, 23, 24, 25, 26, 27, 28, 29, 30, 31, 32, 33, 34, 35, 36] (.seq (.reg [⟨none, .mov 37 (.t 6)⟩,
        ⟨none, .nck 38 (.t 37)⟩,
        ⟨none, .fadr 39 0 (.t 38)⟩,
        ⟨none, .ld 40 1 false (.t 39)⟩,
        ⟨none, .len 41 (.t 40)⟩,
        ⟨none, .asg 9 (.t 41)⟩])
     (.drop [37, 38, 39, 40, 41] (.seq (.reg [⟨none, .mov 42 (.t 9)⟩,
         ⟨none, .mov 43 (.t 7)⟩,
         ⟨none, .nck 44 (.t 43)⟩,
         ⟨none, .fadr 45 0 (.t 44)⟩,
         ⟨none, .ld 46 1 false (.t 45)⟩,
         ⟨none, .len 47 (.t 46)⟩,
         ⟨none, .bin 48 .add (.t 42) (.t 47)⟩,
         ⟨none, .call 49 f_impl_newOrder [((.t 48), false)]⟩,
         ⟨none, .asg 10 (.t 49)⟩])
      (.drop [42, 43, 44, 45, 46, 47, 48, 49] (.seq (.seq (.reg [⟨none, .mov 50 (.t 10)⟩,
           ⟨none, .len 51 (.t 50)⟩,
           ⟨none, .mov 52 (.c (.int .i64 0))⟩])
        (.drop [50] (.block 0 (.loop c_impl_StackLattice_l2))))
       (.drop [50, 51, 52, 53, 54, 11, 55, 56, 57, 58, 59, 12, 70, 71, 72, 73, 74, 75, 76, 77, 69, 78, 79, 80, 81, 82, 83, 84, 85, 86, 87, 88, 89, 90, 91, 92, 93, 95, 96, 97, 98, 99, 100, 101, 102, 94, 103, 104, 105, 106, 107, 108, 109, 110, 111, 112, 113, 114, 115, 116, 117, 118, 119, 120, 121, 122, 60, 61, 62, 63, 64, 65, 66, 67, 68, 123, 124] (.seq (.reg [⟨none, .mov 125 (.t 10)⟩,
           ⟨none, .call 126 f_impl_order_poset [((.t 125), false)]⟩,
           ⟨none, .st 1 (.t 4) (.t 126)⟩,
           ⟨none, .asg 5 (.c (.bool true))⟩])
        (.drop [125, 126] .ret)))))))))))))
abbrev r_impl_StackLattice : List RS := [.c 4 1 true, .t 5]
theorem k_impl_StackLattice : fitsF Try.prog f_impl_StackLattice 127 c_impl_StackLattice r_impl_StackLattice = true := by kernel_rfl

/- loop.example/g01078/spec.LatticeAlgebra: [p=0, p=1] -/
def c_spec_LatticeAlgebra : ACode :=
  (.seq (.reg [⟨none, .box 1 (.t 0)⟩,
     ⟨none, .alc 2 (.agg [.int .i64 0, .nilsl 2])⟩,
     ⟨none, .asg 3 (.c (.bool false))⟩])
  (.seq (.seq (.reg [⟨none, .ld 4 1 true (.t 1)⟩,
       ⟨none, .call 5 f_spec_l24Good [((.t 4), false)]⟩,
       ⟨none, .un 6 .not (.t 5)⟩,
       ⟨none, .asg 7 (.t 6)⟩,
       ⟨some (7, false), .fadr 8 0 (.t 1)⟩,
       ⟨some (7, false), .ld 9 1 false (.t 8)⟩,
       ⟨some (7, false), .len 10 (.t 9)⟩,
       ⟨some (7, false), .bin 11 .gtr (.t 10) (.c (.int .i64 8))⟩,
       ⟨none, .pick 12 (.t 7) (.c (.bool true)) (.t 11)⟩])
    (.drop [4, 5, 6, 7, 8, 9, 10, 11] (.cond (.t 12) (.seq (.reg [⟨none, .bld 13 [.int .i64 0, .nilsl 2] []⟩,
         ⟨none, .st 2 (.t 2) (.t 13)⟩,
         ⟨none, .asg 3 (.c (.bool false))⟩])
      (.drop [13] .ret))
     .skip)))
   (.drop [4, 5, 6, 7, 8, 9, 10, 11, 12, 13] (.seq (.reg [⟨none, .ld 14 1 true (.t 1)⟩,
       ⟨none, .call 15 f_spec_l24Algebra [((.t 14), false)]⟩,
       ⟨none, .st 2 (.t 2) (.t 15)⟩,
       ⟨none, .asg 3 (.c (.bool true))⟩])
    (.drop [14, 15] .ret)))))
abbrev r_spec_LatticeAlgebra : List RS := [.c 2 2 true, .t 3]
theorem k_spec_LatticeAlgebra : fitsF Try.prog f_spec_LatticeAlgebra 16 c_spec_LatticeAlgebra r_spec_LatticeAlgebra = true := by kernel_rfl

/- loop.example/g01078/spec.l24Some: [p=0, some=1, p=2, some=3] -/
def c_spec_l24Some : ACode :=
  (.seq (.reg [⟨none, .box 2 (.t 0)⟩,
     ⟨none, .asg 4 (.c (.bool false))⟩])
  (.seq (.reg [⟨none, .ld 5 1 true (.t 2)⟩,
      ⟨none, .call 6 f_spec_l24Good [((.t 5), false)]⟩,
      ⟨none, .asg 7 (.t 6)⟩,
      ⟨some (7, true), .mov 8 (.t 1)⟩,
      ⟨some (7, true), .len 9 (.t 8)⟩,
      ⟨some (7, true), .bin 10 .leq (.t 9) (.c (.int .i64 20))⟩,
      ⟨none, .pick 11 (.t 7) (.t 10) (.c (.bool false))⟩,
      ⟨none, .asg 12 (.t 11)⟩,
      ⟨some (12, true), .fadr 13 0 (.t 2)⟩,
      ⟨some (12, true), .ld 14 1 false (.t 13)⟩,
      ⟨some (12, true), .len 15 (.t 14)⟩,
      ⟨some (12, true), .mov 16 (.t 1)⟩,
      ⟨some (12, true), .call 17 f_spec_l2Elements [((.t 15), false), ((.t 16), false)]⟩,
      ⟨none, .pick 18 (.t 12) (.t 17) (.c (.bool false))⟩,
      ⟨none, .asg 4 (.t 18)⟩])
   (.drop [5, 6, 7, 8, 9, 10, 11, 12, 13, 14, 15, 16, 17, 18] .ret)))
abbrev r_spec_l24Some : List RS := [.t 4]
theorem k_spec_l24Some : fitsF Try.prog f_spec_l24Some 19 c_spec_l24Some r_spec_l24Some = true := by kernel_rfl

/- loop.example/g01078/laws.FnExactProductLattice: [aP=0, aQ=1, aP=2, aQ=3, left=5, w0=6, w1=7, x0=8, x1=9, g0=10, g1=11, k=12, m=13, q=14, h0=15, h1=16] -/
def c_laws_FnExactProductLattice_k1 : ACode :=
  (.seq (.reg [⟨none, .ld 45 1 true (.t 10)⟩,
                ⟨none, .ld 46 1 true (.t 6)⟩,
                ⟨none, .call 47 f_laws_eqPoset [((.t 45), false), ((.t 46), false)]⟩,
                ⟨none, .un 48 .not (.t 47)⟩,
                ⟨none, .asg 49 (.t 48)⟩,
                ⟨some (49, false), .mov 50 (.t 11)⟩,
                ⟨some (49, false), .mov 51 (.t 7)⟩,
                ⟨some (49, false), .binb 52 .neq (.t 50) (.t 51)⟩,
                ⟨none, .pick 53 (.t 49) (.c (.bool true)) (.t 52)⟩])
             (.drop [45, 46, 47, 48, 49, 50, 51, 52] (.cond (.t 53) (.seq (.reg [⟨none, .asg 4 (.c (.bool false))⟩])
               .ret)
              .skip)))
def c_laws_FnExactProductLattice_k2 : ACode :=
  (.seq (.reg [⟨none, .mov 70 (.t 12)⟩,
                      ⟨none, .bin 71 .lss (.t 70) (.c (.int .i64 0))⟩,
                      ⟨none, .asg 72 (.t 71)⟩,
                      ⟨some (72, false), .ld 73 1 true (.t 10)⟩,
                      ⟨some (72, false), .ld 74 1 true (.t 6)⟩,
                      ⟨some (72, false), .call 75 f_laws_eqPoset [((.t 73), false), ((.t 74), false)]⟩,
                      ⟨some (72, false), .un 76 .not (.t 75)⟩,
                      ⟨none, .pick 77 (.t 72) (.c (.bool true)) (.t 76)⟩,
                      ⟨none, .asg 78 (.t 77)⟩,
                      ⟨some (78, false), .mov 79 (.t 11)⟩,
                      ⟨some (78, false), .mov 80 (.t 7)⟩,
                      ⟨some (78, false), .binb 81 .neq (.t 79) (.t 80)⟩,
                      ⟨none, .pick 82 (.t 78) (.c (.bool true)) (.t 81)⟩])
                   (.drop [70, 71, 72, 73, 74, 75, 76, 77, 78, 79, 80, 81] (.cond (.t 82) (.seq (.reg [⟨none, .asg 4 (.c (.bool false))⟩])
                     .ret)
                    .skip)))
def c_laws_FnExactProductLattice_k3 : ACode :=
  (.seq (.reg [⟨none, .ld 102 1 true (.t 15)⟩,
                              ⟨none, .ld 103 1 true (.t 6)⟩,
                              ⟨none, .call 104 f_laws_eqPoset [((.t 102), false), ((.t 103), false)]⟩,
                              ⟨none, .un 105 .not (.t 104)⟩,
                              ⟨none, .asg 106 (.t 105)⟩,
                              ⟨some (106, false), .mov 107 (.t 16)⟩,
                              ⟨some (106, false), .mov 108 (.t 7)⟩,
                              ⟨some (106, false), .binb 109 .neq (.t 107) (.t 108)⟩,
                              ⟨none, .pick 110 (.t 106) (.c (.bool true)) (.t 109)⟩])
                           (.drop [102, 103, 104, 105, 106, 107, 108, 109] (.cond (.t 110) (.seq (.reg [⟨none, .asg 4 (.c (.bool false))⟩])
                             .ret)
                            .skip)))
def c_laws_FnExactProductLattice : ACode :=
  (.seq (.reg [⟨none, .box 2 (.t 0)⟩,
     ⟨none, .box 3 (.t 1)⟩,
     ⟨none, .asg 4 (.c (.bool false))⟩])
  (.seq (.reg [⟨none, .asg 5 (.c (.int .i64 1048576))⟩])
   (.seq (.reg [⟨none, .ld 17 1 true (.t 2)⟩,
       ⟨none, .mov 18 (.t 5)⟩,
       ⟨none, .call 19 f_laws_szPoset [((.t 17), false), ((.t 18), false)]⟩,
       ⟨none, .asg 5 (.t 19)⟩])
    (.drop [17, 18, 19] (.seq (.seq (.reg [⟨none, .mov 20 (.t 5)⟩,
         ⟨none, .bin 21 .lss (.t 20) (.c (.int .i64 0))⟩])
      (.drop [20] (.cond (.t 21) (.seq (.reg [⟨none, .asg 4 (.c (.bool true))⟩])
        .ret)
       .skip)))
     (.drop [20, 21] (.seq (.reg [⟨none, .ld 22 1 true (.t 3)⟩,
         ⟨none, .mov 23 (.t 5)⟩,
         ⟨none, .call 24 f_laws_szPoset [((.t 22), false), ((.t 23), false)]⟩,
         ⟨none, .asg 5 (.t 24)⟩])
      (.drop [22, 23, 24] (.seq (.seq (.reg [⟨none, .mov 25 (.t 5)⟩,
           ⟨none, .bin 26 .lss (.t 25) (.c (.int .i64 0))⟩])
        (.drop [25] (.cond (.t 26) (.seq (.reg [⟨none, .asg 4 (.c (.bool true))⟩])
          .ret)
         .skip)))
       (.drop [25, 26] (.seq (.dreg [(⟨none, .ld 28 1 true (.t 2)⟩, []),
           (⟨none, .call 29 f_laws_toPoset [((.t 28), false)]⟩, []),
           (⟨none, .ld 30 1 true (.t 3)⟩, [28, 29]),
           (⟨none, .call 31 f_laws_toPoset [((.t 30), false)]⟩, []),
           (⟨none, .call 32 f_spec_ProductLattice [((.t 29), false), ((.t 31), false)]⟩, []),
           (⟨none, .asg 27 (.t 32)⟩, []),
           (⟨none, .ext 33 (.t 27) 0⟩, [32]),
           (⟨none, .ext 34 (.t 27) 1⟩, [33, 32]),
           (⟨none, .alc 6 (.agg [.nilsl 1])⟩, [28, 29, 30, 31, 32, 27, 33, 34, 32])]
          [⟨none, .st 1 (.t 6) (.t 33)⟩,
           ⟨none, .asg 7 (.t 34)⟩])
        (.drop [28, 29, 30, 31, 32, 27, 33, 34] (.seq (.reg [⟨none, .ld 35 1 true (.t 2)⟩,
            ⟨none, .call 36 f_laws_toPoset [((.t 35), false)]⟩,
            ⟨none, .alc 8 (.agg [.nilsl 1])⟩,
            ⟨none, .st 1 (.t 8) (.t 36)⟩])
         (.drop [35, 36] (.seq (.reg [⟨none, .ld 37 1 true (.t 3)⟩,
             ⟨none, .call 38 f_laws_toPoset [((.t 37), false)]⟩,
             ⟨none, .alc 9 (.agg [.nilsl 1])⟩,
             ⟨none, .st 1 (.t 9) (.t 38)⟩])
          (.drop [37, 38] (.seq (.reg [⟨none, .ld 40 1 true (.t 8)⟩,
              ⟨none, .ld 41 1 true (.t 9)⟩,
              ⟨none, .call 42 f_impl_ProductLattice [((.t 40), false), ((.t 41), false)]⟩,
              ⟨none, .asg 39 (.t 42)⟩,
              ⟨none, .ext 43 (.t 39) 0⟩,
              ⟨none, .ext 44 (.t 39) 1⟩,
              ⟨none, .alc 10 (.agg [.nilsl 1])⟩,
              ⟨none, .st 1 (.t 10) (.t 43)⟩,
              ⟨none, .asg 11 (.t 44)⟩])
           (.drop [40, 41, 42, 39, 43, 44] (.seq (.cut c_laws_FnExactProductLattice_k1)
            (.drop [45, 46, 47, 48, 49, 50, 51, 52, 53] (.seq (.seq (.dreg [(⟨none, .ld 54 1 true (.t 8)⟩, []),
                 (⟨none, .ld 55 1 true (.t 2)⟩, [54]),
                 (⟨none, .call 56 f_laws_toPoset [((.t 55), false)]⟩, [54])]
                [⟨none, .call 57 f_laws_eqPoset [((.t 54), false), ((.t 56), false)]⟩,
                 ⟨none, .un 58 .not (.t 57)⟩])
              (.drop [54, 55, 56, 57] (.cond (.t 58) (.seq (.reg [⟨none, .asg 4 (.c (.bool false))⟩])
                .ret)
               .skip)))
             (.drop [54, 55, 56, 57, 58] (.seq (.seq (.dreg [(⟨none, .ld 59 1 true (.t 9)⟩, []),
                  (⟨none, .ld 60 1 true (.t 3)⟩, [59]),
                  (⟨none, .call 61 f_laws_toPoset [((.t 60), false)]⟩, [59])]
                 [⟨none, .call 62 f_laws_eqPoset [((.t 59), false), ((.t 61), false)]⟩,
                  ⟨none, .un 63 .not (.t 62)⟩])
               (.drop [59, 60, 61, 62] (.cond (.t 63) (.seq (.reg [⟨none, .asg 4 (.c (.bool false))⟩])
                 .ret)
                .skip)))
              (.drop [59, 60, 61, 62, 63] (.seq (.reg [⟨none, .asg 12 (.c (.int .i64 1))⟩])
               (.seq (.reg [⟨none, .ld 64 1 true (.t 8)⟩,
                   ⟨none, .mov 65 (.t 12)⟩,
                   ⟨none, .call 66 f_laws_markPoset [((.t 64), true), ((.t 65), false)]⟩,
                   ⟨none, .asg 12 (.t 66)⟩])
                (.drop [64, 65, 66] (.seq (.reg [⟨none, .ld 67 1 true (.t 9)⟩,
                    ⟨none, .mov 68 (.t 12)⟩,
                    ⟨none, .call 69 f_laws_markPoset [((.t 67), true), ((.t 68), false)]⟩,
                    ⟨none, .asg 12 (.t 69)⟩])
                 (.drop [67, 68, 69] (.seq (.cut c_laws_FnExactProductLattice_k2)
                  (.drop [70, 71, 72, 73, 74, 75, 76, 77, 78, 79, 80, 81, 82] (.seq (.reg [⟨none, .asg 13 (.c (.int .i64 1))⟩])
                   (.seq (.reg [⟨none, .ld 83 1 true (.t 10)⟩,
                       ⟨none, .mov 84 (.t 13)⟩,
                       ⟨none, .call 85 f_laws_markPoset [((.t 83), true), ((.t 84), false)]⟩,
                       ⟨none, .asg 13 (.t 85)⟩])
                    (.drop [83, 84, 85] (.seq (.reg [⟨none, .asg 14 (.c (.int .i64 1))⟩])
                     (.seq (.reg [⟨none, .ld 86 1 true (.t 10)⟩,
                         ⟨none, .mov 87 (.t 14)⟩,
                         ⟨none, .call 88 f_laws_heldPoset [((.t 86), false), ((.t 87), false)]⟩,
                         ⟨none, .asg 14 (.t 88)⟩])
                      (.drop [86, 87, 88] (.seq (.seq (.reg [⟨none, .mov 89 (.t 14)⟩,
                           ⟨none, .bin 90 .lss (.t 89) (.c (.int .i64 0))⟩])
                        (.drop [89] (.cond (.t 90) (.seq (.reg [⟨none, .asg 4 (.c (.bool false))⟩])
                          .ret)
                         .skip)))
                       (.drop [89, 90] (.seq (.seq (.reg [⟨none, .mov 91 (.t 14)⟩,
                            ⟨none, .mov 92 (.t 13)⟩,
                            ⟨none, .bin 93 .neq (.t 91) (.t 92)⟩])
                         (.drop [91, 92] (.cond (.t 93) (.seq (.reg [⟨none, .asg 4 (.c (.bool false))⟩])
                           .ret)
                          .skip)))
                        (.drop [91, 92, 93] (.seq (.dreg [(⟨none, .ld 95 1 true (.t 2)⟩, []),
                            (⟨none, .call 96 f_laws_toPoset [((.t 95), false)]⟩, []),
                            (⟨none, .ld 97 1 true (.t 3)⟩, [95, 96]),
                            (⟨none, .call 98 f_laws_toPoset [((.t 97), false)]⟩, []),
                            (⟨none, .call 99 f_impl_ProductLattice [((.t 96), false), ((.t 98), false)]⟩, []),
                            (⟨none, .asg 94 (.t 99)⟩, []),
                            (⟨none, .ext 100 (.t 94) 0⟩, [99]),
                            (⟨none, .ext 101 (.t 94) 1⟩, [100, 99]),
                            (⟨none, .alc 15 (.agg [.nilsl 1])⟩, [95, 96, 97, 98, 99, 94, 100, 101, 99])]
                           [⟨none, .st 1 (.t 15) (.t 100)⟩,
                            ⟨none, .asg 16 (.t 101)⟩])
                         (.drop [95, 96, 97, 98, 99, 94, 100, 101] (.seq (.cut c_laws_FnExactProductLattice_k3)
                          (.drop [102, 103, 104, 105, 106, 107, 108, 109, 110] (.seq (.reg [⟨none, .asg 14 (.c (.int .i64 1))⟩])
                           (.seq (.reg [⟨none, .ld 111 1 true (.t 10)⟩,
                               ⟨none, .mov 112 (.t 14)⟩,
                               ⟨none, .call 113 f_laws_heldPoset [((.t 111), false), ((.t 112), false)]⟩,
                               ⟨none, .asg 14 (.t 113)⟩])
                            (.drop [111, 112, 113] (.seq (.seq (.reg [⟨none, .mov 114 (.t 14)⟩,
                                 ⟨none, .bin 115 .lss (.t 114) (.c (.int .i64 0))⟩])
                              (.drop [114] (.cond (.t 115) (.seq (.reg [⟨none, .asg 4 (.c (.bool false))⟩])
                                .ret)
                               .skip)))
                             (.drop [114, 115] (.seq (.seq (.reg [⟨none, .mov 116 (.t 14)⟩,
                                  ⟨none, .mov 117 (.t 13)⟩,
                                  ⟨none, .bin 118 .neq (.t 116) (.t 117)⟩])
                               (.drop [116, 117] (.cond (.t 118) (.seq (.reg [⟨none, .asg 4 (.c (.bool false))⟩])
                                 .ret)
                                .skip)))
                              (.drop [116, 117, 118] (.seq (.reg [⟨none, .asg 4 (.c (.bool true))⟩])
                               .ret)))))))))))))))))))))))))))))))))))))))))))))))))))))
abbrev r_laws_FnExactProductLattice : List RS := [.t 4]
theorem k_laws_FnExactProductLattice : fitsF Try.prog f_laws_FnExactProductLattice 119 c_laws_FnExactProductLattice r_laws_FnExactProductLattice = true := by kernel_rfl

/- loop.example/g01078/laws.FnExactStackLattice: [aP=0, aQ=1, aP=2, aQ=3, left=5, w0=6, w1=7, x0=8, x1=9, g0=10, g1=11, k=12, m=13, q=14, h0=15, h1=16] -/
def c_laws_FnExactStackLattice_k1 : ACode :=
  (.seq (.reg [⟨none, .ld 45 1 true (.t 10)⟩,
                ⟨none, .ld 46 1 true (.t 6)⟩,
                ⟨none, .call 47 f_laws_eqPoset [((.t 45), false), ((.t 46), false)]⟩,
                ⟨none, .un 48 .not (.t 47)⟩,
                ⟨none, .asg 49 (.t 48)⟩,
                ⟨some (49, false), .mov 50 (.t 11)⟩,
                ⟨some (49, false), .mov 51 (.t 7)⟩,
                ⟨some (49, false), .binb 52 .neq (.t 50) (.t 51)⟩,
                ⟨none, .pick 53 (.t 49) (.c (.bool true)) (.t 52)⟩])
             (.drop [45, 46, 47, 48, 49, 50, 51, 52] (.cond (.t 53) (.seq (.reg [⟨none, .asg 4 (.c (.bool false))⟩])
               .ret)
              .skip)))
def c_laws_FnExactStackLattice_k2 : ACode :=
  (.seq (.reg [⟨none, .mov 70 (.t 12)⟩,
                      ⟨none, .bin 71 .lss (.t 70) (.c (.int .i64 0))⟩,
                      ⟨none, .asg 72 (.t 71)⟩,
                      ⟨some (72, false), .ld 73 1 true (.t 10)⟩,
                      ⟨some (72, false), .ld 74 1 true (.t 6)⟩,
                      ⟨some (72, false), .call 75 f_laws_eqPoset [((.t 73), false), ((.t 74), false)]⟩,
                      ⟨some (72, false), .un 76 .not (.t 75)⟩,
                      ⟨none, .pick 77 (.t 72) (.c (.bool true)) (.t 76)⟩,
                      ⟨none, .asg 78 (.t 77)⟩,
                      ⟨some (78, false), .mov 79 (.t 11)⟩,
                      ⟨some (78, false), .mov 80 (.t 7)⟩,
                      ⟨some (78, false), .binb 81 .neq (.t 79) (.t 80)⟩,
                      ⟨none, .pick 82 (.t 78) (.c (.bool true)) (.t 81)⟩])
                   (.drop [70, 71, 72, 73, 74, 75, 76, 77, 78, 79, 80, 81] (.cond (.t 82) (.seq (.reg [⟨none, .asg 4 (.c (.bool false))⟩])
                     .ret)
                    .skip)))
def c_laws_FnExactStackLattice_k3 : ACode :=
  (.seq (.reg [⟨none, .ld 102 1 true (.t 15)⟩,
                              ⟨none, .ld 103 1 true (.t 6)⟩,
                              ⟨none, .call 104 f_laws_eqPoset [((.t 102), false), ((.t 103), false)]⟩,
                              ⟨none, .un 105 .not (.t 104)⟩,
                              ⟨none, .asg 106 (.t 105)⟩,
                              ⟨some (106, false), .mov 107 (.t 16)⟩,
                              ⟨some (106, false), .mov 108 (.t 7)⟩,
                              ⟨some (106, false), .binb 109 .neq (.t 107) (.t 108)⟩,
                              ⟨none, .pick 110 (.t 106) (.c (.bool true)) (.t 109)⟩])
                           (.drop [102, 103, 104, 105, 106, 107, 108, 109] (.cond (.t 110) (.seq (.reg [⟨none, .asg 4 (.c (.bool false))⟩])
                             .ret)
                            .skip)))
def c_laws_FnExactStackLattice : ACode :=
  (.seq (.reg [⟨none, .box 2 (.t 0)⟩,
     ⟨none, .box 3 (.t 1)⟩,
     ⟨none, .asg 4 (.c (.bool false))⟩])
  (.seq (.reg [⟨none, .asg 5 (.c (.int .i64 1048576))⟩])
   (.seq (.reg [⟨none, .ld 17 1 true (.t 2)⟩,
       ⟨none, .mov 18 (.t 5)⟩,
       ⟨none, .call 19 f_laws_szPoset [((.t 17), false), ((.t 18), false)]⟩,
       ⟨none, .asg 5 (.t 19)⟩])
    (.drop [17, 18, 19] (.seq (.seq (.reg [⟨none, .mov 20 (.t 5)⟩,
         ⟨none, .bin 21 .lss (.t 20) (.c (.int .i64 0))⟩])
      (.drop [20] (.cond (.t 21) (.seq (.reg [⟨none, .asg 4 (.c (.bool true))⟩])
        .ret)
       .skip)))
     (.drop [20, 21] (.seq (.reg [⟨none, .ld 22 1 true (.t 3)⟩,
         ⟨none, .mov 23 (.t 5)⟩,
         ⟨none, .call 24 f_laws_szPoset [((.t 22), false), ((.t 23), false)]⟩,
         ⟨none, .asg 5 (.t 24)⟩])
      (.drop [22, 23, 24] (.seq (.seq (.reg [⟨none, .mov 25 (.t 5)⟩,
           ⟨none, .bin 26 .lss (.t 25) (.c (.int .i64 0))⟩])
        (.drop [25] (.cond (.t 26) (.seq (.reg [⟨none, .asg 4 (.c (.bool true))⟩])
          .ret)
         .skip)))
       (.drop [25, 26] (.seq (.dreg [(⟨none, .ld 28 1 true (.t 2)⟩, []),
           (⟨none, .call 29 f_laws_toPoset [((.t 28), false)]⟩, []),
           (⟨none, .ld 30 1 true (.t 3)⟩, [28, 29]),
           (⟨none, .call 31 f_laws_toPoset [((.t 30), false)]⟩, []),
           (⟨none, .call 32 f_spec_StackLattice [((.t 29), false), ((.t 31), false)]⟩, []),
           (⟨none, .asg 27 (.t 32)⟩, []),
           (⟨none, .ext 33 (.t 27) 0⟩, [32]),
           (⟨none, .ext 34 (.t 27) 1⟩, [33, 32]),
           (⟨none, .alc 6 (.agg [.nilsl 1])⟩, [28, 29, 30, 31, 32, 27, 33, 34, 32])]
          [⟨none, .st 1 (.t 6) (.t 33)⟩,
           ⟨none, .asg 7 (.t 34)⟩])
        (.drop [28, 29, 30, 31, 32, 27, 33, 34] (.seq (.reg [⟨none, .ld 35 1 true (.t 2)⟩,
            ⟨none, .call 36 f_laws_toPoset [((.t 35), false)]⟩,
            ⟨none, .alc 8 (.agg [.nilsl 1])⟩,
            ⟨none, .st 1 (.t 8) (.t 36)⟩])
         (.drop [35, 36] (.seq (.reg [⟨none, .ld 37 1 true (.t 3)⟩,
             ⟨none, .call 38 f_laws_toPoset [((.t 37), false)]⟩,
             ⟨none, .alc 9 (.agg [.nilsl 1])⟩,
             ⟨none, .st 1 (.t 9) (.t 38)⟩])
          (.drop [37, 38] (.seq (.reg [⟨none, .ld 40 1 true (.t 8)⟩,
              ⟨none, .ld 41 1 true (.t 9)⟩,
              ⟨none, .call 42 f_impl_StackLattice [((.t 40), false), ((.t 41), false)]⟩,
              ⟨none, .asg 39 (.t 42)⟩,
              ⟨none, .ext 43 (.t 39) 0⟩,
              ⟨none, .ext 44 (.t 39) 1⟩,
              ⟨none, .alc 10 (.agg [.nilsl 1])⟩,
              ⟨none, .st 1 (.t 10) (.t 43)⟩,
              ⟨none, .asg 11 (.t 44)⟩])
           (.drop [40, 41, 42, 39, 43, 44] (.seq (.cut c_laws_FnExactStackLattice_k1)
            (.drop [45, 46, 47, 48, 49, 50, 51, 52, 53] (.seq (.seq (.dreg [(⟨none, .ld 54 1 true (.t 8)⟩, []),
                 (⟨none, .ld 55 1 true (.t 2)⟩, [54]),
                 (⟨none, .call 56 f_laws_toPoset [((.t 55), false)]⟩, [54])]
                [⟨none, .call 57 f_laws_eqPoset [((.t 54), false), ((.t 56), false)]⟩,
                 ⟨none, .un 58 .not (.t 57)⟩])
              (.drop [54, 55, 56, 57] (.cond (.t 58) (.seq (.reg [⟨none, .asg 4 (.c (.bool false))⟩])
                .ret)
               .skip)))
             (.drop [54, 55, 56, 57, 58] (.seq (.seq (.dreg [(⟨none, .ld 59 1 true (.t 9)⟩, []),
                  (⟨none, .ld 60 1 true (.t 3)⟩, [59]),
                  (⟨none, .call 61 f_laws_toPoset [((.t 60), false)]⟩, [59])]
                 [⟨none, .call 62 f_laws_eqPoset [((.t 59), false), ((.t 61), false)]⟩,
                  ⟨none, .un 63 .not (.t 62)⟩])
               (.drop [59, 60, 61, 62] (.cond (.t 63) (.seq (.reg [⟨none, .asg 4 (.c (.bool false))⟩])
                 .ret)
                .skip)))
              (.drop [59, 60, 61, 62, 63] (.seq (.reg [⟨none, .asg 12 (.c (.int .i64 1))⟩])
               (.seq (.reg [⟨none, .ld 64 1 true (.t 8)⟩,
                   ⟨none, .mov 65 (.t 12)⟩,
                   ⟨none, .call 66 f_laws_markPoset [((.t 64), true), ((.t 65), false)]⟩,
                   ⟨none, .asg 12 (.t 66)⟩])
                (.drop [64, 65, 66] (.seq (.reg [⟨none, .ld 67 1 true (.t 9)⟩,
                    ⟨none, .mov 68 (.t 12)⟩,
                    ⟨none, .call 69 f_laws_markPoset [((.t 67), true), ((.t 68), false)]⟩,
                    ⟨none, .asg 12 (.t 69)⟩])
                 (.drop [67, 68, 69] (.seq (.cut c_laws_FnExactStackLattice_k2)
                  (.drop [70, 71, 72, 73, 74, 75, 76, 77, 78, 79, 80, 81, 82] (.seq (.reg [⟨none, .asg 13 (.c (.int .i64 1))⟩])
                   (.seq (.reg [⟨none, .ld 83 1 true (.t 10)⟩,
                       ⟨none, .mov 84 (.t 13)⟩,
                       ⟨none, .call 85 f_laws_markPoset [((.t 83), true), ((.t 84), false)]⟩,
                       ⟨none, .asg 13 (.t 85)⟩])
                    (.drop [83, 84, 85] (.seq (.reg [⟨none, .asg 14 (.c (.int .i64 1))⟩])
                     (.seq (.reg [⟨none, .ld 86 1 true (.t 10)⟩,
                         ⟨none, .mov 87 (.t 14)⟩,
                         ⟨none, .call 88 f_laws_heldPoset [((.t 86), false), ((.t 87), false)]⟩,
                         ⟨none, .asg 14 (.t 88)⟩])
                      (.drop [86, 87, 88] (.seq (.seq (.reg [⟨none, .mov 89 (.t 14)⟩,
                           ⟨none, .bin 90 .lss (.t 89) (.c (.int .i64 0))⟩])
                        (.drop [89] (.cond (.t 90) (.seq (.reg [⟨none, .asg 4 (.c (.bool false))⟩])
                          .ret)
                         .skip)))
                       (.drop [89, 90] (.seq (.seq (.reg [⟨none, .mov 91 (.t 14)⟩,
                            ⟨none, .mov 92 (.t 13)⟩,
                            ⟨none, .bin 93 .neq (.t 91) (.t 92)⟩])
                         (.drop [91, 92] (.cond (.t 93) (.seq (.reg [⟨none, .asg 4 (.c (.bool false))⟩])
                           .ret)
                          .skip)))
                        (.drop [91, 92, 93] (.seq (.dreg [(⟨none, .ld 95 1 true (.t 2)⟩, []),
                            (⟨none, .call 96 f_laws_toPoset [((.t 95), false)]⟩, []),
                            (⟨none, .ld 97 1 true (.t 3)⟩, [95, 96]),
                            (⟨none, .call 98 f_laws_toPoset [((.t 97), false)]⟩, []),
                            (⟨none, .call 99 f_impl_StackLattice [((.t 96), false), ((.t 98), false)]⟩, []),
                            (⟨none, .asg 94 (.t 99)⟩, []),
                            (⟨none, .ext 100 (.t 94) 0⟩, [99]),
                            (⟨none, .ext 101 (.t 94) 1⟩, [100, 99]),
                            (⟨none, .alc 15 (.agg [.nilsl 1])⟩, [95, 96, 97, 98, 99, 94, 100, 101, 99])]
                           [⟨none, .st 1 (.t 15) (.t 100)⟩,
                            ⟨none, .asg 16 (.t 101)⟩])
                         (.drop [95, 96, 97, 98, 99, 94, 100, 101] (.seq (.cut c_laws_FnExactStackLattice_k3)
                          (.drop [102, 103, 104, 105, 106, 107, 108, 109, 110] (.seq (.reg [⟨none, .asg 14 (.c (.int .i64 1))⟩])
                           (.seq (.reg [⟨none, .ld 111 1 true (.t 10)⟩,
                               ⟨none, .mov 112 (.t 14)⟩,
                               ⟨none, .call 113 f_laws_heldPoset [((.t 111), false), ((.t 112), false)]⟩,
                               ⟨none, .asg 14 (.t 113)⟩])
                            (.drop [111, 112, 113] (.seq (.seq (.reg [⟨none, .mov 114 (.t 14)⟩,
                                 ⟨none, .bin 115 .lss (.t 114) (.c (.int .i64 0))⟩])
                              (.drop [114] (.cond (.t 115) (.seq (.reg [⟨none, .asg 4 (.c (.bool false))⟩])
                                .ret)
                               .skip)))
                             (.drop [114, 115] (.seq (.seq (.reg [⟨none, .mov 116 (.t 14)⟩,
                                  ⟨none, .mov 117 (.t 13)⟩,
                                  ⟨none, .bin 118 .neq (.t 116) (.t 117)⟩])
                               (.drop [116, 117] (.cond (.t 118) (.seq (.reg [⟨none, .asg 4 (.c (.bool false))⟩])
                                 .ret)
                                .skip)))
                              (.drop [116, 117, 118] (.seq (.reg [⟨none, .asg 4 (.c (.bool true))⟩])
                               .ret)))))))))))))))))))))))))))))))))))))))))))))))))))))
abbrev r_laws_FnExactStackLattice : List RS := [.t 4]
theorem k_laws_FnExactStackLattice : fitsF Try.prog f_laws_FnExactStackLattice 119 c_laws_FnExactStackLattice r_laws_FnExactStackLattice = true := by kernel_rfl

/- loop.example/g01078/laws.FnExactLatticeAlgebra: [aP=0, aP=1, left=3, w0=4, w1=5, x0=6, g0=7, g1=8, k=9, m=10, q=11, h0=12, h1=13] -/
def c_laws_FnExactLatticeAlgebra_k1 : ACode :=
  (.seq (.reg [⟨none, .ld 32 2 true (.t 7)⟩,
             ⟨none, .ld 33 2 true (.t 4)⟩,
             ⟨none, .call 34 f_laws_eqAlgebra [((.t 32), false), ((.t 33), false)]⟩,
             ⟨none, .un 35 .not (.t 34)⟩,
             ⟨none, .asg 36 (.t 35)⟩,
             ⟨some (36, false), .mov 37 (.t 8)⟩,
             ⟨some (36, false), .mov 38 (.t 5)⟩,
             ⟨some (36, false), .binb 39 .neq (.t 37) (.t 38)⟩,
             ⟨none, .pick 40 (.t 36) (.c (.bool true)) (.t 39)⟩])
          (.drop [32, 33, 34, 35, 36, 37, 38, 39] (.cond (.t 40) (.seq (.reg [⟨none, .asg 2 (.c (.bool false))⟩])
            .ret)
           .skip)))
def c_laws_FnExactLatticeAlgebra_k2 : ACode :=
  (.seq (.reg [⟨none, .mov 49 (.t 9)⟩,
                 ⟨none, .bin 50 .lss (.t 49) (.c (.int .i64 0))⟩,
                 ⟨none, .asg 51 (.t 50)⟩,
                 ⟨some (51, false), .ld 52 2 true (.t 7)⟩,
                 ⟨some (51, false), .ld 53 2 true (.t 4)⟩,
                 ⟨some (51, false), .call 54 f_laws_eqAlgebra [((.t 52), false), ((.t 53), false)]⟩,
                 ⟨some (51, false), .un 55 .not (.t 54)⟩,
                 ⟨none, .pick 56 (.t 51) (.c (.bool true)) (.t 55)⟩,
                 ⟨none, .asg 57 (.t 56)⟩,
                 ⟨some (57, false), .mov 58 (.t 8)⟩,
                 ⟨some (57, false), .mov 59 (.t 5)⟩,
                 ⟨some (57, false), .binb 60 .neq (.t 58) (.t 59)⟩,
                 ⟨none, .pick 61 (.t 57) (.c (.bool true)) (.t 60)⟩])
              (.drop [49, 50, 51, 52, 53, 54, 55, 56, 57, 58, 59, 60] (.cond (.t 61) (.seq (.reg [⟨none, .asg 2 (.c (.bool false))⟩])
                .ret)
               .skip)))
def c_laws_FnExactLatticeAlgebra_k3 : ACode :=
  (.seq (.reg [⟨none, .ld 79 2 true (.t 12)⟩,
                         ⟨none, .ld 80 2 true (.t 4)⟩,
                         ⟨none, .call 81 f_laws_eqAlgebra [((.t 79), false), ((.t 80), false)]⟩,
                         ⟨none, .un 82 .not (.t 81)⟩,
                         ⟨none, .asg 83 (.t 82)⟩,
                         ⟨some (83, false), .mov 84 (.t 13)⟩,
                         ⟨some (83, false), .mov 85 (.t 5)⟩,
                         ⟨some (83, false), .binb 86 .neq (.t 84) (.t 85)⟩,
                         ⟨none, .pick 87 (.t 83) (.c (.bool true)) (.t 86)⟩])
                      (.drop [79, 80, 81, 82, 83, 84, 85, 86] (.cond (.t 87) (.seq (.reg [⟨none, .asg 2 (.c (.bool false))⟩])
                        .ret)
                       .skip)))
def c_laws_FnExactLatticeAlgebra : ACode :=
  (.seq (.reg [⟨none, .box 1 (.t 0)⟩,
     ⟨none, .asg 2 (.c (.bool false))⟩])
  (.seq (.reg [⟨none, .asg 3 (.c (.int .i64 1048576))⟩])
   (.seq (.reg [⟨none, .ld 14 1 true (.t 1)⟩,
       ⟨none, .mov 15 (.t 3)⟩,
       ⟨none, .call 16 f_laws_szPoset [((.t 14), false), ((.t 15), false)]⟩,
       ⟨none, .asg 3 (.t 16)⟩])
    (.drop [14, 15, 16] (.seq (.seq (.reg [⟨none, .mov 17 (.t 3)⟩,
         ⟨none, .bin 18 .lss (.t 17) (.c (.int .i64 0))⟩])
      (.drop [17] (.cond (.t 18) (.seq (.reg [⟨none, .asg 2 (.c (.bool true))⟩])
        .ret)
       .skip)))
     (.drop [17, 18] (.seq (.reg [⟨none, .ld 20 1 true (.t 1)⟩,
         ⟨none, .call 21 f_laws_toPoset [((.t 20), false)]⟩,
         ⟨none, .call 22 f_spec_LatticeAlgebra [((.t 21), false)]⟩,
         ⟨none, .asg 19 (.t 22)⟩,
         ⟨none, .ext 23 (.t 19) 0⟩,
         ⟨none, .ext 24 (.t 19) 1⟩,
         ⟨none, .alc 4 (.agg [.int .i64 0, .nilsl 2])⟩,
         ⟨none, .st 2 (.t 4) (.t 23)⟩,
         ⟨none, .asg 5 (.t 24)⟩])
      (.drop [20, 21, 22, 19, 23, 24] (.seq (.reg [⟨none, .ld 25 1 true (.t 1)⟩,
          ⟨none, .call 26 f_laws_toPoset [((.t 25), false)]⟩,
          ⟨none, .alc 6 (.agg [.nilsl 1])⟩,
          ⟨none, .st 1 (.t 6) (.t 26)⟩])
       (.drop [25, 26] (.seq (.reg [⟨none, .ld 28 1 true (.t 6)⟩,
           ⟨none, .call 29 f_impl_LatticeAlgebra [((.t 28), false)]⟩,
           ⟨none, .asg 27 (.t 29)⟩,
           ⟨none, .ext 30 (.t 27) 0⟩,
           ⟨none, .ext 31 (.t 27) 1⟩,
           ⟨none, .alc 7 (.agg [.int .i64 0, .nilsl 2])⟩,
           ⟨none, .st 2 (.t 7) (.t 30)⟩,
           ⟨none, .asg 8 (.t 31)⟩])
        (.drop [28, 29, 27, 30, 31] (.seq (.cut c_laws_FnExactLatticeAlgebra_k1)
         (.drop [32, 33, 34, 35, 36, 37, 38, 39, 40] (.seq (.seq (.dreg [(⟨none, .ld 41 1 true (.t 6)⟩, []),
              (⟨none, .ld 42 1 true (.t 1)⟩, [41]),
              (⟨none, .call 43 f_laws_toPoset [((.t 42), false)]⟩, [41])]
             [⟨none, .call 44 f_laws_eqPoset [((.t 41), false), ((.t 43), false)]⟩,
              ⟨none, .un 45 .not (.t 44)⟩])
           (.drop [41, 42, 43, 44] (.cond (.t 45) (.seq (.reg [⟨none, .asg 2 (.c (.bool false))⟩])
             .ret)
            .skip)))
          (.drop [41, 42, 43, 44, 45] (.seq (.reg [⟨none, .asg 9 (.c (.int .i64 1))⟩])
           (.seq (.reg [⟨none, .ld 46 1 true (.t 6)⟩,
               ⟨none, .mov 47 (.t 9)⟩,
               ⟨none, .call 48 f_laws_markPoset [((.t 46), true), ((.t 47), false)]⟩,
               ⟨none, .asg 9 (.t 48)⟩])
            (.drop [46, 47, 48] (.seq (.cut c_laws_FnExactLatticeAlgebra_k2)
             (.drop [49, 50, 51, 52, 53, 54, 55, 56, 57, 58, 59, 60, 61] (.seq (.reg [⟨none, .asg 10 (.c (.int .i64 1))⟩])
              (.seq (.reg [⟨none, .ld 62 2 true (.t 7)⟩,
                  ⟨none, .mov 63 (.t 10)⟩,
                  ⟨none, .call 64 f_laws_markAlgebra [((.t 62), true), ((.t 63), false)]⟩,
                  ⟨none, .asg 10 (.t 64)⟩])
               (.drop [62, 63, 64] (.seq (.reg [⟨none, .asg 11 (.c (.int .i64 1))⟩])
                (.seq (.reg [⟨none, .ld 65 2 true (.t 7)⟩,
                    ⟨none, .mov 66 (.t 11)⟩,
                    ⟨none, .call 67 f_laws_heldAlgebra [((.t 65), false), ((.t 66), false)]⟩,
                    ⟨none, .asg 11 (.t 67)⟩])
                 (.drop [65, 66, 67] (.seq (.seq (.reg [⟨none, .mov 68 (.t 11)⟩,
                      ⟨none, .bin 69 .lss (.t 68) (.c (.int .i64 0))⟩])
                   (.drop [68] (.cond (.t 69) (.seq (.reg [⟨none, .asg 2 (.c (.bool false))⟩])
                     .ret)
                    .skip)))
                  (.drop [68, 69] (.seq (.seq (.reg [⟨none, .mov 70 (.t 11)⟩,
                       ⟨none, .mov 71 (.t 10)⟩,
                       ⟨none, .bin 72 .neq (.t 70) (.t 71)⟩])
                    (.drop [70, 71] (.cond (.t 72) (.seq (.reg [⟨none, .asg 2 (.c (.bool false))⟩])
                      .ret)
                     .skip)))
                   (.drop [70, 71, 72] (.seq (.reg [⟨none, .ld 74 1 true (.t 1)⟩,
                       ⟨none, .call 75 f_laws_toPoset [((.t 74), false)]⟩,
                       ⟨none, .call 76 f_impl_LatticeAlgebra [((.t 75), false)]⟩,
                       ⟨none, .asg 73 (.t 76)⟩,
                       ⟨none, .ext 77 (.t 73) 0⟩,
                       ⟨none, .ext 78 (.t 73) 1⟩,
                       ⟨none, .alc 12 (.agg [.int .i64 0, .nilsl 2])⟩,
                       ⟨none, .st 2 (.t 12) (.t 77)⟩,
                       ⟨none, .asg 13 (.t 78)⟩])
                    (.drop [74, 75, 76, 73, 77, 78] (.seq (.cut c_laws_FnExactLatticeAlgebra_k3)
                     (.drop [79, 80, 81, 82, 83, 84, 85, 86, 87] (.seq (.reg [⟨none, .asg 11 (.c (.int .i64 1))⟩])
                      (.seq (.reg [⟨none, .ld 88 2 true (.t 7)⟩,
                          ⟨none, .mov 89 (.t 11)⟩,
                          ⟨none, .call 90 f_laws_heldAlgebra [((.t 88), false), ((.t 89), false)]⟩,
                          ⟨none, .asg 11 (.t 90)⟩])
                       (.drop [88, 89, 90] (.seq (.seq (.reg [⟨none, .mov 91 (.t 11)⟩,
                            ⟨none, .bin 92 .lss (.t 91) (.c (.int .i64 0))⟩])
                         (.drop [91] (.cond (.t 92) (.seq (.reg [⟨none, .asg 2 (.c (.bool false))⟩])
                           .ret)
                          .skip)))
                        (.drop [91, 92] (.seq (.seq (.reg [⟨none, .mov 93 (.t 11)⟩,
                             ⟨none, .mov 94 (.t 10)⟩,
                             ⟨none, .bin 95 .neq (.t 93) (.t 94)⟩])
                          (.drop [93, 94] (.cond (.t 95) (.seq (.reg [⟨none, .asg 2 (.c (.bool false))⟩])
                            .ret)
                           .skip)))
                         (.drop [93, 94, 95] (.seq (.reg [⟨none, .asg 2 (.c (.bool true))⟩])
                          .ret)))))))))))))))))))))))))))))))))))))))))))
abbrev r_laws_FnExactLatticeAlgebra : List RS := [.t 2]
theorem k_laws_FnExactLatticeAlgebra : fitsF Try.prog f_laws_FnExactLatticeAlgebra 96 c_laws_FnExactLatticeAlgebra r_laws_FnExactLatticeAlgebra = true := by kernel_rfl

/- loop.example/g01078/spec.GenerateSublattice: [p=0, some=1, p=2, some=3] -/
def c_spec_GenerateSublattice : ACode :=
  (.seq (.reg [⟨none, .box 2 (.t 0)⟩,
     ⟨none, .asg 4 (.c (.nilsl 1))⟩,
     ⟨none, .asg 5 (.c (.bool false))⟩])
  (.seq (.seq (.reg [⟨none, .ld 6 1 true (.t 2)⟩,
       ⟨none, .mov 7 (.t 1)⟩,
       ⟨none, .call 8 f_spec_l24Some [((.t 6), false), ((.t 7), false)]⟩,
       ⟨none, .un 9 .not (.t 8)⟩,
       ⟨none, .asg 10 (.t 9)⟩,
       ⟨some (10, false), .mov 11 (.t 1)⟩,
       ⟨some (10, false), .len 12 (.t 11)⟩,
       ⟨some (10, false), .bin 13 .eql (.t 12) (.c (.int .i64 0))⟩,
       ⟨none, .pick 14 (.t 10) (.c (.bool true)) (.t 13)⟩])
    (.drop [6, 7, 8, 9, 10, 11, 12, 13] (.cond (.t 14) (.seq (.reg [⟨none, .bsl 15 1 []⟩,
         ⟨none, .asg 4 (.t 15)⟩,
         ⟨none, .asg 5 (.c (.bool false))⟩])
      (.drop [15] .ret))
     .skip)))
   (.drop [6, 7, 8, 9, 10, 11, 12, 13, 14, 15] (.seq (.reg [⟨none, .ld 16 1 true (.t 2)⟩,
       ⟨none, .mov 17 (.t 1)⟩,
       ⟨none, .call 18 f_spec_l24Close [((.t 16), false), ((.t 17), false)]⟩,
       ⟨none, .asg 4 (.t 18)⟩,
       ⟨none, .asg 5 (.c (.bool true))⟩])
    (.drop [16, 17, 18] .ret)))))
abbrev r_spec_GenerateSublattice : List RS := [.t 4, .t 5]
theorem k_spec_GenerateSublattice : fitsF Try.prog f_spec_GenerateSublattice 19 c_spec_GenerateSublattice r_spec_GenerateSublattice = true := by kernel_rfl

/- loop.example/g01078/laws.FnExactGenerateSublattice: [aP=0, aSome=1, aP=2, aSome=3, left=5, w0=6, w1=7, x0=8, x1=9, g0=10, g1=11, k=12, m=13, q=14, h0=15, h1=16] -/
def c_laws_FnExactGenerateSublattice_k1 : ACode :=
  (.seq (.reg [⟨none, .mov 43 (.t 10)⟩,
               ⟨none, .mov 44 (.t 6)⟩,
               ⟨none, .call 45 f_laws_eqIntS [((.t 43), false), ((.t 44), false)]⟩,
               ⟨none, .un 46 .not (.t 45)⟩,
               ⟨none, .asg 47 (.t 46)⟩,
               ⟨some (47, false), .mov 48 (.t 11)⟩,
               ⟨some (47, false), .mov 49 (.t 7)⟩,
               ⟨some (47, false), .binb 50 .neq (.t 48) (.t 49)⟩,
               ⟨none, .pick 51 (.t 47) (.c (.bool true)) (.t 50)⟩])
            (.drop [43, 44, 45, 46, 47, 48, 49, 50] (.cond (.t 51) (.seq (.reg [⟨none, .asg 4 (.c (.bool false))⟩])
              .ret)
             .skip)))
def c_laws_FnExactGenerateSublattice_k2 : ACode :=
  (.seq (.reg [⟨none, .mov 68 (.t 12)⟩,
                     ⟨none, .bin 69 .lss (.t 68) (.c (.int .i64 0))⟩,
                     ⟨none, .asg 70 (.t 69)⟩,
                     ⟨some (70, false), .mov 71 (.t 10)⟩,
                     ⟨some (70, false), .mov 72 (.t 6)⟩,
                     ⟨some (70, false), .call 73 f_laws_eqIntS [((.t 71), false), ((.t 72), false)]⟩,
                     ⟨some (70, false), .un 74 .not (.t 73)⟩,
                     ⟨none, .pick 75 (.t 70) (.c (.bool true)) (.t 74)⟩,
                     ⟨none, .asg 76 (.t 75)⟩,
                     ⟨some (76, false), .mov 77 (.t 11)⟩,
                     ⟨some (76, false), .mov 78 (.t 7)⟩,
                     ⟨some (76, false), .binb 79 .neq (.t 77) (.t 78)⟩,
                     ⟨none, .pick 80 (.t 76) (.c (.bool true)) (.t 79)⟩])
                  (.drop [68, 69, 70, 71, 72, 73, 74, 75, 76, 77, 78, 79] (.cond (.t 80) (.seq (.reg [⟨none, .asg 4 (.c (.bool false))⟩])
                    .ret)
                   .skip)))
def c_laws_FnExactGenerateSublattice_k3 : ACode :=
  (.seq (.reg [⟨none, .mov 100 (.t 15)⟩,
                             ⟨none, .mov 101 (.t 6)⟩,
                             ⟨none, .call 102 f_laws_eqIntS [((.t 100), false), ((.t 101), false)]⟩,
                             ⟨none, .un 103 .not (.t 102)⟩,
                             ⟨none, .asg 104 (.t 103)⟩,
                             ⟨some (104, false), .mov 105 (.t 16)⟩,
                             ⟨some (104, false), .mov 106 (.t 7)⟩,
                             ⟨some (104, false), .binb 107 .neq (.t 105) (.t 106)⟩,
                             ⟨none, .pick 108 (.t 104) (.c (.bool true)) (.t 107)⟩])
                          (.drop [100, 101, 102, 103, 104, 105, 106, 107] (.cond (.t 108) (.seq (.reg [⟨none, .asg 4 (.c (.bool false))⟩])
                            .ret)
                           .skip)))
def c_laws_FnExactGenerateSublattice : ACode :=
  (.seq (.reg [⟨none, .box 2 (.t 0)⟩,
     ⟨none, .asg 4 (.c (.bool false))⟩])
  (.seq (.seq (.reg [⟨none, .mov 17 (.t 1)⟩,
       ⟨none, .len 18 (.t 17)⟩,
       ⟨none, .bin 19 .gtr (.t 18) (.c (.int .i64 1048576))⟩])
    (.drop [17, 18] (.cond (.t 19) (.seq (.reg [⟨none, .asg 4 (.c (.bool true))⟩])
      .ret)
     .skip)))
   (.drop [17, 18, 19] (.seq (.reg [⟨none, .asg 5 (.c (.int .i64 1048576))⟩])
    (.seq (.reg [⟨none, .ld 20 1 true (.t 2)⟩,
        ⟨none, .mov 21 (.t 5)⟩,
        ⟨none, .call 22 f_laws_szPoset [((.t 20), false), ((.t 21), false)]⟩,
        ⟨none, .asg 5 (.t 22)⟩])
     (.drop [20, 21, 22] (.seq (.seq (.reg [⟨none, .mov 23 (.t 5)⟩,
          ⟨none, .bin 24 .lss (.t 23) (.c (.int .i64 0))⟩])
       (.drop [23] (.cond (.t 24) (.seq (.reg [⟨none, .asg 4 (.c (.bool true))⟩])
         .ret)
        .skip)))
      (.drop [23, 24] (.seq (.reg [⟨none, .ld 26 1 true (.t 2)⟩,
          ⟨none, .call 27 f_laws_toPoset [((.t 26), false)]⟩,
          ⟨none, .mov 28 (.t 1)⟩,
          ⟨none, .call 29 f_laws_toIntS [((.t 28), false)]⟩,
          ⟨none, .call 30 f_spec_GenerateSublattice [((.t 27), false), ((.t 29), false)]⟩,
          ⟨none, .asg 25 (.t 30)⟩,
          ⟨none, .ext 31 (.t 25) 0⟩,
          ⟨none, .ext 32 (.t 25) 1⟩,
          ⟨none, .asg 6 (.t 31)⟩,
          ⟨none, .asg 7 (.t 32)⟩])
       (.drop [26, 27, 28, 29, 30, 25, 31, 32] (.seq (.reg [⟨none, .ld 33 1 true (.t 2)⟩,
           ⟨none, .call 34 f_laws_toPoset [((.t 33), false)]⟩,
           ⟨none, .alc 8 (.agg [.nilsl 1])⟩,
           ⟨none, .st 1 (.t 8) (.t 34)⟩])
        (.drop [33, 34] (.seq (.reg [⟨none, .mov 35 (.t 1)⟩,
            ⟨none, .call 36 f_laws_toIntS [((.t 35), false)]⟩,
            ⟨none, .asg 9 (.t 36)⟩])
         (.drop [35, 36] (.seq (.reg [⟨none, .ld 38 1 true (.t 8)⟩,
             ⟨none, .mov 39 (.t 9)⟩,
             ⟨none, .call 40 f_impl_GenerateSublattice [((.t 38), false), ((.t 39), false)]⟩,
             ⟨none, .asg 37 (.t 40)⟩,
             ⟨none, .ext 41 (.t 37) 0⟩,
             ⟨none, .ext 42 (.t 37) 1⟩,
             ⟨none, .asg 10 (.t 41)⟩,
             ⟨none, .asg 11 (.t 42)⟩])
          (.drop [38, 39, 40, 37, 41, 42] (.seq (.cut c_laws_FnExactGenerateSublattice_k1)
           (.drop [43, 44, 45, 46, 47, 48, 49, 50, 51] (.seq (.seq (.dreg [(⟨none, .ld 52 1 true (.t 8)⟩, []),
                (⟨none, .ld 53 1 true (.t 2)⟩, [52]),
                (⟨none, .call 54 f_laws_toPoset [((.t 53), false)]⟩, [52])]
               [⟨none, .call 55 f_laws_eqPoset [((.t 52), false), ((.t 54), false)]⟩,
                ⟨none, .un 56 .not (.t 55)⟩])
             (.drop [52, 53, 54, 55] (.cond (.t 56) (.seq (.reg [⟨none, .asg 4 (.c (.bool false))⟩])
               .ret)
              .skip)))
            (.drop [52, 53, 54, 55, 56] (.seq (.seq (.reg [⟨none, .mov 57 (.t 9)⟩,
                 ⟨none, .mov 58 (.t 1)⟩,
                 ⟨none, .call 59 f_laws_toIntS [((.t 58), false)]⟩,
                 ⟨none, .call 60 f_laws_eqIntS [((.t 57), false), ((.t 59), false)]⟩,
                 ⟨none, .un 61 .not (.t 60)⟩])
              (.drop [57, 58, 59, 60] (.cond (.t 61) (.seq (.reg [⟨none, .asg 4 (.c (.bool false))⟩])
                .ret)
               .skip)))
             (.drop [57, 58, 59, 60, 61] (.seq (.reg [⟨none, .asg 12 (.c (.int .i64 1))⟩])
              (.seq (.reg [⟨none, .ld 62 1 true (.t 8)⟩,
                  ⟨none, .mov 63 (.t 12)⟩,
                  ⟨none, .call 64 f_laws_markPoset [((.t 62), true), ((.t 63), false)]⟩,
                  ⟨none, .asg 12 (.t 64)⟩])
               (.drop [62, 63, 64] (.seq (.reg [⟨none, .mov 65 (.t 9)⟩,
                   ⟨none, .mov 66 (.t 12)⟩,
                   ⟨none, .call 67 f_laws_markIntS [((.t 65), true), ((.t 66), false)]⟩,
                   ⟨none, .asg 12 (.t 67)⟩])
                (.drop [65, 66, 67] (.seq (.cut c_laws_FnExactGenerateSublattice_k2)
                 (.drop [68, 69, 70, 71, 72, 73, 74, 75, 76, 77, 78, 79, 80] (.seq (.reg [⟨none, .asg 13 (.c (.int .i64 1))⟩])
                  (.seq (.reg [⟨none, .mov 81 (.t 10)⟩,
                      ⟨none, .mov 82 (.t 13)⟩,
                      ⟨none, .call 83 f_laws_markIntS [((.t 81), true), ((.t 82), false)]⟩,
                      ⟨none, .asg 13 (.t 83)⟩])
                   (.drop [81, 82, 83] (.seq (.reg [⟨none, .asg 14 (.c (.int .i64 1))⟩])
                    (.seq (.reg [⟨none, .mov 84 (.t 10)⟩,
                        ⟨none, .mov 85 (.t 14)⟩,
                        ⟨none, .call 86 f_laws_heldIntS [((.t 84), false), ((.t 85), false)]⟩,
                        ⟨none, .asg 14 (.t 86)⟩])
                     (.drop [84, 85, 86] (.seq (.seq (.reg [⟨none, .mov 87 (.t 14)⟩,
                          ⟨none, .bin 88 .lss (.t 87) (.c (.int .i64 0))⟩])
                       (.drop [87] (.cond (.t 88) (.seq (.reg [⟨none, .asg 4 (.c (.bool false))⟩])
                         .ret)
                        .skip)))
                      (.drop [87, 88] (.seq (.seq (.reg [⟨none, .mov 89 (.t 14)⟩,
                           ⟨none, .mov 90 (.t 13)⟩,
                           ⟨none, .bin 91 .neq (.t 89) (.t 90)⟩])
                        (.drop [89, 90] (.cond (.t 91) (.seq (.reg [⟨none, .asg 4 (.c (.bool false))⟩])
                          .ret)
                         .skip)))
                       (.drop [89, 90, 91] (.seq (.reg [⟨none, .ld 93 1 true (.t 2)⟩,
                           ⟨none, .call 94 f_laws_toPoset [((.t 93), false)]⟩,
                           ⟨none, .mov 95 (.t 1)⟩,
                           ⟨none, .call 96 f_laws_toIntS [((.t 95), false)]⟩,
                           ⟨none, .call 97 f_impl_GenerateSublattice [((.t 94), false), ((.t 96), false)]⟩,
                           ⟨none, .asg 92 (.t 97)⟩,
                           ⟨none, .ext 98 (.t 92) 0⟩,
                           ⟨none, .ext 99 (.t 92) 1⟩,
                           ⟨none, .asg 15 (.t 98)⟩,
                           ⟨none, .asg 16 (.t 99)⟩])
                        (.drop [93, 94, 95, 96, 97, 92, 98, 99] (.seq (.cut c_laws_FnExactGenerateSublattice_k3)
                         (.drop [100, 101, 102, 103, 104, 105, 106, 107, 108] (.seq (.reg [⟨none, .asg 14 (.c (.int .i64 1))⟩])
                          (.seq (.reg [⟨none, .mov 109 (.t 10)⟩,
                              ⟨none, .mov 110 (.t 14)⟩,
                              ⟨none, .call 111 f_laws_heldIntS [((.t 109), false), ((.t 110), false)]⟩,
                              ⟨none, .asg 14 (.t 111)⟩])
                           (.drop [109, 110, 111] (.seq (.seq (.reg [⟨none, .mov 112 (.t 14)⟩,
                                ⟨none, .bin 113 .lss (.t 112) (.c (.int .i64 0))⟩])
                             (.drop [112] (.cond (.t 113) (.seq (.reg [⟨none, .asg 4 (.c (.bool false))⟩])
                               .ret)
                              .skip)))
                            (.drop [112, 113] (.seq (.seq (.reg [⟨none, .mov 114 (.t 14)⟩,
                                 ⟨none, .mov 115 (.t 13)⟩,
                                 ⟨none, .bin 116 .neq (.t 114) (.t 115)⟩])
                              (.drop [114, 115] (.cond (.t 116) (.seq (.reg [⟨none, .asg 4 (.c (.bool false))⟩])
                                .ret)
                               .skip)))
                             (.drop [114, 115, 116] (.seq (.reg [⟨none, .asg 4 (.c (.bool true))⟩])
                              .ret)))))))))))))))))))))))))))))))))))))))))))))))))))
abbrev r_laws_FnExactGenerateSublattice : List RS := [.t 4]
theorem k_laws_FnExactGenerateSublattice : fitsF Try.prog f_laws_FnExactGenerateSublattice 117 c_laws_FnExactGenerateSublattice r_laws_FnExactGenerateSublattice = true := by kernel_rfl

end Go.Proofs.Ytdodfnbbfkcgnaa.Ax
