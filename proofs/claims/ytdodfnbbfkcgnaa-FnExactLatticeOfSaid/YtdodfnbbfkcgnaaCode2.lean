/-
  The small code of the functions, written by program; that the program's code is this one, the kernel looks at.
-/
import Derived.Test.YtdodfnbbfkcgnaaAx3
import Derived.Test.YtdodfnbbfkcgnaaProg
import Derived.KernelRfl
import Derived.Test.YtdodfnbbfkcgnaaNum
namespace Go.Proofs.Ytdodfnbbfkcgnaa.Ax
open Go
set_option maxRecDepth 100000

/- loop.example/g01078/laws.eqAlgebra: [a=0, b=1, a=2, b=3] -/
def c_laws_eqAlgebra : ACode :=
  (.seq (.reg [⟨none, .box 2 (.t 0)⟩,
     ⟨none, .box 3 (.t 1)⟩,
     ⟨none, .asg 4 (.c (.bool false))⟩])
  (.seq (.seq (.reg [⟨none, .fadr 5 0 (.t 2)⟩,
       ⟨none, .ld 6 1 false (.t 5)⟩,
       ⟨none, .fadr 7 0 (.t 3)⟩,
       ⟨none, .ld 8 1 false (.t 7)⟩,
       ⟨none, .bin 9 .neq (.t 6) (.t 8)⟩])
    (.drop [5, 6, 7, 8] (.cond (.t 9) (.seq (.reg [⟨none, .asg 4 (.c (.bool false))⟩])
      .ret)
     .skip)))
   (.drop [5, 6, 7, 8, 9] (.seq (.seq (.reg [⟨none, .fadr 10 1 (.t 2)⟩,
        ⟨none, .ld 11 1 false (.t 10)⟩,
        ⟨none, .fadr 12 1 (.t 3)⟩,
        ⟨none, .ld 13 1 false (.t 12)⟩,
        ⟨none, .call 14 f_laws_eqOpS [((.t 11), false), ((.t 13), false)]⟩,
        ⟨none, .un 15 .not (.t 14)⟩])
     (.drop [10, 11, 12, 13, 14] (.cond (.t 15) (.seq (.reg [⟨none, .asg 4 (.c (.bool false))⟩])
       .ret)
      .skip)))
    (.drop [10, 11, 12, 13, 14, 15] (.seq (.reg [⟨none, .asg 4 (.c (.bool true))⟩])
     .ret))))))
abbrev r_laws_eqAlgebra : List RS := [.t 4]
theorem k_laws_eqAlgebra : fitsF Try.prog f_laws_eqAlgebra 16 c_laws_eqAlgebra r_laws_eqAlgebra = true := by kernel_rfl

/- loop.example/g01078/impl.LatticeOf: [a=0, a=1, p=4, l=5, ok=6] -/
def c_impl_LatticeOf_k1 : ACode :=
  (.seq (.reg [⟨none, .ld 7 2 true (.t 1)⟩,
       ⟨none, .call 8 f_impl_IsAlgebra [((.t 7), false)]⟩,
       ⟨none, .un 9 .not (.t 8)⟩,
       ⟨none, .asg 10 (.t 9)⟩,
       ⟨some (10, false), .ld 11 2 true (.t 1)⟩,
       ⟨some (10, false), .call 12 f_impl_typeOf [((.t 11), false)]⟩,
       ⟨some (10, false), .bsl 13 1 [(.c (.int .i64 2)), (.c (.int .i64 2))]⟩,
       ⟨some (10, false), .call 14 f_impl_sameList [((.t 12), false), ((.t 13), false)]⟩,
       ⟨some (10, false), .un 15 .not (.t 14)⟩,
       ⟨none, .pick 16 (.t 10) (.c (.bool true)) (.t 15)⟩])
    (.drop [7, 8, 9, 10, 11, 12, 13, 14, 15] (.cond (.t 16) (.seq (.reg [⟨none, .bld 17 [.nilsl 1] []⟩,
         ⟨none, .st 1 (.t 2) (.t 17)⟩,
         ⟨none, .asg 3 (.c (.bool false))⟩])
      (.drop [17] .ret))
     .skip)))
def c_impl_LatticeOf : ACode :=
  (.seq (.reg [⟨none, .box 1 (.t 0)⟩,
     ⟨none, .alc 2 (.agg [.nilsl 1])⟩,
     ⟨none, .asg 3 (.c (.bool false))⟩])
  (.seq (.cut c_impl_LatticeOf_k1)
   (.drop [7, 8, 9, 10, 11, 12, 13, 14, 15, 16, 17] (.seq (.dreg [(⟨none, .fadr 18 0 (.t 1)⟩, []),
       (⟨none, .ld 19 1 false (.t 18)⟩, []),
       (⟨none, .fadr 20 1 (.t 1)⟩, [18, 19]),
       (⟨none, .ld 21 1 false (.t 20)⟩, [18, 19]),
       (⟨none, .iad 22 2 (.t 21) (.c (.int .i64 0))⟩, [18, 19]),
       (⟨none, .fadr 23 1 (.t 22)⟩, [18, 19]),
       (⟨none, .ld 24 1 false (.t 23)⟩, [18, 19]),
       (⟨none, .call 25 f_impl_orderOfMeet [((.t 19), false), ((.t 24), false)]⟩, []),
       (⟨none, .call 26 f_impl_order_poset [((.t 25), false)]⟩, []),
       (⟨none, .alc 4 (.agg [.nilsl 1])⟩, [18, 19, 20, 21, 22, 23, 24, 25, 26])]
      [⟨none, .st 1 (.t 4) (.t 26)⟩])
    (.drop [18, 19, 20, 21, 22, 23, 24, 25, 26] (.seq (.reg [⟨none, .ld 28 1 true (.t 4)⟩,
        ⟨none, .call 29 f_impl_latticeOf [((.t 28), false)]⟩,
        ⟨none, .asg 27 (.t 29)⟩,
        ⟨none, .ext 30 (.t 27) 0⟩,
        ⟨none, .ext 31 (.t 27) 1⟩,
        ⟨none, .asg 5 (.t 30)⟩,
        ⟨none, .asg 6 (.t 31)⟩])
     (.drop [28, 29, 27, 30, 31] (.seq (.seq (.dreg [(⟨none, .mov 32 (.t 6)⟩, []),
          (⟨none, .un 33 .not (.t 32)⟩, []),
          (⟨none, .asg 34 (.t 33)⟩, []),
          (⟨some (34, false), .mov 35 (.t 5)⟩, [33]),
          (⟨some (34, false), .call 36 f_impl_lattice_algebra [((.t 35), false)]⟩, [33]),
          (⟨some (34, false), .ld 37 2 true (.t 1)⟩, [35, 36, 33])]
         [⟨some (34, false), .call 38 f_impl_sameAlgebra [((.t 36), false), ((.t 37), false)]⟩,
          ⟨some (34, false), .un 39 .not (.t 38)⟩,
          ⟨none, .pick 40 (.t 34) (.c (.bool true)) (.t 39)⟩])
       (.drop [32, 33, 34, 35, 36, 37, 38, 39] (.cond (.t 40) (.seq (.reg [⟨none, .bld 41 [.nilsl 1] []⟩,
            ⟨none, .st 1 (.t 2) (.t 41)⟩,
            ⟨none, .asg 3 (.c (.bool false))⟩])
         (.drop [41] .ret))
        .skip)))
      (.drop [32, 33, 34, 35, 36, 37, 38, 39, 40, 41] (.seq (.reg [⟨none, .ld 42 1 true (.t 4)⟩,
          ⟨none, .st 1 (.t 2) (.t 42)⟩,
          ⟨none, .asg 3 (.c (.bool true))⟩])
       (.drop [42] .ret)))))))))))
abbrev r_impl_LatticeOf : List RS := [.c 2 1 true, .t 3]
theorem k_impl_LatticeOf : fitsF Try.prog f_impl_LatticeOf 43 c_impl_LatticeOf r_impl_LatticeOf = true := by kernel_rfl

/- loop.example/g01078/spec.l24Good: [p=0, p=1, dual=3, x=4, y=5] -/
def c_spec_l24Good_k1 : ACode :=
  (.seq (.reg [⟨none, .ld 6 1 true (.t 1)⟩,
       ⟨none, .call 7 f_spec_l23Good [((.t 6), false)]⟩,
       ⟨none, .un 8 .not (.t 7)⟩,
       ⟨none, .asg 9 (.t 8)⟩,
       ⟨some (9, false), .fadr 10 0 (.t 1)⟩,
       ⟨some (9, false), .ld 11 1 false (.t 10)⟩,
       ⟨some (9, false), .len 12 (.t 11)⟩,
       ⟨some (9, false), .bin 13 .eql (.t 12) (.c (.int .i64 0))⟩,
       ⟨none, .pick 14 (.t 9) (.c (.bool true)) (.t 13)⟩])
    (.drop [6, 7, 8, 9, 10, 11, 12, 13] (.cond (.t 14) (.seq (.reg [⟨none, .asg 2 (.c (.bool false))⟩])
      .ret)
     .skip)))
def c_spec_l24Good_l1 : ACode :=
  (.seq (.seq (.reg [⟨none, .mov 24 (.t 5)⟩,
      ⟨none, .mov 25 (.t 4)⟩,
      ⟨none, .bin 26 .lss (.t 24) (.t 25)⟩])
   (.drop [24, 25] (.cond (.t 26) .skip
    (.exit 2))))
  (.drop [24, 25, 26] (.seq (.block 3 (.seq (.reg [⟨none, .ld 29 1 true (.t 1)⟩,
        ⟨none, .mov 30 (.t 4)⟩,
        ⟨none, .mov 31 (.t 5)⟩,
        ⟨none, .bsl 32 1 [(.t 30), (.t 31)]⟩,
        ⟨none, .call 33 f_spec_l24Bound [((.t 29), false), ((.t 32), false)]⟩,
        ⟨none, .bin 34 .lss (.t 33) (.c (.int .i64 0))⟩,
        ⟨none, .asg 35 (.t 34)⟩,
        ⟨some (35, false), .ld 36 1 true (.t 3)⟩,
        ⟨some (35, false), .mov 37 (.t 4)⟩,
        ⟨some (35, false), .mov 38 (.t 5)⟩,
        ⟨some (35, false), .bsl 39 1 [(.t 37), (.t 38)]⟩,
        ⟨some (35, false), .call 40 f_spec_l24Bound [((.t 36), false), ((.t 39), false)]⟩,
        ⟨some (35, false), .bin 41 .lss (.t 40) (.c (.int .i64 0))⟩,
        ⟨none, .pick 42 (.t 35) (.c (.bool true)) (.t 41)⟩])
     (.drop [29, 30, 31, 32, 33, 34, 35, 36, 37, 38, 39, 40, 41] (.cond (.t 42) (.seq (.reg [⟨none, .asg 2 (.c (.bool false))⟩])
       .ret)
      .skip))))
   (.drop [29, 30, 31, 32, 33, 34, 35, 36, 37, 38, 39, 40, 41, 42] (.reg [⟨none, .mov 27 (.t 5)⟩,
      ⟨none, .bin 28 .add (.t 27) (.c (.int .i64 1))⟩,
      ⟨none, .asg 5 (.t 28)⟩])))))
def c_spec_l24Good_l2 : ACode :=
  (.seq (.seq (.reg [⟨none, .mov 17 (.t 4)⟩,
      ⟨none, .fadr 18 0 (.t 1)⟩,
      ⟨none, .ld 19 1 false (.t 18)⟩,
      ⟨none, .len 20 (.t 19)⟩,
      ⟨none, .bin 21 .lss (.t 17) (.t 20)⟩])
   (.drop [17, 18, 19, 20] (.cond (.t 21) .skip
    (.exit 0))))
  (.drop [17, 18, 19, 20, 21] (.seq (.block 1 (.seq (.reg [⟨none, .asg 5 (.c (.int .i64 0))⟩])
     (.block 2 (.loop c_spec_l24Good_l1))))
   (.drop [5, 24, 25, 26, 29, 30, 31, 32, 33, 34, 35, 36, 37, 38, 39, 40, 41, 42, 27, 28] (.reg [⟨none, .mov 22 (.t 4)⟩,
      ⟨none, .bin 23 .add (.t 22) (.c (.int .i64 1))⟩,
      ⟨none, .asg 4 (.t 23)⟩])))))
def c_spec_l24Good : ACode :=
  (.seq (.reg [⟨none, .box 1 (.t 0)⟩,
     ⟨none, .asg 2 (.c (.bool false))⟩])
  (.seq (.cut c_spec_l24Good_k1)
   (.drop [6, 7, 8, 9, 10, 11, 12, 13, 14] (.seq (.reg [⟨none, .ld 15 1 true (.t 1)⟩,
       ⟨none, .call 16 f_spec_l23Dual [((.t 15), false)]⟩,
       ⟨none, .alc 3 (.agg [.nilsl 1])⟩,
       ⟨none, .st 1 (.t 3) (.t 16)⟩])
    (.drop [15, 16] (.seq (.seq (.reg [⟨none, .asg 4 (.c (.int .i64 0))⟩])
      (.block 0 (.loop c_spec_l24Good_l2)))
     (.drop [4, 17, 18, 19, 20, 21, 5, 24, 25, 26, 29, 30, 31, 32, 33, 34, 35, 36, 37, 38, 39, 40, 41, 42, 27, 28, 22, 23] (.seq (.reg [⟨none, .asg 2 (.c (.bool true))⟩])
      .ret))))))))
abbrev r_spec_l24Good : List RS := [.t 2]
theorem k_spec_l24Good : fitsF Try.prog f_spec_l24Good 43 c_spec_l24Good r_spec_l24Good = true := by kernel_rfl

/- loop.example/g01078/spec.l24Algebra: [p=0, p=1, n=3, dual=4, meet=5, join=6, x=7, y=8] -/
def c_spec_l24Algebra_l1 : ACode :=
  (.seq (.seq (.reg [⟨none, .mov 21 (.t 8)⟩,
      ⟨none, .mov 22 (.t 3)⟩,
      ⟨none, .bin 23 .lss (.t 21) (.t 22)⟩])
   (.drop [21, 22] (.cond (.t 23) .skip
    (.exit 2))))
  (.drop [21, 22, 23] (.seq (.block 3 (.seq (.dreg [(⟨none, .fadr 26 1 (.t 5)⟩, [29, 30, 32]),
        (⟨none, .ld 27 1 false (.t 26)⟩, [29, 30, 32]),
        (⟨none, .ld 28 1 true (.t 1)⟩, [26, 27, 29, 30]),
        (⟨none, .mov 29 (.t 7)⟩, [26, 27, 28]),
        (⟨none, .mov 30 (.t 8)⟩, [26, 27, 28, 29]),
        (⟨none, .bsl 31 1 [(.t 29), (.t 30)]⟩, [26, 27, 28]),
        (⟨none, .call 32 f_spec_l24Bound [((.t 28), false), ((.t 31), false)]⟩, [26, 27, 29, 30]),
        (⟨none, .bsl 33 1 [(.t 32)]⟩, [26, 27, 29, 30])]
       [⟨none, .app 34 1 (.t 27) (.t 33)⟩,
        ⟨none, .fadr 35 1 (.t 5)⟩,
        ⟨none, .st 1 (.t 35) (.t 34)⟩])
     (.drop [26, 27, 28, 29, 30, 31, 32, 33, 34, 35] (.dreg [(⟨none, .fadr 36 1 (.t 6)⟩, [39, 40, 42]),
        (⟨none, .ld 37 1 false (.t 36)⟩, [39, 40, 42]),
        (⟨none, .ld 38 1 true (.t 4)⟩, [36, 37, 39, 40]),
        (⟨none, .mov 39 (.t 7)⟩, [36, 37, 38]),
        (⟨none, .mov 40 (.t 8)⟩, [36, 37, 38, 39]),
        (⟨none, .bsl 41 1 [(.t 39), (.t 40)]⟩, [36, 37, 38]),
        (⟨none, .call 42 f_spec_l24Bound [((.t 38), false), ((.t 41), false)]⟩, [36, 37, 39, 40]),
        (⟨none, .bsl 43 1 [(.t 42)]⟩, [36, 37, 39, 40])]
       [⟨none, .app 44 1 (.t 37) (.t 43)⟩,
        ⟨none, .fadr 45 1 (.t 6)⟩,
        ⟨none, .st 1 (.t 45) (.t 44)⟩]))))
   (.drop [26, 27, 28, 29, 30, 31, 32, 33, 34, 35, 36, 37, 38, 39, 40, 41, 42, 43, 44, 45] (.reg [⟨none, .mov 24 (.t 8)⟩,
      ⟨none, .bin 25 .add (.t 24) (.c (.int .i64 1))⟩,
      ⟨none, .asg 8 (.t 25)⟩])))))
def c_spec_l24Algebra_l2 : ACode :=
  (.seq (.seq (.reg [⟨none, .mov 16 (.t 7)⟩,
      ⟨none, .mov 17 (.t 3)⟩,
      ⟨none, .bin 18 .lss (.t 16) (.t 17)⟩])
   (.drop [16, 17] (.cond (.t 18) .skip
    (.exit 0))))
  (.drop [16, 17, 18] (.seq (.block 1 (.seq (.reg [⟨none, .asg 8 (.c (.int .i64 0))⟩])
     (.block 2 (.loop c_spec_l24Algebra_l1))))
   (.drop [8, 21, 22, 23, 26, 27, 28, 29, 30, 31, 32, 33, 34, 35, 36, 37, 38, 39, 40, 41, 42, 43, 44, 45, 24, 25] (.reg [⟨none, .mov 19 (.t 7)⟩,
      ⟨none, .bin 20 .add (.t 19) (.c (.int .i64 1))⟩,
      ⟨none, .asg 7 (.t 20)⟩])))))
def c_spec_l24Algebra : ACode :=
  (.seq (.reg [⟨none, .box 1 (.t 0)⟩,
     ⟨none, .alc 2 (.agg [.int .i64 0, .nilsl 2])⟩])
  (.seq (.reg [⟨none, .fadr 9 0 (.t 1)⟩,
      ⟨none, .ld 10 1 false (.t 9)⟩,
      ⟨none, .len 11 (.t 10)⟩,
      ⟨none, .asg 3 (.t 11)⟩])
   (.drop [9, 10, 11] (.seq (.reg [⟨none, .ld 12 1 true (.t 1)⟩,
       ⟨none, .call 13 f_spec_l23Dual [((.t 12), false)]⟩,
       ⟨none, .alc 4 (.agg [.nilsl 1])⟩,
       ⟨none, .st 1 (.t 4) (.t 13)⟩])
    (.drop [12, 13] (.seq (.reg [⟨none, .bld 14 [.int .i64 0, .nilsl 1] [(0, 1, (.c (.int .i64 2)))]⟩,
        ⟨none, .bld 15 [.int .i64 0, .nilsl 1] [(0, 1, (.c (.int .i64 2)))]⟩,
        ⟨none, .alc 5 (.agg [.int .i64 0, .nilsl 1])⟩,
        ⟨none, .alc 6 (.agg [.int .i64 0, .nilsl 1])⟩,
        ⟨none, .st 2 (.t 5) (.t 14)⟩,
        ⟨none, .st 2 (.t 6) (.t 15)⟩])
     (.drop [14, 15] (.seq (.seq (.reg [⟨none, .asg 7 (.c (.int .i64 0))⟩])
       (.block 0 (.loop c_spec_l24Algebra_l2)))
      (.drop [7, 16, 17, 18, 8, 21, 22, 23, 26, 27, 28, 29, 30, 31, 32, 33, 34, 35, 36, 37, 38, 39, 40, 41, 42, 43, 44, 45, 24, 25, 19, 20] (.seq (.reg [⟨none, .mov 46 (.t 3)⟩,
          ⟨none, .ld 47 2 true (.t 5)⟩,
          ⟨none, .ld 48 2 true (.t 6)⟩,
          ⟨none, .bsl 49 2 [(.t 47), (.t 48)]⟩,
          ⟨none, .bld 50 [.int .i64 0, .nilsl 2] [(0, 1, (.t 46)), (1, 1, (.t 49))]⟩,
          ⟨none, .st 2 (.t 2) (.t 50)⟩])
       (.drop [46, 47, 48, 49, 50] .ret)))))))))))
abbrev r_spec_l24Algebra : List RS := [.c 2 2 true]
theorem k_spec_l24Algebra : fitsF Try.prog f_spec_l24Algebra 51 c_spec_l24Algebra r_spec_l24Algebra = true := by kernel_rfl

/- loop.example/g01078/spec.LatticeOf: [a=0, a=1, p=4, y=5, below=6, x=7, b=8] -/
def c_spec_LatticeOf_k1 : ACode :=
  (.seq (.reg [⟨none, .ld 9 2 true (.t 1)⟩,
       ⟨none, .call 10 f_spec_l2Good [((.t 9), false)]⟩,
       ⟨none, .un 11 .not (.t 10)⟩,
       ⟨none, .asg 12 (.t 11)⟩,
       ⟨some (12, false), .ld 13 2 true (.t 1)⟩,
       ⟨some (12, false), .call 14 f_spec_l2Type [((.t 13), false)]⟩,
       ⟨some (12, false), .bsl 15 1 [(.c (.int .i64 2)), (.c (.int .i64 2))]⟩,
       ⟨some (12, false), .call 16 f_spec_l1Same [((.t 14), false), ((.t 15), false)]⟩,
       ⟨some (12, false), .un 17 .not (.t 16)⟩,
       ⟨none, .pick 18 (.t 12) (.c (.bool true)) (.t 17)⟩])
    (.drop [9, 10, 11, 12, 13, 14, 15, 16, 17] (.cond (.t 18) (.seq (.reg [⟨none, .bld 19 [.nilsl 1] []⟩,
         ⟨none, .st 1 (.t 2) (.t 19)⟩,
         ⟨none, .asg 3 (.c (.bool false))⟩])
      (.drop [19] .ret))
     .skip)))
def c_spec_LatticeOf_l1 : ACode :=
  (.seq (.seq (.reg [⟨none, .mov 29 (.t 7)⟩,
      ⟨none, .fadr 30 0 (.t 1)⟩,
      ⟨none, .ld 31 1 false (.t 30)⟩,
      ⟨none, .bin 32 .lss (.t 29) (.t 31)⟩])
   (.drop [29, 30, 31] (.cond (.t 32) .skip
    (.exit 2))))
  (.drop [29, 30, 31, 32] (.seq (.block 3 (.seq (.reg [⟨none, .ld 35 2 true (.t 1)⟩,
        ⟨none, .mov 36 (.t 7)⟩,
        ⟨none, .mov 37 (.t 5)⟩,
        ⟨none, .bsl 38 1 [(.t 36), (.t 37)]⟩,
        ⟨none, .call 39 f_spec_l2Value [((.t 35), false), ((.c (.int .i64 0)), false), ((.t 38), false)]⟩,
        ⟨none, .mov 40 (.t 7)⟩,
        ⟨none, .bin 41 .eql (.t 39) (.t 40)⟩])
     (.drop [35, 36, 37, 38, 39, 40] (.cond (.t 41) (.reg [⟨none, .mov 42 (.t 6)⟩,
         ⟨none, .mov 43 (.t 7)⟩,
         ⟨none, .bsl 44 1 [(.t 43)]⟩,
         ⟨none, .app 45 1 (.t 42) (.t 44)⟩,
         ⟨none, .asg 6 (.t 45)⟩])
      .skip))))
   (.drop [35, 36, 37, 38, 39, 40, 41, 42, 43, 44, 45] (.reg [⟨none, .mov 33 (.t 7)⟩,
      ⟨none, .bin 34 .add (.t 33) (.c (.int .i64 1))⟩,
      ⟨none, .asg 7 (.t 34)⟩])))))
def c_spec_LatticeOf_l2 : ACode :=
  (.seq (.seq (.reg [⟨none, .mov 22 (.t 5)⟩,
      ⟨none, .fadr 23 0 (.t 1)⟩,
      ⟨none, .ld 24 1 false (.t 23)⟩,
      ⟨none, .bin 25 .lss (.t 22) (.t 24)⟩])
   (.drop [22, 23, 24] (.cond (.t 25) .skip
    (.exit 0))))
  (.drop [22, 23, 24, 25] (.seq (.block 1 (.seq (.reg [⟨none, .bsl 28 1 []⟩,
        ⟨none, .asg 6 (.t 28)⟩])
     (.drop [28] (.seq (.seq (.reg [⟨none, .asg 7 (.c (.int .i64 0))⟩])
       (.block 2 (.loop c_spec_LatticeOf_l1)))
      (.drop [7, 29, 30, 31, 32, 35, 36, 37, 38, 39, 40, 41, 42, 43, 44, 45, 33, 34] (.reg [⟨none, .fadr 46 0 (.t 4)⟩,
         ⟨none, .ld 47 1 false (.t 46)⟩,
         ⟨none, .mov 48 (.t 6)⟩,
         ⟨none, .bsl 49 1 [(.t 48)]⟩,
         ⟨none, .app 50 1 (.t 47) (.t 49)⟩,
         ⟨none, .fadr 51 0 (.t 4)⟩,
         ⟨none, .st 1 (.t 51) (.t 50)⟩]))))))
   (.drop [28, 6, 7, 29, 30, 31, 32, 35, 36, 37, 38, 39, 40, 41, 42, 43, 44, 45, 33, 34, 46, 47, 48, 49, 50, 51] (.reg [⟨none, .mov 26 (.t 5)⟩,
      ⟨none, .bin 27 .add (.t 26) (.c (.int .i64 1))⟩,
      ⟨none, .asg 5 (.t 27)⟩])))))
def c_spec_LatticeOf : ACode :=
  (.seq (.reg [⟨none, .box 1 (.t 0)⟩,
     ⟨none, .alc 2 (.agg [.nilsl 1])⟩,
     ⟨none, .asg 3 (.c (.bool false))⟩])
  (.seq (.cut c_spec_LatticeOf_k1)
   (.drop [9, 10, 11, 12, 13, 14, 15, 16, 17, 18, 19] (.seq (.reg [⟨none, .bsl 20 1 []⟩,
       ⟨none, .bld 21 [.nilsl 1] [(0, 1, (.t 20))]⟩,
       ⟨none, .alc 4 (.agg [.nilsl 1])⟩,
       ⟨none, .st 1 (.t 4) (.t 21)⟩])
    (.drop [20, 21] (.seq (.seq (.reg [⟨none, .asg 5 (.c (.int .i64 0))⟩])
      (.block 0 (.loop c_spec_LatticeOf_l2)))
     (.drop [5, 22, 23, 24, 25, 28, 6, 7, 29, 30, 31, 32, 35, 36, 37, 38, 39, 40, 41, 42, 43, 44, 45, 33, 34, 46, 47, 48, 49, 50, 51, 26, 27] (.seq (.seq (.reg [⟨none, .ld 52 1 true (.t 4)⟩,
          ⟨none, .call 53 f_spec_l24Good [((.t 52), false)]⟩,
          ⟨none, .un 54 .not (.t 53)⟩])
       (.drop [52, 53] (.cond (.t 54) (.seq (.reg [⟨none, .bld 55 [.nilsl 1] []⟩,
            ⟨none, .st 1 (.t 2) (.t 55)⟩,
            ⟨none, .asg 3 (.c (.bool false))⟩])
         (.drop [55] .ret))
        .skip)))
      (.drop [52, 53, 54, 55] (.seq (.reg [⟨none, .ld 56 1 true (.t 4)⟩,
          ⟨none, .call 57 f_spec_l24Algebra [((.t 56), false)]⟩,
          ⟨none, .alc 8 (.agg [.int .i64 0, .nilsl 2])⟩,
          ⟨none, .st 2 (.t 8) (.t 57)⟩])
       (.drop [56, 57] (.seq (.seq (.dreg [(⟨none, .fadr 58 1 (.t 1)⟩, []),
            (⟨none, .ld 59 1 false (.t 58)⟩, []),
            (⟨none, .iad 60 2 (.t 59) (.c (.int .i64 0))⟩, []),
            (⟨none, .fadr 61 1 (.t 60)⟩, []),
            (⟨none, .ld 62 1 false (.t 61)⟩, []),
            (⟨none, .fadr 63 1 (.t 8)⟩, [58, 59, 60, 61, 62]),
            (⟨none, .ld 64 1 false (.t 63)⟩, [58, 59, 60, 61, 62]),
            (⟨none, .iad 65 2 (.t 64) (.c (.int .i64 0))⟩, [58, 59, 60, 61, 62]),
            (⟨none, .fadr 66 1 (.t 65)⟩, [58, 59, 60, 61, 62]),
            (⟨none, .ld 67 1 false (.t 66)⟩, [58, 59, 60, 61, 62]),
            (⟨none, .call 68 f_spec_l1Same [((.t 62), false), ((.t 67), false)]⟩, []),
            (⟨none, .un 69 .not (.t 68)⟩, []),
            (⟨none, .asg 70 (.t 69)⟩, []),
            (⟨some (70, false), .fadr 71 1 (.t 1)⟩, [69]),
            (⟨some (70, false), .ld 72 1 false (.t 71)⟩, [69]),
            (⟨some (70, false), .iad 73 2 (.t 72) (.c (.int .i64 1))⟩, [69]),
            (⟨some (70, false), .fadr 74 1 (.t 73)⟩, [69]),
            (⟨some (70, false), .ld 75 1 false (.t 74)⟩, [69]),
            (⟨some (70, false), .fadr 76 1 (.t 8)⟩, [71, 72, 73, 74, 75, 69]),
            (⟨some (70, false), .ld 77 1 false (.t 76)⟩, [71, 72, 73, 74, 75, 69]),
            (⟨some (70, false), .iad 78 2 (.t 77) (.c (.int .i64 1))⟩, [71, 72, 73, 74, 75, 69]),
            (⟨some (70, false), .fadr 79 1 (.t 78)⟩, [71, 72, 73, 74, 75, 69]),
            (⟨some (70, false), .ld 80 1 false (.t 79)⟩, [71, 72, 73, 74, 75, 69])]
           [⟨some (70, false), .call 81 f_spec_l1Same [((.t 75), false), ((.t 80), false)]⟩,
            ⟨some (70, false), .un 82 .not (.t 81)⟩,
            ⟨none, .pick 83 (.t 70) (.c (.bool true)) (.t 82)⟩])
         (.drop [58, 59, 60, 61, 62, 63, 64, 65, 66, 67, 68, 69, 70, 71, 72, 73, 74, 75, 76, 77, 78, 79, 80, 81, 82] (.cond (.t 83) (.seq (.reg [⟨none, .bld 84 [.nilsl 1] []⟩,
              ⟨none, .st 1 (.t 2) (.t 84)⟩,
              ⟨none, .asg 3 (.c (.bool false))⟩])
           (.drop [84] .ret))
          .skip)))
        (.drop [58, 59, 60, 61, 62, 63, 64, 65, 66, 67, 68, 69, 70, 71, 72, 73, 74, 75, 76, 77, 78, 79, 80, 81, 82, 83, 84] (.seq (.reg [⟨none, .ld 85 1 true (.t 4)⟩,
            ⟨none, .st 1 (.t 2) (.t 85)⟩,
            ⟨none, .asg 3 (.c (.bool true))⟩])
         (.drop [85] .ret)))))))))))))))
abbrev r_spec_LatticeOf : List RS := [.c 2 1 true, .t 3]
theorem k_spec_LatticeOf : fitsF Try.prog f_spec_LatticeOf 86 c_spec_LatticeOf r_spec_LatticeOf = true := by kernel_rfl

/- loop.example/g01078/laws.FnExactLatticeOf: [aA=0, aA=1, left=3, w0=4, w1=5, x0=6, g0=7, g1=8, k=9, m=10, q=11, h0=12, h1=13] -/
def c_laws_FnExactLatticeOf_k1 : ACode :=
  (.seq (.reg [⟨none, .ld 32 1 true (.t 7)⟩,
             ⟨none, .ld 33 1 true (.t 4)⟩,
             ⟨none, .call 34 f_laws_eqPoset [((.t 32), false), ((.t 33), false)]⟩,
             ⟨none, .un 35 .not (.t 34)⟩,
             ⟨none, .asg 36 (.t 35)⟩,
             ⟨some (36, false), .mov 37 (.t 8)⟩,
             ⟨some (36, false), .mov 38 (.t 5)⟩,
             ⟨some (36, false), .binb 39 .neq (.t 37) (.t 38)⟩,
             ⟨none, .pick 40 (.t 36) (.c (.bool true)) (.t 39)⟩])
          (.drop [32, 33, 34, 35, 36, 37, 38, 39] (.cond (.t 40) (.seq (.reg [⟨none, .asg 2 (.c (.bool false))⟩])
            .ret)
           .skip)))
def c_laws_FnExactLatticeOf_k2 : ACode :=
  (.seq (.reg [⟨none, .mov 49 (.t 9)⟩,
                 ⟨none, .bin 50 .lss (.t 49) (.c (.int .i64 0))⟩,
                 ⟨none, .asg 51 (.t 50)⟩,
                 ⟨some (51, false), .ld 52 1 true (.t 7)⟩,
                 ⟨some (51, false), .ld 53 1 true (.t 4)⟩,
                 ⟨some (51, false), .call 54 f_laws_eqPoset [((.t 52), false), ((.t 53), false)]⟩,
                 ⟨some (51, false), .un 55 .not (.t 54)⟩,
                 ⟨none, .pick 56 (.t 51) (.c (.bool true)) (.t 55)⟩,
                 ⟨none, .asg 57 (.t 56)⟩,
                 ⟨some (57, false), .mov 58 (.t 8)⟩,
                 ⟨some (57, false), .mov 59 (.t 5)⟩,
                 ⟨some (57, false), .binb 60 .neq (.t 58) (.t 59)⟩,
                 ⟨none, .pick 61 (.t 57) (.c (.bool true)) (.t 60)⟩])
              (.drop [49, 50, 51, 52, 53, 54, 55, 56, 57, 58, 59, 60] (.cond (.t 61) (.seq (.reg [⟨none, .asg 2 (.c (.bool false))⟩])
                .ret)
               .skip)))
def c_laws_FnExactLatticeOf_k3 : ACode :=
  (.seq (.reg [⟨none, .ld 79 1 true (.t 12)⟩,
                         ⟨none, .ld 80 1 true (.t 4)⟩,
                         ⟨none, .call 81 f_laws_eqPoset [((.t 79), false), ((.t 80), false)]⟩,
                         ⟨none, .un 82 .not (.t 81)⟩,
                         ⟨none, .asg 83 (.t 82)⟩,
                         ⟨some (83, false), .mov 84 (.t 13)⟩,
                         ⟨some (83, false), .mov 85 (.t 5)⟩,
                         ⟨some (83, false), .binb 86 .neq (.t 84) (.t 85)⟩,
                         ⟨none, .pick 87 (.t 83) (.c (.bool true)) (.t 86)⟩])
                      (.drop [79, 80, 81, 82, 83, 84, 85, 86] (.cond (.t 87) (.seq (.reg [⟨none, .asg 2 (.c (.bool false))⟩])
                        .ret)
                       .skip)))
def c_laws_FnExactLatticeOf : ACode :=
  (.seq (.reg [⟨none, .box 1 (.t 0)⟩,
     ⟨none, .asg 2 (.c (.bool false))⟩])
  (.seq (.reg [⟨none, .asg 3 (.c (.int .i64 1048576))⟩])
   (.seq (.reg [⟨none, .ld 14 2 true (.t 1)⟩,
       ⟨none, .mov 15 (.t 3)⟩,
       ⟨none, .call 16 f_laws_szAlgebra [((.t 14), false), ((.t 15), false)]⟩,
       ⟨none, .asg 3 (.t 16)⟩])
    (.drop [14, 15, 16] (.seq (.seq (.reg [⟨none, .mov 17 (.t 3)⟩,
         ⟨none, .bin 18 .lss (.t 17) (.c (.int .i64 0))⟩])
      (.drop [17] (.cond (.t 18) (.seq (.reg [⟨none, .asg 2 (.c (.bool true))⟩])
        .ret)
       .skip)))
     (.drop [17, 18] (.seq (.reg [⟨none, .ld 20 2 true (.t 1)⟩,
         ⟨none, .call 21 f_laws_toAlgebra [((.t 20), false)]⟩,
         ⟨none, .call 22 f_spec_LatticeOf [((.t 21), false)]⟩,
         ⟨none, .asg 19 (.t 22)⟩,
         ⟨none, .ext 23 (.t 19) 0⟩,
         ⟨none, .ext 24 (.t 19) 1⟩,
         ⟨none, .alc 4 (.agg [.nilsl 1])⟩,
         ⟨none, .st 1 (.t 4) (.t 23)⟩,
         ⟨none, .asg 5 (.t 24)⟩])
      (.drop [20, 21, 22, 19, 23, 24] (.seq (.reg [⟨none, .ld 25 2 true (.t 1)⟩,
          ⟨none, .call 26 f_laws_toAlgebra [((.t 25), false)]⟩,
          ⟨none, .alc 6 (.agg [.int .i64 0, .nilsl 2])⟩,
          ⟨none, .st 2 (.t 6) (.t 26)⟩])
       (.drop [25, 26] (.seq (.reg [⟨none, .ld 28 2 true (.t 6)⟩,
           ⟨none, .call 29 f_impl_LatticeOf [((.t 28), false)]⟩,
           ⟨none, .asg 27 (.t 29)⟩,
           ⟨none, .ext 30 (.t 27) 0⟩,
           ⟨none, .ext 31 (.t 27) 1⟩,
           ⟨none, .alc 7 (.agg [.nilsl 1])⟩,
           ⟨none, .st 1 (.t 7) (.t 30)⟩,
           ⟨none, .asg 8 (.t 31)⟩])
        (.drop [28, 29, 27, 30, 31] (.seq (.cut c_laws_FnExactLatticeOf_k1)
         (.drop [32, 33, 34, 35, 36, 37, 38, 39, 40] (.seq (.seq (.dreg [(⟨none, .ld 41 2 true (.t 6)⟩, []),
              (⟨none, .ld 42 2 true (.t 1)⟩, [41]),
              (⟨none, .call 43 f_laws_toAlgebra [((.t 42), false)]⟩, [41])]
             [⟨none, .call 44 f_laws_eqAlgebra [((.t 41), false), ((.t 43), false)]⟩,
              ⟨none, .un 45 .not (.t 44)⟩])
           (.drop [41, 42, 43, 44] (.cond (.t 45) (.seq (.reg [⟨none, .asg 2 (.c (.bool false))⟩])
             .ret)
            .skip)))
          (.drop [41, 42, 43, 44, 45] (.seq (.reg [⟨none, .asg 9 (.c (.int .i64 1))⟩])
           (.seq (.reg [⟨none, .ld 46 2 true (.t 6)⟩,
               ⟨none, .mov 47 (.t 9)⟩,
               ⟨none, .call 48 f_laws_markAlgebra [((.t 46), true), ((.t 47), false)]⟩,
               ⟨none, .asg 9 (.t 48)⟩])
            (.drop [46, 47, 48] (.seq (.cut c_laws_FnExactLatticeOf_k2)
             (.drop [49, 50, 51, 52, 53, 54, 55, 56, 57, 58, 59, 60, 61] (.seq (.reg [⟨none, .asg 10 (.c (.int .i64 1))⟩])
              (.seq (.reg [⟨none, .ld 62 1 true (.t 7)⟩,
                  ⟨none, .mov 63 (.t 10)⟩,
                  ⟨none, .call 64 f_laws_markPoset [((.t 62), true), ((.t 63), false)]⟩,
                  ⟨none, .asg 10 (.t 64)⟩])
               (.drop [62, 63, 64] (.seq (.reg [⟨none, .asg 11 (.c (.int .i64 1))⟩])
                (.seq (.reg [⟨none, .ld 65 1 true (.t 7)⟩,
                    ⟨none, .mov 66 (.t 11)⟩,
                    ⟨none, .call 67 f_laws_heldPoset [((.t 65), false), ((.t 66), false)]⟩,
                    ⟨none, .asg 11 (.t 67)⟩])
                 (.drop [65, 66, 67] (.seq (.seq (.reg [⟨none, .mov 68 (.t 11)⟩,
                      ⟨none, .bin 69 .lss (.t 68) (.c (.int .i64 0))⟩])
                   (.drop [68] (.cond (.t 69) (.seq (.reg [⟨none, .asg 2 (.c (.bool false))⟩])
                     .ret)
                    .skip)))
                  (.drop [68, 69] (.seq (.seq (.reg [⟨none, .mov 70 (.t 11)⟩,
                       ⟨none, .mov 71 (.t 10)⟩,
                       ⟨none, .bin 72 .neq (.t 70) (.t 71)⟩])
                    (.drop [70, 71] (.cond (.t 72) (.seq (.reg [⟨none, .asg 2 (.c (.bool false))⟩])
                      .ret)
                     .skip)))
                   (.drop [70, 71, 72] (.seq (.reg [⟨none, .ld 74 2 true (.t 1)⟩,
                       ⟨none, .call 75 f_laws_toAlgebra [((.t 74), false)]⟩,
                       ⟨none, .call 76 f_impl_LatticeOf [((.t 75), false)]⟩,
                       ⟨none, .asg 73 (.t 76)⟩,
                       ⟨none, .ext 77 (.t 73) 0⟩,
                       ⟨none, .ext 78 (.t 73) 1⟩,
                       ⟨none, .alc 12 (.agg [.nilsl 1])⟩,
                       ⟨none, .st 1 (.t 12) (.t 77)⟩,
                       ⟨none, .asg 13 (.t 78)⟩])
                    (.drop [74, 75, 76, 73, 77, 78] (.seq (.cut c_laws_FnExactLatticeOf_k3)
                     (.drop [79, 80, 81, 82, 83, 84, 85, 86, 87] (.seq (.reg [⟨none, .asg 11 (.c (.int .i64 1))⟩])
                      (.seq (.reg [⟨none, .ld 88 1 true (.t 7)⟩,
                          ⟨none, .mov 89 (.t 11)⟩,
                          ⟨none, .call 90 f_laws_heldPoset [((.t 88), false), ((.t 89), false)]⟩,
                          ⟨none, .asg 11 (.t 90)⟩])
                       (.drop [88, 89, 90] (.seq (.seq (.reg [⟨none, .mov 91 (.t 11)⟩,
                            ⟨none, .bin 92 .lss (.t 91) (.c (.int .i64 0))⟩])
                         (.drop [91] (.cond (.t 92) (.seq (.reg [⟨none, .asg 2 (.c (.bool false))⟩])
                           .ret)
                          .skip)))
                        (.drop [91, 92] (.seq (.seq (.reg [⟨none, .mov 93 (.t 11)⟩,
                             ⟨none, .mov 94 (.t 10)⟩,
                             ⟨none, .bin 95 .neq (.t 93) (.t 94)⟩])
                          (.drop [93, 94] (.cond (.t 95) (.seq (.reg [⟨none, .asg 2 (.c (.bool false))⟩])
                            .ret)
                           .skip)))
                         (.drop [93, 94, 95] (.seq (.reg [⟨none, .asg 2 (.c (.bool true))⟩])
                          .ret)))))))))))))))))))))))))))))))))))))))))))
abbrev r_laws_FnExactLatticeOf : List RS := [.t 2]
theorem k_laws_FnExactLatticeOf : fitsF Try.prog f_laws_FnExactLatticeOf 96 c_laws_FnExactLatticeOf r_laws_FnExactLatticeOf = true := by kernel_rfl

end Go.Proofs.Ytdodfnbbfkcgnaa.Ax
