/-
  The small code of the functions, written by program; that the program's code is this one, the kernel looks at.
-/
import Derived.Test.YthcnmahjhahafabAx3
import Derived.Test.YthcnmahjhahafabProg
import Derived.KernelRfl
import Derived.Test.YthcnmahjhahafabNum
namespace Go.Proofs.Ythcnmahjhahafab.Ax
open Go
set_option maxRecDepth 100000

/- loop.example/g01078/spec.l23Covers: [p=0, x=1, y=2, p=3, x=4, y=5, z=7] -/
def c_spec_l23Covers_l1 : ACode :=
  (.seq (.seq (.reg [⟨none, .mov 13 (.t 7)⟩,
      ⟨none, .fadr 14 0 (.t 3)⟩,
      ⟨none, .ld 15 1 false (.t 14)⟩,
      ⟨none, .len 16 (.t 15)⟩,
      ⟨none, .bin 17 .lss (.t 13) (.t 16)⟩])
   (.drop [13, 14, 15, 16] (.cond (.t 17) .skip
    (.exit 0))))
  (.drop [13, 14, 15, 16, 17] (.seq (.block 1 (.seq (.reg [⟨none, .ld 20 1 true (.t 3)⟩,
        ⟨none, .mov 21 (.t 1)⟩,
        ⟨none, .mov 22 (.t 7)⟩,
        ⟨none, .call 23 f_spec_l23Less [((.t 20), false), ((.t 21), false), ((.t 22), false)]⟩,
        ⟨none, .asg 24 (.t 23)⟩,
        ⟨some (24, true), .ld 25 1 true (.t 3)⟩,
        ⟨some (24, true), .mov 26 (.t 7)⟩,
        ⟨some (24, true), .mov 27 (.t 2)⟩,
        ⟨some (24, true), .call 28 f_spec_l23Less [((.t 25), false), ((.t 26), false), ((.t 27), false)]⟩,
        ⟨none, .pick 29 (.t 24) (.t 28) (.c (.bool false))⟩])
     (.drop [20, 21, 22, 23, 24, 25, 26, 27, 28] (.cond (.t 29) (.seq (.reg [⟨none, .asg 6 (.c (.bool false))⟩])
       .ret)
      .skip))))
   (.drop [20, 21, 22, 23, 24, 25, 26, 27, 28, 29] (.reg [⟨none, .mov 18 (.t 7)⟩,
      ⟨none, .bin 19 .add (.t 18) (.c (.int .i64 1))⟩,
      ⟨none, .asg 7 (.t 19)⟩])))))
def c_spec_l23Covers : ACode :=
  (.seq (.reg [⟨none, .box 3 (.t 0)⟩,
     ⟨none, .asg 6 (.c (.bool false))⟩])
  (.seq (.seq (.reg [⟨none, .ld 8 1 true (.t 3)⟩,
       ⟨none, .mov 9 (.t 1)⟩,
       ⟨none, .mov 10 (.t 2)⟩,
       ⟨none, .call 11 f_spec_l23Less [((.t 8), false), ((.t 9), false), ((.t 10), false)]⟩,
       ⟨none, .un 12 .not (.t 11)⟩])
    (.drop [8, 9, 10, 11] (.cond (.t 12) (.seq (.reg [⟨none, .asg 6 (.c (.bool false))⟩])
      .ret)
     .skip)))
   (.drop [8, 9, 10, 11, 12] (.seq (.seq (.reg [⟨none, .asg 7 (.c (.int .i64 0))⟩])
     (.block 0 (.loop c_spec_l23Covers_l1)))
    (.drop [7, 13, 14, 15, 16, 17, 20, 21, 22, 23, 24, 25, 26, 27, 28, 29, 18, 19] (.seq (.reg [⟨none, .asg 6 (.c (.bool true))⟩])
     .ret))))))
abbrev r_spec_l23Covers : List RS := [.t 6]
theorem k_spec_l23Covers : fitsF Try.prog f_spec_l23Covers 30 c_spec_l23Covers r_spec_l23Covers = true := by kernel_rfl

/- (loop.example/g01078/impl.order).lowerCovers: [o=0, x=1, o=2, x=3] -/
def c_impl_order_lowerCovers : ACode :=
  (.seq (.reg [⟨none, .box 2 (.t 0)⟩,
     ⟨none, .box 3 (.t 1)⟩,
     ⟨none, .asg 4 (.c (.nilsl 1))⟩])
  (.seq (.reg [⟨none, .ld 5 1 false (.t 2)⟩,
      ⟨none, .mkf 6 f_impl_order_lowerCovers_1 [(.t 2), (.t 3)]⟩,
      ⟨none, .call 7 f_impl_order_those [((.t 5), false), ((.t 6), false)]⟩,
      ⟨none, .asg 4 (.t 7)⟩])
   (.drop [5, 6, 7] .ret)))
abbrev r_impl_order_lowerCovers : List RS := [.t 4]
theorem k_impl_order_lowerCovers : fitsF Try.prog f_impl_order_lowerCovers 8 c_impl_order_lowerCovers r_impl_order_lowerCovers = true := by kernel_rfl

/- loop.example/g01078/spec.LargestAntichain: [p=0, p=1] -/
def c_spec_LargestAntichain : ACode :=
  (.seq (.reg [⟨none, .box 1 (.t 0)⟩,
     ⟨none, .asg 2 (.c (.nilsl 1))⟩,
     ⟨none, .asg 3 (.c (.bool false))⟩])
  (.seq (.seq (.reg [⟨none, .ld 4 1 true (.t 1)⟩,
       ⟨none, .call 5 f_spec_l23Good [((.t 4), false)]⟩,
       ⟨none, .un 6 .not (.t 5)⟩])
    (.drop [4, 5] (.cond (.t 6) (.seq (.reg [⟨none, .bsl 7 1 []⟩,
         ⟨none, .asg 2 (.t 7)⟩,
         ⟨none, .asg 3 (.c (.bool false))⟩])
      (.drop [7] .ret))
     .skip)))
   (.drop [4, 5, 6, 7] (.seq (.reg [⟨none, .ld 8 1 true (.t 1)⟩,
       ⟨none, .call 9 f_spec_l23Largest [((.t 8), false)]⟩,
       ⟨none, .asg 2 (.t 9)⟩,
       ⟨none, .asg 3 (.c (.bool true))⟩])
    (.drop [8, 9] .ret)))))
abbrev r_spec_LargestAntichain : List RS := [.t 2, .t 3]
theorem k_spec_LargestAntichain : fitsF Try.prog f_spec_LargestAntichain 10 c_spec_LargestAntichain r_spec_LargestAntichain = true := by kernel_rfl

/- loop.example/g01078/spec.l23Pairs: [p=0, p=1, out=3, x=4, y=5] -/
def c_spec_l23Pairs_l1 : ACode :=
  (.seq (.seq (.reg [⟨none, .mov 14 (.t 5)⟩,
      ⟨none, .fadr 15 0 (.t 1)⟩,
      ⟨none, .ld 16 1 false (.t 15)⟩,
      ⟨none, .len 17 (.t 16)⟩,
      ⟨none, .bin 18 .lss (.t 14) (.t 17)⟩])
   (.drop [14, 15, 16, 17] (.cond (.t 18) .skip
    (.exit 2))))
  (.drop [14, 15, 16, 17, 18] (.seq (.block 3 (.seq (.reg [⟨none, .ld 21 1 true (.t 1)⟩,
        ⟨none, .mov 22 (.t 4)⟩,
        ⟨none, .mov 23 (.t 5)⟩,
        ⟨none, .call 24 f_spec_l23Covers [((.t 21), false), ((.t 22), false), ((.t 23), false)]⟩])
     (.drop [21, 22, 23] (.cond (.t 24) (.reg [⟨none, .mov 25 (.t 3)⟩,
         ⟨none, .mov 26 (.t 4)⟩,
         ⟨none, .mov 27 (.t 5)⟩,
         ⟨none, .bld 28 [.int .i64 0, .int .i64 0] [(0, 1, (.t 26)), (1, 1, (.t 27))]⟩,
         ⟨none, .bsl 29 2 [(.t 28)]⟩,
         ⟨none, .app 30 2 (.t 25) (.t 29)⟩,
         ⟨none, .asg 3 (.t 30)⟩])
      .skip))))
   (.drop [21, 22, 23, 24, 25, 26, 27, 28, 29, 30] (.reg [⟨none, .mov 19 (.t 5)⟩,
      ⟨none, .bin 20 .add (.t 19) (.c (.int .i64 1))⟩,
      ⟨none, .asg 5 (.t 20)⟩])))))
def c_spec_l23Pairs_l2 : ACode :=
  (.seq (.seq (.reg [⟨none, .mov 7 (.t 4)⟩,
      ⟨none, .fadr 8 0 (.t 1)⟩,
      ⟨none, .ld 9 1 false (.t 8)⟩,
      ⟨none, .len 10 (.t 9)⟩,
      ⟨none, .bin 11 .lss (.t 7) (.t 10)⟩])
   (.drop [7, 8, 9, 10] (.cond (.t 11) .skip
    (.exit 0))))
  (.drop [7, 8, 9, 10, 11] (.seq (.block 1 (.seq (.reg [⟨none, .asg 5 (.c (.int .i64 0))⟩])
     (.block 2 (.loop c_spec_l23Pairs_l1))))
   (.drop [5, 14, 15, 16, 17, 18, 21, 22, 23, 24, 25, 26, 27, 28, 29, 30, 19, 20] (.reg [⟨none, .mov 12 (.t 4)⟩,
      ⟨none, .bin 13 .add (.t 12) (.c (.int .i64 1))⟩,
      ⟨none, .asg 4 (.t 13)⟩])))))
def c_spec_l23Pairs : ACode :=
  (.seq (.reg [⟨none, .box 1 (.t 0)⟩,
     ⟨none, .asg 2 (.c (.nilsl 2))⟩])
  (.seq (.reg [⟨none, .bsl 6 2 []⟩,
      ⟨none, .asg 3 (.t 6)⟩])
   (.drop [6] (.seq (.seq (.reg [⟨none, .asg 4 (.c (.int .i64 0))⟩])
     (.block 0 (.loop c_spec_l23Pairs_l2)))
    (.drop [4, 7, 8, 9, 10, 11, 5, 14, 15, 16, 17, 18, 21, 22, 23, 24, 25, 26, 27, 28, 29, 30, 19, 20, 12, 13] (.seq (.reg [⟨none, .mov 31 (.t 3)⟩,
        ⟨none, .asg 2 (.t 31)⟩])
     (.drop [31] .ret)))))))
abbrev r_spec_l23Pairs : List RS := [.t 2]
theorem k_spec_l23Pairs : fitsF Try.prog f_spec_l23Pairs 32 c_spec_l23Pairs r_spec_l23Pairs = true := by kernel_rfl

/- loop.example/g01078/spec.l24Irreducibles: [p=0, p=1, out=3, y=4, n=5, x=6] -/
def c_spec_l24Irreducibles_l1 : ACode :=
  (.seq (.seq (.reg [⟨none, .mov 15 (.t 6)⟩,
      ⟨none, .fadr 16 0 (.t 1)⟩,
      ⟨none, .ld 17 1 false (.t 16)⟩,
      ⟨none, .len 18 (.t 17)⟩,
      ⟨none, .bin 19 .lss (.t 15) (.t 18)⟩])
   (.drop [15, 16, 17, 18] (.cond (.t 19) .skip
    (.exit 2))))
  (.drop [15, 16, 17, 18, 19] (.seq (.block 3 (.seq (.reg [⟨none, .ld 22 1 true (.t 1)⟩,
        ⟨none, .mov 23 (.t 6)⟩,
        ⟨none, .mov 24 (.t 4)⟩,
        ⟨none, .call 25 f_spec_l23Covers [((.t 22), false), ((.t 23), false), ((.t 24), false)]⟩])
     (.drop [22, 23, 24] (.cond (.t 25) (.reg [⟨none, .mov 26 (.t 5)⟩,
         ⟨none, .bin 27 .add (.t 26) (.c (.int .i64 1))⟩,
         ⟨none, .asg 5 (.t 27)⟩])
      .skip))))
   (.drop [22, 23, 24, 25, 26, 27] (.reg [⟨none, .mov 20 (.t 6)⟩,
      ⟨none, .bin 21 .add (.t 20) (.c (.int .i64 1))⟩,
      ⟨none, .asg 6 (.t 21)⟩])))))
def c_spec_l24Irreducibles_l2 : ACode :=
  (.seq (.seq (.reg [⟨none, .mov 8 (.t 4)⟩,
      ⟨none, .fadr 9 0 (.t 1)⟩,
      ⟨none, .ld 10 1 false (.t 9)⟩,
      ⟨none, .len 11 (.t 10)⟩,
      ⟨none, .bin 12 .lss (.t 8) (.t 11)⟩])
   (.drop [8, 9, 10, 11] (.cond (.t 12) .skip
    (.exit 0))))
  (.drop [8, 9, 10, 11, 12] (.seq (.block 1 (.seq (.reg [⟨none, .asg 5 (.c (.int .i64 0))⟩])
     (.seq (.seq (.reg [⟨none, .asg 6 (.c (.int .i64 0))⟩])
       (.block 2 (.loop c_spec_l24Irreducibles_l1)))
      (.drop [6, 15, 16, 17, 18, 19, 22, 23, 24, 25, 26, 27, 20, 21] (.seq (.reg [⟨none, .mov 28 (.t 5)⟩,
          ⟨none, .bin 29 .eql (.t 28) (.c (.int .i64 1))⟩])
       (.drop [28] (.cond (.t 29) (.reg [⟨none, .mov 30 (.t 3)⟩,
           ⟨none, .mov 31 (.t 4)⟩,
           ⟨none, .bsl 32 1 [(.t 31)]⟩,
           ⟨none, .app 33 1 (.t 30) (.t 32)⟩,
           ⟨none, .asg 3 (.t 33)⟩])
        .skip)))))))
   (.drop [5, 6, 15, 16, 17, 18, 19, 22, 23, 24, 25, 26, 27, 20, 21, 28, 29, 30, 31, 32, 33] (.reg [⟨none, .mov 13 (.t 4)⟩,
      ⟨none, .bin 14 .add (.t 13) (.c (.int .i64 1))⟩,
      ⟨none, .asg 4 (.t 14)⟩])))))
def c_spec_l24Irreducibles : ACode :=
  (.seq (.reg [⟨none, .box 1 (.t 0)⟩,
     ⟨none, .asg 2 (.c (.nilsl 1))⟩])
  (.seq (.reg [⟨none, .bsl 7 1 []⟩,
      ⟨none, .asg 3 (.t 7)⟩])
   (.drop [7] (.seq (.seq (.reg [⟨none, .asg 4 (.c (.int .i64 0))⟩])
     (.block 0 (.loop c_spec_l24Irreducibles_l2)))
    (.drop [4, 8, 9, 10, 11, 12, 5, 6, 15, 16, 17, 18, 19, 22, 23, 24, 25, 26, 27, 20, 21, 28, 29, 30, 31, 32, 33, 13, 14] (.seq (.reg [⟨none, .mov 34 (.t 3)⟩,
        ⟨none, .asg 2 (.t 34)⟩])
     (.drop [34] .ret)))))))
abbrev r_spec_l24Irreducibles : List RS := [.t 2]
theorem k_spec_l24Irreducibles : fitsF Try.prog f_spec_l24Irreducibles 35 c_spec_l24Irreducibles r_spec_l24Irreducibles = true := by kernel_rfl

/- loop.example/g01078/impl.MeetIrreducibles$1$1: [x=0, x=2] -/
def c_impl_MeetIrreducibles_1_1 : ACode :=
  (.seq (.reg [⟨none, .asg 3 (.c (.bool false))⟩])
  (.seq (.reg [⟨none, .ld 4 1 false (.t 1)⟩,
      ⟨none, .nck 5 (.t 4)⟩,
      ⟨none, .fadr 6 0 (.t 5)⟩,
      ⟨none, .ld 7 1 false (.t 6)⟩,
      ⟨none, .mov 8 (.t 0)⟩,
      ⟨none, .call 9 f_impl_order_upperCovers [((.t 7), false), ((.t 8), false)]⟩,
      ⟨none, .len 10 (.t 9)⟩,
      ⟨none, .bin 11 .eql (.t 10) (.c (.int .i64 1))⟩,
      ⟨none, .asg 3 (.t 11)⟩])
   (.drop [4, 5, 6, 7, 8, 9, 10, 11] .ret)))
abbrev r_impl_MeetIrreducibles_1_1 : List RS := [.t 3]
theorem k_impl_MeetIrreducibles_1_1 : fitsF Try.prog f_impl_MeetIrreducibles_1_1 12 c_impl_MeetIrreducibles_1_1 r_impl_MeetIrreducibles_1_1 = true := by kernel_rfl

/- (*loop.example/g01078/impl.lattice).irreducibles$1: [x=0, x=2] -/
def c_impl_lattice_irreducibles_1 : ACode :=
  (.seq (.reg [⟨none, .asg 3 (.c (.bool false))⟩])
  (.seq (.reg [⟨none, .ld 4 1 false (.t 1)⟩,
      ⟨none, .nck 5 (.t 4)⟩,
      ⟨none, .fadr 6 0 (.t 5)⟩,
      ⟨none, .ld 7 1 false (.t 6)⟩,
      ⟨none, .mov 8 (.t 0)⟩,
      ⟨none, .call 9 f_impl_order_lowerCovers [((.t 7), false), ((.t 8), false)]⟩,
      ⟨none, .len 10 (.t 9)⟩,
      ⟨none, .bin 11 .eql (.t 10) (.c (.int .i64 1))⟩,
      ⟨none, .asg 3 (.t 11)⟩])
   (.drop [4, 5, 6, 7, 8, 9, 10, 11] .ret)))
abbrev r_impl_lattice_irreducibles_1 : List RS := [.t 3]
theorem k_impl_lattice_irreducibles_1 : fitsF Try.prog f_impl_lattice_irreducibles_1 12 c_impl_lattice_irreducibles_1 r_impl_lattice_irreducibles_1 = true := by kernel_rfl

/- loop.example/g01078/laws.FnExactLargestAntichain: [aP=0, aP=1, left=3, w0=4, w1=5, x0=6, g0=7, g1=8, k=9, m=10, q=11, h0=12, h1=13] -/
def c_laws_FnExactLargestAntichain_k1 : ACode :=
  (.seq (.reg [⟨none, .mov 32 (.t 7)⟩,
             ⟨none, .mov 33 (.t 4)⟩,
             ⟨none, .call 34 f_laws_eqIntS [((.t 32), false), ((.t 33), false)]⟩,
             ⟨none, .un 35 .not (.t 34)⟩,
             ⟨none, .asg 36 (.t 35)⟩,
             ⟨some (36, false), .mov 37 (.t 8)⟩,
             ⟨some (36, false), .mov 38 (.t 5)⟩,
             ⟨some (36, false), .binb 39 .neq (.t 37) (.t 38)⟩,
             ⟨none, .pick 40 (.t 36) (.c (.bool true)) (.t 39)⟩])
          (.drop [32, 33, 34, 35, 36, 37, 38, 39] (.cond (.t 40) (.seq (.reg [⟨none, .asg 2 (.c (.bool false))⟩])
            .ret)
           .skip)))
def c_laws_FnExactLargestAntichain_k2 : ACode :=
  (.seq (.reg [⟨none, .mov 49 (.t 9)⟩,
                 ⟨none, .bin 50 .lss (.t 49) (.c (.int .i64 0))⟩,
                 ⟨none, .asg 51 (.t 50)⟩,
                 ⟨some (51, false), .mov 52 (.t 7)⟩,
                 ⟨some (51, false), .mov 53 (.t 4)⟩,
                 ⟨some (51, false), .call 54 f_laws_eqIntS [((.t 52), false), ((.t 53), false)]⟩,
                 ⟨some (51, false), .un 55 .not (.t 54)⟩,
                 ⟨none, .pick 56 (.t 51) (.c (.bool true)) (.t 55)⟩,
                 ⟨none, .asg 57 (.t 56)⟩,
                 ⟨some (57, false), .mov 58 (.t 8)⟩,
                 ⟨some (57, false), .mov 59 (.t 5)⟩,
                 ⟨some (57, false), .binb 60 .neq (.t 58) (.t 59)⟩,
                 ⟨none, .pick 61 (.t 57) (.c (.bool true)) (.t 60)⟩])
              (.drop [49, 50, 51, 52, 53, 54, 55, 56, 57, 58, 59, 60] (.cond (.t 61) (.seq (.reg [⟨none, .asg 2 (.c (.bool false))⟩])
                .ret)
               .skip)))
def c_laws_FnExactLargestAntichain_k3 : ACode :=
  (.seq (.reg [⟨none, .mov 79 (.t 12)⟩,
                         ⟨none, .mov 80 (.t 4)⟩,
                         ⟨none, .call 81 f_laws_eqIntS [((.t 79), false), ((.t 80), false)]⟩,
                         ⟨none, .un 82 .not (.t 81)⟩,
                         ⟨none, .asg 83 (.t 82)⟩,
                         ⟨some (83, false), .mov 84 (.t 13)⟩,
                         ⟨some (83, false), .mov 85 (.t 5)⟩,
                         ⟨some (83, false), .binb 86 .neq (.t 84) (.t 85)⟩,
                         ⟨none, .pick 87 (.t 83) (.c (.bool true)) (.t 86)⟩])
                      (.drop [79, 80, 81, 82, 83, 84, 85, 86] (.cond (.t 87) (.seq (.reg [⟨none, .asg 2 (.c (.bool false))⟩])
                        .ret)
                       .skip)))
def c_laws_FnExactLargestAntichain : ACode :=
  (.seq (.reg [⟨none, .box 1 (.t 0)⟩,
     ⟨none, .asg 2 (.c (.bool false))⟩])
  (.seq (.reg [⟨none, .asg 3 (.c (.int .i64 1048576))⟩])
   (.seq (.reg [⟨none, .ld 14 1 true (.t 1)⟩,
       ⟨none, .mov 15 (.t 3)⟩,
       ⟨none, .call 16 f_laws_szPoset [((.t 14), false), ((.t 15), false)]⟩,
       ⟨none, .asg 3 (.t 16)⟩])
    (.drop [14, 15, 16] (.seq (.seq (.reg [⟨none, .mov 17 (.t 3)⟩,
         ⟨none, .bin 18 .lss (.t 17) (.c (.int .i64 0))⟩])
      (.drop [17] (.cond (.t 18) (.seq (.reg [⟨none, .asg 2 (.c (.bool true))⟩])
        .ret)
       .skip)))
     (.drop [17, 18] (.seq (.reg [⟨none, .ld 20 1 true (.t 1)⟩,
         ⟨none, .call 21 f_laws_toPoset [((.t 20), false)]⟩,
         ⟨none, .call 22 f_spec_LargestAntichain [((.t 21), false)]⟩,
         ⟨none, .asg 19 (.t 22)⟩,
         ⟨none, .ext 23 (.t 19) 0⟩,
         ⟨none, .ext 24 (.t 19) 1⟩,
         ⟨none, .asg 4 (.t 23)⟩,
         ⟨none, .asg 5 (.t 24)⟩])
      (.drop [20, 21, 22, 19, 23, 24] (.seq (.reg [⟨none, .ld 25 1 true (.t 1)⟩,
          ⟨none, .call 26 f_laws_toPoset [((.t 25), false)]⟩,
          ⟨none, .alc 6 (.agg [.nilsl 1])⟩,
          ⟨none, .st 1 (.t 6) (.t 26)⟩])
       (.drop [25, 26] (.seq (.reg [⟨none, .ld 28 1 true (.t 6)⟩,
           ⟨none, .call 29 f_impl_LargestAntichain [((.t 28), false)]⟩,
           ⟨none, .asg 27 (.t 29)⟩,
           ⟨none, .ext 30 (.t 27) 0⟩,
           ⟨none, .ext 31 (.t 27) 1⟩,
           ⟨none, .asg 7 (.t 30)⟩,
           ⟨none, .asg 8 (.t 31)⟩])
        (.drop [28, 29, 27, 30, 31] (.seq (.cut c_laws_FnExactLargestAntichain_k1)
         (.drop [32, 33, 34, 35, 36, 37, 38, 39, 40] (.seq (.seq (.dreg [(⟨none, .ld 41 1 true (.t 6)⟩, []),
              (⟨none, .ld 42 1 true (.t 1)⟩, [41]),
              (⟨none, .call 43 f_laws_toPoset [((.t 42), false)]⟩, [41])]
             [⟨none, .call 44 f_laws_eqPoset [((.t 41), false), ((.t 43), false)]⟩,
              ⟨none, .un 45 .not (.t 44)⟩])
           (.drop [41, 42, 43, 44] (.cond (.t 45) (.seq (.reg [⟨none, .asg 2 (.c (.bool false))⟩])
             .ret)
            .skip)))
          (.drop [41, 42, 43, 44, 45] (.seq (.reg [⟨none, .asg 9 (.c (.int .i64 1))⟩])
           (.seq (.reg [⟨none, .ld 46 1 true (.t 6)⟩,
               ⟨none, .mov 47 (.t 9)⟩,
               ⟨none, .call 48 f_laws_markPoset [((.t 46), true), ((.t 47), false)]⟩,
               ⟨none, .asg 9 (.t 48)⟩])
            (.drop [46, 47, 48] (.seq (.cut c_laws_FnExactLargestAntichain_k2)
             (.drop [49, 50, 51, 52, 53, 54, 55, 56, 57, 58, 59, 60, 61] (.seq (.reg [⟨none, .asg 10 (.c (.int .i64 1))⟩])
              (.seq (.reg [⟨none, .mov 62 (.t 7)⟩,
                  ⟨none, .mov 63 (.t 10)⟩,
                  ⟨none, .call 64 f_laws_markIntS [((.t 62), true), ((.t 63), false)]⟩,
                  ⟨none, .asg 10 (.t 64)⟩])
               (.drop [62, 63, 64] (.seq (.reg [⟨none, .asg 11 (.c (.int .i64 1))⟩])
                (.seq (.reg [⟨none, .mov 65 (.t 7)⟩,
                    ⟨none, .mov 66 (.t 11)⟩,
                    ⟨none, .call 67 f_laws_heldIntS [((.t 65), false), ((.t 66), false)]⟩,
                    ⟨none, .asg 11 (.t 67)⟩])
                 (.drop [65, 66, 67] (.seq (.seq (.reg [⟨none, .mov 68 (.t 11)⟩,
                      ⟨none, .bin 69 .lss (.t 68) (.c (.int .i64 0))⟩])
                   (.drop [68] (.cond (.t 69) (.seq (.reg [⟨none, .asg 2 (.c (.bool false))⟩])
                     .ret)
                    .skip)))
                  (.drop [68, 69] (.seq (.seq (.reg [⟨none, .mov 70 (.t 11)⟩,
                       ⟨none, .mov 71 (.t 10)⟩,
                       ⟨none, .bin 72 .neq (.t 70) (.t 71)⟩])
                    (.drop [70, 71] (.cond (.t 72) (.seq (.reg [⟨none, .asg 2 (.c (.bool false))⟩])
                      .ret)
                     .skip)))
                   (.drop [70, 71, 72] (.seq (.reg [⟨none, .ld 74 1 true (.t 1)⟩,
                       ⟨none, .call 75 f_laws_toPoset [((.t 74), false)]⟩,
                       ⟨none, .call 76 f_impl_LargestAntichain [((.t 75), false)]⟩,
                       ⟨none, .asg 73 (.t 76)⟩,
                       ⟨none, .ext 77 (.t 73) 0⟩,
                       ⟨none, .ext 78 (.t 73) 1⟩,
                       ⟨none, .asg 12 (.t 77)⟩,
                       ⟨none, .asg 13 (.t 78)⟩])
                    (.drop [74, 75, 76, 73, 77, 78] (.seq (.cut c_laws_FnExactLargestAntichain_k3)
                     (.drop [79, 80, 81, 82, 83, 84, 85, 86, 87] (.seq (.reg [⟨none, .asg 11 (.c (.int .i64 1))⟩])
                      (.seq (.reg [⟨none, .mov 88 (.t 7)⟩,
                          ⟨none, .mov 89 (.t 11)⟩,
                          ⟨none, .call 90 f_laws_heldIntS [((.t 88), false), ((.t 89), false)]⟩,
                          ⟨none, .asg 11 (.t 90)⟩])
                       (.drop [88, 89, 90] (.seq (.seq (.reg [⟨none, .mov 91 (.t 11)⟩,
                            ⟨none, .bin 92 .lss (.t 91) (.c (.int .i64 0))⟩])
                         (.drop [91] (.cond (.t 92) (.seq (.reg [⟨none, .asg 2 (.c (.bool false))⟩])
                           .ret)
                          .skip)))
                        (.drop [91, 92] (.seq (.seq (.reg [⟨none, .mov 93 (.t 11)⟩,
                             ⟨none, .mov 94 (.t 10)⟩,
                             ⟨none, .bin 95 .neq (.t 93) (.t 94)⟩])
                          (.drop [93, 94] (.cond (.t 95) (.seq (.reg [⟨none, .asg 2 (.c (.bool false))⟩])
                            .ret)
                           .skip)))
                         (.drop [93, 94, 95] (.seq (.reg [⟨none, .asg 2 (.c (.bool true))⟩])
                          .ret)))))))))))))))))))))))))))))))))))))))))))
abbrev r_laws_FnExactLargestAntichain : List RS := [.t 2]
theorem k_laws_FnExactLargestAntichain : fitsF Try.prog f_laws_FnExactLargestAntichain 96 c_laws_FnExactLargestAntichain r_laws_FnExactLargestAntichain = true := by kernel_rfl

/- loop.example/g01078/spec.CoverPairs: [p=0, p=1] -/
def c_spec_CoverPairs : ACode :=
  (.seq (.reg [⟨none, .box 1 (.t 0)⟩,
     ⟨none, .asg 2 (.c (.nilsl 2))⟩,
     ⟨none, .asg 3 (.c (.bool false))⟩])
  (.seq (.seq (.reg [⟨none, .ld 4 1 true (.t 1)⟩,
       ⟨none, .call 5 f_spec_l23Good [((.t 4), false)]⟩,
       ⟨none, .un 6 .not (.t 5)⟩])
    (.drop [4, 5] (.cond (.t 6) (.seq (.reg [⟨none, .bsl 7 2 []⟩,
         ⟨none, .asg 2 (.t 7)⟩,
         ⟨none, .asg 3 (.c (.bool false))⟩])
      (.drop [7] .ret))
     .skip)))
   (.drop [4, 5, 6, 7] (.seq (.reg [⟨none, .ld 8 1 true (.t 1)⟩,
       ⟨none, .call 9 f_spec_l23Pairs [((.t 8), false)]⟩,
       ⟨none, .asg 2 (.t 9)⟩,
       ⟨none, .asg 3 (.c (.bool true))⟩])
    (.drop [8, 9] .ret)))))
abbrev r_spec_CoverPairs : List RS := [.t 2, .t 3]
theorem k_spec_CoverPairs : fitsF Try.prog f_spec_CoverPairs 10 c_spec_CoverPairs r_spec_CoverPairs = true := by kernel_rfl

/- loop.example/g01078/spec.JoinIrreducibles: [p=0, p=1] -/
def c_spec_JoinIrreducibles : ACode :=
  (.seq (.reg [⟨none, .box 1 (.t 0)⟩,
     ⟨none, .asg 2 (.c (.nilsl 1))⟩,
     ⟨none, .asg 3 (.c (.bool false))⟩])
  (.seq (.seq (.reg [⟨none, .ld 4 1 true (.t 1)⟩,
       ⟨none, .call 5 f_spec_l24Good [((.t 4), false)]⟩,
       ⟨none, .un 6 .not (.t 5)⟩])
    (.drop [4, 5] (.cond (.t 6) (.seq (.reg [⟨none, .bsl 7 1 []⟩,
         ⟨none, .asg 2 (.t 7)⟩,
         ⟨none, .asg 3 (.c (.bool false))⟩])
      (.drop [7] .ret))
     .skip)))
   (.drop [4, 5, 6, 7] (.seq (.reg [⟨none, .ld 8 1 true (.t 1)⟩,
       ⟨none, .call 9 f_spec_l24Irreducibles [((.t 8), false)]⟩,
       ⟨none, .asg 2 (.t 9)⟩,
       ⟨none, .asg 3 (.c (.bool true))⟩])
    (.drop [8, 9] .ret)))))
abbrev r_spec_JoinIrreducibles : List RS := [.t 2, .t 3]
theorem k_spec_JoinIrreducibles : fitsF Try.prog f_spec_JoinIrreducibles 10 c_spec_JoinIrreducibles r_spec_JoinIrreducibles = true := by kernel_rfl

/- loop.example/g01078/spec.MeetIrreducibles: [p=0, p=1] -/
def c_spec_MeetIrreducibles : ACode :=
  (.seq (.reg [⟨none, .box 1 (.t 0)⟩,
     ⟨none, .asg 2 (.c (.nilsl 1))⟩,
     ⟨none, .asg 3 (.c (.bool false))⟩])
  (.seq (.seq (.reg [⟨none, .ld 4 1 true (.t 1)⟩,
       ⟨none, .call 5 f_spec_l24Good [((.t 4), false)]⟩,
       ⟨none, .un 6 .not (.t 5)⟩])
    (.drop [4, 5] (.cond (.t 6) (.seq (.reg [⟨none, .bsl 7 1 []⟩,
         ⟨none, .asg 2 (.t 7)⟩,
         ⟨none, .asg 3 (.c (.bool false))⟩])
      (.drop [7] .ret))
     .skip)))
   (.drop [4, 5, 6, 7] (.seq (.reg [⟨none, .ld 8 1 true (.t 1)⟩,
       ⟨none, .call 9 f_spec_l23Dual [((.t 8), false)]⟩,
       ⟨none, .call 10 f_spec_l24Irreducibles [((.t 9), false)]⟩,
       ⟨none, .asg 2 (.t 10)⟩,
       ⟨none, .asg 3 (.c (.bool true))⟩])
    (.drop [8, 9, 10] .ret)))))
abbrev r_spec_MeetIrreducibles : List RS := [.t 2, .t 3]
theorem k_spec_MeetIrreducibles : fitsF Try.prog f_spec_MeetIrreducibles 11 c_spec_MeetIrreducibles r_spec_MeetIrreducibles = true := by kernel_rfl

/- (*loop.example/g01078/impl.lattice).irreducibles: [l=0, l=1] -/
def c_impl_lattice_irreducibles : ACode :=
  (.seq (.reg [⟨none, .box 1 (.t 0)⟩,
     ⟨none, .asg 2 (.c (.nilsl 1))⟩])
  (.seq (.reg [⟨none, .ld 3 1 false (.t 1)⟩,
      ⟨none, .nck 4 (.t 3)⟩,
      ⟨none, .fadr 5 0 (.t 4)⟩,
      ⟨none, .ld 6 1 false (.t 5)⟩,
      ⟨none, .mkf 7 f_impl_lattice_irreducibles_1 [(.t 1)]⟩,
      ⟨none, .call 8 f_impl_order_those [((.t 6), false), ((.t 7), false)]⟩,
      ⟨none, .asg 2 (.t 8)⟩])
   (.drop [3, 4, 5, 6, 7, 8] .ret)))
abbrev r_impl_lattice_irreducibles : List RS := [.t 2]
theorem k_impl_lattice_irreducibles : fitsF Try.prog f_impl_lattice_irreducibles 9 c_impl_lattice_irreducibles r_impl_lattice_irreducibles = true := by kernel_rfl

/- loop.example/g01078/impl.MeetIrreducibles$1: [l=0, l=1] -/
def c_impl_MeetIrreducibles_1 : ACode :=
  (.seq (.reg [⟨none, .box 1 (.t 0)⟩,
     ⟨none, .asg 2 (.c (.nilsl 1))⟩])
  (.seq (.reg [⟨none, .ld 3 1 false (.t 1)⟩,
      ⟨none, .nck 4 (.t 3)⟩,
      ⟨none, .fadr 5 0 (.t 4)⟩,
      ⟨none, .ld 6 1 false (.t 5)⟩,
      ⟨none, .mkf 7 f_impl_MeetIrreducibles_1_1 [(.t 1)]⟩,
      ⟨none, .call 8 f_impl_order_those [((.t 6), false), ((.t 7), false)]⟩,
      ⟨none, .asg 2 (.t 8)⟩])
   (.drop [3, 4, 5, 6, 7, 8] .ret)))
abbrev r_impl_MeetIrreducibles_1 : List RS := [.t 2]
theorem k_impl_MeetIrreducibles_1 : fitsF Try.prog f_impl_MeetIrreducibles_1 9 c_impl_MeetIrreducibles_1 r_impl_MeetIrreducibles_1 = true := by kernel_rfl

/- loop.example/g01078/laws.FnExactCoverPairs: [aP=0, aP=1, left=3, w0=4, w1=5, x0=6, g0=7, g1=8, k=9, m=10, q=11, h0=12, h1=13] -/
def c_laws_FnExactCoverPairs_k1 : ACode :=
  (.seq (.reg [⟨none, .mov 32 (.t 7)⟩,
             ⟨none, .mov 33 (.t 4)⟩,
             ⟨none, .call 34 f_laws_eqIntA2S [((.t 32), false), ((.t 33), false)]⟩,
             ⟨none, .un 35 .not (.t 34)⟩,
             ⟨none, .asg 36 (.t 35)⟩,
             ⟨some (36, false), .mov 37 (.t 8)⟩,
             ⟨some (36, false), .mov 38 (.t 5)⟩,
             ⟨some (36, false), .binb 39 .neq (.t 37) (.t 38)⟩,
             ⟨none, .pick 40 (.t 36) (.c (.bool true)) (.t 39)⟩])
          (.drop [32, 33, 34, 35, 36, 37, 38, 39] (.cond (.t 40) (.seq (.reg [⟨none, .asg 2 (.c (.bool false))⟩])
            .ret)
           .skip)))
def c_laws_FnExactCoverPairs_k2 : ACode :=
  (.seq (.reg [⟨none, .mov 49 (.t 9)⟩,
                 ⟨none, .bin 50 .lss (.t 49) (.c (.int .i64 0))⟩,
                 ⟨none, .asg 51 (.t 50)⟩,
                 ⟨some (51, false), .mov 52 (.t 7)⟩,
                 ⟨some (51, false), .mov 53 (.t 4)⟩,
                 ⟨some (51, false), .call 54 f_laws_eqIntA2S [((.t 52), false), ((.t 53), false)]⟩,
                 ⟨some (51, false), .un 55 .not (.t 54)⟩,
                 ⟨none, .pick 56 (.t 51) (.c (.bool true)) (.t 55)⟩,
                 ⟨none, .asg 57 (.t 56)⟩,
                 ⟨some (57, false), .mov 58 (.t 8)⟩,
                 ⟨some (57, false), .mov 59 (.t 5)⟩,
                 ⟨some (57, false), .binb 60 .neq (.t 58) (.t 59)⟩,
                 ⟨none, .pick 61 (.t 57) (.c (.bool true)) (.t 60)⟩])
              (.drop [49, 50, 51, 52, 53, 54, 55, 56, 57, 58, 59, 60] (.cond (.t 61) (.seq (.reg [⟨none, .asg 2 (.c (.bool false))⟩])
                .ret)
               .skip)))
def c_laws_FnExactCoverPairs_k3 : ACode :=
  (.seq (.reg [⟨none, .mov 79 (.t 12)⟩,
                         ⟨none, .mov 80 (.t 4)⟩,
                         ⟨none, .call 81 f_laws_eqIntA2S [((.t 79), false), ((.t 80), false)]⟩,
                         ⟨none, .un 82 .not (.t 81)⟩,
                         ⟨none, .asg 83 (.t 82)⟩,
                         ⟨some (83, false), .mov 84 (.t 13)⟩,
                         ⟨some (83, false), .mov 85 (.t 5)⟩,
                         ⟨some (83, false), .binb 86 .neq (.t 84) (.t 85)⟩,
                         ⟨none, .pick 87 (.t 83) (.c (.bool true)) (.t 86)⟩])
                      (.drop [79, 80, 81, 82, 83, 84, 85, 86] (.cond (.t 87) (.seq (.reg [⟨none, .asg 2 (.c (.bool false))⟩])
                        .ret)
                       .skip)))
def c_laws_FnExactCoverPairs : ACode :=
  (.seq (.reg [⟨none, .box 1 (.t 0)⟩,
     ⟨none, .asg 2 (.c (.bool false))⟩])
  (.seq (.reg [⟨none, .asg 3 (.c (.int .i64 1048576))⟩])
   (.seq (.reg [⟨none, .ld 14 1 true (.t 1)⟩,
       ⟨none, .mov 15 (.t 3)⟩,
       ⟨none, .call 16 f_laws_szPoset [((.t 14), false), ((.t 15), false)]⟩,
       ⟨none, .asg 3 (.t 16)⟩])
    (.drop [14, 15, 16] (.seq (.seq (.reg [⟨none, .mov 17 (.t 3)⟩,
         ⟨none, .bin 18 .lss (.t 17) (.c (.int .i64 0))⟩])
      (.drop [17] (.cond (.t 18) (.seq (.reg [⟨none, .asg 2 (.c (.bool true))⟩])
        .ret)
       .skip)))
     (.drop [17, 18] (.seq (.reg [⟨none, .ld 20 1 true (.t 1)⟩,
         ⟨none, .call 21 f_laws_toPoset [((.t 20), false)]⟩,
         ⟨none, .call 22 f_spec_CoverPairs [((.t 21), false)]⟩,
         ⟨none, .asg 19 (.t 22)⟩,
         ⟨none, .ext 23 (.t 19) 0⟩,
         ⟨none, .ext 24 (.t 19) 1⟩,
         ⟨none, .asg 4 (.t 23)⟩,
         ⟨none, .asg 5 (.t 24)⟩])
      (.drop [20, 21, 22, 19, 23, 24] (.seq (.reg [⟨none, .ld 25 1 true (.t 1)⟩,
          ⟨none, .call 26 f_laws_toPoset [((.t 25), false)]⟩,
          ⟨none, .alc 6 (.agg [.nilsl 1])⟩,
          ⟨none, .st 1 (.t 6) (.t 26)⟩])
       (.drop [25, 26] (.seq (.reg [⟨none, .ld 28 1 true (.t 6)⟩,
           ⟨none, .call 29 f_impl_CoverPairs [((.t 28), false)]⟩,
           ⟨none, .asg 27 (.t 29)⟩,
           ⟨none, .ext 30 (.t 27) 0⟩,
           ⟨none, .ext 31 (.t 27) 1⟩,
           ⟨none, .asg 7 (.t 30)⟩,
           ⟨none, .asg 8 (.t 31)⟩])
        (.drop [28, 29, 27, 30, 31] (.seq (.cut c_laws_FnExactCoverPairs_k1)
         (.drop [32, 33, 34, 35, 36, 37, 38, 39, 40] (.seq (.seq (.dreg [(⟨none, .ld 41 1 true (.t 6)⟩, []),
              (⟨none, .ld 42 1 true (.t 1)⟩, [41]),
              (⟨none, .call 43 f_laws_toPoset [((.t 42), false)]⟩, [41])]
             [⟨none, .call 44 f_laws_eqPoset [((.t 41), false), ((.t 43), false)]⟩,
              ⟨none, .un 45 .not (.t 44)⟩])
           (.drop [41, 42, 43, 44] (.cond (.t 45) (.seq (.reg [⟨none, .asg 2 (.c (.bool false))⟩])
             .ret)
            .skip)))
          (.drop [41, 42, 43, 44, 45] (.seq (.reg [⟨none, .asg 9 (.c (.int .i64 1))⟩])
           (.seq (.reg [⟨none, .ld 46 1 true (.t 6)⟩,
               ⟨none, .mov 47 (.t 9)⟩,
               ⟨none, .call 48 f_laws_markPoset [((.t 46), true), ((.t 47), false)]⟩,
               ⟨none, .asg 9 (.t 48)⟩])
            (.drop [46, 47, 48] (.seq (.cut c_laws_FnExactCoverPairs_k2)
             (.drop [49, 50, 51, 52, 53, 54, 55, 56, 57, 58, 59, 60, 61] (.seq (.reg [⟨none, .asg 10 (.c (.int .i64 1))⟩])
              (.seq (.reg [⟨none, .mov 62 (.t 7)⟩,
                  ⟨none, .mov 63 (.t 10)⟩,
                  ⟨none, .call 64 f_laws_markIntA2S [((.t 62), true), ((.t 63), false)]⟩,
                  ⟨none, .asg 10 (.t 64)⟩])
               (.drop [62, 63, 64] (.seq (.reg [⟨none, .asg 11 (.c (.int .i64 1))⟩])
                (.seq (.reg [⟨none, .mov 65 (.t 7)⟩,
                    ⟨none, .mov 66 (.t 11)⟩,
                    ⟨none, .call 67 f_laws_heldIntA2S [((.t 65), false), ((.t 66), false)]⟩,
                    ⟨none, .asg 11 (.t 67)⟩])
                 (.drop [65, 66, 67] (.seq (.seq (.reg [⟨none, .mov 68 (.t 11)⟩,
                      ⟨none, .bin 69 .lss (.t 68) (.c (.int .i64 0))⟩])
                   (.drop [68] (.cond (.t 69) (.seq (.reg [⟨none, .asg 2 (.c (.bool false))⟩])
                     .ret)
                    .skip)))
                  (.drop [68, 69] (.seq (.seq (.reg [⟨none, .mov 70 (.t 11)⟩,
                       ⟨none, .mov 71 (.t 10)⟩,
                       ⟨none, .bin 72 .neq (.t 70) (.t 71)⟩])
                    (.drop [70, 71] (.cond (.t 72) (.seq (.reg [⟨none, .asg 2 (.c (.bool false))⟩])
                      .ret)
                     .skip)))
                   (.drop [70, 71, 72] (.seq (.reg [⟨none, .ld 74 1 true (.t 1)⟩,
                       ⟨none, .call 75 f_laws_toPoset [((.t 74), false)]⟩,
                       ⟨none, .call 76 f_impl_CoverPairs [((.t 75), false)]⟩,
                       ⟨none, .asg 73 (.t 76)⟩,
                       ⟨none, .ext 77 (.t 73) 0⟩,
                       ⟨none, .ext 78 (.t 73) 1⟩,
                       ⟨none, .asg 12 (.t 77)⟩,
                       ⟨none, .asg 13 (.t 78)⟩])
                    (.drop [74, 75, 76, 73, 77, 78] (.seq (.cut c_laws_FnExactCoverPairs_k3)
                     (.drop [79, 80, 81, 82, 83, 84, 85, 86, 87] (.seq (.reg [⟨none, .asg 11 (.c (.int .i64 1))⟩])
                      (.seq (.reg [⟨none, .mov 88 (.t 7)⟩,
                          ⟨none, .mov 89 (.t 11)⟩,
                          ⟨none, .call 90 f_laws_heldIntA2S [((.t 88), false), ((.t 89), false)]⟩,
                          ⟨none, .asg 11 (.t 90)⟩])
                       (.drop [88, 89, 90] (.seq (.seq (.reg [⟨none, .mov 91 (.t 11)⟩,
                            ⟨none, .bin 92 .lss (.t 91) (.c (.int .i64 0))⟩])
                         (.drop [91] (.cond (.t 92) (.seq (.reg [⟨none, .asg 2 (.c (.bool false))⟩])
                           .ret)
                          .skip)))
                        (.drop [91, 92] (.seq (.seq (.reg [⟨none, .mov 93 (.t 11)⟩,
                             ⟨none, .mov 94 (.t 10)⟩,
                             ⟨none, .bin 95 .neq (.t 93) (.t 94)⟩])
                          (.drop [93, 94] (.cond (.t 95) (.seq (.reg [⟨none, .asg 2 (.c (.bool false))⟩])
                            .ret)
                           .skip)))
                         (.drop [93, 94, 95] (.seq (.reg [⟨none, .asg 2 (.c (.bool true))⟩])
                          .ret)))))))))))))))))))))))))))))))))))))))))))
abbrev r_laws_FnExactCoverPairs : List RS := [.t 2]
theorem k_laws_FnExactCoverPairs : fitsF Try.prog f_laws_FnExactCoverPairs 96 c_laws_FnExactCoverPairs r_laws_FnExactCoverPairs = true := by kernel_rfl

/- loop.example/g01078/impl.JoinIrreducibles: [p=0, p=1] -/
def c_impl_JoinIrreducibles : ACode :=
  (.seq (.reg [⟨none, .box 1 (.t 0)⟩,
     ⟨none, .asg 2 (.c (.nilsl 1))⟩,
     ⟨none, .asg 3 (.c (.bool false))⟩])
  (.seq (.reg [⟨none, .ld 4 1 true (.t 1)⟩,
      ⟨none, .call 5 f_impl_listOf [((.t 4), false), ((.c (.clo f_impl_lattice_irreducibles [])), false)]⟩,
      ⟨none, .ext 6 (.t 5) 0⟩,
      ⟨none, .ext 7 (.t 5) 1⟩,
      ⟨none, .asg 2 (.t 6)⟩,
      ⟨none, .asg 3 (.t 7)⟩])
   (.drop [4, 5, 6, 7] .ret)))
abbrev r_impl_JoinIrreducibles : List RS := [.t 2, .t 3]
theorem k_impl_JoinIrreducibles : fitsF Try.prog f_impl_JoinIrreducibles 8 c_impl_JoinIrreducibles r_impl_JoinIrreducibles = true := by kernel_rfl

/- loop.example/g01078/impl.MeetIrreducibles: [p=0, p=1] -/
def c_impl_MeetIrreducibles : ACode :=
  (.seq (.reg [⟨none, .box 1 (.t 0)⟩,
     ⟨none, .asg 2 (.c (.nilsl 1))⟩,
     ⟨none, .asg 3 (.c (.bool false))⟩])
  (.seq (.reg [⟨none, .ld 4 1 true (.t 1)⟩,
      ⟨none, .call 5 f_impl_listOf [((.t 4), false), ((.c (.clo f_impl_MeetIrreducibles_1 [])), false)]⟩,
      ⟨none, .ext 6 (.t 5) 0⟩,
      ⟨none, .ext 7 (.t 5) 1⟩,
      ⟨none, .asg 2 (.t 6)⟩,
      ⟨none, .asg 3 (.t 7)⟩])
   (.drop [4, 5, 6, 7] .ret)))
abbrev r_impl_MeetIrreducibles : List RS := [.t 2, .t 3]
theorem k_impl_MeetIrreducibles : fitsF Try.prog f_impl_MeetIrreducibles 8 c_impl_MeetIrreducibles r_impl_MeetIrreducibles = true := by kernel_rfl

/- loop.example/g01078/laws.FnExactJoinIrreducibles: [aP=0, aP=1, left=3, w0=4, w1=5, x0=6, g0=7, g1=8, k=9, m=10, q=11, h0=12, h1=13] -/
def c_laws_FnExactJoinIrreducibles_k1 : ACode :=
  (.seq (.reg [⟨none, .mov 32 (.t 7)⟩,
             ⟨none, .mov 33 (.t 4)⟩,
             ⟨none, .call 34 f_laws_eqIntS [((.t 32), false), ((.t 33), false)]⟩,
             ⟨none, .un 35 .not (.t 34)⟩,
             ⟨none, .asg 36 (.t 35)⟩,
             ⟨some (36, false), .mov 37 (.t 8)⟩,
             ⟨some (36, false), .mov 38 (.t 5)⟩,
             ⟨some (36, false), .binb 39 .neq (.t 37) (.t 38)⟩,
             ⟨none, .pick 40 (.t 36) (.c (.bool true)) (.t 39)⟩])
          (.drop [32, 33, 34, 35, 36, 37, 38, 39] (.cond (.t 40) (.seq (.reg [⟨none, .asg 2 (.c (.bool false))⟩])
            .ret)
           .skip)))
def c_laws_FnExactJoinIrreducibles_k2 : ACode :=
  (.seq (.reg [⟨none, .mov 49 (.t 9)⟩,
                 ⟨none, .bin 50 .lss (.t 49) (.c (.int .i64 0))⟩,
                 ⟨none, .asg 51 (.t 50)⟩,
                 ⟨some (51, false), .mov 52 (.t 7)⟩,
                 ⟨some (51, false), .mov 53 (.t 4)⟩,
                 ⟨some (51, false), .call 54 f_laws_eqIntS [((.t 52), false), ((.t 53), false)]⟩,
                 ⟨some (51, false), .un 55 .not (.t 54)⟩,
                 ⟨none, .pick 56 (.t 51) (.c (.bool true)) (.t 55)⟩,
                 ⟨none, .asg 57 (.t 56)⟩,
                 ⟨some (57, false), .mov 58 (.t 8)⟩,
                 ⟨some (57, false), .mov 59 (.t 5)⟩,
                 ⟨some (57, false), .binb 60 .neq (.t 58) (.t 59)⟩,
                 ⟨none, .pick 61 (.t 57) (.c (.bool true)) (.t 60)⟩])
              (.drop [49, 50, 51, 52, 53, 54, 55, 56, 57, 58, 59, 60] (.cond (.t 61) (.seq (.reg [⟨none, .asg 2 (.c (.bool false))⟩])
                .ret)
               .skip)))
def c_laws_FnExactJoinIrreducibles_k3 : ACode :=
  (.seq (.reg [⟨none, .mov 79 (.t 12)⟩,
                         ⟨none, .mov 80 (.t 4)⟩,
                         ⟨none, .call 81 f_laws_eqIntS [((.t 79), false), ((.t 80), false)]⟩,
                         ⟨none, .un 82 .not (.t 81)⟩,
                         ⟨none, .asg 83 (.t 82)⟩,
                         ⟨some (83, false), .mov 84 (.t 13)⟩,
                         ⟨some (83, false), .mov 85 (.t 5)⟩,
                         ⟨some (83, false), .binb 86 .neq (.t 84) (.t 85)⟩,
                         ⟨none, .pick 87 (.t 83) (.c (.bool true)) (.t 86)⟩])
                      (.drop [79, 80, 81, 82, 83, 84, 85, 86] (.cond (.t 87) (.seq (.reg [⟨none, .asg 2 (.c (.bool false))⟩])
                        .ret)
                       .skip)))
def c_laws_FnExactJoinIrreducibles : ACode :=
  (.seq (.reg [⟨none, .box 1 (.t 0)⟩,
     ⟨none, .asg 2 (.c (.bool false))⟩])
  (.seq (.reg [⟨none, .asg 3 (.c (.int .i64 1048576))⟩])
   (.seq (.reg [⟨none, .ld 14 1 true (.t 1)⟩,
       ⟨none, .mov 15 (.t 3)⟩,
       ⟨none, .call 16 f_laws_szPoset [((.t 14), false), ((.t 15), false)]⟩,
       ⟨none, .asg 3 (.t 16)⟩])
    (.drop [14, 15, 16] (.seq (.seq (.reg [⟨none, .mov 17 (.t 3)⟩,
         ⟨none, .bin 18 .lss (.t 17) (.c (.int .i64 0))⟩])
      (.drop [17] (.cond (.t 18) (.seq (.reg [⟨none, .asg 2 (.c (.bool true))⟩])
        .ret)
       .skip)))
     (.drop [17, 18] (.seq (.reg [⟨none, .ld 20 1 true (.t 1)⟩,
         ⟨none, .call 21 f_laws_toPoset [((.t 20), false)]⟩,
         ⟨none, .call 22 f_spec_JoinIrreducibles [((.t 21), false)]⟩,
         ⟨none, .asg 19 (.t 22)⟩,
         ⟨none, .ext 23 (.t 19) 0⟩,
         ⟨none, .ext 24 (.t 19) 1⟩,
         ⟨none, .asg 4 (.t 23)⟩,
         ⟨none, .asg 5 (.t 24)⟩])
      (.drop [20, 21, 22, 19, 23, 24] (.seq (.reg [⟨none, .ld 25 1 true (.t 1)⟩,
          ⟨none, .call 26 f_laws_toPoset [((.t 25), false)]⟩,
          ⟨none, .alc 6 (.agg [.nilsl 1])⟩,
          ⟨none, .st 1 (.t 6) (.t 26)⟩])
       (.drop [25, 26] (.seq (.reg [⟨none, .ld 28 1 true (.t 6)⟩,
           ⟨none, .call 29 f_impl_JoinIrreducibles [((.t 28), false)]⟩,
           ⟨none, .asg 27 (.t 29)⟩,
           ⟨none, .ext 30 (.t 27) 0⟩,
           ⟨none, .ext 31 (.t 27) 1⟩,
           ⟨none, .asg 7 (.t 30)⟩,
           ⟨none, .asg 8 (.t 31)⟩])
        (.drop [28, 29, 27, 30, 31] (.seq (.cut c_laws_FnExactJoinIrreducibles_k1)
         (.drop [32, 33, 34, 35, 36, 37, 38, 39, 40] (.seq (.seq (.dreg [(⟨none, .ld 41 1 true (.t 6)⟩, []),
              (⟨none, .ld 42 1 true (.t 1)⟩, [41]),
              (⟨none, .call 43 f_laws_toPoset [((.t 42), false)]⟩, [41])]
             [⟨none, .call 44 f_laws_eqPoset [((.t 41), false), ((.t 43), false)]⟩,
              ⟨none, .un 45 .not (.t 44)⟩])
           (.drop [41, 42, 43, 44] (.cond (.t 45) (.seq (.reg [⟨none, .asg 2 (.c (.bool false))⟩])
             .ret)
            .skip)))
          (.drop [41, 42, 43, 44, 45] (.seq (.reg [⟨none, .asg 9 (.c (.int .i64 1))⟩])
           (.seq (.reg [⟨none, .ld 46 1 true (.t 6)⟩,
               ⟨none, .mov 47 (.t 9)⟩,
               ⟨none, .call 48 f_laws_markPoset [((.t 46), true), ((.t 47), false)]⟩,
               ⟨none, .asg 9 (.t 48)⟩])
            (.drop [46, 47, 48] (.seq (.cut c_laws_FnExactJoinIrreducibles_k2)
             (.drop [49, 50, 51, 52, 53, 54, 55, 56, 57, 58, 59, 60, 61] (.seq (.reg [⟨none, .asg 10 (.c (.int .i64 1))⟩])
              (.seq (.reg [⟨none, .mov 62 (.t 7)⟩,
                  ⟨none, .mov 63 (.t 10)⟩,
                  ⟨none, .call 64 f_laws_markIntS [((.t 62), true), ((.t 63), false)]⟩,
                  ⟨none, .asg 10 (.t 64)⟩])
               (.drop [62, 63, 64] (.seq (.reg [⟨none, .asg 11 (.c (.int .i64 1))⟩])
                (.seq (.reg [⟨none, .mov 65 (.t 7)⟩,
                    ⟨none, .mov 66 (.t 11)⟩,
                    ⟨none, .call 67 f_laws_heldIntS [((.t 65), false), ((.t 66), false)]⟩,
                    ⟨none, .asg 11 (.t 67)⟩])
                 (.drop [65, 66, 67] (.seq (.seq (.reg [⟨none, .mov 68 (.t 11)⟩,
                      ⟨none, .bin 69 .lss (.t 68) (.c (.int .i64 0))⟩])
                   (.drop [68] (.cond (.t 69) (.seq (.reg [⟨none, .asg 2 (.c (.bool false))⟩])
                     .ret)
                    .skip)))
                  (.drop [68, 69] (.seq (.seq (.reg [⟨none, .mov 70 (.t 11)⟩,
                       ⟨none, .mov 71 (.t 10)⟩,
                       ⟨none, .bin 72 .neq (.t 70) (.t 71)⟩])
                    (.drop [70, 71] (.cond (.t 72) (.seq (.reg [⟨none, .asg 2 (.c (.bool false))⟩])
                      .ret)
                     .skip)))
                   (.drop [70, 71, 72] (.seq (.reg [⟨none, .ld 74 1 true (.t 1)⟩,
                       ⟨none, .call 75 f_laws_toPoset [((.t 74), false)]⟩,
                       ⟨none, .call 76 f_impl_JoinIrreducibles [((.t 75), false)]⟩,
                       ⟨none, .asg 73 (.t 76)⟩,
                       ⟨none, .ext 77 (.t 73) 0⟩,
                       ⟨none, .ext 78 (.t 73) 1⟩,
                       ⟨none, .asg 12 (.t 77)⟩,
                       ⟨none, .asg 13 (.t 78)⟩])
                    (.drop [74, 75, 76, 73, 77, 78] (.seq (.cut c_laws_FnExactJoinIrreducibles_k3)
                     (.drop [79, 80, 81, 82, 83, 84, 85, 86, 87] (.seq (.reg [⟨none, .asg 11 (.c (.int .i64 1))⟩])
                      (.seq (.reg [⟨none, .mov 88 (.t 7)⟩,
                          ⟨none, .mov 89 (.t 11)⟩,
                          ⟨none, .call 90 f_laws_heldIntS [((.t 88), false), ((.t 89), false)]⟩,
                          ⟨none, .asg 11 (.t 90)⟩])
                       (.drop [88, 89, 90] (.seq (.seq (.reg [⟨none, .mov 91 (.t 11)⟩,
                            ⟨none, .bin 92 .lss (.t 91) (.c (.int .i64 0))⟩])
                         (.drop [91] (.cond (.t 92) (.seq (.reg [⟨none, .asg 2 (.c (.bool false))⟩])
                           .ret)
                          .skip)))
                        (.drop [91, 92] (.seq (.seq (.reg [⟨none, .mov 93 (.t 11)⟩,
                             ⟨none, .mov 94 (.t 10)⟩,
                             ⟨none, .bin 95 .neq (.t 93) (.t 94)⟩])
                          (.drop [93, 94] (.cond (.t 95) (.seq (.reg [⟨none, .asg 2 (.c (.bool false))⟩])
                            .ret)
                           .skip)))
                         (.drop [93, 94, 95] (.seq (.reg [⟨none, .asg 2 (.c (.bool true))⟩])
                          .ret)))))))))))))))))))))))))))))))))))))))))))
abbrev r_laws_FnExactJoinIrreducibles : List RS := [.t 2]
theorem k_laws_FnExactJoinIrreducibles : fitsF Try.prog f_laws_FnExactJoinIrreducibles 96 c_laws_FnExactJoinIrreducibles r_laws_FnExactJoinIrreducibles = true := by kernel_rfl

/- loop.example/g01078/laws.FnExactMeetIrreducibles: [aP=0, aP=1, left=3, w0=4, w1=5, x0=6, g0=7, g1=8, k=9, m=10, q=11, h0=12, h1=13] -/
def c_laws_FnExactMeetIrreducibles_k1 : ACode :=
  (.seq (.reg [⟨none, .mov 32 (.t 7)⟩,
             ⟨none, .mov 33 (.t 4)⟩,
             ⟨none, .call 34 f_laws_eqIntS [((.t 32), false), ((.t 33), false)]⟩,
             ⟨none, .un 35 .not (.t 34)⟩,
             ⟨none, .asg 36 (.t 35)⟩,
             ⟨some (36, false), .mov 37 (.t 8)⟩,
             ⟨some (36, false), .mov 38 (.t 5)⟩,
             ⟨some (36, false), .binb 39 .neq (.t 37) (.t 38)⟩,
             ⟨none, .pick 40 (.t 36) (.c (.bool true)) (.t 39)⟩])
          (.drop [32, 33, 34, 35, 36, 37, 38, 39] (.cond (.t 40) (.seq (.reg [⟨none, .asg 2 (.c (.bool false))⟩])
            .ret)
           .skip)))
def c_laws_FnExactMeetIrreducibles_k2 : ACode :=
  (.seq (.reg [⟨none, .mov 49 (.t 9)⟩,
                 ⟨none, .bin 50 .lss (.t 49) (.c (.int .i64 0))⟩,
                 ⟨none, .asg 51 (.t 50)⟩,
                 ⟨some (51, false), .mov 52 (.t 7)⟩,
                 ⟨some (51, false), .mov 53 (.t 4)⟩,
                 ⟨some (51, false), .call 54 f_laws_eqIntS [((.t 52), false), ((.t 53), false)]⟩,
                 ⟨some (51, false), .un 55 .not (.t 54)⟩,
                 ⟨none, .pick 56 (.t 51) (.c (.bool true)) (.t 55)⟩,
                 ⟨none, .asg 57 (.t 56)⟩,
                 ⟨some (57, false), .mov 58 (.t 8)⟩,
                 ⟨some (57, false), .mov 59 (.t 5)⟩,
                 ⟨some (57, false), .binb 60 .neq (.t 58) (.t 59)⟩,
                 ⟨none, .pick 61 (.t 57) (.c (.bool true)) (.t 60)⟩])
              (.drop [49, 50, 51, 52, 53, 54, 55, 56, 57, 58, 59, 60] (.cond (.t 61) (.seq (.reg [⟨none, .asg 2 (.c (.bool false))⟩])
                .ret)
               .skip)))
def c_laws_FnExactMeetIrreducibles_k3 : ACode :=
  (.seq (.reg [⟨none, .mov 79 (.t 12)⟩,
                         ⟨none, .mov 80 (.t 4)⟩,
                         ⟨none, .call 81 f_laws_eqIntS [((.t 79), false), ((.t 80), false)]⟩,
                         ⟨none, .un 82 .not (.t 81)⟩,
                         ⟨none, .asg 83 (.t 82)⟩,
                         ⟨some (83, false), .mov 84 (.t 13)⟩,
                         ⟨some (83, false), .mov 85 (.t 5)⟩,
                         ⟨some (83, false), .binb 86 .neq (.t 84) (.t 85)⟩,
                         ⟨none, .pick 87 (.t 83) (.c (.bool true)) (.t 86)⟩])
                      (.drop [79, 80, 81, 82, 83, 84, 85, 86] (.cond (.t 87) (.seq (.reg [⟨none, .asg 2 (.c (.bool false))⟩])
                        .ret)
                       .skip)))
def c_laws_FnExactMeetIrreducibles : ACode :=
  (.seq (.reg [⟨none, .box 1 (.t 0)⟩,
     ⟨none, .asg 2 (.c (.bool false))⟩])
  (.seq (.reg [⟨none, .asg 3 (.c (.int .i64 1048576))⟩])
   (.seq (.reg [⟨none, .ld 14 1 true (.t 1)⟩,
       ⟨none, .mov 15 (.t 3)⟩,
       ⟨none, .call 16 f_laws_szPoset [((.t 14), false), ((.t 15), false)]⟩,
       ⟨none, .asg 3 (.t 16)⟩])
    (.drop [14, 15, 16] (.seq (.seq (.reg [⟨none, .mov 17 (.t 3)⟩,
         ⟨none, .bin 18 .lss (.t 17) (.c (.int .i64 0))⟩])
      (.drop [17] (.cond (.t 18) (.seq (.reg [⟨none, .asg 2 (.c (.bool true))⟩])
        .ret)
       .skip)))
     (.drop [17, 18] (.seq (.reg [⟨none, .ld 20 1 true (.t 1)⟩,
         ⟨none, .call 21 f_laws_toPoset [((.t 20), false)]⟩,
         ⟨none, .call 22 f_spec_MeetIrreducibles [((.t 21), false)]⟩,
         ⟨none, .asg 19 (.t 22)⟩,
         ⟨none, .ext 23 (.t 19) 0⟩,
         ⟨none, .ext 24 (.t 19) 1⟩,
         ⟨none, .asg 4 (.t 23)⟩,
         ⟨none, .asg 5 (.t 24)⟩])
      (.drop [20, 21, 22, 19, 23, 24] (.seq (.reg [⟨none, .ld 25 1 true (.t 1)⟩,
          ⟨none, .call 26 f_laws_toPoset [((.t 25), false)]⟩,
          ⟨none, .alc 6 (.agg [.nilsl 1])⟩,
          ⟨none, .st 1 (.t 6) (.t 26)⟩])
       (.drop [25, 26] (.seq (.reg [⟨none, .ld 28 1 true (.t 6)⟩,
           ⟨none, .call 29 f_impl_MeetIrreducibles [((.t 28), false)]⟩,
           ⟨none, .asg 27 (.t 29)⟩,
           ⟨none, .ext 30 (.t 27) 0⟩,
           ⟨none, .ext 31 (.t 27) 1⟩,
           ⟨none, .asg 7 (.t 30)⟩,
           ⟨none, .asg 8 (.t 31)⟩])
        (.drop [28, 29, 27, 30, 31] (.seq (.cut c_laws_FnExactMeetIrreducibles_k1)
         (.drop [32, 33, 34, 35, 36, 37, 38, 39, 40] (.seq (.seq (.dreg [(⟨none, .ld 41 1 true (.t 6)⟩, []),
              (⟨none, .ld 42 1 true (.t 1)⟩, [41]),
              (⟨none, .call 43 f_laws_toPoset [((.t 42), false)]⟩, [41])]
             [⟨none, .call 44 f_laws_eqPoset [((.t 41), false), ((.t 43), false)]⟩,
              ⟨none, .un 45 .not (.t 44)⟩])
           (.drop [41, 42, 43, 44] (.cond (.t 45) (.seq (.reg [⟨none, .asg 2 (.c (.bool false))⟩])
             .ret)
            .skip)))
          (.drop [41, 42, 43, 44, 45] (.seq (.reg [⟨none, .asg 9 (.c (.int .i64 1))⟩])
           (.seq (.reg [⟨none, .ld 46 1 true (.t 6)⟩,
               ⟨none, .mov 47 (.t 9)⟩,
               ⟨none, .call 48 f_laws_markPoset [((.t 46), true), ((.t 47), false)]⟩,
               ⟨none, .asg 9 (.t 48)⟩])
            (.drop [46, 47, 48] (.seq (.cut c_laws_FnExactMeetIrreducibles_k2)
             (.drop [49, 50, 51, 52, 53, 54, 55, 56, 57, 58, 59, 60, 61] (.seq (.reg [⟨none, .asg 10 (.c (.int .i64 1))⟩])
              (.seq (.reg [⟨none, .mov 62 (.t 7)⟩,
                  ⟨none, .mov 63 (.t 10)⟩,
                  ⟨none, .call 64 f_laws_markIntS [((.t 62), true), ((.t 63), false)]⟩,
                  ⟨none, .asg 10 (.t 64)⟩])
               (.drop [62, 63, 64] (.seq (.reg [⟨none, .asg 11 (.c (.int .i64 1))⟩])
                (.seq (.reg [⟨none, .mov 65 (.t 7)⟩,
                    ⟨none, .mov 66 (.t 11)⟩,
                    ⟨none, .call 67 f_laws_heldIntS [((.t 65), false), ((.t 66), false)]⟩,
                    ⟨none, .asg 11 (.t 67)⟩])
                 (.drop [65, 66, 67] (.seq (.seq (.reg [⟨none, .mov 68 (.t 11)⟩,
                      ⟨none, .bin 69 .lss (.t 68) (.c (.int .i64 0))⟩])
                   (.drop [68] (.cond (.t 69) (.seq (.reg [⟨none, .asg 2 (.c (.bool false))⟩])
                     .ret)
                    .skip)))
                  (.drop [68, 69] (.seq (.seq (.reg [⟨none, .mov 70 (.t 11)⟩,
                       ⟨none, .mov 71 (.t 10)⟩,
                       ⟨none, .bin 72 .neq (.t 70) (.t 71)⟩])
                    (.drop [70, 71] (.cond (.t 72) (.seq (.reg [⟨none, .asg 2 (.c (.bool false))⟩])
                      .ret)
                     .skip)))
                   (.drop [70, 71, 72] (.seq (.reg [⟨none, .ld 74 1 true (.t 1)⟩,
                       ⟨none, .call 75 f_laws_toPoset [((.t 74), false)]⟩,
                       ⟨none, .call 76 f_impl_MeetIrreducibles [((.t 75), false)]⟩,
                       ⟨none, .asg 73 (.t 76)⟩,
                       ⟨none, .ext 77 (.t 73) 0⟩,
                       ⟨none, .ext 78 (.t 73) 1⟩,
                       ⟨none, .asg 12 (.t 77)⟩,
                       ⟨none, .asg 13 (.t 78)⟩])
                    (.drop [74, 75, 76, 73, 77, 78] (.seq (.cut c_laws_FnExactMeetIrreducibles_k3)
                     (.drop [79, 80, 81, 82, 83, 84, 85, 86, 87] (.seq (.reg [⟨none, .asg 11 (.c (.int .i64 1))⟩])
                      (.seq (.reg [⟨none, .mov 88 (.t 7)⟩,
                          ⟨none, .mov 89 (.t 11)⟩,
                          ⟨none, .call 90 f_laws_heldIntS [((.t 88), false), ((.t 89), false)]⟩,
                          ⟨none, .asg 11 (.t 90)⟩])
                       (.drop [88, 89, 90] (.seq (.seq (.reg [⟨none, .mov 91 (.t 11)⟩,
                            ⟨none, .bin 92 .lss (.t 91) (.c (.int .i64 0))⟩])
                         (.drop [91] (.cond (.t 92) (.seq (.reg [⟨none, .asg 2 (.c (.bool false))⟩])
                           .ret)
                          .skip)))
                        (.drop [91, 92] (.seq (.seq (.reg [⟨none, .mov 93 (.t 11)⟩,
                             ⟨none, .mov 94 (.t 10)⟩,
                             ⟨none, .bin 95 .neq (.t 93) (.t 94)⟩])
                          (.drop [93, 94] (.cond (.t 95) (.seq (.reg [⟨none, .asg 2 (.c (.bool false))⟩])
                            .ret)
                           .skip)))
                         (.drop [93, 94, 95] (.seq (.reg [⟨none, .asg 2 (.c (.bool true))⟩])
                          .ret)))))))))))))))))))))))))))))))))))))))))))
abbrev r_laws_FnExactMeetIrreducibles : List RS := [.t 2]
theorem k_laws_FnExactMeetIrreducibles : fitsF Try.prog f_laws_FnExactMeetIrreducibles 96 c_laws_FnExactMeetIrreducibles r_laws_FnExactMeetIrreducibles = true := by kernel_rfl

end Go.Proofs.Ythcnmahjhahafab.Ax
