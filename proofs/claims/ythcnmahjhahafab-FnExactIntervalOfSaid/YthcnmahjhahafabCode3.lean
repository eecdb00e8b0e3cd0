/-
  The small code of the functions, written by program; that the program's code is this one, the kernel looks at.
-/
import Derived.Test.YthcnmahjhahafabAx3
import Derived.Test.YthcnmahjhahafabProg
import Derived.KernelRfl
import Derived.Test.YthcnmahjhahafabNum
namespace Go.Proofs.Ythcnmahjhahafab.Ax
open Go
set_option maxRecDepth 100000

/- loop.example/g01078/spec.l23Pairs: [p=0, p=1, out=3, x=4, y=5] -/
def c_spec_l23Pairs_l1 : ACode :=
  (.seq (.seq (.reg [⟨none, .mov 14 (.t 5)⟩,
      ⟨none, .fadr 15 0 (.t 1)⟩,
      ⟨none, .ld 16 1 false (.t 15)⟩,
      ⟨none, .len 17 (.t 16)⟩,
      ⟨none, .bin 18 .lss (.t 14) (.t 17)⟩])
   (.drop [14, 15, 16, 17] (.cond (.t 18) .skip
    (.exit 2))))
  (.drop [14, 15, 16, 17, 18] (.seq (.block 3 (.seq (.reg [⟨none, .ld 21 1 true (.t 1)⟩,
        ⟨none, .mov 22 (.t 4)⟩,
        ⟨none, .mov 23 (.t 5)⟩,
        ⟨none, .call 24 f_spec_l23Covers [((.t 21), false), ((.t 22), false), ((.t 23), false)]⟩])
     (.drop [21, 22, 23] (.cond (.t 24) (.reg [⟨none, .mov 25 (.t 3)⟩,
         ⟨none, .mov 26 (.t 4)⟩,
         ⟨none, .mov 27 (.t 5)⟩,
         ⟨none, .bld 28 [.int .i64 0, .int .i64 0] [(0, 1, (.t 26)), (1, 1, (.t 27))]⟩,
         ⟨none, .bsl 29 2 [(.t 28)]⟩,
         ⟨none, .app 30 2 (.t 25) (.t 29)⟩,
         ⟨none, .asg 3 (.t 30)⟩])
      .skip))))
   (.drop [21, 22, 23, 24, 25, 26, 27, 28, 29, 30] (.reg [⟨none, .mov 19 (.t 5)⟩,
      ⟨none, .bin 20 .add (.t 19) (.c (.int .i64 1))⟩,
      ⟨none, .asg 5 (.t 20)⟩])))))
def c_spec_l23Pairs_l2 : ACode :=
  (.seq (.seq (.reg [⟨none, .mov 7 (.t 4)⟩,
      ⟨none, .fadr 8 0 (.t 1)⟩,
      ⟨none, .ld 9 1 false (.t 8)⟩,
      ⟨none, .len 10 (.t 9)⟩,
      ⟨none, .bin 11 .lss (.t 7) (.t 10)⟩])
   (.drop [7, 8, 9, 10] (.cond (.t 11) .skip
    (.exit 0))))
  (.drop [7, 8, 9, 10, 11] (.seq (.block 1 (.seq (.reg [⟨none, .asg 5 (.c (.int .i64 0))⟩])
     (.block 2 (.loop c_spec_l23Pairs_l1))))
   (.drop [5, 14, 15, 16, 17, 18, 21, 22, 23, 24, 25, 26, 27, 28, 29, 30, 19, 20] (.reg [⟨none, .mov 12 (.t 4)⟩,
      ⟨none, .bin 13 .add (.t 12) (.c (.int .i64 1))⟩,
      ⟨none, .asg 4 (.t 13)⟩])))))
def c_spec_l23Pairs : ACode :=
  (.seq (.reg [⟨none, .box 1 (.t 0)⟩,
     ⟨none, .asg 2 (.c (.nilsl 2))⟩])
  (.seq (.reg [⟨none, .bsl 6 2 []⟩,
      ⟨none, .asg 3 (.t 6)⟩])
   (.drop [6] (.seq (.seq (.reg [⟨none, .asg 4 (.c (.int .i64 0))⟩])
     (.block 0 (.loop c_spec_l23Pairs_l2)))
    (.drop [4, 7, 8, 9, 10, 11, 5, 14, 15, 16, 17, 18, 21, 22, 23, 24, 25, 26, 27, 28, 29, 30, 19, 20, 12, 13] (.seq (.reg [⟨none, .mov 31 (.t 3)⟩,
        ⟨none, .asg 2 (.t 31)⟩])
     (.drop [31] .ret)))))))
abbrev r_spec_l23Pairs : List RS := [.t 2]
theorem k_spec_l23Pairs : fitsF Try.prog f_spec_l23Pairs 32 c_spec_l23Pairs r_spec_l23Pairs = true := by kernel_rfl

/- loop.example/g01078/spec.l24Two: [p=0, x=1, y=2, p=3, x=4, y=5] -/
def c_spec_l24Two : ACode :=
  (.seq (.reg [⟨none, .box 3 (.t 0)⟩,
     ⟨none, .asg 6 (.c (.bool false))⟩])
  (.seq (.reg [⟨none, .ld 7 1 true (.t 3)⟩,
      ⟨none, .call 8 f_spec_l24Good [((.t 7), false)]⟩,
      ⟨none, .asg 9 (.t 8)⟩,
      ⟨some (9, true), .ld 10 1 true (.t 3)⟩,
      ⟨some (9, true), .mov 11 (.t 1)⟩,
      ⟨some (9, true), .call 12 f_spec_l23Is [((.t 10), false), ((.t 11), false)]⟩,
      ⟨none, .pick 13 (.t 9) (.t 12) (.c (.bool false))⟩,
      ⟨none, .asg 14 (.t 13)⟩,
      ⟨some (14, true), .ld 15 1 true (.t 3)⟩,
      ⟨some (14, true), .mov 16 (.t 2)⟩,
      ⟨some (14, true), .call 17 f_spec_l23Is [((.t 15), false), ((.t 16), false)]⟩,
      ⟨none, .pick 18 (.t 14) (.t 17) (.c (.bool false))⟩,
      ⟨none, .asg 6 (.t 18)⟩])
   (.drop [7, 8, 9, 10, 11, 12, 13, 14, 15, 16, 17, 18] .ret)))
abbrev r_spec_l24Two : List RS := [.t 6]
theorem k_spec_l24Two : fitsF Try.prog f_spec_l24Two 19 c_spec_l24Two r_spec_l24Two = true := by kernel_rfl

/- loop.example/g01078/spec.l24Some: [p=0, some=1, p=2, some=3] -/
def c_spec_l24Some : ACode :=
  (.seq (.reg [⟨none, .box 2 (.t 0)⟩,
     ⟨none, .asg 4 (.c (.bool false))⟩])
  (.seq (.reg [⟨none, .ld 5 1 true (.t 2)⟩,
      ⟨none, .call 6 f_spec_l24Good [((.t 5), false)]⟩,
      ⟨none, .asg 7 (.t 6)⟩,
      ⟨some (7, true), .mov 8 (.t 1)⟩,
      ⟨some (7, true), .len 9 (.t 8)⟩,
      ⟨some (7, true), .bin 10 .leq (.t 9) (.c (.int .i64 20))⟩,
      ⟨none, .pick 11 (.t 7) (.t 10) (.c (.bool false))⟩,
      ⟨none, .asg 12 (.t 11)⟩,
      ⟨some (12, true), .fadr 13 0 (.t 2)⟩,
      ⟨some (12, true), .ld 14 1 false (.t 13)⟩,
      ⟨some (12, true), .len 15 (.t 14)⟩,
      ⟨some (12, true), .mov 16 (.t 1)⟩,
      ⟨some (12, true), .call 17 f_spec_l2Elements [((.t 15), false), ((.t 16), false)]⟩,
      ⟨none, .pick 18 (.t 12) (.t 17) (.c (.bool false))⟩,
      ⟨none, .asg 4 (.t 18)⟩])
   (.drop [5, 6, 7, 8, 9, 10, 11, 12, 13, 14, 15, 16, 17, 18] .ret)))
abbrev r_spec_l24Some : List RS := [.t 4]
theorem k_spec_l24Some : fitsF Try.prog f_spec_l24Some 19 c_spec_l24Some r_spec_l24Some = true := by kernel_rfl

/- loop.example/g01078/spec.l23Followers: [p=0, from=1, taken=2, p=3, from=4, taken=5, owner=7, y=8, n=9, x=10] -/
def c_spec_l23Followers_l1 : ACode :=
  (.seq (.seq (.reg [⟨none, .mov 12 (.t 8)⟩,
      ⟨none, .fadr 13 0 (.t 3)⟩,
      ⟨none, .ld 14 1 false (.t 13)⟩,
      ⟨none, .len 15 (.t 14)⟩,
      ⟨none, .bin 16 .lss (.t 12) (.t 15)⟩])
   (.drop [12, 13, 14, 15] (.cond (.t 16) .skip
    (.exit 0))))
  (.drop [12, 13, 14, 15, 16] (.seq (.block 1 (.reg [⟨none, .mov 19 (.t 7)⟩,
       ⟨none, .bsl 20 1 [(.c (.int .i64 (-1)))]⟩,
       ⟨none, .app 21 1 (.t 19) (.t 20)⟩,
       ⟨none, .asg 7 (.t 21)⟩]))
   (.drop [19, 20, 21] (.reg [⟨none, .mov 17 (.t 8)⟩,
      ⟨none, .bin 18 .add (.t 17) (.c (.int .i64 1))⟩,
      ⟨none, .asg 8 (.t 18)⟩])))))
def c_spec_l23Followers_l2 : ACode :=
  (.seq (.seq (.reg [⟨none, .mov 23 (.t 10)⟩,
      ⟨none, .fadr 24 0 (.t 3)⟩,
      ⟨none, .ld 25 1 false (.t 24)⟩,
      ⟨none, .len 26 (.t 25)⟩,
      ⟨none, .bin 27 .lss (.t 23) (.t 26)⟩])
   (.drop [23, 24, 25, 26] (.cond (.t 27) .skip
    (.exit 2))))
  (.drop [23, 24, 25, 26, 27] (.seq (.block 3 (.seq (.dreg [(⟨none, .ld 30 1 true (.t 3)⟩, []),
        (⟨none, .mov 31 (.t 10)⟩, [30]),
        (⟨none, .mov 32 (.t 2)⟩, [30, 31]),
        (⟨none, .fadr 33 0 (.t 3)⟩, [30, 31, 32]),
        (⟨none, .ld 34 1 false (.t 33)⟩, [30, 31, 32]),
        (⟨none, .len 35 (.t 34)⟩, [30, 31, 32]),
        (⟨none, .mk 36 1 (.bool false) (.t 35)⟩, [30, 31, 32]),
        (⟨none, .mov 37 (.t 7)⟩, [30, 31, 32, 33, 34, 35, 36])]
       [⟨none, .call 38 f_spec_l23Match [((.t 30), false), ((.t 31), false), ((.t 32), true), ((.t 36), true), ((.t 37), false)]⟩])
     (.drop [30, 31, 32, 33, 34, 35, 36, 37] (.cond (.t 38) (.reg [⟨none, .mov 39 (.t 9)⟩,
         ⟨none, .bin 40 .add (.t 39) (.c (.int .i64 1))⟩,
         ⟨none, .asg 9 (.t 40)⟩])
      .skip))))
   (.drop [30, 31, 32, 33, 34, 35, 36, 37, 38, 39, 40] (.reg [⟨none, .mov 28 (.t 10)⟩,
      ⟨none, .bin 29 .add (.t 28) (.c (.int .i64 1))⟩,
      ⟨none, .asg 10 (.t 29)⟩])))))
def c_spec_l23Followers : ACode :=
  (.seq (.reg [⟨none, .box 3 (.t 0)⟩,
     ⟨none, .asg 6 (.c (.int .i64 0))⟩])
  (.seq (.reg [⟨none, .bsl 11 1 []⟩,
      ⟨none, .asg 7 (.t 11)⟩])
   (.drop [11] (.seq (.seq (.reg [⟨none, .asg 8 (.c (.int .i64 0))⟩])
     (.block 0 (.loop c_spec_l23Followers_l1)))
    (.drop [8, 12, 13, 14, 15, 16, 19, 20, 21, 17, 18] (.seq (.reg [⟨none, .asg 9 (.c (.int .i64 0))⟩])
     (.seq (.seq (.reg [⟨none, .mov 22 (.t 1)⟩,
          ⟨none, .asg 10 (.t 22)⟩])
       (.drop [22] (.block 2 (.loop c_spec_l23Followers_l2))))
      (.drop [22, 10, 23, 24, 25, 26, 27, 30, 31, 32, 33, 34, 35, 36, 37, 38, 39, 40, 28, 29] (.seq (.reg [⟨none, .mov 41 (.t 9)⟩,
          ⟨none, .asg 6 (.t 41)⟩])
       (.drop [41] .ret))))))))))
abbrev r_spec_l23Followers : List RS := [.t 6]
theorem k_spec_l23Followers : fitsF Try.prog f_spec_l23Followers 42 c_spec_l23Followers r_spec_l23Followers = true := by kernel_rfl

/- loop.example/g01078/spec.l24Irreducibles: [p=0, p=1, out=3, y=4, n=5, x=6] -/
def c_spec_l24Irreducibles_l1 : ACode :=
  (.seq (.seq (.reg [⟨none, .mov 15 (.t 6)⟩,
      ⟨none, .fadr 16 0 (.t 1)⟩,
      ⟨none, .ld 17 1 false (.t 16)⟩,
      ⟨none, .len 18 (.t 17)⟩,
      ⟨none, .bin 19 .lss (.t 15) (.t 18)⟩])
   (.drop [15, 16, 17, 18] (.cond (.t 19) .skip
    (.exit 2))))
  (.drop [15, 16, 17, 18, 19] (.seq (.block 3 (.seq (.reg [⟨none, .ld 22 1 true (.t 1)⟩,
        ⟨none, .mov 23 (.t 6)⟩,
        ⟨none, .mov 24 (.t 4)⟩,
        ⟨none, .call 25 f_spec_l23Covers [((.t 22), false), ((.t 23), false), ((.t 24), false)]⟩])
     (.drop [22, 23, 24] (.cond (.t 25) (.reg [⟨none, .mov 26 (.t 5)⟩,
         ⟨none, .bin 27 .add (.t 26) (.c (.int .i64 1))⟩,
         ⟨none, .asg 5 (.t 27)⟩])
      .skip))))
   (.drop [22, 23, 24, 25, 26, 27] (.reg [⟨none, .mov 20 (.t 6)⟩,
      ⟨none, .bin 21 .add (.t 20) (.c (.int .i64 1))⟩,
      ⟨none, .asg 6 (.t 21)⟩])))))
def c_spec_l24Irreducibles_l2 : ACode :=
  (.seq (.seq (.reg [⟨none, .mov 8 (.t 4)⟩,
      ⟨none, .fadr 9 0 (.t 1)⟩,
      ⟨none, .ld 10 1 false (.t 9)⟩,
      ⟨none, .len 11 (.t 10)⟩,
      ⟨none, .bin 12 .lss (.t 8) (.t 11)⟩])
   (.drop [8, 9, 10, 11] (.cond (.t 12) .skip
    (.exit 0))))
  (.drop [8, 9, 10, 11, 12] (.seq (.block 1 (.seq (.reg [⟨none, .asg 5 (.c (.int .i64 0))⟩])
     (.seq (.seq (.reg [⟨none, .asg 6 (.c (.int .i64 0))⟩])
       (.block 2 (.loop c_spec_l24Irreducibles_l1)))
      (.drop [6, 15, 16, 17, 18, 19, 22, 23, 24, 25, 26, 27, 20, 21] (.seq (.reg [⟨none, .mov 28 (.t 5)⟩,
          ⟨none, .bin 29 .eql (.t 28) (.c (.int .i64 1))⟩])
       (.drop [28] (.cond (.t 29) (.reg [⟨none, .mov 30 (.t 3)⟩,
           ⟨none, .mov 31 (.t 4)⟩,
           ⟨none, .bsl 32 1 [(.t 31)]⟩,
           ⟨none, .app 33 1 (.t 30) (.t 32)⟩,
           ⟨none, .asg 3 (.t 33)⟩])
        .skip)))))))
   (.drop [5, 6, 15, 16, 17, 18, 19, 22, 23, 24, 25, 26, 27, 20, 21, 28, 29, 30, 31, 32, 33] (.reg [⟨none, .mov 13 (.t 4)⟩,
      ⟨none, .bin 14 .add (.t 13) (.c (.int .i64 1))⟩,
      ⟨none, .asg 4 (.t 14)⟩])))))
def c_spec_l24Irreducibles : ACode :=
  (.seq (.reg [⟨none, .box 1 (.t 0)⟩,
     ⟨none, .asg 2 (.c (.nilsl 1))⟩])
  (.seq (.reg [⟨none, .bsl 7 1 []⟩,
      ⟨none, .asg 3 (.t 7)⟩])
   (.drop [7] (.seq (.seq (.reg [⟨none, .asg 4 (.c (.int .i64 0))⟩])
     (.block 0 (.loop c_spec_l24Irreducibles_l2)))
    (.drop [4, 8, 9, 10, 11, 12, 5, 6, 15, 16, 17, 18, 19, 22, 23, 24, 25, 26, 27, 20, 21, 28, 29, 30, 31, 32, 33, 13, 14] (.seq (.reg [⟨none, .mov 34 (.t 3)⟩,
        ⟨none, .asg 2 (.t 34)⟩])
     (.drop [34] .ret)))))))
abbrev r_spec_l24Irreducibles : List RS := [.t 2]
theorem k_spec_l24Irreducibles : fitsF Try.prog f_spec_l24Irreducibles 35 c_spec_l24Irreducibles r_spec_l24Irreducibles = true := by kernel_rfl

/- loop.example/g01078/impl.MeetIrreducibles$1$1: [x=0, x=2] -/
def c_impl_MeetIrreducibles_1_1 : ACode :=
  (.seq (.reg [⟨none, .asg 3 (.c (.bool false))⟩])
  (.seq (.reg [⟨none, .ld 4 1 false (.t 1)⟩,
      ⟨none, .nck 5 (.t 4)⟩,
      ⟨none, .fadr 6 0 (.t 5)⟩,
      ⟨none, .ld 7 1 false (.t 6)⟩,
      ⟨none, .mov 8 (.t 0)⟩,
      ⟨none, .call 9 f_impl_order_upperCovers [((.t 7), false), ((.t 8), false)]⟩,
      ⟨none, .len 10 (.t 9)⟩,
      ⟨none, .bin 11 .eql (.t 10) (.c (.int .i64 1))⟩,
      ⟨none, .asg 3 (.t 11)⟩])
   (.drop [4, 5, 6, 7, 8, 9, 10, 11] .ret)))
abbrev r_impl_MeetIrreducibles_1_1 : List RS := [.t 3]
theorem k_impl_MeetIrreducibles_1_1 : fitsF Try.prog f_impl_MeetIrreducibles_1_1 12 c_impl_MeetIrreducibles_1_1 r_impl_MeetIrreducibles_1_1 = true := by kernel_rfl

/- (*loop.example/g01078/impl.lattice).irreducibles$1: [x=0, x=2] -/
def c_impl_lattice_irreducibles_1 : ACode :=
  (.seq (.reg [⟨none, .asg 3 (.c (.bool false))⟩])
  (.seq (.reg [⟨none, .ld 4 1 false (.t 1)⟩,
      ⟨none, .nck 5 (.t 4)⟩,
      ⟨none, .fadr 6 0 (.t 5)⟩,
      ⟨none, .ld 7 1 false (.t 6)⟩,
      ⟨none, .mov 8 (.t 0)⟩,
      ⟨none, .call 9 f_impl_order_lowerCovers [((.t 7), false), ((.t 8), false)]⟩,
      ⟨none, .len 10 (.t 9)⟩,
      ⟨none, .bin 11 .eql (.t 10) (.c (.int .i64 1))⟩,
      ⟨none, .asg 3 (.t 11)⟩])
   (.drop [4, 5, 6, 7, 8, 9, 10, 11] .ret)))
abbrev r_impl_lattice_irreducibles_1 : List RS := [.t 3]
theorem k_impl_lattice_irreducibles_1 : fitsF Try.prog f_impl_lattice_irreducibles_1 12 c_impl_lattice_irreducibles_1 r_impl_lattice_irreducibles_1 = true := by kernel_rfl

/- loop.example/g01078/laws.FnExactLargestAntichain: [aP=0, aP=1, left=3, w0=4, w1=5, x0=6, g0=7, g1=8, k=9, m=10, q=11, h0=12, h1=13] -/
def c_laws_FnExactLargestAntichain_k1 : ACode :=
  (.seq (.reg [⟨none, .mov 32 (.t 7)⟩,
             ⟨none, .mov 33 (.t 4)⟩,
             ⟨none, .call 34 f_laws_eqIntS [((.t 32), false), ((.t 33), false)]⟩,
             ⟨none, .un 35 .not (.t 34)⟩,
             ⟨none, .asg 36 (.t 35)⟩,
             ⟨some (36, false), .mov 37 (.t 8)⟩,
             ⟨some (36, false), .mov 38 (.t 5)⟩,
             ⟨some (36, false), .binb 39 .neq (.t 37) (.t 38)⟩,
             ⟨none, .pick 40 (.t 36) (.c (.bool true)) (.t 39)⟩])
          (.drop [32, 33, 34, 35, 36, 37, 38, 39] (.cond (.t 40) (.seq (.reg [⟨none, .asg 2 (.c (.bool false))⟩])
            .ret)
           .skip)))
def c_laws_FnExactLargestAntichain_k2 : ACode :=
  (.seq (.reg [⟨none, .mov 49 (.t 9)⟩,
                 ⟨none, .bin 50 .lss (.t 49) (.c (.int .i64 0))⟩,
                 ⟨none, .asg 51 (.t 50)⟩,
                 ⟨some (51, false), .mov 52 (.t 7)⟩,
                 ⟨some (51, false), .mov 53 (.t 4)⟩,
                 ⟨some (51, false), .call 54 f_laws_eqIntS [((.t 52), false), ((.t 53), false)]⟩,
                 ⟨some (51, false), .un 55 .not (.t 54)⟩,
                 ⟨none, .pick 56 (.t 51) (.c (.bool true)) (.t 55)⟩,
                 ⟨none, .asg 57 (.t 56)⟩,
                 ⟨some (57, false), .mov 58 (.t 8)⟩,
                 ⟨some (57, false), .mov 59 (.t 5)⟩,
                 ⟨some (57, false), .binb 60 .neq (.t 58) (.t 59)⟩,
                 ⟨none, .pick 61 (.t 57) (.c (.bool true)) (.t 60)⟩])
              (.drop [49, 50, 51, 52, 53, 54, 55, 56, 57, 58, 59, 60] (.cond (.t 61) (.seq (.reg [⟨none, .asg 2 (.c (.bool false))⟩])
                .ret)
               .skip)))
def c_laws_FnExactLargestAntichain_k3 : ACode :=
  (.seq (.reg [⟨none, .mov 79 (.t 12)⟩,
                         ⟨none, .mov 80 (.t 4)⟩,
                         ⟨none, .call 81 f_laws_eqIntS [((.t 79), false), ((.t 80), false)]⟩,
                         ⟨none, .un 82 .not (.t 81)⟩,
                         ⟨none, .asg 83 (.t 82)⟩,
                         ⟨some (83, false), .mov 84 (.t 13)⟩,
                         ⟨some (83, false), .mov 85 (.t 5)⟩,
                         ⟨some (83, false), .binb 86 .neq (.t 84) (.t 85)⟩,
                         ⟨none, .pick 87 (.t 83) (.c (.bool true)) (.t 86)⟩])
                      (.drop [79, 80, 81, 82, 83, 84, 85, 86] (.cond (.t 87) (.seq (.reg [⟨none, .asg 2 (.c (.bool false))⟩])
                        .ret)
                       .skip)))
def c_laws_FnExactLargestAntichain : ACode :=
  (.seq (.reg [⟨none, .box 1 (.t 0)⟩,
     ⟨none, .asg 2 (.c (.bool false))⟩])
  (.seq (.reg [⟨none, .asg 3 (.c (.int .i64 1048576))⟩])
   (.seq (.reg [⟨none, .ld 14 1 true (.t 1)⟩,
       ⟨none, .mov 15 (.t 3)⟩,
       ⟨none, .call 16 f_laws_szPoset [((.t 14), false), ((.t 15), false)]⟩,
       ⟨none, .asg 3 (.t 16)⟩])
    (.drop [14, 15, 16] (.seq (.seq (.reg [⟨none, .mov 17 (.t 3)⟩,
         ⟨none, .bin 18 .lss (.t 17) (.c (.int .i64 0))⟩])
      (.drop [17] (.cond (.t 18) (.seq (.reg [⟨none, .asg 2 (.c (.bool true))⟩])
        .ret)
       .skip)))
     (.drop [17, 18] (.seq (.reg [⟨none, .ld 20 1 true (.t 1)⟩,
         ⟨none, .call 21 f_laws_toPoset [((.t 20), false)]⟩,
         ⟨none, .call 22 f_spec_LargestAntichain [((.t 21), false)]⟩,
         ⟨none, .asg 19 (.t 22)⟩,
         ⟨none, .ext 23 (.t 19) 0⟩,
         ⟨none, .ext 24 (.t 19) 1⟩,
         ⟨none, .asg 4 (.t 23)⟩,
         ⟨none, .asg 5 (.t 24)⟩])
      (.drop [20, 21, 22, 19, 23, 24] (.seq (.reg [⟨none, .ld 25 1 true (.t 1)⟩,
          ⟨none, .call 26 f_laws_toPoset [((.t 25), false)]⟩,
          ⟨none, .alc 6 (.agg [.nilsl 1])⟩,
          ⟨none, .st 1 (.t 6) (.t 26)⟩])
       (.drop [25, 26] (.seq (.reg [⟨none, .ld 28 1 true (.t 6)⟩,
           ⟨none, .call 29 f_impl_LargestAntichain [((.t 28), false)]⟩,
           ⟨none, .asg 27 (.t 29)⟩,
           ⟨none, .ext 30 (.t 27) 0⟩,
           ⟨none, .ext 31 (.t 27) 1⟩,
           ⟨none, .asg 7 (.t 30)⟩,
           ⟨none, .asg 8 (.t 31)⟩])
        (.drop [28, 29, 27, 30, 31] (.seq (.cut c_laws_FnExactLargestAntichain_k1)
         (.drop [32, 33, 34, 35, 36, 37, 38, 39, 40] (.seq (.seq (.dreg [(⟨none, .ld 41 1 true (.t 6)⟩, []),
              (⟨none, .ld 42 1 true (.t 1)⟩, [41]),
              (⟨none, .call 43 f_laws_toPoset [((.t 42), false)]⟩, [41])]
             [⟨none, .call 44 f_laws_eqPoset [((.t 41), false), ((.t 43), false)]⟩,
              ⟨none, .un 45 .not (.t 44)⟩])
           (.drop [41, 42, 43, 44] (.cond (.t 45) (.seq (.reg [⟨none, .asg 2 (.c (.bool false))⟩])
             .ret)
            .skip)))
          (.drop [41, 42, 43, 44, 45] (.seq (.reg [⟨none, .asg 9 (.c (.int .i64 1))⟩])
           (.seq (.reg [⟨none, .ld 46 1 true (.t 6)⟩,
               ⟨none, .mov 47 (.t 9)⟩,
               ⟨none, .call 48 f_laws_markPoset [((.t 46), true), ((.t 47), false)]⟩,
               ⟨none, .asg 9 (.t 48)⟩])
            (.drop [46, 47, 48] (.seq (.cut c_laws_FnExactLargestAntichain_k2)
             (.drop [49, 50, 51, 52, 53, 54, 55, 56, 57, 58, 59, 60, 61] (.seq (.reg [⟨none, .asg 10 (.c (.int .i64 1))⟩])
              (.seq (.reg [⟨none, .mov 62 (.t 7)⟩,
                  ⟨none, .mov 63 (.t 10)⟩,
                  ⟨none, .call 64 f_laws_markIntS [((.t 62), true), ((.t 63), false)]⟩,
                  ⟨none, .asg 10 (.t 64)⟩])
               (.drop [62, 63, 64] (.seq (.reg [⟨none, .asg 11 (.c (.int .i64 1))⟩])
                (.seq (.reg [⟨none, .mov 65 (.t 7)⟩,
                    ⟨none, .mov 66 (.t 11)⟩,
                    ⟨none, .call 67 f_laws_heldIntS [((.t 65), false), ((.t 66), false)]⟩,
                    ⟨none, .asg 11 (.t 67)⟩])
                 (.drop [65, 66, 67] (.seq (.seq (.reg [⟨none, .mov 68 (.t 11)⟩,
                      ⟨none, .bin 69 .lss (.t 68) (.c (.int .i64 0))⟩])
                   (.drop [68] (.cond (.t 69) (.seq (.reg [⟨none, .asg 2 (.c (.bool false))⟩])
                     .ret)
                    .skip)))
                  (.drop [68, 69] (.seq (.seq (.reg [⟨none, .mov 70 (.t 11)⟩,
                       ⟨none, .mov 71 (.t 10)⟩,
                       ⟨none, .bin 72 .neq (.t 70) (.t 71)⟩])
                    (.drop [70, 71] (.cond (.t 72) (.seq (.reg [⟨none, .asg 2 (.c (.bool false))⟩])
                      .ret)
                     .skip)))
                   (.drop [70, 71, 72] (.seq (.reg [⟨none, .ld 74 1 true (.t 1)⟩,
                       ⟨none, .call 75 f_laws_toPoset [((.t 74), false)]⟩,
                       ⟨none, .call 76 f_impl_LargestAntichain [((.t 75), false)]⟩,
                       ⟨none, .asg 73 (.t 76)⟩,
                       ⟨none, .ext 77 (.t 73) 0⟩,
                       ⟨none, .ext 78 (.t 73) 1⟩,
                       ⟨none, .asg 12 (.t 77)⟩,
                       ⟨none, .asg 13 (.t 78)⟩])
                    (.drop [74, 75, 76, 73, 77, 78] (.seq (.cut c_laws_FnExactLargestAntichain_k3)
                     (.drop [79, 80, 81, 82, 83, 84, 85, 86, 87] (.seq (.reg [⟨none, .asg 11 (.c (.int .i64 1))⟩])
                      (.seq (.reg [⟨none, .mov 88 (.t 7)⟩,
                          ⟨none, .mov 89 (.t 11)⟩,
                          ⟨none, .call 90 f_laws_heldIntS [((.t 88), false), ((.t 89), false)]⟩,
                          ⟨none, .asg 11 (.t 90)⟩])
                       (.drop [88, 89, 90] (.seq (.seq (.reg [⟨none, .mov 91 (.t 11)⟩,
                            ⟨none, .bin 92 .lss (.t 91) (.c (.int .i64 0))⟩])
                         (.drop [91] (.cond (.t 92) (.seq (.reg [⟨none, .asg 2 (.c (.bool false))⟩])
                           .ret)
                          .skip)))
                        (.drop [91, 92] (.seq (.seq (.reg [⟨none, .mov 93 (.t 11)⟩,
                             ⟨none, .mov 94 (.t 10)⟩,
                             ⟨none, .bin 95 .neq (.t 93) (.t 94)⟩])
                          (.drop [93, 94] (.cond (.t 95) (.seq (.reg [⟨none, .asg 2 (.c (.bool false))⟩])
                            .ret)
                           .skip)))
                         (.drop [93, 94, 95] (.seq (.reg [⟨none, .asg 2 (.c (.bool true))⟩])
                          .ret)))))))))))))))))))))))))))))))))))))))))))
abbrev r_laws_FnExactLargestAntichain : List RS := [.t 2]
theorem k_laws_FnExactLargestAntichain : fitsF Try.prog f_laws_FnExactLargestAntichain 96 c_laws_FnExactLargestAntichain r_laws_FnExactLargestAntichain = true := by kernel_rfl

/- loop.example/g01078/laws.FnExactEndsOf: [aP=0, aP=1, left=3, w0=4, w1=5, w2=6, x0=7, g0=8, g1=9, g2=10] -/
def c_laws_FnExactEndsOf : ACode :=
  (.seq (.reg [⟨none, .box 1 (.t 0)⟩,
     ⟨none, .asg 2 (.c (.bool false))⟩])
  (.seq (.reg [⟨none, .asg 3 (.c (.int .i64 1048576))⟩])
   (.seq (.reg [⟨none, .ld 11 1 true (.t 1)⟩,
       ⟨none, .mov 12 (.t 3)⟩,
       ⟨none, .call 13 f_laws_szPoset [((.t 11), false), ((.t 12), false)]⟩,
       ⟨none, .asg 3 (.t 13)⟩])
    (.drop [11, 12, 13] (.seq (.seq (.reg [⟨none, .mov 14 (.t 3)⟩,
         ⟨none, .bin 15 .lss (.t 14) (.c (.int .i64 0))⟩])
      (.drop [14] (.cond (.t 15) (.seq (.reg [⟨none, .asg 2 (.c (.bool true))⟩])
        .ret)
       .skip)))
     (.drop [14, 15] (.seq (.reg [⟨none, .ld 17 1 true (.t 1)⟩,
         ⟨none, .call 18 f_laws_toPoset [((.t 17), false)]⟩,
         ⟨none, .call 19 f_spec_EndsOf [((.t 18), false)]⟩,
         ⟨none, .asg 16 (.t 19)⟩,
         ⟨none, .ext 20 (.t 16) 0⟩,
         ⟨none, .ext 21 (.t 16) 1⟩,
         ⟨none, .ext 22 (.t 16) 2⟩,
         ⟨none, .asg 4 (.t 20)⟩,
         ⟨none, .asg 5 (.t 21)⟩,
         ⟨none, .asg 6 (.t 22)⟩])
      (.drop [17, 18, 19, 16, 20, 21, 22] (.seq (.reg [⟨none, .ld 23 1 true (.t 1)⟩,
          ⟨none, .call 24 f_laws_toPoset [((.t 23), false)]⟩,
          ⟨none, .alc 7 (.agg [.nilsl 1])⟩,
          ⟨none, .st 1 (.t 7) (.t 24)⟩])
       (.drop [23, 24] (.seq (.reg [⟨none, .ld 26 1 true (.t 7)⟩,
           ⟨none, .call 27 f_impl_EndsOf [((.t 26), false)]⟩,
           ⟨none, .asg 25 (.t 27)⟩,
           ⟨none, .ext 28 (.t 25) 0⟩,
           ⟨none, .ext 29 (.t 25) 1⟩,
           ⟨none, .ext 30 (.t 25) 2⟩,
           ⟨none, .asg 8 (.t 28)⟩,
           ⟨none, .asg 9 (.t 29)⟩,
           ⟨none, .asg 10 (.t 30)⟩])
        (.drop [26, 27, 25, 28, 29, 30] (.seq (.seq (.reg [⟨none, .mov 31 (.t 8)⟩,
             ⟨none, .mov 32 (.t 4)⟩,
             ⟨none, .bin 33 .neq (.t 31) (.t 32)⟩,
             ⟨none, .asg 34 (.t 33)⟩,
             ⟨some (34, false), .mov 35 (.t 9)⟩,
             ⟨some (34, false), .mov 36 (.t 5)⟩,
             ⟨some (34, false), .bin 37 .neq (.t 35) (.t 36)⟩,
             ⟨none, .pick 38 (.t 34) (.c (.bool true)) (.t 37)⟩,
             ⟨none, .asg 39 (.t 38)⟩,
             ⟨some (39, false), .mov 40 (.t 10)⟩,
             ⟨some (39, false), .mov 41 (.t 6)⟩,
             ⟨some (39, false), .binb 42 .neq (.t 40) (.t 41)⟩,
             ⟨none, .pick 43 (.t 39) (.c (.bool true)) (.t 42)⟩])
          (.drop [31, 32, 33, 34, 35, 36, 37, 38, 39, 40, 41, 42] (.cond (.t 43) (.seq (.reg [⟨none, .asg 2 (.c (.bool false))⟩])
            .ret)
           .skip)))
         (.drop [31, 32, 33, 34, 35, 36, 37, 38, 39, 40, 41, 42, 43] (.seq (.seq (.dreg [(⟨none, .ld 44 1 true (.t 7)⟩, []),
              (⟨none, .ld 45 1 true (.t 1)⟩, [44]),
              (⟨none, .call 46 f_laws_toPoset [((.t 45), false)]⟩, [44])]
             [⟨none, .call 47 f_laws_eqPoset [((.t 44), false), ((.t 46), false)]⟩,
              ⟨none, .un 48 .not (.t 47)⟩])
           (.drop [44, 45, 46, 47] (.cond (.t 48) (.seq (.reg [⟨none, .asg 2 (.c (.bool false))⟩])
             .ret)
            .skip)))
          (.drop [44, 45, 46, 47, 48] (.seq (.reg [⟨none, .asg 2 (.c (.bool true))⟩])
           .ret)))))))))))))))))
abbrev r_laws_FnExactEndsOf : List RS := [.t 2]
theorem k_laws_FnExactEndsOf : fitsF Try.prog f_laws_FnExactEndsOf 49 c_laws_FnExactEndsOf r_laws_FnExactEndsOf = true := by kernel_rfl

/- loop.example/g01078/laws.FnExactRenameElements: [aA=0, aNames=1, aA=2, aNames=3, left=5, w0=6, w1=7, x0=8, x1=9, g0=10, g1=11, k=12, m=13, q=14, h0=15, h1=16] -/
def c_laws_FnExactRenameElements_k1 : ACode :=
  (.seq (.reg [⟨none, .ld 43 2 true (.t 10)⟩,
               ⟨none, .ld 44 2 true (.t 6)⟩,
               ⟨none, .call 45 f_laws_eqAlgebra [((.t 43), false), ((.t 44), false)]⟩,
               ⟨none, .un 46 .not (.t 45)⟩,
               ⟨none, .asg 47 (.t 46)⟩,
               ⟨some (47, false), .mov 48 (.t 11)⟩,
               ⟨some (47, false), .mov 49 (.t 7)⟩,
               ⟨some (47, false), .binb 50 .neq (.t 48) (.t 49)⟩,
               ⟨none, .pick 51 (.t 47) (.c (.bool true)) (.t 50)⟩])
            (.drop [43, 44, 45, 46, 47, 48, 49, 50] (.cond (.t 51) (.seq (.reg [⟨none, .asg 4 (.c (.bool false))⟩])
              .ret)
             .skip)))
def c_laws_FnExactRenameElements_k2 : ACode :=
  (.seq (.reg [⟨none, .mov 68 (.t 12)⟩,
                     ⟨none, .bin 69 .lss (.t 68) (.c (.int .i64 0))⟩,
                     ⟨none, .asg 70 (.t 69)⟩,
                     ⟨some (70, false), .ld 71 2 true (.t 10)⟩,
                     ⟨some (70, false), .ld 72 2 true (.t 6)⟩,
                     ⟨some (70, false), .call 73 f_laws_eqAlgebra [((.t 71), false), ((.t 72), false)]⟩,
                     ⟨some (70, false), .un 74 .not (.t 73)⟩,
                     ⟨none, .pick 75 (.t 70) (.c (.bool true)) (.t 74)⟩,
                     ⟨none, .asg 76 (.t 75)⟩,
                     ⟨some (76, false), .mov 77 (.t 11)⟩,
                     ⟨some (76, false), .mov 78 (.t 7)⟩,
                     ⟨some (76, false), .binb 79 .neq (.t 77) (.t 78)⟩,
                     ⟨none, .pick 80 (.t 76) (.c (.bool true)) (.t 79)⟩])
                  (.drop [68, 69, 70, 71, 72, 73, 74, 75, 76, 77, 78, 79] (.cond (.t 80) (.seq (.reg [⟨none, .asg 4 (.c (.bool false))⟩])
                    .ret)
                   .skip)))
def c_laws_FnExactRenameElements_k3 : ACode :=
  (.seq (.reg [⟨none, .ld 100 2 true (.t 15)⟩,
                             ⟨none, .ld 101 2 true (.t 6)⟩,
                             ⟨none, .call 102 f_laws_eqAlgebra [((.t 100), false), ((.t 101), false)]⟩,
                             ⟨none, .un 103 .not (.t 102)⟩,
                             ⟨none, .asg 104 (.t 103)⟩,
                             ⟨some (104, false), .mov 105 (.t 16)⟩,
                             ⟨some (104, false), .mov 106 (.t 7)⟩,
                             ⟨some (104, false), .binb 107 .neq (.t 105) (.t 106)⟩,
                             ⟨none, .pick 108 (.t 104) (.c (.bool true)) (.t 107)⟩])
                          (.drop [100, 101, 102, 103, 104, 105, 106, 107] (.cond (.t 108) (.seq (.reg [⟨none, .asg 4 (.c (.bool false))⟩])
                            .ret)
                           .skip)))
def c_laws_FnExactRenameElements : ACode :=
  (.seq (.reg [⟨none, .box 2 (.t 0)⟩,
     ⟨none, .asg 4 (.c (.bool false))⟩])
  (.seq (.seq (.reg [⟨none, .mov 17 (.t 1)⟩,
       ⟨none, .len 18 (.t 17)⟩,
       ⟨none, .bin 19 .gtr (.t 18) (.c (.int .i64 1048576))⟩])
    (.drop [17, 18] (.cond (.t 19) (.seq (.reg [⟨none, .asg 4 (.c (.bool true))⟩])
      .ret)
     .skip)))
   (.drop [17, 18, 19] (.seq (.reg [⟨none, .asg 5 (.c (.int .i64 1048576))⟩])
    (.seq (.reg [⟨none, .ld 20 2 true (.t 2)⟩,
        ⟨none, .mov 21 (.t 5)⟩,
        ⟨none, .call 22 f_laws_szAlgebra [((.t 20), false), ((.t 21), false)]⟩,
        ⟨none, .asg 5 (.t 22)⟩])
     (.drop [20, 21, 22] (.seq (.seq (.reg [⟨none, .mov 23 (.t 5)⟩,
          ⟨none, .bin 24 .lss (.t 23) (.c (.int .i64 0))⟩])
       (.drop [23] (.cond (.t 24) (.seq (.reg [⟨none, .asg 4 (.c (.bool true))⟩])
         .ret)
        .skip)))
      (.drop [23, 24] (.seq (.reg [⟨none, .ld 26 2 true (.t 2)⟩,
          ⟨none, .call 27 f_laws_toAlgebra [((.t 26), false)]⟩,
          ⟨none, .mov 28 (.t 1)⟩,
          ⟨none, .call 29 f_laws_toIntS [((.t 28), false)]⟩,
          ⟨none, .call 30 f_spec_RenameElements [((.t 27), false), ((.t 29), false)]⟩,
          ⟨none, .asg 25 (.t 30)⟩,
          ⟨none, .ext 31 (.t 25) 0⟩,
          ⟨none, .ext 32 (.t 25) 1⟩,
          ⟨none, .alc 6 (.agg [.int .i64 0, .nilsl 2])⟩,
          ⟨none, .st 2 (.t 6) (.t 31)⟩,
          ⟨none, .asg 7 (.t 32)⟩])
       (.drop [26, 27, 28, 29, 30, 25, 31, 32] (.seq (.reg [⟨none, .ld 33 2 true (.t 2)⟩,
           ⟨none, .call 34 f_laws_toAlgebra [((.t 33), false)]⟩,
           ⟨none, .alc 8 (.agg [.int .i64 0, .nilsl 2])⟩,
           ⟨none, .st 2 (.t 8) (.t 34)⟩])
        (.drop [33, 34] (.seq (.reg [⟨none, .mov 35 (.t 1)⟩,
            ⟨none, .call 36 f_laws_toIntS [((.t 35), false)]⟩,
            ⟨none, .asg 9 (.t 36)⟩])
         (.drop [35, 36] (.seq (.reg [⟨none, .ld 38 2 true (.t 8)⟩,
             ⟨none, .mov 39 (.t 9)⟩,
             ⟨none, .call 40 f_impl_RenameElements [((.t 38), false), ((.t 39), false)]⟩,
             ⟨none, .asg 37 (.t 40)⟩,
             ⟨none, .ext 41 (.t 37) 0⟩,
             ⟨none, .ext 42 (.t 37) 1⟩,
             ⟨none, .alc 10 (.agg [.int .i64 0, .nilsl 2])⟩,
             ⟨none, .st 2 (.t 10) (.t 41)⟩,
             ⟨none, .asg 11 (.t 42)⟩])
          (.drop [38, 39, 40, 37, 41, 42] (.seq (.cut c_laws_FnExactRenameElements_k1)
           (.drop [43, 44, 45, 46, 47, 48, 49, 50, 51] (.seq (.seq (.dreg [(⟨none, .ld 52 2 true (.t 8)⟩, []),
                (⟨none, .ld 53 2 true (.t 2)⟩, [52]),
                (⟨none, .call 54 f_laws_toAlgebra [((.t 53), false)]⟩, [52])]
               [⟨none, .call 55 f_laws_eqAlgebra [((.t 52), false), ((.t 54), false)]⟩,
                ⟨none, .un 56 .not (.t 55)⟩])
             (.drop [52, 53, 54, 55] (.cond (.t 56) (.seq (.reg [⟨none, .asg 4 (.c (.bool false))⟩])
               .ret)
              .skip)))
            (.drop [52, 53, 54, 55, 56] (.seq (.seq (.reg [⟨none, .mov 57 (.t 9)⟩,
                 ⟨none, .mov 58 (.t 1)⟩,
                 ⟨none, .call 59 f_laws_toIntS [((.t 58), false)]⟩,
                 ⟨none, .call 60 f_laws_eqIntS [((.t 57), false), ((.t 59), false)]⟩,
                 ⟨none, .un 61 .not (.t 60)⟩])
              (.drop [57, 58, 59, 60] (.cond (.t 61) (.seq (.reg [⟨none, .asg 4 (.c (.bool false))⟩])
                .ret)
               .skip)))
             (.drop [57, 58, 59, 60, 61] (.seq (.reg [⟨none, .asg 12 (.c (.int .i64 1))⟩])
              (.seq (.reg [⟨none, .ld 62 2 true (.t 8)⟩,
                  ⟨none, .mov 63 (.t 12)⟩,
                  ⟨none, .call 64 f_laws_markAlgebra [((.t 62), true), ((.t 63), false)]⟩,
                  ⟨none, .asg 12 (.t 64)⟩])
               (.drop [62, 63, 64] (.seq (.reg [⟨none, .mov 65 (.t 9)⟩,
                   ⟨none, .mov 66 (.t 12)⟩,
                   ⟨none, .call 67 f_laws_markIntS [((.t 65), true), ((.t 66), false)]⟩,
                   ⟨none, .asg 12 (.t 67)⟩])
                (.drop [65, 66, 67] (.seq (.cut c_laws_FnExactRenameElements_k2)
                 (.drop [68, 69, 70, 71, 72, 73, 74, 75, 76, 77, 78, 79, 80] (.seq (.reg [⟨none, .asg 13 (.c (.int .i64 1))⟩])
                  (.seq (.reg [⟨none, .ld 81 2 true (.t 10)⟩,
                      ⟨none, .mov 82 (.t 13)⟩,
                      ⟨none, .call 83 f_laws_markAlgebra [((.t 81), true), ((.t 82), false)]⟩,
                      ⟨none, .asg 13 (.t 83)⟩])
                   (.drop [81, 82, 83] (.seq (.reg [⟨none, .asg 14 (.c (.int .i64 1))⟩])
                    (.seq (.reg [⟨none, .ld 84 2 true (.t 10)⟩,
                        ⟨none, .mov 85 (.t 14)⟩,
                        ⟨none, .call 86 f_laws_heldAlgebra [((.t 84), false), ((.t 85), false)]⟩,
                        ⟨none, .asg 14 (.t 86)⟩])
                     (.drop [84, 85, 86] (.seq (.seq (.reg [⟨none, .mov 87 (.t 14)⟩,
                          ⟨none, .bin 88 .lss (.t 87) (.c (.int .i64 0))⟩])
                       (.drop [87] (.cond (.t 88) (.seq (.reg [⟨none, .asg 4 (.c (.bool false))⟩])
                         .ret)
                        .skip)))
                      (.drop [87, 88] (.seq (.seq (.reg [⟨none, .mov 89 (.t 14)⟩,
                           ⟨none, .mov 90 (.t 13)⟩,
                           ⟨none, .bin 91 .neq (.t 89) (.t 90)⟩])
                        (.drop [89, 90] (.cond (.t 91) (.seq (.reg [⟨none, .asg 4 (.c (.bool false))⟩])
                          .ret)
                         .skip)))
                       (.drop [89, 90, 91] (.seq (.reg [⟨none, .ld 93 2 true (.t 2)⟩,
                           ⟨none, .call 94 f_laws_toAlgebra [((.t 93), false)]⟩,
                           ⟨none, .mov 95 (.t 1)⟩,
                           ⟨none, .call 96 f_laws_toIntS [((.t 95), false)]⟩,
                           ⟨none, .call 97 f_impl_RenameElements [((.t 94), false), ((.t 96), false)]⟩,
                           ⟨none, .asg 92 (.t 97)⟩,
                           ⟨none, .ext 98 (.t 92) 0⟩,
                           ⟨none, .ext 99 (.t 92) 1⟩,
                           ⟨none, .alc 15 (.agg [.int .i64 0, .nilsl 2])⟩,
                           ⟨none, .st 2 (.t 15) (.t 98)⟩,
                           ⟨none, .asg 16 (.t 99)⟩])
                        (.drop [93, 94, 95, 96, 97, 92, 98, 99] (.seq (.cut c_laws_FnExactRenameElements_k3)
                         (.drop [100, 101, 102, 103, 104, 105, 106, 107, 108] (.seq (.reg [⟨none, .asg 14 (.c (.int .i64 1))⟩])
                          (.seq (.reg [⟨none, .ld 109 2 true (.t 10)⟩,
                              ⟨none, .mov 110 (.t 14)⟩,
                              ⟨none, .call 111 f_laws_heldAlgebra [((.t 109), false), ((.t 110), false)]⟩,
                              ⟨none, .asg 14 (.t 111)⟩])
                           (.drop [109, 110, 111] (.seq (.seq (.reg [⟨none, .mov 112 (.t 14)⟩,
                                ⟨none, .bin 113 .lss (.t 112) (.c (.int .i64 0))⟩])
                             (.drop [112] (.cond (.t 113) (.seq (.reg [⟨none, .asg 4 (.c (.bool false))⟩])
                               .ret)
                              .skip)))
                            (.drop [112, 113] (.seq (.seq (.reg [⟨none, .mov 114 (.t 14)⟩,
                                 ⟨none, .mov 115 (.t 13)⟩,
                                 ⟨none, .bin 116 .neq (.t 114) (.t 115)⟩])
                              (.drop [114, 115] (.cond (.t 116) (.seq (.reg [⟨none, .asg 4 (.c (.bool false))⟩])
                                .ret)
                               .skip)))
                             (.drop [114, 115, 116] (.seq (.reg [⟨none, .asg 4 (.c (.bool true))⟩])
                              .ret)))))))))))))))))))))))))))))))))))))))))))))))))))
abbrev r_laws_FnExactRenameElements : List RS := [.t 4]
theorem k_laws_FnExactRenameElements : fitsF Try.prog f_laws_FnExactRenameElements 117 c_laws_FnExactRenameElements r_laws_FnExactRenameElements = true := by kernel_rfl

/- loop.example/g01078/spec.CoverPairs: [p=0, p=1] -/
def c_spec_CoverPairs : ACode :=
  (.seq (.reg [⟨none, .box 1 (.t 0)⟩,
     ⟨none, .asg 2 (.c (.nilsl 2))⟩,
     ⟨none, .asg 3 (.c (.bool false))⟩])
  (.seq (.seq (.reg [⟨none, .ld 4 1 true (.t 1)⟩,
       ⟨none, .call 5 f_spec_l23Good [((.t 4), false)]⟩,
       ⟨none, .un 6 .not (.t 5)⟩])
    (.drop [4, 5] (.cond (.t 6) (.seq (.reg [⟨none, .bsl 7 2 []⟩,
         ⟨none, .asg 2 (.t 7)⟩,
         ⟨none, .asg 3 (.c (.bool false))⟩])
      (.drop [7] .ret))
     .skip)))
   (.drop [4, 5, 6, 7] (.seq (.reg [⟨none, .ld 8 1 true (.t 1)⟩,
       ⟨none, .call 9 f_spec_l23Pairs [((.t 8), false)]⟩,
       ⟨none, .asg 2 (.t 9)⟩,
       ⟨none, .asg 3 (.c (.bool true))⟩])
    (.drop [8, 9] .ret)))))
abbrev r_spec_CoverPairs : List RS := [.t 2, .t 3]
theorem k_spec_CoverPairs : fitsF Try.prog f_spec_CoverPairs 10 c_spec_CoverPairs r_spec_CoverPairs = true := by kernel_rfl

/- loop.example/g01078/spec.JoinOf: [p=0, x=1, y=2, p=3, x=4, y=5] -/
def c_spec_JoinOf : ACode :=
  (.seq (.reg [⟨none, .box 3 (.t 0)⟩,
     ⟨none, .asg 6 (.c (.int .i64 0))⟩,
     ⟨none, .asg 7 (.c (.bool false))⟩])
  (.seq (.seq (.reg [⟨none, .ld 8 1 true (.t 3)⟩,
       ⟨none, .mov 9 (.t 1)⟩,
       ⟨none, .mov 10 (.t 2)⟩,
       ⟨none, .call 11 f_spec_l24Two [((.t 8), false), ((.t 9), false), ((.t 10), false)]⟩,
       ⟨none, .un 12 .not (.t 11)⟩])
    (.drop [8, 9, 10, 11] (.cond (.t 12) (.seq (.reg [⟨none, .asg 6 (.c (.int .i64 0))⟩,
         ⟨none, .asg 7 (.c (.bool false))⟩])
      .ret)
     .skip)))
   (.drop [8, 9, 10, 11, 12] (.seq (.reg [⟨none, .ld 13 1 true (.t 3)⟩,
       ⟨none, .mov 14 (.t 1)⟩,
       ⟨none, .mov 15 (.t 2)⟩,
       ⟨none, .call 16 f_spec_l24Join [((.t 13), false), ((.t 14), false), ((.t 15), false)]⟩,
       ⟨none, .asg 6 (.t 16)⟩,
       ⟨none, .asg 7 (.c (.bool true))⟩])
    (.drop [13, 14, 15, 16] .ret)))))
abbrev r_spec_JoinOf : List RS := [.t 6, .t 7]
theorem k_spec_JoinOf : fitsF Try.prog f_spec_JoinOf 17 c_spec_JoinOf r_spec_JoinOf = true := by kernel_rfl

/- loop.example/g01078/spec.MeetOf: [p=0, x=1, y=2, p=3, x=4, y=5] -/
def c_spec_MeetOf : ACode :=
  (.seq (.reg [⟨none, .box 3 (.t 0)⟩,
     ⟨none, .asg 6 (.c (.int .i64 0))⟩,
     ⟨none, .asg 7 (.c (.bool false))⟩])
  (.seq (.seq (.reg [⟨none, .ld 8 1 true (.t 3)⟩,
       ⟨none, .mov 9 (.t 1)⟩,
       ⟨none, .mov 10 (.t 2)⟩,
       ⟨none, .call 11 f_spec_l24Two [((.t 8), false), ((.t 9), false), ((.t 10), false)]⟩,
       ⟨none, .un 12 .not (.t 11)⟩])
    (.drop [8, 9, 10, 11] (.cond (.t 12) (.seq (.reg [⟨none, .asg 6 (.c (.int .i64 0))⟩,
         ⟨none, .asg 7 (.c (.bool false))⟩])
      .ret)
     .skip)))
   (.drop [8, 9, 10, 11, 12] (.seq (.reg [⟨none, .ld 13 1 true (.t 3)⟩,
       ⟨none, .mov 14 (.t 1)⟩,
       ⟨none, .mov 15 (.t 2)⟩,
       ⟨none, .call 16 f_spec_l24Meet [((.t 13), false), ((.t 14), false), ((.t 15), false)]⟩,
       ⟨none, .asg 6 (.t 16)⟩,
       ⟨none, .asg 7 (.c (.bool true))⟩])
    (.drop [13, 14, 15, 16] .ret)))))
abbrev r_spec_MeetOf : List RS := [.t 6, .t 7]
theorem k_spec_MeetOf : fitsF Try.prog f_spec_MeetOf 17 c_spec_MeetOf r_spec_MeetOf = true := by kernel_rfl

/- loop.example/g01078/spec.JoinAll: [p=0, some=1, p=2, some=3] -/
def c_spec_JoinAll : ACode :=
  (.seq (.reg [⟨none, .box 2 (.t 0)⟩,
     ⟨none, .asg 4 (.c (.int .i64 0))⟩,
     ⟨none, .asg 5 (.c (.bool false))⟩])
  (.seq (.seq (.reg [⟨none, .ld 6 1 true (.t 2)⟩,
       ⟨none, .mov 7 (.t 1)⟩,
       ⟨none, .call 8 f_spec_l24Some [((.t 6), false), ((.t 7), false)]⟩,
       ⟨none, .un 9 .not (.t 8)⟩])
    (.drop [6, 7, 8] (.cond (.t 9) (.seq (.reg [⟨none, .asg 4 (.c (.int .i64 0))⟩,
         ⟨none, .asg 5 (.c (.bool false))⟩])
      .ret)
     .skip)))
   (.drop [6, 7, 8, 9] (.seq (.reg [⟨none, .ld 10 1 true (.t 2)⟩,
       ⟨none, .call 11 f_spec_l23Dual [((.t 10), false)]⟩,
       ⟨none, .mov 12 (.t 1)⟩,
       ⟨none, .call 13 f_spec_l24Bound [((.t 11), false), ((.t 12), false)]⟩,
       ⟨none, .asg 4 (.t 13)⟩,
       ⟨none, .asg 5 (.c (.bool true))⟩])
    (.drop [10, 11, 12, 13] .ret)))))
abbrev r_spec_JoinAll : List RS := [.t 4, .t 5]
theorem k_spec_JoinAll : fitsF Try.prog f_spec_JoinAll 14 c_spec_JoinAll r_spec_JoinAll = true := by kernel_rfl

/- loop.example/g01078/spec.MeetAll: [p=0, some=1, p=2, some=3] -/
def c_spec_MeetAll : ACode :=
  (.seq (.reg [⟨none, .box 2 (.t 0)⟩,
     ⟨none, .asg 4 (.c (.int .i64 0))⟩,
     ⟨none, .asg 5 (.c (.bool false))⟩])
  (.seq (.seq (.reg [⟨none, .ld 6 1 true (.t 2)⟩,
       ⟨none, .mov 7 (.t 1)⟩,
       ⟨none, .call 8 f_spec_l24Some [((.t 6), false), ((.t 7), false)]⟩,
       ⟨none, .un 9 .not (.t 8)⟩])
    (.drop [6, 7, 8] (.cond (.t 9) (.seq (.reg [⟨none, .asg 4 (.c (.int .i64 0))⟩,
         ⟨none, .asg 5 (.c (.bool false))⟩])
      .ret)
     .skip)))
   (.drop [6, 7, 8, 9] (.seq (.reg [⟨none, .ld 10 1 true (.t 2)⟩,
       ⟨none, .mov 11 (.t 1)⟩,
       ⟨none, .call 12 f_spec_l24Bound [((.t 10), false), ((.t 11), false)]⟩,
       ⟨none, .asg 4 (.t 12)⟩,
       ⟨none, .asg 5 (.c (.bool true))⟩])
    (.drop [10, 11, 12] .ret)))))
abbrev r_spec_MeetAll : List RS := [.t 4, .t 5]
theorem k_spec_MeetAll : fitsF Try.prog f_spec_MeetAll 13 c_spec_MeetAll r_spec_MeetAll = true := by kernel_rfl

/- loop.example/g01078/spec.IntervalOf: [p=0, x=1, y=2, p=3, x=4, y=5, out=8, z=9] -/
def c_spec_IntervalOf_k1 : ACode :=
  (.seq (.reg [⟨none, .ld 11 1 true (.t 3)⟩,
        ⟨none, .mov 12 (.t 1)⟩,
        ⟨none, .mov 13 (.t 2)⟩,
        ⟨none, .call 14 f_spec_l24Two [((.t 11), false), ((.t 12), false), ((.t 13), false)]⟩,
        ⟨none, .un 15 .not (.t 14)⟩,
        ⟨none, .asg 16 (.t 15)⟩,
        ⟨some (16, false), .ld 17 1 true (.t 3)⟩,
        ⟨some (16, false), .mov 18 (.t 1)⟩,
        ⟨some (16, false), .mov 19 (.t 2)⟩,
        ⟨some (16, false), .call 20 f_spec_l23Leq [((.t 17), false), ((.t 18), false), ((.t 19), false)]⟩,
        ⟨some (16, false), .un 21 .not (.t 20)⟩,
        ⟨none, .pick 22 (.t 16) (.c (.bool true)) (.t 21)⟩])
     (.drop [11, 12, 13, 14, 15, 16, 17, 18, 19, 20, 21] (.cond (.t 22) (.seq (.reg [⟨none, .mov 23 (.t 8)⟩,
          ⟨none, .asg 6 (.t 23)⟩,
          ⟨none, .asg 7 (.c (.bool false))⟩])
       (.drop [23] .ret))
      .skip)))
def c_spec_IntervalOf_l1 : ACode :=
  (.seq (.seq (.reg [⟨none, .mov 24 (.t 9)⟩,
      ⟨none, .fadr 25 0 (.t 3)⟩,
      ⟨none, .ld 26 1 false (.t 25)⟩,
      ⟨none, .len 27 (.t 26)⟩,
      ⟨none, .bin 28 .lss (.t 24) (.t 27)⟩])
   (.drop [24, 25, 26, 27] (.cond (.t 28) .skip
    (.exit 0))))
  (.drop [24, 25, 26, 27, 28] (.seq (.block 1 (.seq (.reg [⟨none, .ld 31 1 true (.t 3)⟩,
        ⟨none, .mov 32 (.t 1)⟩,
        ⟨none, .mov 33 (.t 9)⟩,
        ⟨none, .call 34 f_spec_l23Leq [((.t 31), false), ((.t 32), false), ((.t 33), false)]⟩,
        ⟨none, .asg 35 (.t 34)⟩,
        ⟨some (35, true), .ld 36 1 true (.t 3)⟩,
        ⟨some (35, true), .mov 37 (.t 9)⟩,
        ⟨some (35, true), .mov 38 (.t 2)⟩,
        ⟨some (35, true), .call 39 f_spec_l23Leq [((.t 36), false), ((.t 37), false), ((.t 38), false)]⟩,
        ⟨none, .pick 40 (.t 35) (.t 39) (.c (.bool false))⟩])
     (.drop [31, 32, 33, 34, 35, 36, 37, 38, 39] (.cond (.t 40) (.reg [⟨none, .mov 41 (.t 8)⟩,
         ⟨none, .mov 42 (.t 9)⟩,
         ⟨none, .bsl 43 1 [(.t 42)]⟩,
         ⟨none, .app 44 1 (.t 41) (.t 43)⟩,
         ⟨none, .asg 8 (.t 44)⟩])
      .skip))))
   (.drop [31, 32, 33, 34, 35, 36, 37, 38, 39, 40, 41, 42, 43, 44] (.reg [⟨none, .mov 29 (.t 9)⟩,
      ⟨none, .bin 30 .add (.t 29) (.c (.int .i64 1))⟩,
      ⟨none, .asg 9 (.t 30)⟩])))))
def c_spec_IntervalOf : ACode :=
  (.seq (.reg [⟨none, .box 3 (.t 0)⟩,
     ⟨none, .asg 6 (.c (.nilsl 1))⟩,
     ⟨none, .asg 7 (.c (.bool false))⟩])
  (.seq (.reg [⟨none, .bsl 10 1 []⟩,
      ⟨none, .asg 8 (.t 10)⟩])
   (.drop [10] (.seq (.cut c_spec_IntervalOf_k1)
    (.drop [11, 12, 13, 14, 15, 16, 17, 18, 19, 20, 21, 22, 23] (.seq (.seq (.reg [⟨none, .asg 9 (.c (.int .i64 0))⟩])
      (.block 0 (.loop c_spec_IntervalOf_l1)))
     (.drop [9, 24, 25, 26, 27, 28, 31, 32, 33, 34, 35, 36, 37, 38, 39, 40, 41, 42, 43, 44, 29, 30] (.seq (.reg [⟨none, .mov 45 (.t 8)⟩,
         ⟨none, .asg 6 (.t 45)⟩,
         ⟨none, .asg 7 (.c (.bool true))⟩])
      (.drop [45] .ret)))))))))
abbrev r_spec_IntervalOf : List RS := [.t 6, .t 7]
theorem k_spec_IntervalOf : fitsF Try.prog f_spec_IntervalOf 46 c_spec_IntervalOf r_spec_IntervalOf = true := by kernel_rfl

/- loop.example/g01078/spec.FewestChains: [p=0, p=1, out=4, n=5, taken=6, next=7, x=8, most=9, y=10, x=11, chain=12, y=13] -/
def c_spec_FewestChains_k1 : ACode :=
  (.seq (.reg [⟨none, .mov 38 (.t 10)⟩,
      ⟨none, .mov 39 (.t 5)⟩,
      ⟨none, .bin 40 .lss (.t 38) (.t 39)⟩,
      ⟨none, .asg 41 (.t 40)⟩,
      ⟨some (41, true), .mov 42 (.t 7)⟩,
      ⟨some (41, true), .mov 43 (.t 8)⟩,
      ⟨some (41, true), .iad 44 1 (.t 42) (.t 43)⟩,
      ⟨some (41, true), .ld 45 1 false (.t 44)⟩,
      ⟨some (41, true), .bin 46 .lss (.t 45) (.c (.int .i64 0))⟩,
      ⟨none, .pick 47 (.t 41) (.t 46) (.c (.bool false))⟩])
   (.drop [38, 39, 40, 41, 42, 43, 44, 45, 46] (.cond (.t 47) .skip
    (.exit 2))))
def c_spec_FewestChains_k2 : ACode :=
  (.seq (.reg [⟨none, .ld 50 1 true (.t 1)⟩,
         ⟨none, .mov 51 (.t 8)⟩,
         ⟨none, .mov 52 (.t 10)⟩,
         ⟨none, .call 53 f_spec_l23Less [((.t 50), false), ((.t 51), false), ((.t 52), false)]⟩,
         ⟨none, .un 54 .not (.t 53)⟩,
         ⟨none, .asg 55 (.t 54)⟩,
         ⟨some (55, false), .mov 56 (.t 6)⟩,
         ⟨some (55, false), .mov 57 (.t 10)⟩,
         ⟨some (55, false), .iad 58 1 (.t 56) (.t 57)⟩,
         ⟨some (55, false), .ld 59 1 false (.t 58)⟩,
         ⟨none, .pick 60 (.t 55) (.c (.bool true)) (.t 59)⟩])
      (.drop [50, 51, 52, 53, 54, 55, 56, 57, 58, 59] (.cond (.t 60) (.exit 3)
       .skip)))
def c_spec_FewestChains_l1 : ACode :=
  (.seq (.cut c_spec_FewestChains_k1)
  (.drop [38, 39, 40, 41, 42, 43, 44, 45, 46, 47] (.seq (.block 3 (.seq (.cut c_spec_FewestChains_k2)
     (.drop [50, 51, 52, 53, 54, 55, 56, 57, 58, 59, 60] (.seq (.reg [⟨none, .mov 61 (.t 6)⟩,
         ⟨none, .mov 62 (.t 10)⟩,
         ⟨none, .iad 63 1 (.t 61) (.t 62)⟩,
         ⟨none, .st 1 (.t 63) (.c (.bool true))⟩])
      (.drop [61, 62, 63] (.seq (.reg [⟨none, .ld 64 1 true (.t 1)⟩,
          ⟨none, .mov 65 (.t 8)⟩,
          ⟨none, .bin 66 .add (.t 65) (.c (.int .i64 1))⟩,
          ⟨none, .mov 67 (.t 6)⟩,
          ⟨none, .call 68 f_spec_l23Followers [((.t 64), false), ((.t 66), false), ((.t 67), false)]⟩,
          ⟨none, .bin 69 .add (.t 68) (.c (.int .i64 1))⟩,
          ⟨none, .mov 70 (.t 9)⟩,
          ⟨none, .bin 71 .eql (.t 69) (.t 70)⟩])
       (.drop [64, 65, 66, 67, 68, 69, 70] (.cond (.t 71) (.reg [⟨none, .mov 72 (.t 7)⟩,
           ⟨none, .mov 73 (.t 8)⟩,
           ⟨none, .mov 74 (.t 10)⟩,
           ⟨none, .iad 75 1 (.t 72) (.t 73)⟩,
           ⟨none, .st 1 (.t 75) (.t 74)⟩])
        (.reg [⟨none, .mov 76 (.t 6)⟩,
           ⟨none, .mov 77 (.t 10)⟩,
           ⟨none, .iad 78 1 (.t 76) (.t 77)⟩,
           ⟨none, .st 1 (.t 78) (.c (.bool false))⟩])))))))))
   (.drop [50, 51, 52, 53, 54, 55, 56, 57, 58, 59, 60, 61, 62, 63, 64, 65, 66, 67, 68, 69, 70, 71, 72, 73, 74, 75, 76, 77, 78] (.reg [⟨none, .mov 48 (.t 10)⟩,
      ⟨none, .bin 49 .add (.t 48) (.c (.int .i64 1))⟩,
      ⟨none, .asg 10 (.t 49)⟩])))))
def c_spec_FewestChains_l2 : ACode :=
  (.seq (.seq (.reg [⟨none, .mov 26 (.t 8)⟩,
      ⟨none, .mov 27 (.t 5)⟩,
      ⟨none, .bin 28 .lss (.t 26) (.t 27)⟩])
   (.drop [26, 27] (.cond (.t 28) .skip
    (.exit 0))))
  (.drop [26, 27, 28] (.seq (.block 1 (.seq (.reg [⟨none, .mov 31 (.t 7)⟩,
        ⟨none, .mov 32 (.t 8)⟩,
        ⟨none, .iad 33 1 (.t 31) (.t 32)⟩,
        ⟨none, .st 1 (.t 33) (.c (.int .i64 (-1)))⟩])
     (.drop [31, 32, 33] (.seq (.reg [⟨none, .ld 34 1 true (.t 1)⟩,
         ⟨none, .mov 35 (.t 8)⟩,
         ⟨none, .mov 36 (.t 6)⟩,
         ⟨none, .call 37 f_spec_l23Followers [((.t 34), false), ((.t 35), false), ((.t 36), false)]⟩,
         ⟨none, .asg 9 (.t 37)⟩])
      (.drop [34, 35, 36, 37] (.seq (.reg [⟨none, .asg 10 (.c (.int .i64 0))⟩])
       (.block 2 (.loop c_spec_FewestChains_l1))))))))
   (.drop [31, 32, 33, 34, 35, 36, 37, 9, 10, 38, 39, 40, 41, 42, 43, 44, 45, 46, 47, 50, 51, 52, 53, 54, 55, 56, 57, 58, 59, 60, 61, 62, 63, 64, 65, 66, 67, 68, 69, 70, 71, 72, 73, 74, 75, 76, 77, 78, 48, 49] (.reg [⟨none, .mov 29 (.t 8)⟩,
      ⟨none, .bin 30 .add (.t 29) (.c (.int .i64 1))⟩,
      ⟨none, .asg 8 (.t 30)⟩])))))
def c_spec_FewestChains_l3 : ACode :=
  (.seq (.seq (.reg [⟨none, .mov 90 (.t 13)⟩,
      ⟨none, .bin 91 .geq (.t 90) (.c (.int .i64 0))⟩])
   (.drop [90] (.cond (.t 91) .skip
    (.exit 6))))
  (.drop [90, 91] (.seq (.block 7 (.reg [⟨none, .mov 96 (.t 12)⟩,
       ⟨none, .mov 97 (.t 13)⟩,
       ⟨none, .bsl 98 1 [(.t 97)]⟩,
       ⟨none, .app 99 1 (.t 96) (.t 98)⟩,
       ⟨none, .asg 12 (.t 99)⟩]))
   (.drop [96, 97, 98, 99] (.reg [⟨none, .mov 92 (.t 7)⟩,
      ⟨none, .mov 93 (.t 13)⟩,
      ⟨none, .iad 94 1 (.t 92) (.t 93)⟩,
      ⟨none, .ld 95 1 false (.t 94)⟩,
      ⟨none, .asg 13 (.t 95)⟩])))))
def c_spec_FewestChains_l4 : ACode :=
  (.seq (.seq (.reg [⟨none, .mov 79 (.t 11)⟩,
      ⟨none, .mov 80 (.t 5)⟩,
      ⟨none, .bin 81 .lss (.t 79) (.t 80)⟩])
   (.drop [79, 80] (.cond (.t 81) .skip
    (.exit 4))))
  (.drop [79, 80, 81] (.seq (.block 5 (.seq (.seq (.reg [⟨none, .mov 84 (.t 6)⟩,
         ⟨none, .mov 85 (.t 11)⟩,
         ⟨none, .iad 86 1 (.t 84) (.t 85)⟩,
         ⟨none, .ld 87 1 false (.t 86)⟩])
      (.drop [84, 85, 86] (.cond (.t 87) (.exit 5)
       .skip)))
     (.drop [84, 85, 86, 87] (.seq (.reg [⟨none, .bsl 88 1 []⟩,
         ⟨none, .asg 12 (.t 88)⟩])
      (.drop [88] (.seq (.seq (.reg [⟨none, .mov 89 (.t 11)⟩,
           ⟨none, .asg 13 (.t 89)⟩])
        (.drop [89] (.block 6 (.loop c_spec_FewestChains_l3))))
       (.drop [89, 13, 90, 91, 96, 97, 98, 99, 92, 93, 94, 95] (.reg [⟨none, .mov 100 (.t 4)⟩,
          ⟨none, .mov 101 (.t 12)⟩,
          ⟨none, .bsl 102 1 [(.t 101)]⟩,
          ⟨none, .app 103 1 (.t 100) (.t 102)⟩,
          ⟨none, .asg 4 (.t 103)⟩]))))))))
   (.drop [84, 85, 86, 87, 88, 12, 89, 13, 90, 91, 96, 97, 98, 99, 92, 93, 94, 95, 100, 101, 102, 103] (.reg [⟨none, .mov 82 (.t 11)⟩,
      ⟨none, .bin 83 .add (.t 82) (.c (.int .i64 1))⟩,
      ⟨none, .asg 11 (.t 83)⟩])))))
def c_spec_FewestChains : ACode :=
  (.seq (.reg [⟨none, .box 1 (.t 0)⟩,
     ⟨none, .asg 2 (.c (.nilsl 1))⟩,
     ⟨none, .asg 3 (.c (.bool false))⟩])
  (.seq (.reg [⟨none, .bsl 14 1 []⟩,
      ⟨none, .asg 4 (.t 14)⟩])
   (.drop [14] (.seq (.seq (.reg [⟨none, .ld 15 1 true (.t 1)⟩,
        ⟨none, .call 16 f_spec_l23Good [((.t 15), false)]⟩,
        ⟨none, .un 17 .not (.t 16)⟩])
     (.drop [15, 16] (.cond (.t 17) (.seq (.reg [⟨none, .mov 18 (.t 4)⟩,
          ⟨none, .asg 2 (.t 18)⟩,
          ⟨none, .asg 3 (.c (.bool false))⟩])
       (.drop [18] .ret))
      .skip)))
    (.drop [15, 16, 17, 18] (.seq (.reg [⟨none, .fadr 19 0 (.t 1)⟩,
        ⟨none, .ld 20 1 false (.t 19)⟩,
        ⟨none, .len 21 (.t 20)⟩,
        ⟨none, .asg 5 (.t 21)⟩])
     (.drop [19, 20, 21] (.seq (.dreg [(⟨none, .mov 22 (.t 5)⟩, []),
         (⟨none, .mk 23 1 (.bool false) (.t 22)⟩, []),
         (⟨none, .mov 24 (.t 5)⟩, [22, 23]),
         (⟨none, .mk 25 1 (.int .i64 0) (.t 24)⟩, [22, 23]),
         (⟨none, .asg 6 (.t 23)⟩, [24, 25])]
        [⟨none, .asg 7 (.t 25)⟩])
      (.drop [22, 23, 24, 25] (.seq (.seq (.reg [⟨none, .asg 8 (.c (.int .i64 0))⟩])
        (.block 0 (.loop c_spec_FewestChains_l2)))
       (.drop [8, 26, 27, 28, 31, 32, 33, 34, 35, 36, 37, 9, 10, 38, 39, 40, 41, 42, 43, 44, 45, 46, 47, 50, 51, 52, 53, 54, 55, 56, 57, 58, 59, 60, 61, 62, 63, 64, 65, 66, 67, 68, 69, 70, 71, 72, 73, 74, 75, 76, 77, 78, 48, 49, 29, 30] (.seq (.seq (.reg [⟨none, .asg 11 (.c (.int .i64 0))⟩])
         (.block 4 (.loop c_spec_FewestChains_l4)))
        (.drop [11, 79, 80, 81, 84, 85, 86, 87, 88, 12, 89, 13, 90, 91, 96, 97, 98, 99, 92, 93, 94, 95, 100, 101, 102, 103, 82, 83] (.seq (.reg [⟨none, .mov 104 (.t 4)⟩,
            ⟨none, .asg 2 (.t 104)⟩,
            ⟨none, .asg 3 (.c (.bool true))⟩])
         (.drop [104] .ret)))))))))))))))
abbrev r_spec_FewestChains : List RS := [.t 2, .t 3]
theorem k_spec_FewestChains : fitsF Try.prog f_spec_FewestChains 105 c_spec_FewestChains r_spec_FewestChains = true := by kernel_rfl

/- loop.example/g01078/spec.JoinIrreducibles: [p=0, p=1] -/
def c_spec_JoinIrreducibles : ACode :=
  (.seq (.reg [⟨none, .box 1 (.t 0)⟩,
     ⟨none, .asg 2 (.c (.nilsl 1))⟩,
     ⟨none, .asg 3 (.c (.bool false))⟩])
  (.seq (.seq (.reg [⟨none, .ld 4 1 true (.t 1)⟩,
       ⟨none, .call 5 f_spec_l24Good [((.t 4), false)]⟩,
       ⟨none, .un 6 .not (.t 5)⟩])
    (.drop [4, 5] (.cond (.t 6) (.seq (.reg [⟨none, .bsl 7 1 []⟩,
         ⟨none, .asg 2 (.t 7)⟩,
         ⟨none, .asg 3 (.c (.bool false))⟩])
      (.drop [7] .ret))
     .skip)))
   (.drop [4, 5, 6, 7] (.seq (.reg [⟨none, .ld 8 1 true (.t 1)⟩,
       ⟨none, .call 9 f_spec_l24Irreducibles [((.t 8), false)]⟩,
       ⟨none, .asg 2 (.t 9)⟩,
       ⟨none, .asg 3 (.c (.bool true))⟩])
    (.drop [8, 9] .ret)))))
abbrev r_spec_JoinIrreducibles : List RS := [.t 2, .t 3]
theorem k_spec_JoinIrreducibles : fitsF Try.prog f_spec_JoinIrreducibles 10 c_spec_JoinIrreducibles r_spec_JoinIrreducibles = true := by kernel_rfl

/- loop.example/g01078/spec.MeetIrreducibles: [p=0, p=1] -/
def c_spec_MeetIrreducibles : ACode :=
  (.seq (.reg [⟨none, .box 1 (.t 0)⟩,
     ⟨none, .asg 2 (.c (.nilsl 1))⟩,
     ⟨none, .asg 3 (.c (.bool false))⟩])
  (.seq (.seq (.reg [⟨none, .ld 4 1 true (.t 1)⟩,
       ⟨none, .call 5 f_spec_l24Good [((.t 4), false)]⟩,
       ⟨none, .un 6 .not (.t 5)⟩])
    (.drop [4, 5] (.cond (.t 6) (.seq (.reg [⟨none, .bsl 7 1 []⟩,
         ⟨none, .asg 2 (.t 7)⟩,
         ⟨none, .asg 3 (.c (.bool false))⟩])
      (.drop [7] .ret))
     .skip)))
   (.drop [4, 5, 6, 7] (.seq (.reg [⟨none, .ld 8 1 true (.t 1)⟩,
       ⟨none, .call 9 f_spec_l23Dual [((.t 8), false)]⟩,
       ⟨none, .call 10 f_spec_l24Irreducibles [((.t 9), false)]⟩,
       ⟨none, .asg 2 (.t 10)⟩,
       ⟨none, .asg 3 (.c (.bool true))⟩])
    (.drop [8, 9, 10] .ret)))))
abbrev r_spec_MeetIrreducibles : List RS := [.t 2, .t 3]
theorem k_spec_MeetIrreducibles : fitsF Try.prog f_spec_MeetIrreducibles 11 c_spec_MeetIrreducibles r_spec_MeetIrreducibles = true := by kernel_rfl

/- (*loop.example/g01078/impl.lattice).irreducibles: [l=0, l=1] -/
def c_impl_lattice_irreducibles : ACode :=
  (.seq (.reg [⟨none, .box 1 (.t 0)⟩,
     ⟨none, .asg 2 (.c (.nilsl 1))⟩])
  (.seq (.reg [⟨none, .ld 3 1 false (.t 1)⟩,
      ⟨none, .nck 4 (.t 3)⟩,
      ⟨none, .fadr 5 0 (.t 4)⟩,
      ⟨none, .ld 6 1 false (.t 5)⟩,
      ⟨none, .mkf 7 f_impl_lattice_irreducibles_1 [(.t 1)]⟩,
      ⟨none, .call 8 f_impl_order_those [((.t 6), false), ((.t 7), false)]⟩,
      ⟨none, .asg 2 (.t 8)⟩])
   (.drop [3, 4, 5, 6, 7, 8] .ret)))
abbrev r_impl_lattice_irreducibles : List RS := [.t 2]
theorem k_impl_lattice_irreducibles : fitsF Try.prog f_impl_lattice_irreducibles 9 c_impl_lattice_irreducibles r_impl_lattice_irreducibles = true := by kernel_rfl

/- loop.example/g01078/impl.MeetIrreducibles$1: [l=0, l=1] -/
def c_impl_MeetIrreducibles_1 : ACode :=
  (.seq (.reg [⟨none, .box 1 (.t 0)⟩,
     ⟨none, .asg 2 (.c (.nilsl 1))⟩])
  (.seq (.reg [⟨none, .ld 3 1 false (.t 1)⟩,
      ⟨none, .nck 4 (.t 3)⟩,
      ⟨none, .fadr 5 0 (.t 4)⟩,
      ⟨none, .ld 6 1 false (.t 5)⟩,
      ⟨none, .mkf 7 f_impl_MeetIrreducibles_1_1 [(.t 1)]⟩,
      ⟨none, .call 8 f_impl_order_those [((.t 6), false), ((.t 7), false)]⟩,
      ⟨none, .asg 2 (.t 8)⟩])
   (.drop [3, 4, 5, 6, 7, 8] .ret)))
abbrev r_impl_MeetIrreducibles_1 : List RS := [.t 2]
theorem k_impl_MeetIrreducibles_1 : fitsF Try.prog f_impl_MeetIrreducibles_1 9 c_impl_MeetIrreducibles_1 r_impl_MeetIrreducibles_1 = true := by kernel_rfl

/- loop.example/g01078/laws.FnExactCoverPairs: [aP=0, aP=1, left=3, w0=4, w1=5, x0=6, g0=7, g1=8, k=9, m=10, q=11, h0=12, h1=13] -/
def c_laws_FnExactCoverPairs_k1 : ACode :=
  (.seq (.reg [⟨none, .mov 32 (.t 7)⟩,
             ⟨none, .mov 33 (.t 4)⟩,
             ⟨none, .call 34 f_laws_eqIntA2S [((.t 32), false), ((.t 33), false)]⟩,
             ⟨none, .un 35 .not (.t 34)⟩,
             ⟨none, .asg 36 (.t 35)⟩,
             ⟨some (36, false), .mov 37 (.t 8)⟩,
             ⟨some (36, false), .mov 38 (.t 5)⟩,
             ⟨some (36, false), .binb 39 .neq (.t 37) (.t 38)⟩,
             ⟨none, .pick 40 (.t 36) (.c (.bool true)) (.t 39)⟩])
          (.drop [32, 33, 34, 35, 36, 37, 38, 39] (.cond (.t 40) (.seq (.reg [⟨none, .asg 2 (.c (.bool false))⟩])
            .ret)
           .skip)))
def c_laws_FnExactCoverPairs_k2 : ACode :=
  (.seq (.reg [⟨none, .mov 49 (.t 9)⟩,
                 ⟨none, .bin 50 .lss (.t 49) (.c (.int .i64 0))⟩,
                 ⟨none, .asg 51 (.t 50)⟩,
                 ⟨some (51, false), .mov 52 (.t 7)⟩,
                 ⟨some (51, false), .mov 53 (.t 4)⟩,
                 ⟨some (51, false), .call 54 f_laws_eqIntA2S [((.t 52), false), ((.t 53), false)]⟩,
                 ⟨some (51, false), .un 55 .not (.t 54)⟩,
                 ⟨none, .pick 56 (.t 51) (.c (.bool true)) (.t 55)⟩,
                 ⟨none, .asg 57 (.t 56)⟩,
                 ⟨some (57, false), .mov 58 (.t 8)⟩,
                 ⟨some (57, false), .mov 59 (.t 5)⟩,
                 ⟨some (57, false), .binb 60 .neq (.t 58) (.t 59)⟩,
                 ⟨none, .pick 61 (.t 57) (.c (.bool true)) (.t 60)⟩])
              (.drop [49, 50, 51, 52, 53, 54, 55, 56, 57, 58, 59, 60] (.cond (.t 61) (.seq (.reg [⟨none, .asg 2 (.c (.bool false))⟩])
                .ret)
               .skip)))
def c_laws_FnExactCoverPairs_k3 : ACode :=
  (.seq (.reg [⟨none, .mov 79 (.t 12)⟩,
                         ⟨none, .mov 80 (.t 4)⟩,
                         ⟨none, .call 81 f_laws_eqIntA2S [((.t 79), false), ((.t 80), false)]⟩,
                         ⟨none, .un 82 .not (.t 81)⟩,
                         ⟨none, .asg 83 (.t 82)⟩,
                         ⟨some (83, false), .mov 84 (.t 13)⟩,
                         ⟨some (83, false), .mov 85 (.t 5)⟩,
                         ⟨some (83, false), .binb 86 .neq (.t 84) (.t 85)⟩,
                         ⟨none, .pick 87 (.t 83) (.c (.bool true)) (.t 86)⟩])
                      (.drop [79, 80, 81, 82, 83, 84, 85, 86] (.cond (.t 87) (.seq (.reg [⟨none, .asg 2 (.c (.bool false))⟩])
                        .ret)
                       .skip)))
def c_laws_FnExactCoverPairs : ACode :=
  (.seq (.reg [⟨none, .box 1 (.t 0)⟩,
     ⟨none, .asg 2 (.c (.bool false))⟩])
  (.seq (.reg [⟨none, .asg 3 (.c (.int .i64 1048576))⟩])
   (.seq (.reg [⟨none, .ld 14 1 true (.t 1)⟩,
       ⟨none, .mov 15 (.t 3)⟩,
       ⟨none, .call 16 f_laws_szPoset [((.t 14), false), ((.t 15), false)]⟩,
       ⟨none, .asg 3 (.t 16)⟩])
    (.drop [14, 15, 16] (.seq (.seq (.reg [⟨none, .mov 17 (.t 3)⟩,
         ⟨none, .bin 18 .lss (.t 17) (.c (.int .i64 0))⟩])
      (.drop [17] (.cond (.t 18) (.seq (.reg [⟨none, .asg 2 (.c (.bool true))⟩])
        .ret)
       .skip)))
     (.drop [17, 18] (.seq (.reg [⟨none, .ld 20 1 true (.t 1)⟩,
         ⟨none, .call 21 f_laws_toPoset [((.t 20), false)]⟩,
         ⟨none, .call 22 f_spec_CoverPairs [((.t 21), false)]⟩,
         ⟨none, .asg 19 (.t 22)⟩,
         ⟨none, .ext 23 (.t 19) 0⟩,
         ⟨none, .ext 24 (.t 19) 1⟩,
         ⟨none, .asg 4 (.t 23)⟩,
         ⟨none, .asg 5 (.t 24)⟩])
      (.drop [20, 21, 22, 19, 23, 24] (.seq (.reg [⟨none, .ld 25 1 true (.t 1)⟩,
          ⟨none, .call 26 f_laws_toPoset [((.t 25), false)]⟩,
          ⟨none, .alc 6 (.agg [.nilsl 1])⟩,
          ⟨none, .st 1 (.t 6) (.t 26)⟩])
       (.drop [25, 26] (.seq (.reg [⟨none, .ld 28 1 true (.t 6)⟩,
           ⟨none, .call 29 f_impl_CoverPairs [((.t 28), false)]⟩,
           ⟨none, .asg 27 (.t 29)⟩,
           ⟨none, .ext 30 (.t 27) 0⟩,
           ⟨none, .ext 31 (.t 27) 1⟩,
           ⟨none, .asg 7 (.t 30)⟩,
           ⟨none, .asg 8 (.t 31)⟩])
        (.drop [28, 29, 27, 30, 31] (.seq (.cut c_laws_FnExactCoverPairs_k1)
         (.drop [32, 33, 34, 35, 36, 37, 38, 39, 40] (.seq (.seq (.dreg [(⟨none, .ld 41 1 true (.t 6)⟩, []),
              (⟨none, .ld 42 1 true (.t 1)⟩, [41]),
              (⟨none, .call 43 f_laws_toPoset [((.t 42), false)]⟩, [41])]
             [⟨none, .call 44 f_laws_eqPoset [((.t 41), false), ((.t 43), false)]⟩,
              ⟨none, .un 45 .not (.t 44)⟩])
           (.drop [41, 42, 43, 44] (.cond (.t 45) (.seq (.reg [⟨none, .asg 2 (.c (.bool false))⟩])
             .ret)
            .skip)))
          (.drop [41, 42, 43, 44, 45] (.seq (.reg [⟨none, .asg 9 (.c (.int .i64 1))⟩])
           (.seq (.reg [⟨none, .ld 46 1 true (.t 6)⟩,
               ⟨none, .mov 47 (.t 9)⟩,
               ⟨none, .call 48 f_laws_markPoset [((.t 46), true), ((.t 47), false)]⟩,
               ⟨none, .asg 9 (.t 48)⟩])
            (.drop [46, 47, 48] (.seq (.cut c_laws_FnExactCoverPairs_k2)
             (.drop [49, 50, 51, 52, 53, 54, 55, 56, 57, 58, 59, 60, 61] (.seq (.reg [⟨none, .asg 10 (.c (.int .i64 1))⟩])
              (.seq (.reg [⟨none, .mov 62 (.t 7)⟩,
                  ⟨none, .mov 63 (.t 10)⟩,
                  ⟨none, .call 64 f_laws_markIntA2S [((.t 62), true), ((.t 63), false)]⟩,
                  ⟨none, .asg 10 (.t 64)⟩])
               (.drop [62, 63, 64] (.seq (.reg [⟨none, .asg 11 (.c (.int .i64 1))⟩])
                (.seq (.reg [⟨none, .mov 65 (.t 7)⟩,
                    ⟨none, .mov 66 (.t 11)⟩,
                    ⟨none, .call 67 f_laws_heldIntA2S [((.t 65), false), ((.t 66), false)]⟩,
                    ⟨none, .asg 11 (.t 67)⟩])
                 (.drop [65, 66, 67] (.seq (.seq (.reg [⟨none, .mov 68 (.t 11)⟩,
                      ⟨none, .bin 69 .lss (.t 68) (.c (.int .i64 0))⟩])
                   (.drop [68] (.cond (.t 69) (.seq (.reg [⟨none, .asg 2 (.c (.bool false))⟩])
                     .ret)
                    .skip)))
                  (.drop [68, 69] (.seq (.seq (.reg [⟨none, .mov 70 (.t 11)⟩,
                       ⟨none, .mov 71 (.t 10)⟩,
                       ⟨none, .bin 72 .neq (.t 70) (.t 71)⟩])
                    (.drop [70, 71] (.cond (.t 72) (.seq (.reg [⟨none, .asg 2 (.c (.bool false))⟩])
                      .ret)
                     .skip)))
                   (.drop [70, 71, 72] (.seq (.reg [⟨none, .ld 74 1 true (.t 1)⟩,
                       ⟨none, .call 75 f_laws_toPoset [((.t 74), false)]⟩,
                       ⟨none, .call 76 f_impl_CoverPairs [((.t 75), false)]⟩,
                       ⟨none, .asg 73 (.t 76)⟩,
                       ⟨none, .ext 77 (.t 73) 0⟩,
                       ⟨none, .ext 78 (.t 73) 1⟩,
                       ⟨none, .asg 12 (.t 77)⟩,
                       ⟨none, .asg 13 (.t 78)⟩])
                    (.drop [74, 75, 76, 73, 77, 78] (.seq (.cut c_laws_FnExactCoverPairs_k3)
                     (.drop [79, 80, 81, 82, 83, 84, 85, 86, 87] (.seq (.reg [⟨none, .asg 11 (.c (.int .i64 1))⟩])
                      (.seq (.reg [⟨none, .mov 88 (.t 7)⟩,
                          ⟨none, .mov 89 (.t 11)⟩,
                          ⟨none, .call 90 f_laws_heldIntA2S [((.t 88), false), ((.t 89), false)]⟩,
                          ⟨none, .asg 11 (.t 90)⟩])
                       (.drop [88, 89, 90] (.seq (.seq (.reg [⟨none, .mov 91 (.t 11)⟩,
                            ⟨none, .bin 92 .lss (.t 91) (.c (.int .i64 0))⟩])
                         (.drop [91] (.cond (.t 92) (.seq (.reg [⟨none, .asg 2 (.c (.bool false))⟩])
                           .ret)
                          .skip)))
                        (.drop [91, 92] (.seq (.seq (.reg [⟨none, .mov 93 (.t 11)⟩,
                             ⟨none, .mov 94 (.t 10)⟩,
                             ⟨none, .bin 95 .neq (.t 93) (.t 94)⟩])
                          (.drop [93, 94] (.cond (.t 95) (.seq (.reg [⟨none, .asg 2 (.c (.bool false))⟩])
                            .ret)
                           .skip)))
                         (.drop [93, 94, 95] (.seq (.reg [⟨none, .asg 2 (.c (.bool true))⟩])
                          .ret)))))))))))))))))))))))))))))))))))))))))))
abbrev r_laws_FnExactCoverPairs : List RS := [.t 2]
theorem k_laws_FnExactCoverPairs : fitsF Try.prog f_laws_FnExactCoverPairs 96 c_laws_FnExactCoverPairs r_laws_FnExactCoverPairs = true := by kernel_rfl

/- loop.example/g01078/laws.FnExactJoinOf: [aP=0, aX=1, aY=2, aP=3, aX=4, aY=5, left=7, w0=8, w1=9, x0=10, g0=11, g1=12] -/
def c_laws_FnExactJoinOf : ACode :=
  (.seq (.reg [⟨none, .box 3 (.t 0)⟩,
     ⟨none, .asg 6 (.c (.bool false))⟩])
  (.seq (.reg [⟨none, .asg 7 (.c (.int .i64 1048576))⟩])
   (.seq (.reg [⟨none, .ld 13 1 true (.t 3)⟩,
       ⟨none, .mov 14 (.t 7)⟩,
       ⟨none, .call 15 f_laws_szPoset [((.t 13), false), ((.t 14), false)]⟩,
       ⟨none, .asg 7 (.t 15)⟩])
    (.drop [13, 14, 15] (.seq (.seq (.reg [⟨none, .mov 16 (.t 7)⟩,
         ⟨none, .bin 17 .lss (.t 16) (.c (.int .i64 0))⟩])
      (.drop [16] (.cond (.t 17) (.seq (.reg [⟨none, .asg 6 (.c (.bool true))⟩])
        .ret)
       .skip)))
     (.drop [16, 17] (.seq (.reg [⟨none, .ld 19 1 true (.t 3)⟩,
         ⟨none, .call 20 f_laws_toPoset [((.t 19), false)]⟩,
         ⟨none, .mov 21 (.t 1)⟩,
         ⟨none, .mov 22 (.t 2)⟩,
         ⟨none, .call 23 f_spec_JoinOf [((.t 20), false), ((.t 21), false), ((.t 22), false)]⟩,
         ⟨none, .asg 18 (.t 23)⟩,
         ⟨none, .ext 24 (.t 18) 0⟩,
         ⟨none, .ext 25 (.t 18) 1⟩,
         ⟨none, .asg 8 (.t 24)⟩,
         ⟨none, .asg 9 (.t 25)⟩])
      (.drop [19, 20, 21, 22, 23, 18, 24, 25] (.seq (.reg [⟨none, .ld 26 1 true (.t 3)⟩,
          ⟨none, .call 27 f_laws_toPoset [((.t 26), false)]⟩,
          ⟨none, .alc 10 (.agg [.nilsl 1])⟩,
          ⟨none, .st 1 (.t 10) (.t 27)⟩])
       (.drop [26, 27] (.seq (.reg [⟨none, .ld 29 1 true (.t 10)⟩,
           ⟨none, .mov 30 (.t 1)⟩,
           ⟨none, .mov 31 (.t 2)⟩,
           ⟨none, .call 32 f_impl_JoinOf [((.t 29), false), ((.t 30), false), ((.t 31), false)]⟩,
           ⟨none, .asg 28 (.t 32)⟩,
           ⟨none, .ext 33 (.t 28) 0⟩,
           ⟨none, .ext 34 (.t 28) 1⟩,
           ⟨none, .asg 11 (.t 33)⟩,
           ⟨none, .asg 12 (.t 34)⟩])
        (.drop [29, 30, 31, 32, 28, 33, 34] (.seq (.seq (.reg [⟨none, .mov 35 (.t 11)⟩,
             ⟨none, .mov 36 (.t 8)⟩,
             ⟨none, .bin 37 .neq (.t 35) (.t 36)⟩,
             ⟨none, .asg 38 (.t 37)⟩,
             ⟨some (38, false), .mov 39 (.t 12)⟩,
             ⟨some (38, false), .mov 40 (.t 9)⟩,
             ⟨some (38, false), .binb 41 .neq (.t 39) (.t 40)⟩,
             ⟨none, .pick 42 (.t 38) (.c (.bool true)) (.t 41)⟩])
          (.drop [35, 36, 37, 38, 39, 40, 41] (.cond (.t 42) (.seq (.reg [⟨none, .asg 6 (.c (.bool false))⟩])
            .ret)
           .skip)))
         (.drop [35, 36, 37, 38, 39, 40, 41, 42] (.seq (.seq (.dreg [(⟨none, .ld 43 1 true (.t 10)⟩, []),
              (⟨none, .ld 44 1 true (.t 3)⟩, [43]),
              (⟨none, .call 45 f_laws_toPoset [((.t 44), false)]⟩, [43])]
             [⟨none, .call 46 f_laws_eqPoset [((.t 43), false), ((.t 45), false)]⟩,
              ⟨none, .un 47 .not (.t 46)⟩])
           (.drop [43, 44, 45, 46] (.cond (.t 47) (.seq (.reg [⟨none, .asg 6 (.c (.bool false))⟩])
             .ret)
            .skip)))
          (.drop [43, 44, 45, 46, 47] (.seq (.reg [⟨none, .asg 6 (.c (.bool true))⟩])
           .ret)))))))))))))))))
abbrev r_laws_FnExactJoinOf : List RS := [.t 6]
theorem k_laws_FnExactJoinOf : fitsF Try.prog f_laws_FnExactJoinOf 48 c_laws_FnExactJoinOf r_laws_FnExactJoinOf = true := by kernel_rfl

/- loop.example/g01078/laws.FnExactMeetOf: [aP=0, aX=1, aY=2, aP=3, aX=4, aY=5, left=7, w0=8, w1=9, x0=10, g0=11, g1=12] -/
def c_laws_FnExactMeetOf : ACode :=
  (.seq (.reg [⟨none, .box 3 (.t 0)⟩,
     ⟨none, .asg 6 (.c (.bool false))⟩])
  (.seq (.reg [⟨none, .asg 7 (.c (.int .i64 1048576))⟩])
   (.seq (.reg [⟨none, .ld 13 1 true (.t 3)⟩,
       ⟨none, .mov 14 (.t 7)⟩,
       ⟨none, .call 15 f_laws_szPoset [((.t 13), false), ((.t 14), false)]⟩,
       ⟨none, .asg 7 (.t 15)⟩])
    (.drop [13, 14, 15] (.seq (.seq (.reg [⟨none, .mov 16 (.t 7)⟩,
         ⟨none, .bin 17 .lss (.t 16) (.c (.int .i64 0))⟩])
      (.drop [16] (.cond (.t 17) (.seq (.reg [⟨none, .asg 6 (.c (.bool true))⟩])
        .ret)
       .skip)))
     (.drop [16, 17] (.seq (.reg [⟨none, .ld 19 1 true (.t 3)⟩,
         ⟨none, .call 20 f_laws_toPoset [((.t 19), false)]⟩,
         ⟨none, .mov 21 (.t 1)⟩,
         ⟨none, .mov 22 (.t 2)⟩,
         ⟨none, .call 23 f_spec_MeetOf [((.t 20), false), ((.t 21), false), ((.t 22), false)]⟩,
         ⟨none, .asg 18 (.t 23)⟩,
         ⟨none, .ext 24 (.t 18) 0⟩,
         ⟨none, .ext 25 (.t 18) 1⟩,
         ⟨none, .asg 8 (.t 24)⟩,
         ⟨none, .asg 9 (.t 25)⟩])
      (.drop [19, 20, 21, 22, 23, 18, 24, 25] (.seq (.reg [⟨none, .ld 26 1 true (.t 3)⟩,
          ⟨none, .call 27 f_laws_toPoset [((.t 26), false)]⟩,
          ⟨none, .alc 10 (.agg [.nilsl 1])⟩,
          ⟨none, .st 1 (.t 10) (.t 27)⟩])
       (.drop [26, 27] (.seq (.reg [⟨none, .ld 29 1 true (.t 10)⟩,
           ⟨none, .mov 30 (.t 1)⟩,
           ⟨none, .mov 31 (.t 2)⟩,
           ⟨none, .call 32 f_impl_MeetOf [((.t 29), false), ((.t 30), false), ((.t 31), false)]⟩,
           ⟨none, .asg 28 (.t 32)⟩,
           ⟨none, .ext 33 (.t 28) 0⟩,
           ⟨none, .ext 34 (.t 28) 1⟩,
           ⟨none, .asg 11 (.t 33)⟩,
           ⟨none, .asg 12 (.t 34)⟩])
        (.drop [29, 30, 31, 32, 28, 33, 34] (.seq (.seq (.reg [⟨none, .mov 35 (.t 11)⟩,
             ⟨none, .mov 36 (.t 8)⟩,
             ⟨none, .bin 37 .neq (.t 35) (.t 36)⟩,
             ⟨none, .asg 38 (.t 37)⟩,
             ⟨some (38, false), .mov 39 (.t 12)⟩,
             ⟨some (38, false), .mov 40 (.t 9)⟩,
             ⟨some (38, false), .binb 41 .neq (.t 39) (.t 40)⟩,
             ⟨none, .pick 42 (.t 38) (.c (.bool true)) (.t 41)⟩])
          (.drop [35, 36, 37, 38, 39, 40, 41] (.cond (.t 42) (.seq (.reg [⟨none, .asg 6 (.c (.bool false))⟩])
            .ret)
           .skip)))
         (.drop [35, 36, 37, 38, 39, 40, 41, 42] (.seq (.seq (.dreg [(⟨none, .ld 43 1 true (.t 10)⟩, []),
              (⟨none, .ld 44 1 true (.t 3)⟩, [43]),
              (⟨none, .call 45 f_laws_toPoset [((.t 44), false)]⟩, [43])]
             [⟨none, .call 46 f_laws_eqPoset [((.t 43), false), ((.t 45), false)]⟩,
              ⟨none, .un 47 .not (.t 46)⟩])
           (.drop [43, 44, 45, 46] (.cond (.t 47) (.seq (.reg [⟨none, .asg 6 (.c (.bool false))⟩])
             .ret)
            .skip)))
          (.drop [43, 44, 45, 46, 47] (.seq (.reg [⟨none, .asg 6 (.c (.bool true))⟩])
           .ret)))))))))))))))))
abbrev r_laws_FnExactMeetOf : List RS := [.t 6]
theorem k_laws_FnExactMeetOf : fitsF Try.prog f_laws_FnExactMeetOf 48 c_laws_FnExactMeetOf r_laws_FnExactMeetOf = true := by kernel_rfl

/- loop.example/g01078/laws.FnExactJoinAll: [aP=0, aSome=1, aP=2, aSome=3, left=5, w0=6, w1=7, x0=8, x1=9, g0=10, g1=11] -/
def c_laws_FnExactJoinAll_k1 : ACode :=
  (.seq (.reg [⟨none, .mov 38 (.t 10)⟩,
               ⟨none, .mov 39 (.t 6)⟩,
               ⟨none, .bin 40 .neq (.t 38) (.t 39)⟩,
               ⟨none, .asg 41 (.t 40)⟩,
               ⟨some (41, false), .mov 42 (.t 11)⟩,
               ⟨some (41, false), .mov 43 (.t 7)⟩,
               ⟨some (41, false), .binb 44 .neq (.t 42) (.t 43)⟩,
               ⟨none, .pick 45 (.t 41) (.c (.bool true)) (.t 44)⟩])
            (.drop [38, 39, 40, 41, 42, 43, 44] (.cond (.t 45) (.seq (.reg [⟨none, .asg 4 (.c (.bool false))⟩])
              .ret)
             .skip)))
def c_laws_FnExactJoinAll : ACode :=
  (.seq (.reg [⟨none, .box 2 (.t 0)⟩,
     ⟨none, .asg 4 (.c (.bool false))⟩])
  (.seq (.seq (.reg [⟨none, .mov 12 (.t 1)⟩,
       ⟨none, .len 13 (.t 12)⟩,
       ⟨none, .bin 14 .gtr (.t 13) (.c (.int .i64 1048576))⟩])
    (.drop [12, 13] (.cond (.t 14) (.seq (.reg [⟨none, .asg 4 (.c (.bool true))⟩])
      .ret)
     .skip)))
   (.drop [12, 13, 14] (.seq (.reg [⟨none, .asg 5 (.c (.int .i64 1048576))⟩])
    (.seq (.reg [⟨none, .ld 15 1 true (.t 2)⟩,
        ⟨none, .mov 16 (.t 5)⟩,
        ⟨none, .call 17 f_laws_szPoset [((.t 15), false), ((.t 16), false)]⟩,
        ⟨none, .asg 5 (.t 17)⟩])
     (.drop [15, 16, 17] (.seq (.seq (.reg [⟨none, .mov 18 (.t 5)⟩,
          ⟨none, .bin 19 .lss (.t 18) (.c (.int .i64 0))⟩])
       (.drop [18] (.cond (.t 19) (.seq (.reg [⟨none, .asg 4 (.c (.bool true))⟩])
         .ret)
        .skip)))
      (.drop [18, 19] (.seq (.reg [⟨none, .ld 21 1 true (.t 2)⟩,
          ⟨none, .call 22 f_laws_toPoset [((.t 21), false)]⟩,
          ⟨none, .mov 23 (.t 1)⟩,
          ⟨none, .call 24 f_laws_toIntS [((.t 23), false)]⟩,
          ⟨none, .call 25 f_spec_JoinAll [((.t 22), false), ((.t 24), false)]⟩,
          ⟨none, .asg 20 (.t 25)⟩,
          ⟨none, .ext 26 (.t 20) 0⟩,
          ⟨none, .ext 27 (.t 20) 1⟩,
          ⟨none, .asg 6 (.t 26)⟩,
          ⟨none, .asg 7 (.t 27)⟩])
       (.drop [21, 22, 23, 24, 25, 20, 26, 27] (.seq (.reg [⟨none, .ld 28 1 true (.t 2)⟩,
           ⟨none, .call 29 f_laws_toPoset [((.t 28), false)]⟩,
           ⟨none, .alc 8 (.agg [.nilsl 1])⟩,
           ⟨none, .st 1 (.t 8) (.t 29)⟩])
        (.drop [28, 29] (.seq (.reg [⟨none, .mov 30 (.t 1)⟩,
            ⟨none, .call 31 f_laws_toIntS [((.t 30), false)]⟩,
            ⟨none, .asg 9 (.t 31)⟩])
         (.drop [30, 31] (.seq (.reg [⟨none, .ld 33 1 true (.t 8)⟩,
             ⟨none, .mov 34 (.t 9)⟩,
             ⟨none, .call 35 f_impl_JoinAll [((.t 33), false), ((.t 34), false)]⟩,
             ⟨none, .asg 32 (.t 35)⟩,
             ⟨none, .ext 36 (.t 32) 0⟩,
             ⟨none, .ext 37 (.t 32) 1⟩,
             ⟨none, .asg 10 (.t 36)⟩,
             ⟨none, .asg 11 (.t 37)⟩])
          (.drop [33, 34, 35, 32, 36, 37] (.seq (.cut c_laws_FnExactJoinAll_k1)
           (.drop [38, 39, 40, 41, 42, 43, 44, 45] (.seq (.seq (.dreg [(⟨none, .ld 46 1 true (.t 8)⟩, []),
                (⟨none, .ld 47 1 true (.t 2)⟩, [46]),
                (⟨none, .call 48 f_laws_toPoset [((.t 47), false)]⟩, [46])]
               [⟨none, .call 49 f_laws_eqPoset [((.t 46), false), ((.t 48), false)]⟩,
                ⟨none, .un 50 .not (.t 49)⟩])
             (.drop [46, 47, 48, 49] (.cond (.t 50) (.seq (.reg [⟨none, .asg 4 (.c (.bool false))⟩])
               .ret)
              .skip)))
            (.drop [46, 47, 48, 49, 50] (.seq (.seq (.reg [⟨none, .mov 51 (.t 9)⟩,
                 ⟨none, .mov 52 (.t 1)⟩,
                 ⟨none, .call 53 f_laws_toIntS [((.t 52), false)]⟩,
                 ⟨none, .call 54 f_laws_eqIntS [((.t 51), false), ((.t 53), false)]⟩,
                 ⟨none, .un 55 .not (.t 54)⟩])
              (.drop [51, 52, 53, 54] (.cond (.t 55) (.seq (.reg [⟨none, .asg 4 (.c (.bool false))⟩])
                .ret)
               .skip)))
             (.drop [51, 52, 53, 54, 55] (.seq (.reg [⟨none, .asg 4 (.c (.bool true))⟩])
              .ret)))))))))))))))))))))))
abbrev r_laws_FnExactJoinAll : List RS := [.t 4]
theorem k_laws_FnExactJoinAll : fitsF Try.prog f_laws_FnExactJoinAll 56 c_laws_FnExactJoinAll r_laws_FnExactJoinAll = true := by kernel_rfl

/- loop.example/g01078/laws.FnExactMeetAll: [aP=0, aSome=1, aP=2, aSome=3, left=5, w0=6, w1=7, x0=8, x1=9, g0=10, g1=11] -/
def c_laws_FnExactMeetAll_k1 : ACode :=
  (.seq (.reg [⟨none, .mov 38 (.t 10)⟩,
               ⟨none, .mov 39 (.t 6)⟩,
               ⟨none, .bin 40 .neq (.t 38) (.t 39)⟩,
               ⟨none, .asg 41 (.t 40)⟩,
               ⟨some (41, false), .mov 42 (.t 11)⟩,
               ⟨some (41, false), .mov 43 (.t 7)⟩,
               ⟨some (41, false), .binb 44 .neq (.t 42) (.t 43)⟩,
               ⟨none, .pick 45 (.t 41) (.c (.bool true)) (.t 44)⟩])
            (.drop [38, 39, 40, 41, 42, 43, 44] (.cond (.t 45) (.seq (.reg [⟨none, .asg 4 (.c (.bool false))⟩])
              .ret)
             .skip)))
def c_laws_FnExactMeetAll : ACode :=
  (.seq (.reg [⟨none, .box 2 (.t 0)⟩,
     ⟨none, .asg 4 (.c (.bool false))⟩])
  (.seq (.seq (.reg [⟨none, .mov 12 (.t 1)⟩,
       ⟨none, .len 13 (.t 12)⟩,
       ⟨none, .bin 14 .gtr (.t 13) (.c (.int .i64 1048576))⟩])
    (.drop [12, 13] (.cond (.t 14) (.seq (.reg [⟨none, .asg 4 (.c (.bool true))⟩])
      .ret)
     .skip)))
   (.drop [12, 13, 14] (.seq (.reg [⟨none, .asg 5 (.c (.int .i64 1048576))⟩])
    (.seq (.reg [⟨none, .ld 15 1 true (.t 2)⟩,
        ⟨none, .mov 16 (.t 5)⟩,
        ⟨none, .call 17 f_laws_szPoset [((.t 15), false), ((.t 16), false)]⟩,
        ⟨none, .asg 5 (.t 17)⟩])
     (.drop [15, 16, 17] (.seq (.seq (.reg [⟨none, .mov 18 (.t 5)⟩,
          ⟨none, .bin 19 .lss (.t 18) (.c (.int .i64 0))⟩])
       (.drop [18] (.cond (.t 19) (.seq (.reg [⟨none, .asg 4 (.c (.bool true))⟩])
         .ret)
        .skip)))
      (.drop [18, 19] (.seq (.reg [⟨none, .ld 21 1 true (.t 2)⟩,
          ⟨none, .call 22 f_laws_toPoset [((.t 21), false)]⟩,
          ⟨none, .mov 23 (.t 1)⟩,
          ⟨none, .call 24 f_laws_toIntS [((.t 23), false)]⟩,
          ⟨none, .call 25 f_spec_MeetAll [((.t 22), false), ((.t 24), false)]⟩,
          ⟨none, .asg 20 (.t 25)⟩,
          ⟨none, .ext 26 (.t 20) 0⟩,
          ⟨none, .ext 27 (.t 20) 1⟩,
          ⟨none, .asg 6 (.t 26)⟩,
          ⟨none, .asg 7 (.t 27)⟩])
       (.drop [21, 22, 23, 24, 25, 20, 26, 27] (.seq (.reg [⟨none, .ld 28 1 true (.t 2)⟩,
           ⟨none, .call 29 f_laws_toPoset [((.t 28), false)]⟩,
           ⟨none, .alc 8 (.agg [.nilsl 1])⟩,
           ⟨none, .st 1 (.t 8) (.t 29)⟩])
        (.drop [28, 29] (.seq (.reg [⟨none, .mov 30 (.t 1)⟩,
            ⟨none, .call 31 f_laws_toIntS [((.t 30), false)]⟩,
            ⟨none, .asg 9 (.t 31)⟩])
         (.drop [30, 31] (.seq (.reg [⟨none, .ld 33 1 true (.t 8)⟩,
             ⟨none, .mov 34 (.t 9)⟩,
             ⟨none, .call 35 f_impl_MeetAll [((.t 33), false), ((.t 34), false)]⟩,
             ⟨none, .asg 32 (.t 35)⟩,
             ⟨none, .ext 36 (.t 32) 0⟩,
             ⟨none, .ext 37 (.t 32) 1⟩,
             ⟨none, .asg 10 (.t 36)⟩,
             ⟨none, .asg 11 (.t 37)⟩])
          (.drop [33, 34, 35, 32, 36, 37] (.seq (.cut c_laws_FnExactMeetAll_k1)
           (.drop [38, 39, 40, 41, 42, 43, 44, 45] (.seq (.seq (.dreg [(⟨none, .ld 46 1 true (.t 8)⟩, []),
                (⟨none, .ld 47 1 true (.t 2)⟩, [46]),
                (⟨none, .call 48 f_laws_toPoset [((.t 47), false)]⟩, [46])]
               [⟨none, .call 49 f_laws_eqPoset [((.t 46), false), ((.t 48), false)]⟩,
                ⟨none, .un 50 .not (.t 49)⟩])
             (.drop [46, 47, 48, 49] (.cond (.t 50) (.seq (.reg [⟨none, .asg 4 (.c (.bool false))⟩])
               .ret)
              .skip)))
            (.drop [46, 47, 48, 49, 50] (.seq (.seq (.reg [⟨none, .mov 51 (.t 9)⟩,
                 ⟨none, .mov 52 (.t 1)⟩,
                 ⟨none, .call 53 f_laws_toIntS [((.t 52), false)]⟩,
                 ⟨none, .call 54 f_laws_eqIntS [((.t 51), false), ((.t 53), false)]⟩,
                 ⟨none, .un 55 .not (.t 54)⟩])
              (.drop [51, 52, 53, 54] (.cond (.t 55) (.seq (.reg [⟨none, .asg 4 (.c (.bool false))⟩])
                .ret)
               .skip)))
             (.drop [51, 52, 53, 54, 55] (.seq (.reg [⟨none, .asg 4 (.c (.bool true))⟩])
              .ret)))))))))))))))))))))))
abbrev r_laws_FnExactMeetAll : List RS := [.t 4]
theorem k_laws_FnExactMeetAll : fitsF Try.prog f_laws_FnExactMeetAll 56 c_laws_FnExactMeetAll r_laws_FnExactMeetAll = true := by kernel_rfl

/- loop.example/g01078/laws.FnExactIntervalOf: [aP=0, aX=1, aY=2, aP=3, aX=4, aY=5, left=7, w0=8, w1=9, x0=10, g0=11, g1=12, k=13, m=14, q=15, h0=16, h1=17] -/
def c_laws_FnExactIntervalOf_k1 : ACode :=
  (.seq (.reg [⟨none, .mov 40 (.t 11)⟩,
             ⟨none, .mov 41 (.t 8)⟩,
             ⟨none, .call 42 f_laws_eqIntS [((.t 40), false), ((.t 41), false)]⟩,
             ⟨none, .un 43 .not (.t 42)⟩,
             ⟨none, .asg 44 (.t 43)⟩,
             ⟨some (44, false), .mov 45 (.t 12)⟩,
             ⟨some (44, false), .mov 46 (.t 9)⟩,
             ⟨some (44, false), .binb 47 .neq (.t 45) (.t 46)⟩,
             ⟨none, .pick 48 (.t 44) (.c (.bool true)) (.t 47)⟩])
          (.drop [40, 41, 42, 43, 44, 45, 46, 47] (.cond (.t 48) (.seq (.reg [⟨none, .asg 6 (.c (.bool false))⟩])
            .ret)
           .skip)))
def c_laws_FnExactIntervalOf_k2 : ACode :=
  (.seq (.reg [⟨none, .mov 57 (.t 13)⟩,
                 ⟨none, .bin 58 .lss (.t 57) (.c (.int .i64 0))⟩,
                 ⟨none, .asg 59 (.t 58)⟩,
                 ⟨some (59, false), .mov 60 (.t 11)⟩,
                 ⟨some (59, false), .mov 61 (.t 8)⟩,
                 ⟨some (59, false), .call 62 f_laws_eqIntS [((.t 60), false), ((.t 61), false)]⟩,
                 ⟨some (59, false), .un 63 .not (.t 62)⟩,
                 ⟨none, .pick 64 (.t 59) (.c (.bool true)) (.t 63)⟩,
                 ⟨none, .asg 65 (.t 64)⟩,
                 ⟨some (65, false), .mov 66 (.t 12)⟩,
                 ⟨some (65, false), .mov 67 (.t 9)⟩,
                 ⟨some (65, false), .binb 68 .neq (.t 66) (.t 67)⟩,
                 ⟨none, .pick 69 (.t 65) (.c (.bool true)) (.t 68)⟩])
              (.drop [57, 58, 59, 60, 61, 62, 63, 64, 65, 66, 67, 68] (.cond (.t 69) (.seq (.reg [⟨none, .asg 6 (.c (.bool false))⟩])
                .ret)
               .skip)))
def c_laws_FnExactIntervalOf_k3 : ACode :=
  (.seq (.reg [⟨none, .mov 89 (.t 16)⟩,
                         ⟨none, .mov 90 (.t 8)⟩,
                         ⟨none, .call 91 f_laws_eqIntS [((.t 89), false), ((.t 90), false)]⟩,
                         ⟨none, .un 92 .not (.t 91)⟩,
                         ⟨none, .asg 93 (.t 92)⟩,
                         ⟨some (93, false), .mov 94 (.t 17)⟩,
                         ⟨some (93, false), .mov 95 (.t 9)⟩,
                         ⟨some (93, false), .binb 96 .neq (.t 94) (.t 95)⟩,
                         ⟨none, .pick 97 (.t 93) (.c (.bool true)) (.t 96)⟩])
                      (.drop [89, 90, 91, 92, 93, 94, 95, 96] (.cond (.t 97) (.seq (.reg [⟨none, .asg 6 (.c (.bool false))⟩])
                        .ret)
                       .skip)))
def c_laws_FnExactIntervalOf : ACode :=
  (.seq (.reg [⟨none, .box 3 (.t 0)⟩,
     ⟨none, .asg 6 (.c (.bool false))⟩])
  (.seq (.reg [⟨none, .asg 7 (.c (.int .i64 1048576))⟩])
   (.seq (.reg [⟨none, .ld 18 1 true (.t 3)⟩,
       ⟨none, .mov 19 (.t 7)⟩,
       ⟨none, .call 20 f_laws_szPoset [((.t 18), false), ((.t 19), false)]⟩,
       ⟨none, .asg 7 (.t 20)⟩])
    (.drop [18, 19, 20] (.seq (.seq (.reg [⟨none, .mov 21 (.t 7)⟩,
         ⟨none, .bin 22 .lss (.t 21) (.c (.int .i64 0))⟩])
      (.drop [21] (.cond (.t 22) (.seq (.reg [⟨none, .asg 6 (.c (.bool true))⟩])
        .ret)
       .skip)))
     (.drop [21, 22] (.seq (.reg [⟨none, .ld 24 1 true (.t 3)⟩,
         ⟨none, .call 25 f_laws_toPoset [((.t 24), false)]⟩,
         ⟨none, .mov 26 (.t 1)⟩,
         ⟨none, .mov 27 (.t 2)⟩,
         ⟨none, .call 28 f_spec_IntervalOf [((.t 25), false), ((.t 26), false), ((.t 27), false)]⟩,
         ⟨none, .asg 23 (.t 28)⟩,
         ⟨none, .ext 29 (.t 23) 0⟩,
         ⟨none, .ext 30 (.t 23) 1⟩,
         ⟨none, .asg 8 (.t 29)⟩,
         ⟨none, .asg 9 (.t 30)⟩])
      (.drop [24, 25, 26, 27, 28, 23, 29, 30] (.seq (.reg [⟨none, .ld 31 1 true (.t 3)⟩,
          ⟨none, .call 32 f_laws_toPoset [((.t 31), false)]⟩,
          ⟨none, .alc 10 (.agg [.nilsl 1])⟩,
          ⟨none, .st 1 (.t 10) (.t 32)⟩])
       (.drop [31, 32] (.seq (.reg [⟨none, .ld 34 1 true (.t 10)⟩,
           ⟨none, .mov 35 (.t 1)⟩,
           ⟨none, .mov 36 (.t 2)⟩,
           ⟨none, .call 37 f_impl_IntervalOf [((.t 34), false), ((.t 35), false), ((.t 36), false)]⟩,
           ⟨none, .asg 33 (.t 37)⟩,
           ⟨none, .ext 38 (.t 33) 0⟩,
           ⟨none, .ext 39 (.t 33) 1⟩,
           ⟨none, .asg 11 (.t 38)⟩,
           ⟨none, .asg 12 (.t 39)⟩])
        (.drop [34, 35, 36, 37, 33, 38, 39] (.seq (.cut c_laws_FnExactIntervalOf_k1)
         (.drop [40, 41, 42, 43, 44, 45, 46, 47, 48] (.seq (.seq (.dreg [(⟨none, .ld 49 1 true (.t 10)⟩, []),
              (⟨none, .ld 50 1 true (.t 3)⟩, [49]),
              (⟨none, .call 51 f_laws_toPoset [((.t 50), false)]⟩, [49])]
             [⟨none, .call 52 f_laws_eqPoset [((.t 49), false), ((.t 51), false)]⟩,
              ⟨none, .un 53 .not (.t 52)⟩])
           (.drop [49, 50, 51, 52] (.cond (.t 53) (.seq (.reg [⟨none, .asg 6 (.c (.bool false))⟩])
             .ret)
            .skip)))
          (.drop [49, 50, 51, 52, 53] (.seq (.reg [⟨none, .asg 13 (.c (.int .i64 1))⟩])
           (.seq (.reg [⟨none, .ld 54 1 true (.t 10)⟩,
               ⟨none, .mov 55 (.t 13)⟩,
               ⟨none, .call 56 f_laws_markPoset [((.t 54), true), ((.t 55), false)]⟩,
               ⟨none, .asg 13 (.t 56)⟩])
            (.drop [54, 55, 56] (.seq (.cut c_laws_FnExactIntervalOf_k2)
             (.drop [57, 58, 59, 60, 61, 62, 63, 64, 65, 66, 67, 68, 69] (.seq (.reg [⟨none, .asg 14 (.c (.int .i64 1))⟩])
              (.seq (.reg [⟨none, .mov 70 (.t 11)⟩,
                  ⟨none, .mov 71 (.t 14)⟩,
                  ⟨none, .call 72 f_laws_markIntS [((.t 70), true), ((.t 71), false)]⟩,
                  ⟨none, .asg 14 (.t 72)⟩])
               (.drop [70, 71, 72] (.seq (.reg [⟨none, .asg 15 (.c (.int .i64 1))⟩])
                (.seq (.reg [⟨none, .mov 73 (.t 11)⟩,
                    ⟨none, .mov 74 (.t 15)⟩,
                    ⟨none, .call 75 f_laws_heldIntS [((.t 73), false), ((.t 74), false)]⟩,
                    ⟨none, .asg 15 (.t 75)⟩])
                 (.drop [73, 74, 75] (.seq (.seq (.reg [⟨none, .mov 76 (.t 15)⟩,
                      ⟨none, .bin 77 .lss (.t 76) (.c (.int .i64 0))⟩])
                   (.drop [76] (.cond (.t 77) (.seq (.reg [⟨none, .asg 6 (.c (.bool false))⟩])
                     .ret)
                    .skip)))
                  (.drop [76, 77] (.seq (.seq (.reg [⟨none, .mov 78 (.t 15)⟩,
                       ⟨none, .mov 79 (.t 14)⟩,
                       ⟨none, .bin 80 .neq (.t 78) (.t 79)⟩])
                    (.drop [78, 79] (.cond (.t 80) (.seq (.reg [⟨none, .asg 6 (.c (.bool false))⟩])
                      .ret)
                     .skip)))
                   (.drop [78, 79, 80] (.seq (.reg [⟨none, .ld 82 1 true (.t 3)⟩,
                       ⟨none, .call 83 f_laws_toPoset [((.t 82), false)]⟩,
                       ⟨none, .mov 84 (.t 1)⟩,
                       ⟨none, .mov 85 (.t 2)⟩,
                       ⟨none, .call 86 f_impl_IntervalOf [((.t 83), false), ((.t 84), false), ((.t 85), false)]⟩,
                       ⟨none, .asg 81 (.t 86)⟩,
                       ⟨none, .ext 87 (.t 81) 0⟩,
                       ⟨none, .ext 88 (.t 81) 1⟩,
                       ⟨none, .asg 16 (.t 87)⟩,
                       ⟨none, .asg 17 (.t 88)⟩])
                    (.drop [82, 83, 84, 85, 86, 81, 87, 88] (.seq (.cut c_laws_FnExactIntervalOf_k3)
                     (.drop [89, 90, 91, 92, 93, 94, 95, 96, 97] (.seq (.reg [⟨none, .asg 15 (.c (.int .i64 1))⟩])
                      (.seq (.reg [⟨none, .mov 98 (.t 11)⟩,
                          ⟨none, .mov 99 (.t 15)⟩,
                          ⟨none, .call 100 f_laws_heldIntS [((.t 98), false), ((.t 99), false)]⟩,
                          ⟨none, .asg 15 (.t 100)⟩])
                       (.drop [98, 99, 100] (.seq (.seq (.reg [⟨none, .mov 101 (.t 15)⟩,
                            ⟨none, .bin 102 .lss (.t 101) (.c (.int .i64 0))⟩])
                         (.drop [101] (.cond (.t 102) (.seq (.reg [⟨none, .asg 6 (.c (.bool false))⟩])
                           .ret)
                          .skip)))
                        (.drop [101, 102] (.seq (.seq (.reg [⟨none, .mov 103 (.t 15)⟩,
                             ⟨none, .mov 104 (.t 14)⟩,
                             ⟨none, .bin 105 .neq (.t 103) (.t 104)⟩])
                          (.drop [103, 104] (.cond (.t 105) (.seq (.reg [⟨none, .asg 6 (.c (.bool false))⟩])
                            .ret)
                           .skip)))
                         (.drop [103, 104, 105] (.seq (.reg [⟨none, .asg 6 (.c (.bool true))⟩])
                          .ret)))))))))))))))))))))))))))))))))))))))))))
abbrev r_laws_FnExactIntervalOf : List RS := [.t 6]
theorem k_laws_FnExactIntervalOf : fitsF Try.prog f_laws_FnExactIntervalOf 106 c_laws_FnExactIntervalOf r_laws_FnExactIntervalOf = true := by kernel_rfl

/- loop.example/g01078/laws.FnExactFewestChains: [aP=0, aP=1, left=3, w0=4, w1=5, x0=6, g0=7, g1=8, k=9, m=10, q=11, h0=12, h1=13] -/
def c_laws_FnExactFewestChains_k1 : ACode :=
  (.seq (.reg [⟨none, .mov 32 (.t 7)⟩,
             ⟨none, .mov 33 (.t 4)⟩,
             ⟨none, .call 34 f_laws_eqIntSS [((.t 32), false), ((.t 33), false)]⟩,
             ⟨none, .un 35 .not (.t 34)⟩,
             ⟨none, .asg 36 (.t 35)⟩,
             ⟨some (36, false), .mov 37 (.t 8)⟩,
             ⟨some (36, false), .mov 38 (.t 5)⟩,
             ⟨some (36, false), .binb 39 .neq (.t 37) (.t 38)⟩,
             ⟨none, .pick 40 (.t 36) (.c (.bool true)) (.t 39)⟩])
          (.drop [32, 33, 34, 35, 36, 37, 38, 39] (.cond (.t 40) (.seq (.reg [⟨none, .asg 2 (.c (.bool false))⟩])
            .ret)
           .skip)))
def c_laws_FnExactFewestChains_k2 : ACode :=
  (.seq (.reg [⟨none, .mov 49 (.t 9)⟩,
                 ⟨none, .bin 50 .lss (.t 49) (.c (.int .i64 0))⟩,
                 ⟨none, .asg 51 (.t 50)⟩,
                 ⟨some (51, false), .mov 52 (.t 7)⟩,
                 ⟨some (51, false), .mov 53 (.t 4)⟩,
                 ⟨some (51, false), .call 54 f_laws_eqIntSS [((.t 52), false), ((.t 53), false)]⟩,
                 ⟨some (51, false), .un 55 .not (.t 54)⟩,
                 ⟨none, .pick 56 (.t 51) (.c (.bool true)) (.t 55)⟩,
                 ⟨none, .asg 57 (.t 56)⟩,
                 ⟨some (57, false), .mov 58 (.t 8)⟩,
                 ⟨some (57, false), .mov 59 (.t 5)⟩,
                 ⟨some (57, false), .binb 60 .neq (.t 58) (.t 59)⟩,
                 ⟨none, .pick 61 (.t 57) (.c (.bool true)) (.t 60)⟩])
              (.drop [49, 50, 51, 52, 53, 54, 55, 56, 57, 58, 59, 60] (.cond (.t 61) (.seq (.reg [⟨none, .asg 2 (.c (.bool false))⟩])
                .ret)
               .skip)))
def c_laws_FnExactFewestChains_k3 : ACode :=
  (.seq (.reg [⟨none, .mov 79 (.t 12)⟩,
                         ⟨none, .mov 80 (.t 4)⟩,
                         ⟨none, .call 81 f_laws_eqIntSS [((.t 79), false), ((.t 80), false)]⟩,
                         ⟨none, .un 82 .not (.t 81)⟩,
                         ⟨none, .asg 83 (.t 82)⟩,
                         ⟨some (83, false), .mov 84 (.t 13)⟩,
                         ⟨some (83, false), .mov 85 (.t 5)⟩,
                         ⟨some (83, false), .binb 86 .neq (.t 84) (.t 85)⟩,
                         ⟨none, .pick 87 (.t 83) (.c (.bool true)) (.t 86)⟩])
                      (.drop [79, 80, 81, 82, 83, 84, 85, 86] (.cond (.t 87) (.seq (.reg [⟨none, .asg 2 (.c (.bool false))⟩])
                        .ret)
                       .skip)))
def c_laws_FnExactFewestChains : ACode :=
  (.seq (.reg [⟨none, .box 1 (.t 0)⟩,
     ⟨none, .asg 2 (.c (.bool false))⟩])
  (.seq (.reg [⟨none, .asg 3 (.c (.int .i64 1048576))⟩])
   (.seq (.reg [⟨none, .ld 14 1 true (.t 1)⟩,
       ⟨none, .mov 15 (.t 3)⟩,
       ⟨none, .call 16 f_laws_szPoset [((.t 14), false), ((.t 15), false)]⟩,
       ⟨none, .asg 3 (.t 16)⟩])
    (.drop [14, 15, 16] (.seq (.seq (.reg [⟨none, .mov 17 (.t 3)⟩,
         ⟨none, .bin 18 .lss (.t 17) (.c (.int .i64 0))⟩])
      (.drop [17] (.cond (.t 18) (.seq (.reg [⟨none, .asg 2 (.c (.bool true))⟩])
        .ret)
       .skip)))
     (.drop [17, 18] (.seq (.reg [⟨none, .ld 20 1 true (.t 1)⟩,
         ⟨none, .call 21 f_laws_toPoset [((.t 20), false)]⟩,
         ⟨none, .call 22 f_spec_FewestChains [((.t 21), false)]⟩,
         ⟨none, .asg 19 (.t 22)⟩,
         ⟨none, .ext 23 (.t 19) 0⟩,
         ⟨none, .ext 24 (.t 19) 1⟩,
         ⟨none, .asg 4 (.t 23)⟩,
         ⟨none, .asg 5 (.t 24)⟩])
      (.drop [20, 21, 22, 19, 23, 24] (.seq (.reg [⟨none, .ld 25 1 true (.t 1)⟩,
          ⟨none, .call 26 f_laws_toPoset [((.t 25), false)]⟩,
          ⟨none, .alc 6 (.agg [.nilsl 1])⟩,
          ⟨none, .st 1 (.t 6) (.t 26)⟩])
       (.drop [25, 26] (.seq (.reg [⟨none, .ld 28 1 true (.t 6)⟩,
           ⟨none, .call 29 f_impl_FewestChains [((.t 28), false)]⟩,
           ⟨none, .asg 27 (.t 29)⟩,
           ⟨none, .ext 30 (.t 27) 0⟩,
           ⟨none, .ext 31 (.t 27) 1⟩,
           ⟨none, .asg 7 (.t 30)⟩,
           ⟨none, .asg 8 (.t 31)⟩])
        (.drop [28, 29, 27, 30, 31] (.seq (.cut c_laws_FnExactFewestChains_k1)
         (.drop [32, 33, 34, 35, 36, 37, 38, 39, 40] (.seq (.seq (.dreg [(⟨none, .ld 41 1 true (.t 6)⟩, []),
              (⟨none, .ld 42 1 true (.t 1)⟩, [41]),
              (⟨none, .call 43 f_laws_toPoset [((.t 42), false)]⟩, [41])]
             [⟨none, .call 44 f_laws_eqPoset [((.t 41), false), ((.t 43), false)]⟩,
              ⟨none, .un 45 .not (.t 44)⟩])
           (.drop [41, 42, 43, 44] (.cond (.t 45) (.seq (.reg [⟨none, .asg 2 (.c (.bool false))⟩])
             .ret)
            .skip)))
          (.drop [41, 42, 43, 44, 45] (.seq (.reg [⟨none, .asg 9 (.c (.int .i64 1))⟩])
           (.seq (.reg [⟨none, .ld 46 1 true (.t 6)⟩,
               ⟨none, .mov 47 (.t 9)⟩,
               ⟨none, .call 48 f_laws_markPoset [((.t 46), true), ((.t 47), false)]⟩,
               ⟨none, .asg 9 (.t 48)⟩])
            (.drop [46, 47, 48] (.seq (.cut c_laws_FnExactFewestChains_k2)
             (.drop [49, 50, 51, 52, 53, 54, 55, 56, 57, 58, 59, 60, 61] (.seq (.reg [⟨none, .asg 10 (.c (.int .i64 1))⟩])
              (.seq (.reg [⟨none, .mov 62 (.t 7)⟩,
                  ⟨none, .mov 63 (.t 10)⟩,
                  ⟨none, .call 64 f_laws_markIntSS [((.t 62), true), ((.t 63), false)]⟩,
                  ⟨none, .asg 10 (.t 64)⟩])
               (.drop [62, 63, 64] (.seq (.reg [⟨none, .asg 11 (.c (.int .i64 1))⟩])
                (.seq (.reg [⟨none, .mov 65 (.t 7)⟩,
                    ⟨none, .mov 66 (.t 11)⟩,
                    ⟨none, .call 67 f_laws_heldIntSS [((.t 65), false), ((.t 66), false)]⟩,
                    ⟨none, .asg 11 (.t 67)⟩])
                 (.drop [65, 66, 67] (.seq (.seq (.reg [⟨none, .mov 68 (.t 11)⟩,
                      ⟨none, .bin 69 .lss (.t 68) (.c (.int .i64 0))⟩])
                   (.drop [68] (.cond (.t 69) (.seq (.reg [⟨none, .asg 2 (.c (.bool false))⟩])
                     .ret)
                    .skip)))
                  (.drop [68, 69] (.seq (.seq (.reg [⟨none, .mov 70 (.t 11)⟩,
                       ⟨none, .mov 71 (.t 10)⟩,
                       ⟨none, .bin 72 .neq (.t 70) (.t 71)⟩])
                    (.drop [70, 71] (.cond (.t 72) (.seq (.reg [⟨none, .asg 2 (.c (.bool false))⟩])
                      .ret)
                     .skip)))
                   (.drop [70, 71, 72] (.seq (.reg [⟨none, .ld 74 1 true (.t 1)⟩,
                       ⟨none, .call 75 f_laws_toPoset [((.t 74), false)]⟩,
                       ⟨none, .call 76 f_impl_FewestChains [((.t 75), false)]⟩,
                       ⟨none, .asg 73 (.t 76)⟩,
                       ⟨none, .ext 77 (.t 73) 0⟩,
                       ⟨none, .ext 78 (.t 73) 1⟩,
                       ⟨none, .asg 12 (.t 77)⟩,
                       ⟨none, .asg 13 (.t 78)⟩])
                    (.drop [74, 75, 76, 73, 77, 78] (.seq (.cut c_laws_FnExactFewestChains_k3)
                     (.drop [79, 80, 81, 82, 83, 84, 85, 86, 87] (.seq (.reg [⟨none, .asg 11 (.c (.int .i64 1))⟩])
                      (.seq (.reg [⟨none, .mov 88 (.t 7)⟩,
                          ⟨none, .mov 89 (.t 11)⟩,
                          ⟨none, .call 90 f_laws_heldIntSS [((.t 88), false), ((.t 89), false)]⟩,
                          ⟨none, .asg 11 (.t 90)⟩])
                       (.drop [88, 89, 90] (.seq (.seq (.reg [⟨none, .mov 91 (.t 11)⟩,
                            ⟨none, .bin 92 .lss (.t 91) (.c (.int .i64 0))⟩])
                         (.drop [91] (.cond (.t 92) (.seq (.reg [⟨none, .asg 2 (.c (.bool false))⟩])
                           .ret)
                          .skip)))
                        (.drop [91, 92] (.seq (.seq (.reg [⟨none, .mov 93 (.t 11)⟩,
                             ⟨none, .mov 94 (.t 10)⟩,
                             ⟨none, .bin 95 .neq (.t 93) (.t 94)⟩])
                          (.drop [93, 94] (.cond (.t 95) (.seq (.reg [⟨none, .asg 2 (.c (.bool false))⟩])
                            .ret)
                           .skip)))
                         (.drop [93, 94, 95] (.seq (.reg [⟨none, .asg 2 (.c (.bool true))⟩])
                          .ret)))))))))))))))))))))))))))))))))))))))))))
abbrev r_laws_FnExactFewestChains : List RS := [.t 2]
theorem k_laws_FnExactFewestChains : fitsF Try.prog f_laws_FnExactFewestChains 96 c_laws_FnExactFewestChains r_laws_FnExactFewestChains = true := by kernel_rfl

/- loop.example/g01078/impl.JoinIrreducibles: [p=0, p=1] -/
def c_impl_JoinIrreducibles : ACode :=
  (.seq (.reg [⟨none, .box 1 (.t 0)⟩,
     ⟨none, .asg 2 (.c (.nilsl 1))⟩,
     ⟨none, .asg 3 (.c (.bool false))⟩])
  (.seq (.reg [⟨none, .ld 4 1 true (.t 1)⟩,
      ⟨none, .call 5 f_impl_listOf [((.t 4), false), ((.c (.clo f_impl_lattice_irreducibles [])), false)]⟩,
      ⟨none, .ext 6 (.t 5) 0⟩,
      ⟨none, .ext 7 (.t 5) 1⟩,
      ⟨none, .asg 2 (.t 6)⟩,
      ⟨none, .asg 3 (.t 7)⟩])
   (.drop [4, 5, 6, 7] .ret)))
abbrev r_impl_JoinIrreducibles : List RS := [.t 2, .t 3]
theorem k_impl_JoinIrreducibles : fitsF Try.prog f_impl_JoinIrreducibles 8 c_impl_JoinIrreducibles r_impl_JoinIrreducibles = true := by kernel_rfl

/- loop.example/g01078/impl.MeetIrreducibles: [p=0, p=1] -/
def c_impl_MeetIrreducibles : ACode :=
  (.seq (.reg [⟨none, .box 1 (.t 0)⟩,
     ⟨none, .asg 2 (.c (.nilsl 1))⟩,
     ⟨none, .asg 3 (.c (.bool false))⟩])
  (.seq (.reg [⟨none, .ld 4 1 true (.t 1)⟩,
      ⟨none, .call 5 f_impl_listOf [((.t 4), false), ((.c (.clo f_impl_MeetIrreducibles_1 [])), false)]⟩,
      ⟨none, .ext 6 (.t 5) 0⟩,
      ⟨none, .ext 7 (.t 5) 1⟩,
      ⟨none, .asg 2 (.t 6)⟩,
      ⟨none, .asg 3 (.t 7)⟩])
   (.drop [4, 5, 6, 7] .ret)))
abbrev r_impl_MeetIrreducibles : List RS := [.t 2, .t 3]
theorem k_impl_MeetIrreducibles : fitsF Try.prog f_impl_MeetIrreducibles 8 c_impl_MeetIrreducibles r_impl_MeetIrreducibles = true := by kernel_rfl

/- loop.example/g01078/laws.FnExactJoinIrreducibles: [aP=0, aP=1, left=3, w0=4, w1=5, x0=6, g0=7, g1=8, k=9, m=10, q=11, h0=12, h1=13] -/
def c_laws_FnExactJoinIrreducibles_k1 : ACode :=
  (.seq (.reg [⟨none, .mov 32 (.t 7)⟩,
             ⟨none, .mov 33 (.t 4)⟩,
             ⟨none, .call 34 f_laws_eqIntS [((.t 32), false), ((.t 33), false)]⟩,
             ⟨none, .un 35 .not (.t 34)⟩,
             ⟨none, .asg 36 (.t 35)⟩,
             ⟨some (36, false), .mov 37 (.t 8)⟩,
             ⟨some (36, false), .mov 38 (.t 5)⟩,
             ⟨some (36, false), .binb 39 .neq (.t 37) (.t 38)⟩,
             ⟨none, .pick 40 (.t 36) (.c (.bool true)) (.t 39)⟩])
          (.drop [32, 33, 34, 35, 36, 37, 38, 39] (.cond (.t 40) (.seq (.reg [⟨none, .asg 2 (.c (.bool false))⟩])
            .ret)
           .skip)))
def c_laws_FnExactJoinIrreducibles_k2 : ACode :=
  (.seq (.reg [⟨none, .mov 49 (.t 9)⟩,
                 ⟨none, .bin 50 .lss (.t 49) (.c (.int .i64 0))⟩,
                 ⟨none, .asg 51 (.t 50)⟩,
                 ⟨some (51, false), .mov 52 (.t 7)⟩,
                 ⟨some (51, false), .mov 53 (.t 4)⟩,
                 ⟨some (51, false), .call 54 f_laws_eqIntS [((.t 52), false), ((.t 53), false)]⟩,
                 ⟨some (51, false), .un 55 .not (.t 54)⟩,
                 ⟨none, .pick 56 (.t 51) (.c (.bool true)) (.t 55)⟩,
                 ⟨none, .asg 57 (.t 56)⟩,
                 ⟨some (57, false), .mov 58 (.t 8)⟩,
                 ⟨some (57, false), .mov 59 (.t 5)⟩,
                 ⟨some (57, false), .binb 60 .neq (.t 58) (.t 59)⟩,
                 ⟨none, .pick 61 (.t 57) (.c (.bool true)) (.t 60)⟩])
              (.drop [49, 50, 51, 52, 53, 54, 55, 56, 57, 58, 59, 60] (.cond (.t 61) (.seq (.reg [⟨none, .asg 2 (.c (.bool false))⟩])
                .ret)
               .skip)))
def c_laws_FnExactJoinIrreducibles_k3 : ACode :=
  (.seq (.reg [⟨none, .mov 79 (.t 12)⟩,
                         ⟨none, .mov 80 (.t 4)⟩,
                         ⟨none, .call 81 f_laws_eqIntS [((.t 79), false), ((.t 80), false)]⟩,
                         ⟨none, .un 82 .not (.t 81)⟩,
                         ⟨none, .asg 83 (.t 82)⟩,
                         ⟨some (83, false), .mov 84 (.t 13)⟩,
                         ⟨some (83, false), .mov 85 (.t 5)⟩,
                         ⟨some (83, false), .binb 86 .neq (.t 84) (.t 85)⟩,
                         ⟨none, .pick 87 (.t 83) (.c (.bool true)) (.t 86)⟩])
                      (.drop [79, 80, 81, 82, 83, 84, 85, 86] (.cond (.t 87) (.seq (.reg [⟨none, .asg 2 (.c (.bool false))⟩])
                        .ret)
                       .skip)))
def c_laws_FnExactJoinIrreducibles : ACode :=
  (.seq (.reg [⟨none, .box 1 (.t 0)⟩,
     ⟨none, .asg 2 (.c (.bool false))⟩])
  (.seq (.reg [⟨none, .asg 3 (.c (.int .i64 1048576))⟩])
   (.seq (.reg [⟨none, .ld 14 1 true (.t 1)⟩,
       ⟨none, .mov 15 (.t 3)⟩,
       ⟨none, .call 16 f_laws_szPoset [((.t 14), false), ((.t 15), false)]⟩,
       ⟨none, .asg 3 (.t 16)⟩])
    (.drop [14, 15, 16] (.seq (.seq (.reg [⟨none, .mov 17 (.t 3)⟩,
         ⟨none, .bin 18 .lss (.t 17) (.c (.int .i64 0))⟩])
      (.drop [17] (.cond (.t 18) (.seq (.reg [⟨none, .asg 2 (.c (.bool true))⟩])
        .ret)
       .skip)))
     (.drop [17, 18] (.seq (.reg [⟨none, .ld 20 1 true (.t 1)⟩,
         ⟨none, .call 21 f_laws_toPoset [((.t 20), false)]⟩,
         ⟨none, .call 22 f_spec_JoinIrreducibles [((.t 21), false)]⟩,
         ⟨none, .asg 19 (.t 22)⟩,
         ⟨none, .ext 23 (.t 19) 0⟩,
         ⟨none, .ext 24 (.t 19) 1⟩,
         ⟨none, .asg 4 (.t 23)⟩,
         ⟨none, .asg 5 (.t 24)⟩])
      (.drop [20, 21, 22, 19, 23, 24] (.seq (.reg [⟨none, .ld 25 1 true (.t 1)⟩,
          ⟨none, .call 26 f_laws_toPoset [((.t 25), false)]⟩,
          ⟨none, .alc 6 (.agg [.nilsl 1])⟩,
          ⟨none, .st 1 (.t 6) (.t 26)⟩])
       (.drop [25, 26] (.seq (.reg [⟨none, .ld 28 1 true (.t 6)⟩,
           ⟨none, .call 29 f_impl_JoinIrreducibles [((.t 28), false)]⟩,
           ⟨none, .asg 27 (.t 29)⟩,
           ⟨none, .ext 30 (.t 27) 0⟩,
           ⟨none, .ext 31 (.t 27) 1⟩,
           ⟨none, .asg 7 (.t 30)⟩,
           ⟨none, .asg 8 (.t 31)⟩])
        (.drop [28, 29, 27, 30, 31] (.seq (.cut c_laws_FnExactJoinIrreducibles_k1)
         (.drop [32, 33, 34, 35, 36, 37, 38, 39, 40] (.seq (.seq (.dreg [(⟨none, .ld 41 1 true (.t 6)⟩, []),
              (⟨none, .ld 42 1 true (.t 1)⟩, [41]),
              (⟨none, .call 43 f_laws_toPoset [((.t 42), false)]⟩, [41])]
             [⟨none, .call 44 f_laws_eqPoset [((.t 41), false), ((.t 43), false)]⟩,
              ⟨none, .un 45 .not (.t 44)⟩])
           (.drop [41, 42, 43, 44] (.cond (.t 45) (.seq (.reg [⟨none, .asg 2 (.c (.bool false))⟩])
             .ret)
            .skip)))
          (.drop [41, 42, 43, 44, 45] (.seq (.reg [⟨none, .asg 9 (.c (.int .i64 1))⟩])
           (.seq (.reg [⟨none, .ld 46 1 true (.t 6)⟩,
               ⟨none, .mov 47 (.t 9)⟩,
               ⟨none, .call 48 f_laws_markPoset [((.t 46), true), ((.t 47), false)]⟩,
               ⟨none, .asg 9 (.t 48)⟩])
            (.drop [46, 47, 48] (.seq (.cut c_laws_FnExactJoinIrreducibles_k2)
             (.drop [49, 50, 51, 52, 53, 54, 55, 56, 57, 58, 59, 60, 61] (.seq (.reg [⟨none, .asg 10 (.c (.int .i64 1))⟩])
              (.seq (.reg [⟨none, .mov 62 (.t 7)⟩,
                  ⟨none, .mov 63 (.t 10)⟩,
                  ⟨none, .call 64 f_laws_markIntS [((.t 62), true), ((.t 63), false)]⟩,
                  ⟨none, .asg 10 (.t 64)⟩])
               (.drop [62, 63, 64] (.seq (.reg [⟨none, .asg 11 (.c (.int .i64 1))⟩])
                (.seq (.reg [⟨none, .mov 65 (.t 7)⟩,
                    ⟨none, .mov 66 (.t 11)⟩,
                    ⟨none, .call 67 f_laws_heldIntS [((.t 65), false), ((.t 66), false)]⟩,
                    ⟨none, .asg 11 (.t 67)⟩])
                 (.drop [65, 66, 67] (.seq (.seq (.reg [⟨none, .mov 68 (.t 11)⟩,
                      ⟨none, .bin 69 .lss (.t 68) (.c (.int .i64 0))⟩])
                   (.drop [68] (.cond (.t 69) (.seq (.reg [⟨none, .asg 2 (.c (.bool false))⟩])
                     .ret)
                    .skip)))
                  (.drop [68, 69] (.seq (.seq (.reg [⟨none, .mov 70 (.t 11)⟩,
                       ⟨none, .mov 71 (.t 10)⟩,
                       ⟨none, .bin 72 .neq (.t 70) (.t 71)⟩])
                    (.drop [70, 71] (.cond (.t 72) (.seq (.reg [⟨none, .asg 2 (.c (.bool false))⟩])
                      .ret)
                     .skip)))
                   (.drop [70, 71, 72] (.seq (.reg [⟨none, .ld 74 1 true (.t 1)⟩,
                       ⟨none, .call 75 f_laws_toPoset [((.t 74), false)]⟩,
                       ⟨none, .call 76 f_impl_JoinIrreducibles [((.t 75), false)]⟩,
                       ⟨none, .asg 73 (.t 76)⟩,
                       ⟨none, .ext 77 (.t 73) 0⟩,
                       ⟨none, .ext 78 (.t 73) 1⟩,
                       ⟨none, .asg 12 (.t 77)⟩,
                       ⟨none, .asg 13 (.t 78)⟩])
                    (.drop [74, 75, 76, 73, 77, 78] (.seq (.cut c_laws_FnExactJoinIrreducibles_k3)
                     (.drop [79, 80, 81, 82, 83, 84, 85, 86, 87] (.seq (.reg [⟨none, .asg 11 (.c (.int .i64 1))⟩])
                      (.seq (.reg [⟨none, .mov 88 (.t 7)⟩,
                          ⟨none, .mov 89 (.t 11)⟩,
                          ⟨none, .call 90 f_laws_heldIntS [((.t 88), false), ((.t 89), false)]⟩,
                          ⟨none, .asg 11 (.t 90)⟩])
                       (.drop [88, 89, 90] (.seq (.seq (.reg [⟨none, .mov 91 (.t 11)⟩,
                            ⟨none, .bin 92 .lss (.t 91) (.c (.int .i64 0))⟩])
                         (.drop [91] (.cond (.t 92) (.seq (.reg [⟨none, .asg 2 (.c (.bool false))⟩])
                           .ret)
                          .skip)))
                        (.drop [91, 92] (.seq (.seq (.reg [⟨none, .mov 93 (.t 11)⟩,
                             ⟨none, .mov 94 (.t 10)⟩,
                             ⟨none, .bin 95 .neq (.t 93) (.t 94)⟩])
                          (.drop [93, 94] (.cond (.t 95) (.seq (.reg [⟨none, .asg 2 (.c (.bool false))⟩])
                            .ret)
                           .skip)))
                         (.drop [93, 94, 95] (.seq (.reg [⟨none, .asg 2 (.c (.bool true))⟩])
                          .ret)))))))))))))))))))))))))))))))))))))))))))
abbrev r_laws_FnExactJoinIrreducibles : List RS := [.t 2]
theorem k_laws_FnExactJoinIrreducibles : fitsF Try.prog f_laws_FnExactJoinIrreducibles 96 c_laws_FnExactJoinIrreducibles r_laws_FnExactJoinIrreducibles = true := by kernel_rfl

end Go.Proofs.Ythcnmahjhahafab.Ax
