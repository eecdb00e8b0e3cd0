/-
  The small code of the functions, written by program; that the program's code is this one, the kernel looks at.
-/
import Derived.Test.YtpfikenknmlajaaAx3
import Derived.Test.YtpfikenknmlajaaProg
import Derived.KernelRfl
import Derived.Test.YtpfikenknmlajaaNum
namespace Go.Proofs.Ytpfikenknmlajaa.Ax
open Go
set_option maxRecDepth 100000

/- (loop.example/g01078/impl.order).less: [o=0, x=1, y=2, o=3, x=4, y=5] -/
def c_impl_order_less : ACode :=
  (.seq (.reg [⟨none, .asg 6 (.c (.bool false))⟩])
  (.seq (.reg [⟨none, .mov 7 (.t 1)⟩,
      ⟨none, .mov 8 (.t 2)⟩,
      ⟨none, .bin 9 .neq (.t 7) (.t 8)⟩,
      ⟨none, .asg 10 (.t 9)⟩,
      ⟨some (10, true), .mov 11 (.t 0)⟩,
      ⟨some (10, true), .mov 12 (.t 1)⟩,
      ⟨some (10, true), .iad 13 1 (.t 11) (.t 12)⟩,
      ⟨some (10, true), .ld 14 1 false (.t 13)⟩,
      ⟨some (10, true), .mov 15 (.t 2)⟩,
      ⟨some (10, true), .iad 16 1 (.t 14) (.t 15)⟩,
      ⟨some (10, true), .ld 17 1 false (.t 16)⟩,
      ⟨none, .pick 18 (.t 10) (.t 17) (.c (.bool false))⟩,
      ⟨none, .asg 6 (.t 18)⟩])
   (.drop [7, 8, 9, 10, 11, 12, 13, 14, 15, 16, 17, 18] .ret)))
abbrev r_impl_order_less : List RS := [.t 6]
theorem k_impl_order_less : fitsF Try.prog f_impl_order_less 19 c_impl_order_less r_impl_order_less = true := by kernel_rfl

/- loop.example/g01078/laws.eqIntS: [a=0, b=1, a=2, b=3, i=5] -/
def c_laws_eqIntS_l1 : ACode :=
  (.seq (.seq (.reg [⟨none, .mov 11 (.t 5)⟩,
      ⟨none, .mov 12 (.t 0)⟩,
      ⟨none, .len 13 (.t 12)⟩,
      ⟨none, .bin 14 .lss (.t 11) (.t 13)⟩])
   (.drop [11, 12, 13] (.cond (.t 14) .skip
    (.exit 0))))
  (.drop [11, 12, 13, 14] (.seq (.block 1 (.seq (.dreg [(⟨none, .mov 17 (.t 0)⟩, []),
        (⟨none, .mov 18 (.t 5)⟩, [17]),
        (⟨none, .iad 19 1 (.t 17) (.t 18)⟩, []),
        (⟨none, .ld 20 1 false (.t 19)⟩, []),
        (⟨none, .mov 21 (.t 1)⟩, [17, 18, 19, 20]),
        (⟨none, .mov 22 (.t 5)⟩, [17, 18, 19, 20, 21]),
        (⟨none, .iad 23 1 (.t 21) (.t 22)⟩, [17, 18, 19, 20]),
        (⟨none, .ld 24 1 false (.t 23)⟩, [17, 18, 19, 20])]
       [⟨none, .bin 25 .neq (.t 20) (.t 24)⟩])
     (.drop [17, 18, 19, 20, 21, 22, 23, 24] (.cond (.t 25) (.seq (.reg [⟨none, .asg 4 (.c (.bool false))⟩])
       .ret)
      .skip))))
   (.drop [17, 18, 19, 20, 21, 22, 23, 24, 25] (.reg [⟨none, .mov 15 (.t 5)⟩,
      ⟨none, .bin 16 .add (.t 15) (.c (.int .i64 1))⟩,
      ⟨none, .asg 5 (.t 16)⟩])))))
def c_laws_eqIntS : ACode :=
  (.seq (.reg [⟨none, .asg 4 (.c (.bool false))⟩])
  (.seq (.seq (.reg [⟨none, .mov 6 (.t 0)⟩,
       ⟨none, .len 7 (.t 6)⟩,
       ⟨none, .mov 8 (.t 1)⟩,
       ⟨none, .len 9 (.t 8)⟩,
       ⟨none, .bin 10 .neq (.t 7) (.t 9)⟩])
    (.drop [6, 7, 8, 9] (.cond (.t 10) (.seq (.reg [⟨none, .asg 4 (.c (.bool false))⟩])
      .ret)
     .skip)))
   (.drop [6, 7, 8, 9, 10] (.seq (.seq (.reg [⟨none, .asg 5 (.c (.int .i64 0))⟩])
     (.block 0 (.loop c_laws_eqIntS_l1)))
    (.drop [5, 11, 12, 13, 14, 17, 18, 19, 20, 21, 22, 23, 24, 25, 15, 16] (.seq (.reg [⟨none, .asg 4 (.c (.bool true))⟩])
     .ret))))))
abbrev r_laws_eqIntS : List RS := [.t 4]
theorem k_laws_eqIntS : fitsF Try.prog f_laws_eqIntS 26 c_laws_eqIntS r_laws_eqIntS = true := by kernel_rfl

/- loop.example/g01078/laws.markIntS: [a=0, k=1, a=2, k=3, i=5] -/
def c_laws_markIntS_l1 : ACode :=
  (.seq (.seq (.reg [⟨none, .mov 6 (.t 5)⟩,
      ⟨none, .mov 7 (.t 0)⟩,
      ⟨none, .len 8 (.t 7)⟩,
      ⟨none, .bin 9 .lss (.t 6) (.t 8)⟩])
   (.drop [6, 7, 8] (.cond (.t 9) .skip
    (.exit 0))))
  (.drop [6, 7, 8, 9] (.seq (.block 1 (.seq (.reg [⟨none, .mov 12 (.t 0)⟩,
        ⟨none, .mov 13 (.t 5)⟩,
        ⟨none, .mov 14 (.t 1)⟩,
        ⟨none, .iad 15 1 (.t 12) (.t 13)⟩,
        ⟨none, .st 1 (.t 15) (.t 14)⟩])
     (.drop [12, 13, 14, 15] (.reg [⟨none, .mov 16 (.t 1)⟩,
        ⟨none, .bin 17 .add (.t 16) (.c (.int .i64 1))⟩,
        ⟨none, .asg 1 (.t 17)⟩]))))
   (.drop [12, 13, 14, 15, 16, 17] (.reg [⟨none, .mov 10 (.t 5)⟩,
      ⟨none, .bin 11 .add (.t 10) (.c (.int .i64 1))⟩,
      ⟨none, .asg 5 (.t 11)⟩])))))
def c_laws_markIntS : ACode :=
  (.seq (.reg [⟨none, .asg 4 (.c (.int .i64 0))⟩])
  (.seq (.seq (.reg [⟨none, .asg 5 (.c (.int .i64 0))⟩])
    (.block 0 (.loop c_laws_markIntS_l1)))
   (.drop [5, 6, 7, 8, 9, 12, 13, 14, 15, 16, 17, 10, 11] (.seq (.reg [⟨none, .mov 18 (.t 1)⟩,
       ⟨none, .asg 4 (.t 18)⟩])
    (.drop [18] .ret)))))
abbrev r_laws_markIntS : List RS := [.t 4]
theorem k_laws_markIntS : fitsF Try.prog f_laws_markIntS 19 c_laws_markIntS r_laws_markIntS = true := by kernel_rfl

/- loop.example/g01078/laws.heldIntS: [a=0, k=1, a=2, k=3, i=5] -/
def c_laws_heldIntS_l1 : ACode :=
  (.seq (.seq (.reg [⟨none, .mov 6 (.t 5)⟩,
      ⟨none, .mov 7 (.t 0)⟩,
      ⟨none, .len 8 (.t 7)⟩,
      ⟨none, .bin 9 .lss (.t 6) (.t 8)⟩])
   (.drop [6, 7, 8] (.cond (.t 9) .skip
    (.exit 0))))
  (.drop [6, 7, 8, 9] (.seq (.block 1 (.seq (.seq (.reg [⟨none, .mov 12 (.t 0)⟩,
         ⟨none, .mov 13 (.t 5)⟩,
         ⟨none, .iad 14 1 (.t 12) (.t 13)⟩,
         ⟨none, .ld 15 1 false (.t 14)⟩,
         ⟨none, .mov 16 (.t 1)⟩,
         ⟨none, .bin 17 .neq (.t 15) (.t 16)⟩])
      (.drop [12, 13, 14, 15, 16] (.cond (.t 17) (.seq (.reg [⟨none, .asg 4 (.c (.int .i64 (-1)))⟩])
        .ret)
       .skip)))
     (.drop [12, 13, 14, 15, 16, 17] (.reg [⟨none, .mov 18 (.t 1)⟩,
        ⟨none, .bin 19 .add (.t 18) (.c (.int .i64 1))⟩,
        ⟨none, .asg 1 (.t 19)⟩]))))
   (.drop [12, 13, 14, 15, 16, 17, 18, 19] (.reg [⟨none, .mov 10 (.t 5)⟩,
      ⟨none, .bin 11 .add (.t 10) (.c (.int .i64 1))⟩,
      ⟨none, .asg 5 (.t 11)⟩])))))
def c_laws_heldIntS : ACode :=
  (.seq (.reg [⟨none, .asg 4 (.c (.int .i64 0))⟩])
  (.seq (.seq (.reg [⟨none, .asg 5 (.c (.int .i64 0))⟩])
    (.block 0 (.loop c_laws_heldIntS_l1)))
   (.drop [5, 6, 7, 8, 9, 12, 13, 14, 15, 16, 17, 18, 19, 10, 11] (.seq (.reg [⟨none, .mov 20 (.t 1)⟩,
       ⟨none, .asg 4 (.t 20)⟩])
    (.drop [20] .ret)))))
abbrev r_laws_heldIntS : List RS := [.t 4]
theorem k_laws_heldIntS : fitsF Try.prog f_laws_heldIntS 21 c_laws_heldIntS r_laws_heldIntS = true := by kernel_rfl

/- loop.example/g01078/impl.newOrder: [n=0, n=1, o=3, x=4] -/
def c_impl_newOrder_l1 : ACode :=
  (.seq (.reg [⟨none, .bin 10 .lss (.t 9) (.t 8)⟩])
  (.seq (.cond (.t 10) .skip
    (.exit 0))
   (.seq (.block 1 (.seq (.reg [⟨none, .mov 11 (.t 9)⟩,
         ⟨none, .asg 4 (.t 11)⟩])
      (.drop [11] (.reg [⟨none, .mov 12 (.t 3)⟩,
         ⟨none, .mov 13 (.t 4)⟩,
         ⟨none, .mov 14 (.t 0)⟩,
         ⟨none, .mk 15 1 (.bool false) (.t 14)⟩,
         ⟨none, .iad 16 1 (.t 12) (.t 13)⟩,
         ⟨none, .st 1 (.t 16) (.t 15)⟩]))))
    (.drop [11, 4, 12, 13, 14, 15, 16] (.reg [⟨none, .bin 17 .add (.t 9) (.c (.int .i64 1))⟩,
       ⟨none, .asg 9 (.t 17)⟩])))))
def c_impl_newOrder : ACode :=
  (.seq (.reg [⟨none, .asg 2 (.c (.nilsl 1))⟩])
  (.seq (.reg [⟨none, .mov 5 (.t 0)⟩,
      ⟨none, .mk 6 1 (.nilsl 1) (.t 5)⟩,
      ⟨none, .asg 3 (.t 6)⟩])
   (.drop [5, 6] (.seq (.seq (.reg [⟨none, .mov 7 (.t 3)⟩,
        ⟨none, .len 8 (.t 7)⟩,
        ⟨none, .mov 9 (.c (.int .i64 0))⟩])
     (.drop [7] (.block 0 (.loop c_impl_newOrder_l1))))
    (.drop [7, 8, 9, 10, 11, 4, 12, 13, 14, 15, 16, 17] (.seq (.reg [⟨none, .mov 18 (.t 3)⟩,
        ⟨none, .asg 2 (.t 18)⟩])
     (.drop [18] .ret)))))))
abbrev r_impl_newOrder : List RS := [.t 2]
theorem k_impl_newOrder : fitsF Try.prog f_impl_newOrder 19 c_impl_newOrder r_impl_newOrder = true := by kernel_rfl

/- (loop.example/g01078/impl.order).isOrder: [o=0, o=1, x=3, y=4, z=5] -/
def c_impl_order_isOrder_k1 : ACode :=
  (.seq (.reg [⟨none, .mov 24 (.t 3)⟩,
           ⟨none, .mov 25 (.t 4)⟩,
           ⟨none, .bin 26 .neq (.t 24) (.t 25)⟩,
           ⟨none, .asg 27 (.t 26)⟩,
           ⟨some (27, true), .mov 28 (.t 0)⟩,
           ⟨some (27, true), .mov 29 (.t 3)⟩,
           ⟨some (27, true), .iad 30 1 (.t 28) (.t 29)⟩,
           ⟨some (27, true), .ld 31 1 false (.t 30)⟩,
           ⟨some (27, true), .mov 32 (.t 4)⟩,
           ⟨some (27, true), .iad 33 1 (.t 31) (.t 32)⟩,
           ⟨some (27, true), .ld 34 1 false (.t 33)⟩,
           ⟨none, .pick 35 (.t 27) (.t 34) (.c (.bool false))⟩,
           ⟨none, .asg 36 (.t 35)⟩,
           ⟨some (36, true), .mov 37 (.t 0)⟩,
           ⟨some (36, true), .mov 38 (.t 4)⟩,
           ⟨some (36, true), .iad 39 1 (.t 37) (.t 38)⟩,
           ⟨some (36, true), .ld 40 1 false (.t 39)⟩,
           ⟨some (36, true), .mov 41 (.t 3)⟩,
           ⟨some (36, true), .iad 42 1 (.t 40) (.t 41)⟩,
           ⟨some (36, true), .ld 43 1 false (.t 42)⟩,
           ⟨none, .pick 44 (.t 36) (.t 43) (.c (.bool false))⟩])
        (.drop [24, 25, 26, 27, 28, 29, 30, 31, 32, 33, 34, 35, 36, 37, 38, 39, 40, 41, 42, 43] (.cond (.t 44) (.seq (.reg [⟨none, .asg 2 (.c (.bool false))⟩])
          .ret)
         .skip)))
def c_impl_order_isOrder_l1 : ACode :=
  (.seq (.reg [⟨none, .bin 48 .lss (.t 47) (.t 46)⟩])
  (.seq (.cond (.t 48) .skip
    (.exit 4))
   (.seq (.block 5 (.seq (.reg [⟨none, .mov 49 (.t 47)⟩,
         ⟨none, .asg 5 (.t 49)⟩])
      (.drop [49] (.seq (.reg [⟨none, .mov 50 (.t 0)⟩,
          ⟨none, .mov 51 (.t 3)⟩,
          ⟨none, .iad 52 1 (.t 50) (.t 51)⟩,
          ⟨none, .ld 53 1 false (.t 52)⟩,
          ⟨none, .mov 54 (.t 4)⟩,
          ⟨none, .iad 55 1 (.t 53) (.t 54)⟩,
          ⟨none, .ld 56 1 false (.t 55)⟩,
          ⟨none, .asg 57 (.t 56)⟩,
          ⟨some (57, true), .mov 58 (.t 0)⟩,
          ⟨some (57, true), .mov 59 (.t 4)⟩,
          ⟨some (57, true), .iad 60 1 (.t 58) (.t 59)⟩,
          ⟨some (57, true), .ld 61 1 false (.t 60)⟩,
          ⟨some (57, true), .mov 62 (.t 5)⟩,
          ⟨some (57, true), .iad 63 1 (.t 61) (.t 62)⟩,
          ⟨some (57, true), .ld 64 1 false (.t 63)⟩,
          ⟨none, .pick 65 (.t 57) (.t 64) (.c (.bool false))⟩,
          ⟨none, .asg 66 (.t 65)⟩,
          ⟨some (66, true), .mov 67 (.t 0)⟩,
          ⟨some (66, true), .mov 68 (.t 3)⟩,
          ⟨some (66, true), .iad 69 1 (.t 67) (.t 68)⟩,
          ⟨some (66, true), .ld 70 1 false (.t 69)⟩,
          ⟨some (66, true), .mov 71 (.t 5)⟩,
          ⟨some (66, true), .iad 72 1 (.t 70) (.t 71)⟩,
          ⟨some (66, true), .ld 73 1 false (.t 72)⟩,
          ⟨some (66, true), .un 74 .not (.t 73)⟩,
          ⟨none, .pick 75 (.t 66) (.t 74) (.c (.bool false))⟩])
       (.drop [50, 51, 52, 53, 54, 55, 56, 57, 58, 59, 60, 61, 62, 63, 64, 65, 66, 67, 68, 69, 70, 71, 72, 73, 74] (.cond (.t 75) (.seq (.reg [⟨none, .asg 2 (.c (.bool false))⟩])
         .ret)
        .skip))))))
    (.drop [49, 5, 50, 51, 52, 53, 54, 55, 56, 57, 58, 59, 60, 61, 62, 63, 64, 65, 66, 67, 68, 69, 70, 71, 72, 73, 74, 75] (.reg [⟨none, .bin 76 .add (.t 47) (.c (.int .i64 1))⟩,
       ⟨none, .asg 47 (.t 76)⟩])))))
def c_impl_order_isOrder_l2 : ACode :=
  (.seq (.reg [⟨none, .bin 22 .lss (.t 21) (.t 20)⟩])
  (.seq (.cond (.t 22) .skip
    (.exit 2))
   (.seq (.block 3 (.seq (.reg [⟨none, .mov 23 (.t 21)⟩,
         ⟨none, .asg 4 (.t 23)⟩])
      (.drop [23] (.seq (.cut c_impl_order_isOrder_k1)
       (.drop [24, 25, 26, 27, 28, 29, 30, 31, 32, 33, 34, 35, 36, 37, 38, 39, 40, 41, 42, 43, 44] (.seq (.reg [⟨none, .mov 45 (.t 0)⟩,
           ⟨none, .len 46 (.t 45)⟩,
           ⟨none, .mov 47 (.c (.int .i64 0))⟩])
        (.drop [45] (.block 4 (.loop c_impl_order_isOrder_l1)))))))))
    (.drop [23, 4, 24, 25, 26, 27, 28, 29, 30, 31, 32, 33, 34, 35, 36, 37, 38, 39, 40, 41, 42, 43, 44, 45, 46, 47, 48, 49, 5, 50, 51, 52, 53, 54, 55, 56, 57, 58, 59, 60, 61, 62, 63, 64, 65, 66, 67, 68, 69, 70, 71, 72, 73, 74, 75, 76] (.reg [⟨none, .bin 77 .add (.t 21) (.c (.int .i64 1))⟩,
       ⟨none, .asg 21 (.t 77)⟩])))))
def c_impl_order_isOrder_l3 : ACode :=
  (.seq (.reg [⟨none, .bin 9 .lss (.t 8) (.t 7)⟩])
  (.seq (.cond (.t 9) .skip
    (.exit 0))
   (.seq (.block 1 (.seq (.reg [⟨none, .mov 10 (.t 8)⟩,
         ⟨none, .asg 3 (.t 10)⟩])
      (.drop [10] (.seq (.seq (.reg [⟨none, .mov 11 (.t 0)⟩,
           ⟨none, .mov 12 (.t 3)⟩,
           ⟨none, .iad 13 1 (.t 11) (.t 12)⟩,
           ⟨none, .ld 14 1 false (.t 13)⟩,
           ⟨none, .mov 15 (.t 3)⟩,
           ⟨none, .iad 16 1 (.t 14) (.t 15)⟩,
           ⟨none, .ld 17 1 false (.t 16)⟩,
           ⟨none, .un 18 .not (.t 17)⟩])
        (.drop [11, 12, 13, 14, 15, 16, 17] (.cond (.t 18) (.seq (.reg [⟨none, .asg 2 (.c (.bool false))⟩])
          .ret)
         .skip)))
       (.drop [11, 12, 13, 14, 15, 16, 17, 18] (.seq (.reg [⟨none, .mov 19 (.t 0)⟩,
           ⟨none, .len 20 (.t 19)⟩,
           ⟨none, .mov 21 (.c (.int .i64 0))⟩])
        (.drop [19] (.block 2 (.loop c_impl_order_isOrder_l2)))))))))
    (.drop [10, 3, 11, 12, 13, 14, 15, 16, 17, 18, 19, 20, 21, 22, 23, 4, 24, 25, 26, 27, 28, 29, 30, 31, 32, 33, 34, 35, 36, 37, 38, 39, 40, 41, 42, 43, 44, 45, 46, 47, 48, 49, 5, 50, 51, 52, 53, 54, 55, 56, 57, 58, 59, 60, 61, 62, 63, 64, 65, 66, 67, 68, 69, 70, 71, 72, 73, 74, 75, 76, 77] (.reg [⟨none, .bin 78 .add (.t 8) (.c (.int .i64 1))⟩,
       ⟨none, .asg 8 (.t 78)⟩])))))
def c_impl_order_isOrder : ACode :=
  (.seq (.reg [⟨none, .asg 2 (.c (.bool false))⟩])
  (.seq (.seq (.reg [⟨none, .mov 6 (.t 0)⟩,
       ⟨none, .len 7 (.t 6)⟩,
       ⟨none, .mov 8 (.c (.int .i64 0))⟩])
    (.drop [6] (.block 0 (.loop c_impl_order_isOrder_l3))))
   (.drop [6, 7, 8, 9, 10, 3, 11, 12, 13, 14, 15, 16, 17, 18, 19, 20, 21, 22, 23, 4, 24, 25, 26, 27, 28, 29, 30, 31, 32, 33, 34, 35, 36, 37, 38, 39, 40, 41, 42, 43, 44, 45, 46, 47, 48, 49, 5, 50, 51, 52, 53, 54, 55, 56, 57, 58, 59, 60, 61, 62, 63, 64, 65, 66, 67, 68, 69, 70, 71, 72, 73, 74, 75, 76, 77, 78] (.seq (.reg [⟨none, .asg 2 (.c (.bool true))⟩])
    .ret))))
abbrev r_impl_order_isOrder : List RS := [.t 2]
theorem k_impl_order_isOrder : fitsF Try.prog f_impl_order_isOrder 79 c_impl_order_isOrder r_impl_order_isOrder = true := by kernel_rfl

/- loop.example/g01078/laws.szIntS: [a=0, left=1, a=2, left=3] -/
def c_laws_szIntS : ACode :=
  (.seq (.reg [⟨none, .asg 4 (.c (.int .i64 0))⟩])
  (.seq (.reg [⟨none, .mov 5 (.t 1)⟩,
      ⟨none, .mov 6 (.t 0)⟩,
      ⟨none, .len 7 (.t 6)⟩,
      ⟨none, .bin 8 .sub (.t 5) (.t 7)⟩,
      ⟨none, .asg 1 (.t 8)⟩])
   (.drop [5, 6, 7, 8] (.seq (.seq (.reg [⟨none, .mov 9 (.t 1)⟩,
        ⟨none, .bin 10 .lss (.t 9) (.c (.int .i64 0))⟩])
     (.drop [9] (.cond (.t 10) (.seq (.reg [⟨none, .asg 4 (.c (.int .i64 (-1)))⟩])
       .ret)
      .skip)))
    (.drop [9, 10] (.seq (.reg [⟨none, .mov 11 (.t 1)⟩,
        ⟨none, .asg 4 (.t 11)⟩])
     (.drop [11] .ret)))))))
abbrev r_laws_szIntS : List RS := [.t 4]
theorem k_laws_szIntS : fitsF Try.prog f_laws_szIntS 12 c_laws_szIntS r_laws_szIntS = true := by kernel_rfl

/- loop.example/g01078/spec.l1Has: [l=0, n=1, l=2, n=3, i=5] -/
def c_spec_l1Has_l1 : ACode :=
  (.seq (.seq (.reg [⟨none, .mov 6 (.t 5)⟩,
      ⟨none, .mov 7 (.t 0)⟩,
      ⟨none, .len 8 (.t 7)⟩,
      ⟨none, .bin 9 .lss (.t 6) (.t 8)⟩])
   (.drop [6, 7, 8] (.cond (.t 9) .skip
    (.exit 0))))
  (.drop [6, 7, 8, 9] (.seq (.block 1 (.seq (.reg [⟨none, .mov 12 (.t 0)⟩,
        ⟨none, .mov 13 (.t 5)⟩,
        ⟨none, .iad 14 1 (.t 12) (.t 13)⟩,
        ⟨none, .ld 15 1 false (.t 14)⟩,
        ⟨none, .mov 16 (.t 1)⟩,
        ⟨none, .bin 17 .eql (.t 15) (.t 16)⟩])
     (.drop [12, 13, 14, 15, 16] (.cond (.t 17) (.seq (.reg [⟨none, .asg 4 (.c (.bool true))⟩])
       .ret)
      .skip))))
   (.drop [12, 13, 14, 15, 16, 17] (.reg [⟨none, .mov 10 (.t 5)⟩,
      ⟨none, .bin 11 .add (.t 10) (.c (.int .i64 1))⟩,
      ⟨none, .asg 5 (.t 11)⟩])))))
def c_spec_l1Has : ACode :=
  (.seq (.reg [⟨none, .asg 4 (.c (.bool false))⟩])
  (.seq (.seq (.reg [⟨none, .asg 5 (.c (.int .i64 0))⟩])
    (.block 0 (.loop c_spec_l1Has_l1)))
   (.drop [5, 6, 7, 8, 9, 12, 13, 14, 15, 16, 17, 10, 11] (.seq (.reg [⟨none, .asg 4 (.c (.bool false))⟩])
    .ret))))
abbrev r_spec_l1Has : List RS := [.t 4]
theorem k_spec_l1Has : fitsF Try.prog f_spec_l1Has 18 c_spec_l1Has r_spec_l1Has = true := by kernel_rfl

/- loop.example/g01078/laws.toIntS: [a=0, a=1, out=3, i=4] -/
def c_laws_toIntS_l1 : ACode :=
  (.seq (.seq (.reg [⟨none, .mov 8 (.t 4)⟩,
      ⟨none, .mov 9 (.t 0)⟩,
      ⟨none, .len 10 (.t 9)⟩,
      ⟨none, .bin 11 .lss (.t 8) (.t 10)⟩])
   (.drop [8, 9, 10] (.cond (.t 11) .skip
    (.exit 0))))
  (.drop [8, 9, 10, 11] (.seq (.block 1 (.reg [⟨none, .mov 14 (.t 3)⟩,
       ⟨none, .mov 15 (.t 4)⟩,
       ⟨none, .mov 16 (.t 0)⟩,
       ⟨none, .mov 17 (.t 4)⟩,
       ⟨none, .iad 18 1 (.t 16) (.t 17)⟩,
       ⟨none, .ld 19 1 false (.t 18)⟩,
       ⟨none, .iad 20 1 (.t 14) (.t 15)⟩,
       ⟨none, .st 1 (.t 20) (.t 19)⟩]))
   (.drop [14, 15, 16, 17, 18, 19, 20] (.reg [⟨none, .mov 12 (.t 4)⟩,
      ⟨none, .bin 13 .add (.t 12) (.c (.int .i64 1))⟩,
      ⟨none, .asg 4 (.t 13)⟩])))))
def c_laws_toIntS : ACode :=
  (.seq (.reg [⟨none, .asg 2 (.c (.nilsl 1))⟩])
  (.seq (.reg [⟨none, .mov 5 (.t 0)⟩,
      ⟨none, .len 6 (.t 5)⟩,
      ⟨none, .mk 7 1 (.int .i64 0) (.t 6)⟩,
      ⟨none, .asg 3 (.t 7)⟩])
   (.drop [5, 6, 7] (.seq (.seq (.reg [⟨none, .asg 4 (.c (.int .i64 0))⟩])
     (.block 0 (.loop c_laws_toIntS_l1)))
    (.drop [4, 8, 9, 10, 11, 14, 15, 16, 17, 18, 19, 20, 12, 13] (.seq (.reg [⟨none, .mov 21 (.t 3)⟩,
        ⟨none, .asg 2 (.t 21)⟩])
     (.drop [21] .ret)))))))
abbrev r_laws_toIntS : List RS := [.t 2]
theorem k_laws_toIntS : fitsF Try.prog f_laws_toIntS 22 c_laws_toIntS r_laws_toIntS = true := by kernel_rfl

/- loop.example/g01078/impl.rises: [list=0, list=1, i=3] -/
def c_impl_rises_l1 : ACode :=
  (.seq (.seq (.reg [⟨none, .mov 4 (.t 3)⟩,
      ⟨none, .mov 5 (.t 0)⟩,
      ⟨none, .len 6 (.t 5)⟩,
      ⟨none, .bin 7 .lss (.t 4) (.t 6)⟩])
   (.drop [4, 5, 6] (.cond (.t 7) .skip
    (.exit 0))))
  (.drop [4, 5, 6, 7] (.seq (.block 1 (.seq (.dreg [(⟨none, .mov 10 (.t 0)⟩, []),
        (⟨none, .mov 11 (.t 3)⟩, [10]),
        (⟨none, .bin 12 .sub (.t 11) (.c (.int .i64 1))⟩, [10]),
        (⟨none, .iad 13 1 (.t 10) (.t 12)⟩, []),
        (⟨none, .ld 14 1 false (.t 13)⟩, []),
        (⟨none, .mov 15 (.t 0)⟩, [10, 11, 12, 13, 14]),
        (⟨none, .mov 16 (.t 3)⟩, [10, 11, 12, 13, 14, 15]),
        (⟨none, .iad 17 1 (.t 15) (.t 16)⟩, [10, 11, 12, 13, 14]),
        (⟨none, .ld 18 1 false (.t 17)⟩, [10, 11, 12, 13, 14])]
       [⟨none, .bin 19 .geq (.t 14) (.t 18)⟩])
     (.drop [10, 11, 12, 13, 14, 15, 16, 17, 18] (.cond (.t 19) (.seq (.reg [⟨none, .asg 2 (.c (.bool false))⟩])
       .ret)
      .skip))))
   (.drop [10, 11, 12, 13, 14, 15, 16, 17, 18, 19] (.reg [⟨none, .mov 8 (.t 3)⟩,
      ⟨none, .bin 9 .add (.t 8) (.c (.int .i64 1))⟩,
      ⟨none, .asg 3 (.t 9)⟩])))))
def c_impl_rises : ACode :=
  (.seq (.reg [⟨none, .asg 2 (.c (.bool false))⟩])
  (.seq (.seq (.reg [⟨none, .asg 3 (.c (.int .i64 1))⟩])
    (.block 0 (.loop c_impl_rises_l1)))
   (.drop [3, 4, 5, 6, 7, 10, 11, 12, 13, 14, 15, 16, 17, 18, 19, 8, 9] (.seq (.reg [⟨none, .asg 2 (.c (.bool true))⟩])
    .ret))))
abbrev r_impl_rises : List RS := [.t 2]
theorem k_impl_rises : fitsF Try.prog f_impl_rises 20 c_impl_rises r_impl_rises = true := by kernel_rfl

/- loop.example/g01078/impl.inSize: [list=0, n=1, list=2, n=3, _=5, x=6] -/
def c_impl_inSize_l1 : ACode :=
  (.seq (.reg [⟨none, .bin 10 .lss (.t 9) (.t 8)⟩])
  (.seq (.cond (.t 10) .skip
    (.exit 0))
   (.seq (.block 1 (.seq (.reg [⟨none, .iad 11 1 (.t 7) (.t 9)⟩,
         ⟨none, .ld 12 1 false (.t 11)⟩,
         ⟨none, .asg 6 (.t 12)⟩])
      (.drop [11, 12] (.seq (.reg [⟨none, .mov 13 (.t 6)⟩,
          ⟨none, .bin 14 .lss (.t 13) (.c (.int .i64 0))⟩,
          ⟨none, .asg 15 (.t 14)⟩,
          ⟨some (15, false), .mov 16 (.t 6)⟩,
          ⟨some (15, false), .mov 17 (.t 1)⟩,
          ⟨some (15, false), .bin 18 .geq (.t 16) (.t 17)⟩,
          ⟨none, .pick 19 (.t 15) (.c (.bool true)) (.t 18)⟩])
       (.drop [13, 14, 15, 16, 17, 18] (.cond (.t 19) (.seq (.reg [⟨none, .asg 4 (.c (.bool false))⟩])
         .ret)
        .skip))))))
    (.drop [11, 12, 6, 13, 14, 15, 16, 17, 18, 19] (.reg [⟨none, .bin 20 .add (.t 9) (.c (.int .i64 1))⟩,
       ⟨none, .asg 9 (.t 20)⟩])))))
def c_impl_inSize : ACode :=
  (.seq (.reg [⟨none, .asg 4 (.c (.bool false))⟩])
  (.seq (.seq (.reg [⟨none, .mov 7 (.t 0)⟩,
       ⟨none, .len 8 (.t 7)⟩,
       ⟨none, .mov 9 (.c (.int .i64 0))⟩])
    (.block 0 (.loop c_impl_inSize_l1)))
   (.drop [7, 8, 9, 10, 11, 12, 6, 13, 14, 15, 16, 17, 18, 19, 20] (.seq (.reg [⟨none, .asg 4 (.c (.bool true))⟩])
    .ret))))
abbrev r_impl_inSize : List RS := [.t 4]
theorem k_impl_inSize : fitsF Try.prog f_impl_inSize 21 c_impl_inSize r_impl_inSize = true := by kernel_rfl

/- loop.example/g01078/spec.l1In: [x=0, a=1, b=2, x=3, a=4, b=5] -/
def c_spec_l1In : ACode :=
  (.seq (.reg [⟨none, .asg 6 (.c (.bool false))⟩])
  (.seq (.reg [⟨none, .mov 7 (.t 0)⟩,
      ⟨none, .mov 8 (.t 1)⟩,
      ⟨none, .bin 9 .geq (.t 7) (.t 8)⟩,
      ⟨none, .asg 10 (.t 9)⟩,
      ⟨some (10, true), .mov 11 (.t 0)⟩,
      ⟨some (10, true), .mov 12 (.t 2)⟩,
      ⟨some (10, true), .bin 13 .leq (.t 11) (.t 12)⟩,
      ⟨none, .pick 14 (.t 10) (.t 13) (.c (.bool false))⟩,
      ⟨none, .asg 6 (.t 14)⟩])
   (.drop [7, 8, 9, 10, 11, 12, 13, 14] .ret)))
abbrev r_spec_l1In : List RS := [.t 6]
theorem k_spec_l1In : fitsF Try.prog f_spec_l1In 15 c_spec_l1In r_spec_l1In = true := by kernel_rfl

/- loop.example/g01078/impl.widthOf$1: [i=0, i=6, k=8] -/
def c_impl_widthOf_1_k1 : ACode :=
  (.seq (.reg [⟨none, .ld 14 1 false (.t 2)⟩,
         ⟨none, .mov 15 (.t 8)⟩,
         ⟨none, .iad 16 1 (.t 14) (.t 15)⟩,
         ⟨none, .ld 17 1 false (.t 16)⟩,
         ⟨none, .asg 18 (.t 17)⟩,
         ⟨some (18, false), .ld 19 1 false (.t 3)⟩,
         ⟨some (18, false), .mov 20 (.t 0)⟩,
         ⟨some (18, false), .mov 21 (.t 8)⟩,
         ⟨some (18, false), .cally 22 (.t 19) [(.t 20), (.t 21)] [true, false, true, false, false]⟩,
         ⟨some (18, false), .un 23 .not (.t 22)⟩,
         ⟨none, .pick 24 (.t 18) (.c (.bool true)) (.t 23)⟩])
      (.drop [14, 15, 16, 17, 18, 19, 20, 21, 22, 23] (.cond (.t 24) (.exit 1)
       .skip)))
def c_impl_widthOf_1_l1 : ACode :=
  (.seq (.seq (.reg [⟨none, .mov 9 (.t 8)⟩,
      ⟨none, .ld 10 1 false (.t 1)⟩,
      ⟨none, .bin 11 .lss (.t 9) (.t 10)⟩])
   (.drop [9, 10] (.cond (.t 11) .skip
    (.exit 0))))
  (.drop [9, 10, 11] (.seq (.block 1 (.seq (.cut c_impl_widthOf_1_k1)
     (.drop [14, 15, 16, 17, 18, 19, 20, 21, 22, 23, 24] (.seq (.reg [⟨none, .ld 25 1 false (.t 2)⟩,
         ⟨none, .mov 26 (.t 8)⟩,
         ⟨none, .iad 27 1 (.t 25) (.t 26)⟩,
         ⟨none, .st 1 (.t 27) (.c (.bool true))⟩])
      (.drop [25, 26, 27] (.seq (.dreg [(⟨none, .ld 28 1 false (.t 4)⟩, []),
          (⟨none, .mov 29 (.t 8)⟩, [28]),
          (⟨none, .iad 30 1 (.t 28) (.t 29)⟩, []),
          (⟨none, .ld 31 1 false (.t 30)⟩, []),
          (⟨none, .bin 32 .lss (.t 31) (.c (.int .i64 0))⟩, []),
          (⟨none, .asg 33 (.t 32)⟩, []),
          (⟨some (33, false), .ld 34 1 false (.t 5)⟩, [32]),
          (⟨some (33, false), .ld 35 1 false (.t 4)⟩, [34, 32]),
          (⟨some (33, false), .mov 36 (.t 8)⟩, [34, 35, 32]),
          (⟨some (33, false), .iad 37 1 (.t 35) (.t 36)⟩, [34, 32]),
          (⟨some (33, false), .ld 38 1 false (.t 37)⟩, [34, 32])]
         [⟨some (33, false), .cally 39 (.t 34) [(.t 38)] [false, true, false, true, false]⟩,
          ⟨none, .pick 40 (.t 33) (.c (.bool true)) (.t 39)⟩])
       (.drop [28, 29, 30, 31, 32, 33, 34, 35, 36, 37, 38, 39] (.cond (.t 40) (.seq (.reg [⟨none, .ld 41 1 false (.t 4)⟩,
            ⟨none, .mov 42 (.t 8)⟩,
            ⟨none, .mov 43 (.t 0)⟩,
            ⟨none, .iad 44 1 (.t 41) (.t 42)⟩,
            ⟨none, .st 1 (.t 44) (.t 43)⟩])
         (.drop [41, 42, 43, 44] (.seq (.reg [⟨none, .asg 7 (.c (.bool true))⟩])
          .ret)))
        .skip))))))))
   (.drop [14, 15, 16, 17, 18, 19, 20, 21, 22, 23, 24, 25, 26, 27, 28, 29, 30, 31, 32, 33, 34, 35, 36, 37, 38, 39, 40, 41, 42, 43, 44] (.reg [⟨none, .mov 12 (.t 8)⟩,
      ⟨none, .bin 13 .add (.t 12) (.c (.int .i64 1))⟩,
      ⟨none, .asg 8 (.t 13)⟩])))))
def c_impl_widthOf_1 : ACode :=
  (.seq (.reg [⟨none, .asg 7 (.c (.bool false))⟩])
  (.seq (.seq (.reg [⟨none, .asg 8 (.c (.int .i64 0))⟩])
    (.block 0 (.loop c_impl_widthOf_1_l1)))
   (.drop [8, 9, 10, 11, 14, 15, 16, 17, 18, 19, 20, 21, 22, 23, 24, 25, 26, 27, 28, 29, 30, 31, 32, 33, 34, 35, 36, 37, 38, 39, 40, 41, 42, 43, 44, 12, 13] (.seq (.reg [⟨none, .asg 7 (.c (.bool false))⟩])
    .ret))))
abbrev r_impl_widthOf_1 : List RS := [.t 7]
theorem k_impl_widthOf_1 : fitsF Try.prog f_impl_widthOf_1 45 c_impl_widthOf_1 r_impl_widthOf_1 = true := by kernel_rfl

/- loop.example/g01078/laws.eqIntSS: [a=0, b=1, a=2, b=3, i=5] -/
def c_laws_eqIntSS_l1 : ACode :=
  (.seq (.seq (.reg [⟨none, .mov 11 (.t 5)⟩,
      ⟨none, .mov 12 (.t 0)⟩,
      ⟨none, .len 13 (.t 12)⟩,
      ⟨none, .bin 14 .lss (.t 11) (.t 13)⟩])
   (.drop [11, 12, 13] (.cond (.t 14) .skip
    (.exit 0))))
  (.drop [11, 12, 13, 14] (.seq (.block 1 (.seq (.dreg [(⟨none, .mov 17 (.t 0)⟩, []),
        (⟨none, .mov 18 (.t 5)⟩, [17]),
        (⟨none, .iad 19 1 (.t 17) (.t 18)⟩, []),
        (⟨none, .ld 20 1 false (.t 19)⟩, []),
        (⟨none, .mov 21 (.t 1)⟩, [17, 18, 19, 20]),
        (⟨none, .mov 22 (.t 5)⟩, [17, 18, 19, 20, 21]),
        (⟨none, .iad 23 1 (.t 21) (.t 22)⟩, [17, 18, 19, 20]),
        (⟨none, .ld 24 1 false (.t 23)⟩, [17, 18, 19, 20])]
       [⟨none, .call 25 f_laws_eqIntS [((.t 20), false), ((.t 24), false)]⟩,
        ⟨none, .un 26 .not (.t 25)⟩])
     (.drop [17, 18, 19, 20, 21, 22, 23, 24, 25] (.cond (.t 26) (.seq (.reg [⟨none, .asg 4 (.c (.bool false))⟩])
       .ret)
      .skip))))
   (.drop [17, 18, 19, 20, 21, 22, 23, 24, 25, 26] (.reg [⟨none, .mov 15 (.t 5)⟩,
      ⟨none, .bin 16 .add (.t 15) (.c (.int .i64 1))⟩,
      ⟨none, .asg 5 (.t 16)⟩])))))
def c_laws_eqIntSS : ACode :=
  (.seq (.reg [⟨none, .asg 4 (.c (.bool false))⟩])
  (.seq (.seq (.reg [⟨none, .mov 6 (.t 0)⟩,
       ⟨none, .len 7 (.t 6)⟩,
       ⟨none, .mov 8 (.t 1)⟩,
       ⟨none, .len 9 (.t 8)⟩,
       ⟨none, .bin 10 .neq (.t 7) (.t 9)⟩])
    (.drop [6, 7, 8, 9] (.cond (.t 10) (.seq (.reg [⟨none, .asg 4 (.c (.bool false))⟩])
      .ret)
     .skip)))
   (.drop [6, 7, 8, 9, 10] (.seq (.seq (.reg [⟨none, .asg 5 (.c (.int .i64 0))⟩])
     (.block 0 (.loop c_laws_eqIntSS_l1)))
    (.drop [5, 11, 12, 13, 14, 17, 18, 19, 20, 21, 22, 23, 24, 25, 26, 15, 16] (.seq (.reg [⟨none, .asg 4 (.c (.bool true))⟩])
     .ret))))))
abbrev r_laws_eqIntSS : List RS := [.t 4]
theorem k_laws_eqIntSS : fitsF Try.prog f_laws_eqIntSS 27 c_laws_eqIntSS r_laws_eqIntSS = true := by kernel_rfl

/- loop.example/g01078/laws.markIntSS: [a=0, k=1, a=2, k=3, i=5] -/
def c_laws_markIntSS_l1 : ACode :=
  (.seq (.seq (.reg [⟨none, .mov 6 (.t 5)⟩,
      ⟨none, .mov 7 (.t 0)⟩,
      ⟨none, .len 8 (.t 7)⟩,
      ⟨none, .bin 9 .lss (.t 6) (.t 8)⟩])
   (.drop [6, 7, 8] (.cond (.t 9) .skip
    (.exit 0))))
  (.drop [6, 7, 8, 9] (.seq (.block 1 (.reg [⟨none, .mov 12 (.t 0)⟩,
       ⟨none, .mov 13 (.t 5)⟩,
       ⟨none, .iad 14 1 (.t 12) (.t 13)⟩,
       ⟨none, .ld 15 1 false (.t 14)⟩,
       ⟨none, .mov 16 (.t 1)⟩,
       ⟨none, .call 17 f_laws_markIntS [((.t 15), true), ((.t 16), false)]⟩,
       ⟨none, .asg 1 (.t 17)⟩]))
   (.drop [12, 13, 14, 15, 16, 17] (.reg [⟨none, .mov 10 (.t 5)⟩,
      ⟨none, .bin 11 .add (.t 10) (.c (.int .i64 1))⟩,
      ⟨none, .asg 5 (.t 11)⟩])))))
def c_laws_markIntSS : ACode :=
  (.seq (.reg [⟨none, .asg 4 (.c (.int .i64 0))⟩])
  (.seq (.seq (.reg [⟨none, .asg 5 (.c (.int .i64 0))⟩])
    (.block 0 (.loop c_laws_markIntSS_l1)))
   (.drop [5, 6, 7, 8, 9, 12, 13, 14, 15, 16, 17, 10, 11] (.seq (.reg [⟨none, .mov 18 (.t 1)⟩,
       ⟨none, .asg 4 (.t 18)⟩])
    (.drop [18] .ret)))))
abbrev r_laws_markIntSS : List RS := [.t 4]
theorem k_laws_markIntSS : fitsF Try.prog f_laws_markIntSS 19 c_laws_markIntSS r_laws_markIntSS = true := by kernel_rfl

/- loop.example/g01078/laws.heldIntSS: [a=0, k=1, a=2, k=3, i=5] -/
def c_laws_heldIntSS_l1 : ACode :=
  (.seq (.seq (.reg [⟨none, .mov 6 (.t 5)⟩,
      ⟨none, .mov 7 (.t 0)⟩,
      ⟨none, .len 8 (.t 7)⟩,
      ⟨none, .bin 9 .lss (.t 6) (.t 8)⟩])
   (.drop [6, 7, 8] (.cond (.t 9) .skip
    (.exit 0))))
  (.drop [6, 7, 8, 9] (.seq (.block 1 (.seq (.reg [⟨none, .mov 12 (.t 0)⟩,
        ⟨none, .mov 13 (.t 5)⟩,
        ⟨none, .iad 14 1 (.t 12) (.t 13)⟩,
        ⟨none, .ld 15 1 false (.t 14)⟩,
        ⟨none, .mov 16 (.t 1)⟩,
        ⟨none, .call 17 f_laws_heldIntS [((.t 15), false), ((.t 16), false)]⟩,
        ⟨none, .asg 1 (.t 17)⟩])
     (.drop [12, 13, 14, 15, 16, 17] (.seq (.reg [⟨none, .mov 18 (.t 1)⟩,
         ⟨none, .bin 19 .lss (.t 18) (.c (.int .i64 0))⟩])
      (.drop [18] (.cond (.t 19) (.seq (.reg [⟨none, .asg 4 (.c (.int .i64 (-1)))⟩])
        .ret)
       .skip))))))
   (.drop [12, 13, 14, 15, 16, 17, 18, 19] (.reg [⟨none, .mov 10 (.t 5)⟩,
      ⟨none, .bin 11 .add (.t 10) (.c (.int .i64 1))⟩,
      ⟨none, .asg 5 (.t 11)⟩])))))
def c_laws_heldIntSS : ACode :=
  (.seq (.reg [⟨none, .asg 4 (.c (.int .i64 0))⟩])
  (.seq (.seq (.reg [⟨none, .asg 5 (.c (.int .i64 0))⟩])
    (.block 0 (.loop c_laws_heldIntSS_l1)))
   (.drop [5, 6, 7, 8, 9, 12, 13, 14, 15, 16, 17, 18, 19, 10, 11] (.seq (.reg [⟨none, .mov 20 (.t 1)⟩,
       ⟨none, .asg 4 (.t 20)⟩])
    (.drop [20] .ret)))))
abbrev r_laws_heldIntSS : List RS := [.t 4]
theorem k_laws_heldIntSS : fitsF Try.prog f_laws_heldIntSS 21 c_laws_heldIntSS r_laws_heldIntSS = true := by kernel_rfl

/- loop.example/g01078/laws.szIntSS: [a=0, left=1, a=2, left=3, i=5] -/
def c_laws_szIntSS_l1 : ACode :=
  (.seq (.seq (.reg [⟨none, .mov 12 (.t 5)⟩,
      ⟨none, .mov 13 (.t 0)⟩,
      ⟨none, .len 14 (.t 13)⟩,
      ⟨none, .bin 15 .lss (.t 12) (.t 14)⟩])
   (.drop [12, 13, 14] (.cond (.t 15) .skip
    (.exit 0))))
  (.drop [12, 13, 14, 15] (.seq (.block 1 (.seq (.reg [⟨none, .mov 18 (.t 0)⟩,
        ⟨none, .mov 19 (.t 5)⟩,
        ⟨none, .iad 20 1 (.t 18) (.t 19)⟩,
        ⟨none, .ld 21 1 false (.t 20)⟩,
        ⟨none, .mov 22 (.t 1)⟩,
        ⟨none, .call 23 f_laws_szIntS [((.t 21), false), ((.t 22), false)]⟩,
        ⟨none, .asg 1 (.t 23)⟩])
     (.drop [18, 19, 20, 21, 22, 23] (.seq (.reg [⟨none, .mov 24 (.t 1)⟩,
         ⟨none, .bin 25 .lss (.t 24) (.c (.int .i64 0))⟩])
      (.drop [24] (.cond (.t 25) (.seq (.reg [⟨none, .asg 4 (.c (.int .i64 (-1)))⟩])
        .ret)
       .skip))))))
   (.drop [18, 19, 20, 21, 22, 23, 24, 25] (.reg [⟨none, .mov 16 (.t 5)⟩,
      ⟨none, .bin 17 .add (.t 16) (.c (.int .i64 1))⟩,
      ⟨none, .asg 5 (.t 17)⟩])))))
def c_laws_szIntSS : ACode :=
  (.seq (.reg [⟨none, .asg 4 (.c (.int .i64 0))⟩])
  (.seq (.reg [⟨none, .mov 6 (.t 1)⟩,
      ⟨none, .mov 7 (.t 0)⟩,
      ⟨none, .len 8 (.t 7)⟩,
      ⟨none, .bin 9 .sub (.t 6) (.t 8)⟩,
      ⟨none, .asg 1 (.t 9)⟩])
   (.drop [6, 7, 8, 9] (.seq (.seq (.reg [⟨none, .mov 10 (.t 1)⟩,
        ⟨none, .bin 11 .lss (.t 10) (.c (.int .i64 0))⟩])
     (.drop [10] (.cond (.t 11) (.seq (.reg [⟨none, .asg 4 (.c (.int .i64 (-1)))⟩])
       .ret)
      .skip)))
    (.drop [10, 11] (.seq (.seq (.reg [⟨none, .asg 5 (.c (.int .i64 0))⟩])
      (.block 0 (.loop c_laws_szIntSS_l1)))
     (.drop [5, 12, 13, 14, 15, 18, 19, 20, 21, 22, 23, 24, 25, 16, 17] (.seq (.reg [⟨none, .mov 26 (.t 1)⟩,
         ⟨none, .asg 4 (.t 26)⟩])
      (.drop [26] .ret)))))))))
abbrev r_laws_szIntSS : List RS := [.t 4]
theorem k_laws_szIntSS : fitsF Try.prog f_laws_szIntSS 27 c_laws_szIntSS r_laws_szIntSS = true := by kernel_rfl

/- loop.example/g01078/laws.toIntSS: [a=0, a=1, out=3, i=4] -/
def c_laws_toIntSS_l1 : ACode :=
  (.seq (.seq (.reg [⟨none, .mov 8 (.t 4)⟩,
      ⟨none, .mov 9 (.t 0)⟩,
      ⟨none, .len 10 (.t 9)⟩,
      ⟨none, .bin 11 .lss (.t 8) (.t 10)⟩])
   (.drop [8, 9, 10] (.cond (.t 11) .skip
    (.exit 0))))
  (.drop [8, 9, 10, 11] (.seq (.block 1 (.reg [⟨none, .mov 14 (.t 3)⟩,
       ⟨none, .mov 15 (.t 4)⟩,
       ⟨none, .mov 16 (.t 0)⟩,
       ⟨none, .mov 17 (.t 4)⟩,
       ⟨none, .iad 18 1 (.t 16) (.t 17)⟩,
       ⟨none, .ld 19 1 false (.t 18)⟩,
       ⟨none, .call 20 f_laws_toIntS [((.t 19), false)]⟩,
       ⟨none, .iad 21 1 (.t 14) (.t 15)⟩,
       ⟨none, .st 1 (.t 21) (.t 20)⟩]))
   (.drop [14, 15, 16, 17, 18, 19, 20, 21] (.reg [⟨none, .mov 12 (.t 4)⟩,
      ⟨none, .bin 13 .add (.t 12) (.c (.int .i64 1))⟩,
      ⟨none, .asg 4 (.t 13)⟩])))))
def c_laws_toIntSS : ACode :=
  (.seq (.reg [⟨none, .asg 2 (.c (.nilsl 1))⟩])
  (.seq (.reg [⟨none, .mov 5 (.t 0)⟩,
      ⟨none, .len 6 (.t 5)⟩,
      ⟨none, .mk 7 1 (.nilsl 1) (.t 6)⟩,
      ⟨none, .asg 3 (.t 7)⟩])
   (.drop [5, 6, 7] (.seq (.seq (.reg [⟨none, .asg 4 (.c (.int .i64 0))⟩])
     (.block 0 (.loop c_laws_toIntSS_l1)))
    (.drop [4, 8, 9, 10, 11, 14, 15, 16, 17, 18, 19, 20, 21, 12, 13] (.seq (.reg [⟨none, .mov 22 (.t 3)⟩,
        ⟨none, .asg 2 (.t 22)⟩])
     (.drop [22] .ret)))))))
abbrev r_laws_toIntSS : List RS := [.t 2]
theorem k_laws_toIntSS : fitsF Try.prog f_laws_toIntSS 23 c_laws_toIntSS r_laws_toIntSS = true := by kernel_rfl

/- loop.example/g01078/impl.orderOf: [p=0, p=1, n=4, o=5, x=6, list=7, _=8, y=9] -/
def c_impl_orderOf_k1 : ACode :=
  (.seq (.reg [⟨none, .mov 25 (.t 7)⟩,
           ⟨none, .call 26 f_impl_rises [((.t 25), false)]⟩,
           ⟨none, .un 27 .not (.t 26)⟩,
           ⟨none, .asg 28 (.t 27)⟩,
           ⟨some (28, false), .mov 29 (.t 7)⟩,
           ⟨some (28, false), .mov 30 (.t 4)⟩,
           ⟨some (28, false), .call 31 f_impl_inSize [((.t 29), false), ((.t 30), false)]⟩,
           ⟨some (28, false), .un 32 .not (.t 31)⟩,
           ⟨none, .pick 33 (.t 28) (.c (.bool true)) (.t 32)⟩])
        (.drop [25, 26, 27, 28, 29, 30, 31, 32] (.cond (.t 33) (.seq (.reg [⟨none, .asg 2 (.c (.nilsl 1))⟩,
             ⟨none, .asg 3 (.c (.bool false))⟩])
          .ret)
         .skip)))
def c_impl_orderOf_l1 : ACode :=
  (.seq (.reg [⟨none, .bin 37 .lss (.t 36) (.t 35)⟩])
  (.seq (.cond (.t 37) .skip
    (.exit 2))
   (.seq (.block 3 (.seq (.reg [⟨none, .iad 38 1 (.t 34) (.t 36)⟩,
         ⟨none, .ld 39 1 false (.t 38)⟩,
         ⟨none, .asg 9 (.t 39)⟩])
      (.drop [38, 39] (.reg [⟨none, .mov 40 (.t 5)⟩,
         ⟨none, .mov 41 (.t 9)⟩,
         ⟨none, .iad 42 1 (.t 40) (.t 41)⟩,
         ⟨none, .ld 43 1 false (.t 42)⟩,
         ⟨none, .mov 44 (.t 6)⟩,
         ⟨none, .iad 45 1 (.t 43) (.t 44)⟩,
         ⟨none, .st 1 (.t 45) (.c (.bool true))⟩]))))
    (.drop [38, 39, 9, 40, 41, 42, 43, 44, 45] (.reg [⟨none, .bin 46 .add (.t 36) (.c (.int .i64 1))⟩,
       ⟨none, .asg 36 (.t 46)⟩])))))
def c_impl_orderOf_l2 : ACode :=
  (.seq (.reg [⟨none, .bin 21 .lss (.t 20) (.t 19)⟩])
  (.seq (.cond (.t 21) .skip
    (.exit 0))
   (.seq (.block 1 (.seq (.reg [⟨none, .mov 22 (.t 20)⟩,
         ⟨none, .iad 23 1 (.t 18) (.t 20)⟩,
         ⟨none, .ld 24 1 false (.t 23)⟩,
         ⟨none, .asg 6 (.t 22)⟩,
         ⟨none, .asg 7 (.t 24)⟩])
      (.drop [22, 23, 24] (.seq (.cut c_impl_orderOf_k1)
       (.drop [25, 26, 27, 28, 29, 30, 31, 32, 33] (.seq (.reg [⟨none, .mov 34 (.t 7)⟩,
           ⟨none, .len 35 (.t 34)⟩,
           ⟨none, .mov 36 (.c (.int .i64 0))⟩])
        (.block 2 (.loop c_impl_orderOf_l1))))))))
    (.drop [22, 23, 24, 6, 7, 25, 26, 27, 28, 29, 30, 31, 32, 33, 34, 35, 36, 37, 38, 39, 9, 40, 41, 42, 43, 44, 45, 46] (.reg [⟨none, .bin 47 .add (.t 20) (.c (.int .i64 1))⟩,
       ⟨none, .asg 20 (.t 47)⟩])))))
def c_impl_orderOf : ACode :=
  (.seq (.reg [⟨none, .box 1 (.t 0)⟩,
     ⟨none, .asg 2 (.c (.nilsl 1))⟩,
     ⟨none, .asg 3 (.c (.bool false))⟩])
  (.seq (.reg [⟨none, .fadr 10 0 (.t 1)⟩,
      ⟨none, .ld 11 1 false (.t 10)⟩,
      ⟨none, .len 12 (.t 11)⟩,
      ⟨none, .asg 4 (.t 12)⟩])
   (.drop [10, 11, 12] (.seq (.seq (.reg [⟨none, .mov 13 (.t 4)⟩,
        ⟨none, .bin 14 .gtr (.t 13) (.c (.int .i64 10))⟩])
     (.drop [13] (.cond (.t 14) (.seq (.reg [⟨none, .asg 2 (.c (.nilsl 1))⟩,
          ⟨none, .asg 3 (.c (.bool false))⟩])
       .ret)
      .skip)))
    (.drop [13, 14] (.seq (.reg [⟨none, .mov 15 (.t 4)⟩,
        ⟨none, .call 16 f_impl_newOrder [((.t 15), false)]⟩,
        ⟨none, .asg 5 (.t 16)⟩])
     (.drop [15, 16] (.seq (.seq (.reg [⟨none, .fadr 17 0 (.t 1)⟩,
          ⟨none, .ld 18 1 false (.t 17)⟩,
          ⟨none, .len 19 (.t 18)⟩,
          ⟨none, .mov 20 (.c (.int .i64 0))⟩])
       (.drop [17] (.block 0 (.loop c_impl_orderOf_l2))))
      (.drop [17, 18, 19, 20, 21, 22, 23, 24, 6, 7, 25, 26, 27, 28, 29, 30, 31, 32, 33, 34, 35, 36, 37, 38, 39, 9, 40, 41, 42, 43, 44, 45, 46, 47] (.seq (.reg [⟨none, .mov 48 (.t 5)⟩,
          ⟨none, .mov 49 (.t 5)⟩,
          ⟨none, .call 50 f_impl_order_isOrder [((.t 49), false)]⟩,
          ⟨none, .asg 2 (.t 48)⟩,
          ⟨none, .asg 3 (.t 50)⟩])
       (.drop [48, 49, 50] .ret)))))))))))
abbrev r_impl_orderOf : List RS := [.t 2, .t 3]
theorem k_impl_orderOf : fitsF Try.prog f_impl_orderOf 51 c_impl_orderOf r_impl_orderOf = true := by kernel_rfl

/- loop.example/g01078/spec.l1Rising: [l=0, lo=1, hi=2, l=3, lo=4, hi=5, i=7] -/
def c_spec_l1Rising_l1 : ACode :=
  (.seq (.seq (.reg [⟨none, .mov 8 (.t 7)⟩,
      ⟨none, .mov 9 (.t 0)⟩,
      ⟨none, .len 10 (.t 9)⟩,
      ⟨none, .bin 11 .lss (.t 8) (.t 10)⟩])
   (.drop [8, 9, 10] (.cond (.t 11) .skip
    (.exit 0))))
  (.drop [8, 9, 10, 11] (.seq (.block 1 (.seq (.dreg [(⟨none, .mov 14 (.t 0)⟩, []),
        (⟨none, .mov 15 (.t 7)⟩, [14]),
        (⟨none, .iad 16 1 (.t 14) (.t 15)⟩, []),
        (⟨none, .ld 17 1 false (.t 16)⟩, []),
        (⟨none, .mov 18 (.t 1)⟩, [14, 15, 16, 17]),
        (⟨none, .mov 19 (.t 2)⟩, [14, 15, 16, 17, 18]),
        (⟨none, .call 20 f_spec_l1In [((.t 17), false), ((.t 18), false), ((.t 19), false)]⟩, []),
        (⟨none, .un 21 .not (.t 20)⟩, []),
        (⟨none, .asg 22 (.t 21)⟩, []),
        (⟨some (22, false), .mov 23 (.t 7)⟩, [21]),
        (⟨some (22, false), .bin 24 .gtr (.t 23) (.c (.int .i64 0))⟩, [21]),
        (⟨some (22, false), .asg 25 (.t 24)⟩, [21]),
        (⟨some (25, true), .mov 26 (.t 0)⟩, [21, 24]),
        (⟨some (25, true), .mov 27 (.t 7)⟩, [26, 21, 24]),
        (⟨some (25, true), .bin 28 .sub (.t 27) (.c (.int .i64 1))⟩, [26, 21, 24]),
        (⟨some (25, true), .iad 29 1 (.t 26) (.t 28)⟩, [21, 24]),
        (⟨some (25, true), .ld 30 1 false (.t 29)⟩, [21, 24]),
        (⟨some (25, true), .mov 31 (.t 0)⟩, [26, 27, 28, 29, 30, 21, 24]),
        (⟨some (25, true), .mov 32 (.t 7)⟩, [26, 27, 28, 29, 30, 31, 21, 24]),
        (⟨some (25, true), .iad 33 1 (.t 31) (.t 32)⟩, [26, 27, 28, 29, 30, 21, 24]),
        (⟨some (25, true), .ld 34 1 false (.t 33)⟩, [26, 27, 28, 29, 30, 21, 24])]
       [⟨some (25, true), .bin 35 .geq (.t 30) (.t 34)⟩,
        ⟨some (22, false), .pick 36 (.t 25) (.t 35) (.c (.bool false))⟩,
        ⟨none, .pick 37 (.t 22) (.c (.bool true)) (.t 36)⟩])
     (.drop [14, 15, 16, 17, 18, 19, 20, 21, 22, 23, 24, 25, 26, 27, 28, 29, 30, 31, 32, 33, 34, 35, 36] (.cond (.t 37) (.seq (.reg [⟨none, .asg 6 (.c (.bool false))⟩])
       .ret)
      .skip))))
   (.drop [14, 15, 16, 17, 18, 19, 20, 21, 22, 23, 24, 25, 26, 27, 28, 29, 30, 31, 32, 33, 34, 35, 36, 37] (.reg [⟨none, .mov 12 (.t 7)⟩,
      ⟨none, .bin 13 .add (.t 12) (.c (.int .i64 1))⟩,
      ⟨none, .asg 7 (.t 13)⟩])))))
def c_spec_l1Rising : ACode :=
  (.seq (.reg [⟨none, .asg 6 (.c (.bool false))⟩])
  (.seq (.seq (.reg [⟨none, .asg 7 (.c (.int .i64 0))⟩])
    (.block 0 (.loop c_spec_l1Rising_l1)))
   (.drop [7, 8, 9, 10, 11, 14, 15, 16, 17, 18, 19, 20, 21, 22, 23, 24, 25, 26, 27, 28, 29, 30, 31, 32, 33, 34, 35, 36, 37, 12, 13] (.seq (.reg [⟨none, .asg 6 (.c (.bool true))⟩])
    .ret))))
abbrev r_spec_l1Rising : List RS := [.t 6]
theorem k_spec_l1Rising : fitsF Try.prog f_spec_l1Rising 38 c_spec_l1Rising r_spec_l1Rising = true := by kernel_rfl

/- loop.example/g01078/spec.l5Within: [x=0, y=1, x=2, y=3, i=5] -/
def c_spec_l5Within_l1 : ACode :=
  (.seq (.seq (.reg [⟨none, .mov 6 (.t 5)⟩,
      ⟨none, .mov 7 (.t 0)⟩,
      ⟨none, .len 8 (.t 7)⟩,
      ⟨none, .bin 9 .lss (.t 6) (.t 8)⟩])
   (.drop [6, 7, 8] (.cond (.t 9) .skip
    (.exit 0))))
  (.drop [6, 7, 8, 9] (.seq (.block 1 (.seq (.reg [⟨none, .mov 12 (.t 1)⟩,
        ⟨none, .mov 13 (.t 0)⟩,
        ⟨none, .mov 14 (.t 5)⟩,
        ⟨none, .iad 15 1 (.t 13) (.t 14)⟩,
        ⟨none, .ld 16 1 false (.t 15)⟩,
        ⟨none, .call 17 f_spec_l1Has [((.t 12), false), ((.t 16), false)]⟩,
        ⟨none, .un 18 .not (.t 17)⟩])
     (.drop [12, 13, 14, 15, 16, 17] (.cond (.t 18) (.seq (.reg [⟨none, .asg 4 (.c (.bool false))⟩])
       .ret)
      .skip))))
   (.drop [12, 13, 14, 15, 16, 17, 18] (.reg [⟨none, .mov 10 (.t 5)⟩,
      ⟨none, .bin 11 .add (.t 10) (.c (.int .i64 1))⟩,
      ⟨none, .asg 5 (.t 11)⟩])))))
def c_spec_l5Within : ACode :=
  (.seq (.reg [⟨none, .asg 4 (.c (.bool false))⟩])
  (.seq (.seq (.reg [⟨none, .asg 5 (.c (.int .i64 0))⟩])
    (.block 0 (.loop c_spec_l5Within_l1)))
   (.drop [5, 6, 7, 8, 9, 12, 13, 14, 15, 16, 17, 18, 10, 11] (.seq (.reg [⟨none, .asg 4 (.c (.bool true))⟩])
    .ret))))
abbrev r_spec_l5Within : List RS := [.t 4]
theorem k_spec_l5Within : fitsF Try.prog f_spec_l5Within 19 c_spec_l5Within r_spec_l5Within = true := by kernel_rfl

/- loop.example/g01078/spec.l23Leq: [p=0, x=1, y=2, p=3, x=4, y=5] -/
def c_spec_l23Leq : ACode :=
  (.seq (.reg [⟨none, .box 3 (.t 0)⟩,
     ⟨none, .asg 6 (.c (.bool false))⟩])
  (.seq (.reg [⟨none, .fadr 7 0 (.t 3)⟩,
      ⟨none, .ld 8 1 false (.t 7)⟩,
      ⟨none, .mov 9 (.t 2)⟩,
      ⟨none, .iad 10 1 (.t 8) (.t 9)⟩,
      ⟨none, .ld 11 1 false (.t 10)⟩,
      ⟨none, .mov 12 (.t 1)⟩,
      ⟨none, .call 13 f_spec_l1Has [((.t 11), false), ((.t 12), false)]⟩,
      ⟨none, .asg 6 (.t 13)⟩])
   (.drop [7, 8, 9, 10, 11, 12, 13] .ret)))
abbrev r_spec_l23Leq : List RS := [.t 6]
theorem k_spec_l23Leq : fitsF Try.prog f_spec_l23Leq 14 c_spec_l23Leq r_spec_l23Leq = true := by kernel_rfl

/- loop.example/g01078/impl.widthOf: [n=0, less=1, n=2, less=3, match=5, i=6, seen=7, try=8, width=9, i=10] -/
def c_impl_widthOf_l1 : ACode :=
  (.seq (.reg [⟨none, .bin 16 .lss (.t 15) (.t 14)⟩])
  (.seq (.cond (.t 16) .skip
    (.exit 0))
   (.seq (.block 1 (.seq (.reg [⟨none, .mov 17 (.t 15)⟩,
         ⟨none, .asg 6 (.t 17)⟩])
      (.drop [17] (.reg [⟨none, .ld 18 1 false (.t 5)⟩,
         ⟨none, .mov 19 (.t 6)⟩,
         ⟨none, .iad 20 1 (.t 18) (.t 19)⟩,
         ⟨none, .st 1 (.t 20) (.c (.int .i64 (-1)))⟩]))))
    (.drop [17, 6, 18, 19, 20] (.reg [⟨none, .bin 21 .add (.t 15) (.c (.int .i64 1))⟩,
       ⟨none, .asg 15 (.t 21)⟩])))))
def c_impl_widthOf_l2 : ACode :=
  (.seq (.seq (.reg [⟨none, .mov 24 (.t 10)⟩,
      ⟨none, .ld 25 1 false (.t 2)⟩,
      ⟨none, .bin 26 .lss (.t 24) (.t 25)⟩])
   (.drop [24, 25] (.cond (.t 26) .skip
    (.exit 2))))
  (.drop [24, 25, 26] (.seq (.block 3 (.seq (.reg [⟨none, .ld 29 1 false (.t 2)⟩,
        ⟨none, .mk 30 1 (.bool false) (.t 29)⟩,
        ⟨none, .st 1 (.t 7) (.t 30)⟩])
     (.drop [29, 30] (.seq (.reg [⟨none, .ld 31 1 false (.t 8)⟩,
         ⟨none, .mov 32 (.t 10)⟩,
         ⟨none, .cally 33 (.t 31) [(.t 32)] [false, true, false, true, false]⟩])
      (.drop [31, 32] (.cond (.t 33) (.reg [⟨none, .mov 34 (.t 9)⟩,
          ⟨none, .bin 35 .sub (.t 34) (.c (.int .i64 1))⟩,
          ⟨none, .asg 9 (.t 35)⟩])
       .skip))))))
   (.drop [29, 30, 31, 32, 33, 34, 35] (.reg [⟨none, .mov 27 (.t 10)⟩,
      ⟨none, .bin 28 .add (.t 27) (.c (.int .i64 1))⟩,
      ⟨none, .asg 10 (.t 28)⟩])))))
def c_impl_widthOf : ACode :=
  (.seq (.reg [⟨none, .box 2 (.t 0)⟩,
     ⟨none, .box 3 (.t 1)⟩,
     ⟨none, .asg 4 (.c (.int .i64 0))⟩])
  (.seq (.reg [⟨none, .ld 11 1 false (.t 2)⟩,
      ⟨none, .mk 12 1 (.int .i64 0) (.t 11)⟩,
      ⟨none, .alc 5 (.nilsl 1)⟩,
      ⟨none, .st 1 (.t 5) (.t 12)⟩])
   (.drop [11, 12] (.seq (.seq (.reg [⟨none, .ld 13 1 false (.t 5)⟩,
        ⟨none, .len 14 (.t 13)⟩,
        ⟨none, .mov 15 (.c (.int .i64 0))⟩])
     (.drop [13] (.block 0 (.loop c_impl_widthOf_l1))))
    (.drop [13, 14, 15, 16, 17, 6, 18, 19, 20, 21] (.seq (.reg [⟨none, .alc 7 (.nilsl 1)⟩])
     (.seq (.reg [⟨none, .alf 8⟩])
      (.seq (.reg [⟨none, .mkf 22 f_impl_widthOf_1 [(.t 2), (.t 7), (.t 3), (.t 5), (.t 8)]⟩,
          ⟨none, .tie (.t 8) (.t 22)⟩])
       (.drop [22] (.seq (.reg [⟨none, .ld 23 1 false (.t 2)⟩,
           ⟨none, .asg 9 (.t 23)⟩])
        (.drop [23] (.seq (.seq (.reg [⟨none, .asg 10 (.c (.int .i64 0))⟩])
          (.block 2 (.loop c_impl_widthOf_l2)))
         (.drop [10, 24, 25, 26, 29, 30, 31, 32, 33, 34, 35, 27, 28] (.seq (.reg [⟨none, .mov 36 (.t 9)⟩,
             ⟨none, .asg 4 (.t 36)⟩])
          (.drop [36] .ret)))))))))))))))
abbrev r_impl_widthOf : List RS := [.t 4]
theorem k_impl_widthOf : fitsF Try.prog f_impl_widthOf 37 c_impl_widthOf r_impl_widthOf = true := by kernel_rfl

/- (loop.example/g01078/impl.order).fewest$1: [x=0, y=1, x=4, y=5] -/
def c_impl_order_fewest_1 : ACode :=
  (.seq (.reg [⟨none, .asg 6 (.c (.bool false))⟩])
  (.seq (.seq (.reg [⟨none, .ld 7 1 false (.t 2)⟩,
       ⟨none, .mov 8 (.t 0)⟩,
       ⟨none, .iad 9 1 (.t 7) (.t 8)⟩,
       ⟨none, .ld 10 1 false (.t 9)⟩,
       ⟨none, .bin 11 .neq (.t 10) (.c (.int .i64 (-2)))⟩])
    (.drop [7, 8, 9, 10] (.cond (.t 11) (.seq (.reg [⟨none, .ld 12 1 false (.t 2)⟩,
         ⟨none, .mov 13 (.t 0)⟩,
         ⟨none, .iad 14 1 (.t 12) (.t 13)⟩,
         ⟨none, .ld 15 1 false (.t 14)⟩,
         ⟨none, .mov 16 (.t 1)⟩,
         ⟨none, .bin 17 .eql (.t 15) (.t 16)⟩,
         ⟨none, .asg 6 (.t 17)⟩])
      (.drop [12, 13, 14, 15, 16, 17] .ret))
     .skip)))
   (.drop [7, 8, 9, 10, 11, 12, 13, 14, 15, 16, 17] (.seq (.reg [⟨none, .ld 18 1 false (.t 3)⟩,
       ⟨none, .mov 19 (.t 0)⟩,
       ⟨none, .mov 20 (.t 1)⟩,
       ⟨none, .call 21 f_impl_order_less [((.t 18), false), ((.t 19), false), ((.t 20), false)]⟩,
       ⟨none, .asg 6 (.t 21)⟩])
    (.drop [18, 19, 20, 21] .ret)))))
abbrev r_impl_order_fewest_1 : List RS := [.t 6]
theorem k_impl_order_fewest_1 : fitsF Try.prog f_impl_order_fewest_1 22 c_impl_order_fewest_1 r_impl_order_fewest_1 = true := by kernel_rfl

/- loop.example/g01078/laws.szPoset: [a=0, left=1, a=2, left=3] -/
def c_laws_szPoset : ACode :=
  (.seq (.reg [⟨none, .box 2 (.t 0)⟩,
     ⟨none, .asg 4 (.c (.int .i64 0))⟩])
  (.seq (.reg [⟨none, .fadr 5 0 (.t 2)⟩,
      ⟨none, .ld 6 1 false (.t 5)⟩,
      ⟨none, .mov 7 (.t 1)⟩,
      ⟨none, .call 8 f_laws_szIntSS [((.t 6), false), ((.t 7), false)]⟩,
      ⟨none, .asg 1 (.t 8)⟩])
   (.drop [5, 6, 7, 8] (.seq (.seq (.reg [⟨none, .mov 9 (.t 1)⟩,
        ⟨none, .bin 10 .lss (.t 9) (.c (.int .i64 0))⟩])
     (.drop [9] (.cond (.t 10) (.seq (.reg [⟨none, .asg 4 (.c (.int .i64 (-1)))⟩])
       .ret)
      .skip)))
    (.drop [9, 10] (.seq (.reg [⟨none, .mov 11 (.t 1)⟩,
        ⟨none, .asg 4 (.t 11)⟩])
     (.drop [11] .ret)))))))
abbrev r_laws_szPoset : List RS := [.t 4]
theorem k_laws_szPoset : fitsF Try.prog f_laws_szPoset 12 c_laws_szPoset r_laws_szPoset = true := by kernel_rfl

/- loop.example/g01078/laws.toPoset: [a=0, a=1, out=3] -/
def c_laws_toPoset : ACode :=
  (.seq (.reg [⟨none, .box 1 (.t 0)⟩,
     ⟨none, .alc 2 (.agg [.nilsl 1])⟩])
  (.seq (.reg [⟨none, .alc 3 (.agg [.nilsl 1])⟩])
   (.seq (.reg [⟨none, .fadr 4 0 (.t 1)⟩,
       ⟨none, .ld 5 1 false (.t 4)⟩,
       ⟨none, .call 6 f_laws_toIntSS [((.t 5), false)]⟩,
       ⟨none, .fadr 7 0 (.t 3)⟩,
       ⟨none, .st 1 (.t 7) (.t 6)⟩])
    (.drop [4, 5, 6, 7] (.seq (.reg [⟨none, .ld 8 1 true (.t 3)⟩,
        ⟨none, .st 1 (.t 2) (.t 8)⟩])
     (.drop [8] .ret))))))
abbrev r_laws_toPoset : List RS := [.c 2 1 true]
theorem k_laws_toPoset : fitsF Try.prog f_laws_toPoset 9 c_laws_toPoset r_laws_toPoset = true := by kernel_rfl

/- loop.example/g01078/laws.eqPoset: [a=0, b=1, a=2, b=3] -/
def c_laws_eqPoset : ACode :=
  (.seq (.reg [⟨none, .box 2 (.t 0)⟩,
     ⟨none, .box 3 (.t 1)⟩,
     ⟨none, .asg 4 (.c (.bool false))⟩])
  (.seq (.seq (.reg [⟨none, .fadr 5 0 (.t 2)⟩,
       ⟨none, .ld 6 1 false (.t 5)⟩,
       ⟨none, .fadr 7 0 (.t 3)⟩,
       ⟨none, .ld 8 1 false (.t 7)⟩,
       ⟨none, .call 9 f_laws_eqIntSS [((.t 6), false), ((.t 8), false)]⟩,
       ⟨none, .un 10 .not (.t 9)⟩])
    (.drop [5, 6, 7, 8, 9] (.cond (.t 10) (.seq (.reg [⟨none, .asg 4 (.c (.bool false))⟩])
      .ret)
     .skip)))
   (.drop [5, 6, 7, 8, 9, 10] (.seq (.reg [⟨none, .asg 4 (.c (.bool true))⟩])
    .ret))))
abbrev r_laws_eqPoset : List RS := [.t 4]
theorem k_laws_eqPoset : fitsF Try.prog f_laws_eqPoset 11 c_laws_eqPoset r_laws_eqPoset = true := by kernel_rfl

/- loop.example/g01078/laws.markPoset: [a=0, k=1, a=2, k=3] -/
def c_laws_markPoset : ACode :=
  (.seq (.reg [⟨none, .box 2 (.t 0)⟩,
     ⟨none, .asg 4 (.c (.int .i64 0))⟩])
  (.seq (.reg [⟨none, .fadr 5 0 (.t 2)⟩,
      ⟨none, .ld 6 1 false (.t 5)⟩,
      ⟨none, .mov 7 (.t 1)⟩,
      ⟨none, .call 8 f_laws_markIntSS [((.t 6), true), ((.t 7), false)]⟩,
      ⟨none, .asg 1 (.t 8)⟩])
   (.drop [5, 6, 7, 8] (.seq (.reg [⟨none, .mov 9 (.t 1)⟩,
       ⟨none, .asg 4 (.t 9)⟩])
    (.drop [9] .ret)))))
abbrev r_laws_markPoset : List RS := [.t 4]
theorem k_laws_markPoset : fitsF Try.prog f_laws_markPoset 10 c_laws_markPoset r_laws_markPoset = true := by kernel_rfl

/- loop.example/g01078/spec.l23Good: [p=0, p=1, n=3, x=4, x=5, i=6, y=7] -/
def c_spec_l23Good_l1 : ACode :=
  (.seq (.seq (.reg [⟨none, .mov 13 (.t 4)⟩,
      ⟨none, .mov 14 (.t 3)⟩,
      ⟨none, .bin 15 .lss (.t 13) (.t 14)⟩])
   (.drop [13, 14] (.cond (.t 15) .skip
    (.exit 0))))
  (.drop [13, 14, 15] (.seq (.block 1 (.seq (.reg [⟨none, .fadr 18 0 (.t 1)⟩,
        ⟨none, .ld 19 1 false (.t 18)⟩,
        ⟨none, .mov 20 (.t 4)⟩,
        ⟨none, .iad 21 1 (.t 19) (.t 20)⟩,
        ⟨none, .ld 22 1 false (.t 21)⟩,
        ⟨none, .mov 23 (.t 3)⟩,
        ⟨none, .bin 24 .sub (.t 23) (.c (.int .i64 1))⟩,
        ⟨none, .call 25 f_spec_l1Rising [((.t 22), false), ((.c (.int .i64 0)), false), ((.t 24), false)]⟩,
        ⟨none, .un 26 .not (.t 25)⟩,
        ⟨none, .asg 27 (.t 26)⟩,
        ⟨some (27, false), .fadr 28 0 (.t 1)⟩,
        ⟨some (27, false), .ld 29 1 false (.t 28)⟩,
        ⟨some (27, false), .mov 30 (.t 4)⟩,
        ⟨some (27, false), .iad 31 1 (.t 29) (.t 30)⟩,
        ⟨some (27, false), .ld 32 1 false (.t 31)⟩,
        ⟨some (27, false), .mov 33 (.t 4)⟩,
        ⟨some (27, false), .call 34 f_spec_l1Has [((.t 32), false), ((.t 33), false)]⟩,
        ⟨some (27, false), .un 35 .not (.t 34)⟩,
        ⟨none, .pick 36 (.t 27) (.c (.bool true)) (.t 35)⟩])
     (.drop [18, 19, 20, 21, 22, 23, 24, 25, 26, 27, 28, 29, 30, 31, 32, 33, 34, 35] (.cond (.t 36) (.seq (.reg [⟨none, .asg 2 (.c (.bool false))⟩])
       .ret)
      .skip))))
   (.drop [18, 19, 20, 21, 22, 23, 24, 25, 26, 27, 28, 29, 30, 31, 32, 33, 34, 35, 36] (.reg [⟨none, .mov 16 (.t 4)⟩,
      ⟨none, .bin 17 .add (.t 16) (.c (.int .i64 1))⟩,
      ⟨none, .asg 4 (.t 17)⟩])))))
def c_spec_l23Good_l2 : ACode :=
  (.seq (.seq (.reg [⟨none, .mov 42 (.t 6)⟩,
      ⟨none, .fadr 43 0 (.t 1)⟩,
      ⟨none, .ld 44 1 false (.t 43)⟩,
      ⟨none, .mov 45 (.t 5)⟩,
      ⟨none, .iad 46 1 (.t 44) (.t 45)⟩,
      ⟨none, .ld 47 1 false (.t 46)⟩,
      ⟨none, .len 48 (.t 47)⟩,
      ⟨none, .bin 49 .lss (.t 42) (.t 48)⟩])
   (.drop [42, 43, 44, 45, 46, 47, 48] (.cond (.t 49) .skip
    (.exit 4))))
  (.drop [42, 43, 44, 45, 46, 47, 48, 49] (.seq (.block 5 (.seq (.reg [⟨none, .fadr 52 0 (.t 1)⟩,
        ⟨none, .ld 53 1 false (.t 52)⟩,
        ⟨none, .mov 54 (.t 5)⟩,
        ⟨none, .iad 55 1 (.t 53) (.t 54)⟩,
        ⟨none, .ld 56 1 false (.t 55)⟩,
        ⟨none, .mov 57 (.t 6)⟩,
        ⟨none, .iad 58 1 (.t 56) (.t 57)⟩,
        ⟨none, .ld 59 1 false (.t 58)⟩,
        ⟨none, .asg 7 (.t 59)⟩])
     (.drop [52, 53, 54, 55, 56, 57, 58, 59] (.seq (.dreg [(⟨none, .mov 60 (.t 7)⟩, []),
         (⟨none, .mov 61 (.t 5)⟩, [60]),
         (⟨none, .bin 62 .neq (.t 60) (.t 61)⟩, []),
         (⟨none, .asg 63 (.t 62)⟩, []),
         (⟨some (63, true), .fadr 64 0 (.t 1)⟩, [62]),
         (⟨some (63, true), .ld 65 1 false (.t 64)⟩, [62]),
         (⟨some (63, true), .mov 66 (.t 7)⟩, [64, 65, 62]),
         (⟨some (63, true), .iad 67 1 (.t 65) (.t 66)⟩, [62]),
         (⟨some (63, true), .ld 68 1 false (.t 67)⟩, [62]),
         (⟨some (63, true), .mov 69 (.t 5)⟩, [64, 65, 66, 67, 68, 62]),
         (⟨some (63, true), .call 70 f_spec_l1Has [((.t 68), false), ((.t 69), false)]⟩, [62]),
         (⟨none, .pick 71 (.t 63) (.t 70) (.c (.bool false))⟩, [62]),
         (⟨none, .asg 72 (.t 71)⟩, [62]),
         (⟨some (72, false), .fadr 73 0 (.t 1)⟩, [62, 71]),
         (⟨some (72, false), .ld 74 1 false (.t 73)⟩, [62, 71]),
         (⟨some (72, false), .mov 75 (.t 7)⟩, [73, 74, 62, 71]),
         (⟨some (72, false), .iad 76 1 (.t 74) (.t 75)⟩, [62, 71]),
         (⟨some (72, false), .ld 77 1 false (.t 76)⟩, [62, 71]),
         (⟨some (72, false), .fadr 78 0 (.t 1)⟩, [73, 74, 75, 76, 77, 62, 71]),
         (⟨some (72, false), .ld 79 1 false (.t 78)⟩, [73, 74, 75, 76, 77, 62, 71]),
         (⟨some (72, false), .mov 80 (.t 5)⟩, [73, 74, 75, 76, 77, 78, 79, 62, 71]),
         (⟨some (72, false), .iad 81 1 (.t 79) (.t 80)⟩, [73, 74, 75, 76, 77, 62, 71]),
         (⟨some (72, false), .ld 82 1 false (.t 81)⟩, [73, 74, 75, 76, 77, 62, 71])]
        [⟨some (72, false), .call 83 f_spec_l5Within [((.t 77), false), ((.t 82), false)]⟩,
         ⟨some (72, false), .un 84 .not (.t 83)⟩,
         ⟨none, .pick 85 (.t 72) (.c (.bool true)) (.t 84)⟩])
      (.drop [60, 61, 62, 63, 64, 65, 66, 67, 68, 69, 70, 71, 72, 73, 74, 75, 76, 77, 78, 79, 80, 81, 82, 83, 84] (.cond (.t 85) (.seq (.reg [⟨none, .asg 2 (.c (.bool false))⟩])
        .ret)
       .skip))))))
   (.drop [52, 53, 54, 55, 56, 57, 58, 59, 7, 60, 61, 62, 63, 64, 65, 66, 67, 68, 69, 70, 71, 72, 73, 74, 75, 76, 77, 78, 79, 80, 81, 82, 83, 84, 85] (.reg [⟨none, .mov 50 (.t 6)⟩,
      ⟨none, .bin 51 .add (.t 50) (.c (.int .i64 1))⟩,
      ⟨none, .asg 6 (.t 51)⟩])))))
def c_spec_l23Good_l3 : ACode :=
  (.seq (.seq (.reg [⟨none, .mov 37 (.t 5)⟩,
      ⟨none, .mov 38 (.t 3)⟩,
      ⟨none, .bin 39 .lss (.t 37) (.t 38)⟩])
   (.drop [37, 38] (.cond (.t 39) .skip
    (.exit 2))))
  (.drop [37, 38, 39] (.seq (.block 3 (.seq (.reg [⟨none, .asg 6 (.c (.int .i64 0))⟩])
     (.block 4 (.loop c_spec_l23Good_l2))))
   (.drop [6, 42, 43, 44, 45, 46, 47, 48, 49, 52, 53, 54, 55, 56, 57, 58, 59, 7, 60, 61, 62, 63, 64, 65, 66, 67, 68, 69, 70, 71, 72, 73, 74, 75, 76, 77, 78, 79, 80, 81, 82, 83, 84, 85, 50, 51] (.reg [⟨none, .mov 40 (.t 5)⟩,
      ⟨none, .bin 41 .add (.t 40) (.c (.int .i64 1))⟩,
      ⟨none, .asg 5 (.t 41)⟩])))))
def c_spec_l23Good : ACode :=
  (.seq (.reg [⟨none, .box 1 (.t 0)⟩,
     ⟨none, .asg 2 (.c (.bool false))⟩])
  (.seq (.reg [⟨none, .fadr 8 0 (.t 1)⟩,
      ⟨none, .ld 9 1 false (.t 8)⟩,
      ⟨none, .len 10 (.t 9)⟩,
      ⟨none, .asg 3 (.t 10)⟩])
   (.drop [8, 9, 10] (.seq (.seq (.reg [⟨none, .mov 11 (.t 3)⟩,
        ⟨none, .bin 12 .gtr (.t 11) (.c (.int .i64 10))⟩])
     (.drop [11] (.cond (.t 12) (.seq (.reg [⟨none, .asg 2 (.c (.bool false))⟩])
       .ret)
      .skip)))
    (.drop [11, 12] (.seq (.seq (.reg [⟨none, .asg 4 (.c (.int .i64 0))⟩])
      (.block 0 (.loop c_spec_l23Good_l1)))
     (.drop [4, 13, 14, 15, 18, 19, 20, 21, 22, 23, 24, 25, 26, 27, 28, 29, 30, 31, 32, 33, 34, 35, 36, 16, 17] (.seq (.seq (.reg [⟨none, .asg 5 (.c (.int .i64 0))⟩])
       (.block 2 (.loop c_spec_l23Good_l3)))
      (.drop [5, 37, 38, 39, 6, 42, 43, 44, 45, 46, 47, 48, 49, 52, 53, 54, 55, 56, 57, 58, 59, 7, 60, 61, 62, 63, 64, 65, 66, 67, 68, 69, 70, 71, 72, 73, 74, 75, 76, 77, 78, 79, 80, 81, 82, 83, 84, 85, 50, 51, 40, 41] (.seq (.reg [⟨none, .asg 2 (.c (.bool true))⟩])
       .ret))))))))))
abbrev r_spec_l23Good : List RS := [.t 2]
theorem k_spec_l23Good : fitsF Try.prog f_spec_l23Good 86 c_spec_l23Good r_spec_l23Good = true := by kernel_rfl

/- loop.example/g01078/spec.l23Less: [p=0, x=1, y=2, p=3, x=4, y=5] -/
def c_spec_l23Less : ACode :=
  (.seq (.reg [⟨none, .box 3 (.t 0)⟩,
     ⟨none, .asg 6 (.c (.bool false))⟩])
  (.seq (.reg [⟨none, .mov 7 (.t 1)⟩,
      ⟨none, .mov 8 (.t 2)⟩,
      ⟨none, .bin 9 .neq (.t 7) (.t 8)⟩,
      ⟨none, .asg 10 (.t 9)⟩,
      ⟨some (10, true), .ld 11 1 true (.t 3)⟩,
      ⟨some (10, true), .mov 12 (.t 1)⟩,
      ⟨some (10, true), .mov 13 (.t 2)⟩,
      ⟨some (10, true), .call 14 f_spec_l23Leq [((.t 11), false), ((.t 12), false), ((.t 13), false)]⟩,
      ⟨none, .pick 15 (.t 10) (.t 14) (.c (.bool false))⟩,
      ⟨none, .asg 6 (.t 15)⟩])
   (.drop [7, 8, 9, 10, 11, 12, 13, 14, 15] .ret)))
abbrev r_spec_l23Less : List RS := [.t 6]
theorem k_spec_l23Less : fitsF Try.prog f_spec_l23Less 16 c_spec_l23Less r_spec_l23Less = true := by kernel_rfl

/- (loop.example/g01078/impl.order).fewest: [o=0, next=1, o=2, next=3] -/
def c_impl_order_fewest : ACode :=
  (.seq (.reg [⟨none, .box 2 (.t 0)⟩,
     ⟨none, .box 3 (.t 1)⟩,
     ⟨none, .asg 4 (.c (.int .i64 0))⟩])
  (.seq (.reg [⟨none, .ld 5 1 false (.t 2)⟩,
      ⟨none, .len 6 (.t 5)⟩,
      ⟨none, .mkf 7 f_impl_order_fewest_1 [(.t 3), (.t 2)]⟩,
      ⟨none, .call 8 f_impl_widthOf [((.t 6), false), ((.t 7), false)]⟩,
      ⟨none, .asg 4 (.t 8)⟩])
   (.drop [5, 6, 7, 8] .ret)))
abbrev r_impl_order_fewest : List RS := [.t 4]
theorem k_impl_order_fewest : fitsF Try.prog f_impl_order_fewest 9 c_impl_order_fewest r_impl_order_fewest = true := by kernel_rfl

/- loop.example/g01078/impl.FewestChains: [p=0, p=1, o=4, ok=5, next=6, x=7, few=8, led=9, x=10, found=11, y=12, chains=13, x=14, chain=15, y=16] -/
def c_impl_FewestChains_l1 : ACode :=
  (.seq (.reg [⟨none, .bin 31 .lss (.t 30) (.t 29)⟩])
  (.seq (.cond (.t 31) .skip
    (.exit 0))
   (.seq (.block 1 (.seq (.reg [⟨none, .mov 32 (.t 30)⟩,
         ⟨none, .asg 7 (.t 32)⟩])
      (.drop [32] (.reg [⟨none, .mov 33 (.t 6)⟩,
         ⟨none, .mov 34 (.t 7)⟩,
         ⟨none, .iad 35 1 (.t 33) (.t 34)⟩,
         ⟨none, .st 1 (.t 35) (.c (.int .i64 (-2)))⟩]))))
    (.drop [32, 7, 33, 34, 35] (.reg [⟨none, .bin 36 .add (.t 30) (.c (.int .i64 1))⟩,
       ⟨none, .asg 30 (.t 36)⟩])))))
def c_impl_FewestChains_k1 : ACode :=
  (.seq (.reg [⟨none, .mov 48 (.t 12)⟩,
      ⟨none, .mov 49 (.t 4)⟩,
      ⟨none, .len 50 (.t 49)⟩,
      ⟨none, .bin 51 .lss (.t 48) (.t 50)⟩,
      ⟨none, .asg 52 (.t 51)⟩,
      ⟨some (52, true), .mov 53 (.t 11)⟩,
      ⟨some (52, true), .bin 54 .lss (.t 53) (.c (.int .i64 0))⟩,
      ⟨none, .pick 55 (.t 52) (.t 54) (.c (.bool false))⟩])
   (.drop [48, 49, 50, 51, 52, 53, 54] (.cond (.t 55) .skip
    (.exit 4))))
def c_impl_FewestChains_k2 : ACode :=
  (.seq (.reg [⟨none, .mov 58 (.t 4)⟩,
         ⟨none, .mov 59 (.t 10)⟩,
         ⟨none, .mov 60 (.t 12)⟩,
         ⟨none, .call 61 f_impl_order_less [((.t 58), false), ((.t 59), false), ((.t 60), false)]⟩,
         ⟨none, .un 62 .not (.t 61)⟩,
         ⟨none, .asg 63 (.t 62)⟩,
         ⟨some (63, false), .mov 64 (.t 9)⟩,
         ⟨some (63, false), .mov 65 (.t 12)⟩,
         ⟨some (63, false), .iad 66 1 (.t 64) (.t 65)⟩,
         ⟨some (63, false), .ld 67 1 false (.t 66)⟩,
         ⟨none, .pick 68 (.t 63) (.c (.bool true)) (.t 67)⟩])
      (.drop [58, 59, 60, 61, 62, 63, 64, 65, 66, 67] (.cond (.t 68) (.exit 5)
       .skip)))
def c_impl_FewestChains_l2 : ACode :=
  (.seq (.cut c_impl_FewestChains_k1)
  (.drop [48, 49, 50, 51, 52, 53, 54, 55] (.seq (.block 5 (.seq (.cut c_impl_FewestChains_k2)
     (.drop [58, 59, 60, 61, 62, 63, 64, 65, 66, 67, 68] (.seq (.reg [⟨none, .mov 69 (.t 6)⟩,
         ⟨none, .mov 70 (.t 10)⟩,
         ⟨none, .mov 71 (.t 12)⟩,
         ⟨none, .iad 72 1 (.t 69) (.t 70)⟩,
         ⟨none, .st 1 (.t 72) (.t 71)⟩])
      (.drop [69, 70, 71, 72] (.seq (.reg [⟨none, .mov 73 (.t 4)⟩,
          ⟨none, .mov 74 (.t 6)⟩,
          ⟨none, .call 75 f_impl_order_fewest [((.t 73), false), ((.t 74), false)]⟩,
          ⟨none, .mov 76 (.t 8)⟩,
          ⟨none, .bin 77 .eql (.t 75) (.t 76)⟩])
       (.drop [73, 74, 75, 76] (.cond (.t 77) (.seq (.reg [⟨none, .mov 78 (.t 12)⟩,
            ⟨none, .asg 11 (.t 78)⟩])
         (.drop [78] (.reg [⟨none, .mov 79 (.t 9)⟩,
            ⟨none, .mov 80 (.t 12)⟩,
            ⟨none, .iad 81 1 (.t 79) (.t 80)⟩,
            ⟨none, .st 1 (.t 81) (.c (.bool true))⟩])))
        .skip))))))))
   (.drop [58, 59, 60, 61, 62, 63, 64, 65, 66, 67, 68, 69, 70, 71, 72, 73, 74, 75, 76, 77, 78, 79, 80, 81] (.reg [⟨none, .mov 56 (.t 12)⟩,
      ⟨none, .bin 57 .add (.t 56) (.c (.int .i64 1))⟩,
      ⟨none, .asg 12 (.t 57)⟩])))))
def c_impl_FewestChains_l3 : ACode :=
  (.seq (.reg [⟨none, .bin 46 .lss (.t 45) (.t 44)⟩])
  (.seq (.cond (.t 46) .skip
    (.exit 2))
   (.seq (.block 3 (.seq (.reg [⟨none, .mov 47 (.t 45)⟩,
         ⟨none, .asg 10 (.t 47)⟩])
      (.drop [47] (.seq (.reg [⟨none, .asg 11 (.c (.int .i64 (-1)))⟩])
       (.seq (.seq (.reg [⟨none, .asg 12 (.c (.int .i64 0))⟩])
         (.block 4 (.loop c_impl_FewestChains_l2)))
        (.drop [12, 48, 49, 50, 51, 52, 53, 54, 55, 58, 59, 60, 61, 62, 63, 64, 65, 66, 67, 68, 69, 70, 71, 72, 73, 74, 75, 76, 77, 78, 79, 80, 81, 56, 57] (.reg [⟨none, .mov 82 (.t 6)⟩,
           ⟨none, .mov 83 (.t 10)⟩,
           ⟨none, .mov 84 (.t 11)⟩,
           ⟨none, .iad 85 1 (.t 82) (.t 83)⟩,
           ⟨none, .st 1 (.t 85) (.t 84)⟩])))))))
    (.drop [47, 10, 11, 12, 48, 49, 50, 51, 52, 53, 54, 55, 58, 59, 60, 61, 62, 63, 64, 65, 66, 67, 68, 69, 70, 71, 72, 73, 74, 75, 76, 77, 78, 79, 80, 81, 56, 57, 82, 83, 84, 85] (.reg [⟨none, .bin 86 .add (.t 45) (.c (.int .i64 1))⟩,
       ⟨none, .asg 45 (.t 86)⟩])))))
def c_impl_FewestChains_l4 : ACode :=
  (.seq (.seq (.reg [⟨none, .mov 99 (.t 16)⟩,
      ⟨none, .bin 100 .geq (.t 99) (.c (.int .i64 0))⟩])
   (.drop [99] (.cond (.t 100) .skip
    (.exit 8))))
  (.drop [99, 100] (.seq (.block 9 (.reg [⟨none, .mov 105 (.t 15)⟩,
       ⟨none, .mov 106 (.t 16)⟩,
       ⟨none, .bsl 107 1 [(.t 106)]⟩,
       ⟨none, .app 108 1 (.t 105) (.t 107)⟩,
       ⟨none, .asg 15 (.t 108)⟩]))
   (.drop [105, 106, 107, 108] (.reg [⟨none, .mov 101 (.t 6)⟩,
      ⟨none, .mov 102 (.t 16)⟩,
      ⟨none, .iad 103 1 (.t 101) (.t 102)⟩,
      ⟨none, .ld 104 1 false (.t 103)⟩,
      ⟨none, .asg 16 (.t 104)⟩])))))
def c_impl_FewestChains_l5 : ACode :=
  (.seq (.reg [⟨none, .bin 91 .lss (.t 90) (.t 89)⟩])
  (.seq (.cond (.t 91) .skip
    (.exit 6))
   (.seq (.block 7 (.seq (.reg [⟨none, .mov 92 (.t 90)⟩,
         ⟨none, .asg 14 (.t 92)⟩])
      (.drop [92] (.seq (.seq (.reg [⟨none, .mov 93 (.t 9)⟩,
           ⟨none, .mov 94 (.t 14)⟩,
           ⟨none, .iad 95 1 (.t 93) (.t 94)⟩,
           ⟨none, .ld 96 1 false (.t 95)⟩])
        (.drop [93, 94, 95] (.cond (.t 96) (.exit 7)
         .skip)))
       (.drop [93, 94, 95, 96] (.seq (.reg [⟨none, .bsl 97 1 []⟩,
           ⟨none, .asg 15 (.t 97)⟩])
        (.drop [97] (.seq (.seq (.reg [⟨none, .mov 98 (.t 14)⟩,
             ⟨none, .asg 16 (.t 98)⟩])
          (.drop [98] (.block 8 (.loop c_impl_FewestChains_l4))))
         (.drop [98, 16, 99, 100, 105, 106, 107, 108, 101, 102, 103, 104] (.reg [⟨none, .mov 109 (.t 13)⟩,
            ⟨none, .mov 110 (.t 15)⟩,
            ⟨none, .bsl 111 1 [(.t 110)]⟩,
            ⟨none, .app 112 1 (.t 109) (.t 111)⟩,
            ⟨none, .asg 13 (.t 112)⟩]))))))))))
    (.drop [92, 14, 93, 94, 95, 96, 97, 15, 98, 16, 99, 100, 105, 106, 107, 108, 101, 102, 103, 104, 109, 110, 111, 112] (.reg [⟨none, .bin 113 .add (.t 90) (.c (.int .i64 1))⟩,
       ⟨none, .asg 90 (.t 113)⟩])))))
def c_impl_FewestChains : ACode :=
  (.seq (.reg [⟨none, .box 1 (.t 0)⟩,
     ⟨none, .asg 2 (.c (.nilsl 1))⟩,
     ⟨none, .asg 3 (.c (.bool false))⟩])
  (.seq (.reg [⟨none, .ld 18 1 true (.t 1)⟩,
      ⟨none, .call 19 f_impl_orderOf [((.t 18), false)]⟩,
      ⟨none, .asg 17 (.t 19)⟩,
      ⟨none, .ext 20 (.t 17) 0⟩,
      ⟨none, .ext 21 (.t 17) 1⟩,
      ⟨none, .asg 4 (.t 20)⟩,
      ⟨none, .asg 5 (.t 21)⟩])
   (.drop [18, 19, 17, 20, 21] (.seq (.seq (.reg [⟨none, .mov 22 (.t 5)⟩,
        ⟨none, .un 23 .not (.t 22)⟩])
     (.drop [22] (.cond (.t 23) (.seq (.reg [⟨none, .bsl 24 1 []⟩,
          ⟨none, .asg 2 (.t 24)⟩,
          ⟨none, .asg 3 (.c (.bool false))⟩])
       (.drop [24] .ret))
      .skip)))
    (.drop [22, 23, 24] (.seq (.reg [⟨none, .mov 25 (.t 4)⟩,
        ⟨none, .len 26 (.t 25)⟩,
        ⟨none, .mk 27 1 (.int .i64 0) (.t 26)⟩,
        ⟨none, .asg 6 (.t 27)⟩])
     (.drop [25, 26, 27] (.seq (.seq (.reg [⟨none, .mov 28 (.t 6)⟩,
          ⟨none, .len 29 (.t 28)⟩,
          ⟨none, .mov 30 (.c (.int .i64 0))⟩])
       (.drop [28] (.block 0 (.loop c_impl_FewestChains_l1))))
      (.drop [28, 29, 30, 31, 32, 7, 33, 34, 35, 36] (.seq (.reg [⟨none, .mov 37 (.t 4)⟩,
          ⟨none, .mov 38 (.t 6)⟩,
          ⟨none, .call 39 f_impl_order_fewest [((.t 37), false), ((.t 38), false)]⟩,
          ⟨none, .asg 8 (.t 39)⟩])
       (.drop [37, 38, 39] (.seq (.reg [⟨none, .mov 40 (.t 4)⟩,
           ⟨none, .len 41 (.t 40)⟩,
           ⟨none, .mk 42 1 (.bool false) (.t 41)⟩,
           ⟨none, .asg 9 (.t 42)⟩])
        (.drop [40, 41, 42] (.seq (.seq (.reg [⟨none, .mov 43 (.t 4)⟩,
             ⟨none, .len 44 (.t 43)⟩,
             ⟨none, .mov 45 (.c (.int .i64 0))⟩])
          (.drop [43] (.block 2 (.loop c_impl_FewestChains_l3))))
         (.drop [43, 44, 45, 46, 47, 10, 11, 12, 48, 49, 50, 51, 52, 53, 54, 55, 58, 59, 60, 61, 62, 63, 64, 65, 66, 67, 68, 69, 70, 71, 72, 73, 74, 75, 76, 77, 78, 79, 80, 81, 56, 57, 82, 83, 84, 85, 86] (.seq (.reg [⟨none, .bsl 87 1 []⟩,
             ⟨none, .asg 13 (.t 87)⟩])
          (.drop [87] (.seq (.seq (.reg [⟨none, .mov 88 (.t 4)⟩,
               ⟨none, .len 89 (.t 88)⟩,
               ⟨none, .mov 90 (.c (.int .i64 0))⟩])
            (.drop [88] (.block 6 (.loop c_impl_FewestChains_l5))))
           (.drop [88, 89, 90, 91, 92, 14, 93, 94, 95, 96, 97, 15, 98, 16, 99, 100, 105, 106, 107, 108, 101, 102, 103, 104, 109, 110, 111, 112, 113] (.seq (.reg [⟨none, .mov 114 (.t 13)⟩,
               ⟨none, .asg 2 (.t 114)⟩,
               ⟨none, .asg 3 (.c (.bool true))⟩])
            (.drop [114] .ret)))))))))))))))))))))
abbrev r_impl_FewestChains : List RS := [.t 2, .t 3]
theorem k_impl_FewestChains : fitsF Try.prog f_impl_FewestChains 115 c_impl_FewestChains r_impl_FewestChains = true := by kernel_rfl

/- loop.example/g01078/spec.l23Match: [p=0, x=1, taken=2, seen=3, owner=4, p=5, x=6, taken=7, seen=8, owner=9, y=11] -/
def c_spec_l23Match_k1 : ACode :=
  (.seq (.reg [⟨none, .ld 19 1 true (.t 5)⟩,
         ⟨none, .mov 20 (.t 1)⟩,
         ⟨none, .mov 21 (.t 11)⟩,
         ⟨none, .call 22 f_spec_l23Less [((.t 19), false), ((.t 20), false), ((.t 21), false)]⟩,
         ⟨none, .un 23 .not (.t 22)⟩,
         ⟨none, .asg 24 (.t 23)⟩,
         ⟨some (24, false), .mov 25 (.t 2)⟩,
         ⟨some (24, false), .mov 26 (.t 11)⟩,
         ⟨some (24, false), .iad 27 1 (.t 25) (.t 26)⟩,
         ⟨some (24, false), .ld 28 1 false (.t 27)⟩,
         ⟨none, .pick 29 (.t 24) (.c (.bool true)) (.t 28)⟩,
         ⟨none, .asg 30 (.t 29)⟩,
         ⟨some (30, false), .mov 31 (.t 3)⟩,
         ⟨some (30, false), .mov 32 (.t 11)⟩,
         ⟨some (30, false), .iad 33 1 (.t 31) (.t 32)⟩,
         ⟨some (30, false), .ld 34 1 false (.t 33)⟩,
         ⟨none, .pick 35 (.t 30) (.c (.bool true)) (.t 34)⟩])
      (.drop [19, 20, 21, 22, 23, 24, 25, 26, 27, 28, 29, 30, 31, 32, 33, 34] (.cond (.t 35) (.exit 1)
       .skip)))
def c_spec_l23Match_l1 : ACode :=
  (.seq (.seq (.reg [⟨none, .mov 12 (.t 11)⟩,
      ⟨none, .fadr 13 0 (.t 5)⟩,
      ⟨none, .ld 14 1 false (.t 13)⟩,
      ⟨none, .len 15 (.t 14)⟩,
      ⟨none, .bin 16 .lss (.t 12) (.t 15)⟩])
   (.drop [12, 13, 14, 15] (.cond (.t 16) .skip
    (.exit 0))))
  (.drop [12, 13, 14, 15, 16] (.seq (.block 1 (.seq (.cut c_spec_l23Match_k1)
     (.drop [19, 20, 21, 22, 23, 24, 25, 26, 27, 28, 29, 30, 31, 32, 33, 34, 35] (.seq (.reg [⟨none, .mov 36 (.t 3)⟩,
         ⟨none, .mov 37 (.t 11)⟩,
         ⟨none, .iad 38 1 (.t 36) (.t 37)⟩,
         ⟨none, .st 1 (.t 38) (.c (.bool true))⟩])
      (.drop [36, 37, 38] (.seq (.dreg [(⟨none, .mov 39 (.t 4)⟩, []),
          (⟨none, .mov 40 (.t 11)⟩, [39]),
          (⟨none, .iad 41 1 (.t 39) (.t 40)⟩, []),
          (⟨none, .ld 42 1 false (.t 41)⟩, []),
          (⟨none, .bin 43 .lss (.t 42) (.c (.int .i64 0))⟩, []),
          (⟨none, .asg 44 (.t 43)⟩, []),
          (⟨some (44, false), .ld 45 1 true (.t 5)⟩, [43]),
          (⟨some (44, false), .mov 46 (.t 4)⟩, [45, 43]),
          (⟨some (44, false), .mov 47 (.t 11)⟩, [45, 46, 43]),
          (⟨some (44, false), .iad 48 1 (.t 46) (.t 47)⟩, [45, 43]),
          (⟨some (44, false), .ld 49 1 false (.t 48)⟩, [45, 43]),
          (⟨some (44, false), .mov 50 (.t 2)⟩, [45, 46, 47, 48, 49, 43]),
          (⟨some (44, false), .mov 51 (.t 3)⟩, [45, 46, 47, 48, 49, 50, 43]),
          (⟨some (44, false), .mov 52 (.t 4)⟩, [45, 46, 47, 48, 49, 50, 51, 43])]
         [⟨some (44, false), .call 53 f_spec_l23Match [((.t 45), false), ((.t 49), false), ((.t 50), false), ((.t 51), true), ((.t 52), true)]⟩,
          ⟨none, .pick 54 (.t 44) (.c (.bool true)) (.t 53)⟩])
       (.drop [39, 40, 41, 42, 43, 44, 45, 46, 47, 48, 49, 50, 51, 52, 53] (.cond (.t 54) (.seq (.reg [⟨none, .mov 55 (.t 4)⟩,
            ⟨none, .mov 56 (.t 11)⟩,
            ⟨none, .mov 57 (.t 1)⟩,
            ⟨none, .iad 58 1 (.t 55) (.t 56)⟩,
            ⟨none, .st 1 (.t 58) (.t 57)⟩])
         (.drop [55, 56, 57, 58] (.seq (.reg [⟨none, .asg 10 (.c (.bool true))⟩])
          .ret)))
        .skip))))))))
   (.drop [19, 20, 21, 22, 23, 24, 25, 26, 27, 28, 29, 30, 31, 32, 33, 34, 35, 36, 37, 38, 39, 40, 41, 42, 43, 44, 45, 46, 47, 48, 49, 50, 51, 52, 53, 54, 55, 56, 57, 58] (.reg [⟨none, .mov 17 (.t 11)⟩,
      ⟨none, .bin 18 .add (.t 17) (.c (.int .i64 1))⟩,
      ⟨none, .asg 11 (.t 18)⟩])))))
def c_spec_l23Match : ACode :=
  (.seq (.reg [⟨none, .box 5 (.t 0)⟩,
     ⟨none, .asg 10 (.c (.bool false))⟩])
  (.seq (.seq (.reg [⟨none, .asg 11 (.c (.int .i64 0))⟩])
    (.block 0 (.loop c_spec_l23Match_l1)))
   (.drop [11, 12, 13, 14, 15, 16, 19, 20, 21, 22, 23, 24, 25, 26, 27, 28, 29, 30, 31, 32, 33, 34, 35, 36, 37, 38, 39, 40, 41, 42, 43, 44, 45, 46, 47, 48, 49, 50, 51, 52, 53, 54, 55, 56, 57, 58, 17, 18] (.seq (.reg [⟨none, .asg 10 (.c (.bool false))⟩])
    .ret))))
abbrev r_spec_l23Match : List RS := [.t 10]
theorem k_spec_l23Match : fitsF Try.prog f_spec_l23Match 59 c_spec_l23Match r_spec_l23Match = true := by kernel_rfl

/- loop.example/g01078/spec.l23Followers: [p=0, from=1, taken=2, p=3, from=4, taken=5, owner=7, y=8, n=9, x=10] -/
def c_spec_l23Followers_l1 : ACode :=
  (.seq (.seq (.reg [⟨none, .mov 12 (.t 8)⟩,
      ⟨none, .fadr 13 0 (.t 3)⟩,
      ⟨none, .ld 14 1 false (.t 13)⟩,
      ⟨none, .len 15 (.t 14)⟩,
      ⟨none, .bin 16 .lss (.t 12) (.t 15)⟩])
   (.drop [12, 13, 14, 15] (.cond (.t 16) .skip
    (.exit 0))))
  (.drop [12, 13, 14, 15, 16] (.seq (.block 1 (.reg [⟨none, .mov 19 (.t 7)⟩,
       ⟨none, .bsl 20 1 [(.c (.int .i64 (-1)))]⟩,
       ⟨none, .app 21 1 (.t 19) (.t 20)⟩,
       ⟨none, .asg 7 (.t 21)⟩]))
   (.drop [19, 20, 21] (.reg [⟨none, .mov 17 (.t 8)⟩,
      ⟨none, .bin 18 .add (.t 17) (.c (.int .i64 1))⟩,
      ⟨none, .asg 8 (.t 18)⟩])))))
def c_spec_l23Followers_l2 : ACode :=
  (.seq (.seq (.reg [⟨none, .mov 23 (.t 10)⟩,
      ⟨none, .fadr 24 0 (.t 3)⟩,
      ⟨none, .ld 25 1 false (.t 24)⟩,
      ⟨none, .len 26 (.t 25)⟩,
      ⟨none, .bin 27 .lss (.t 23) (.t 26)⟩])
   (.drop [23, 24, 25, 26] (.cond (.t 27) .skip
    (.exit 2))))
  (.drop [23, 24, 25, 26, 27] (.seq (.block 3 (.seq (.dreg [(⟨none, .ld 30 1 true (.t 3)⟩, []),
        (⟨none, .mov 31 (.t 10)⟩, [30]),
        (⟨none, .mov 32 (.t 2)⟩, [30, 31]),
        (⟨none, .fadr 33 0 (.t 3)⟩, [30, 31, 32]),
        (⟨none, .ld 34 1 false (.t 33)⟩, [30, 31, 32]),
        (⟨none, .len 35 (.t 34)⟩, [30, 31, 32]),
        (⟨none, .mk 36 1 (.bool false) (.t 35)⟩, [30, 31, 32]),
        (⟨none, .mov 37 (.t 7)⟩, [30, 31, 32, 33, 34, 35, 36])]
       [⟨none, .call 38 f_spec_l23Match [((.t 30), false), ((.t 31), false), ((.t 32), false), ((.t 36), true), ((.t 37), true)]⟩])
     (.drop [30, 31, 32, 33, 34, 35, 36, 37] (.cond (.t 38) (.reg [⟨none, .mov 39 (.t 9)⟩,
         ⟨none, .bin 40 .add (.t 39) (.c (.int .i64 1))⟩,
         ⟨none, .asg 9 (.t 40)⟩])
      .skip))))
   (.drop [30, 31, 32, 33, 34, 35, 36, 37, 38, 39, 40] (.reg [⟨none, .mov 28 (.t 10)⟩,
      ⟨none, .bin 29 .add (.t 28) (.c (.int .i64 1))⟩,
      ⟨none, .asg 10 (.t 29)⟩])))))
def c_spec_l23Followers : ACode :=
  (.seq (.reg [⟨none, .box 3 (.t 0)⟩,
     ⟨none, .asg 6 (.c (.int .i64 0))⟩])
  (.seq (.reg [⟨none, .bsl 11 1 []⟩,
      ⟨none, .asg 7 (.t 11)⟩])
   (.drop [11] (.seq (.seq (.reg [⟨none, .asg 8 (.c (.int .i64 0))⟩])
     (.block 0 (.loop c_spec_l23Followers_l1)))
    (.drop [8, 12, 13, 14, 15, 16, 19, 20, 21, 17, 18] (.seq (.reg [⟨none, .asg 9 (.c (.int .i64 0))⟩])
     (.seq (.seq (.reg [⟨none, .mov 22 (.t 1)⟩,
          ⟨none, .asg 10 (.t 22)⟩])
       (.drop [22] (.block 2 (.loop c_spec_l23Followers_l2))))
      (.drop [22, 10, 23, 24, 25, 26, 27, 30, 31, 32, 33, 34, 35, 36, 37, 38, 39, 40, 28, 29] (.seq (.reg [⟨none, .mov 41 (.t 9)⟩,
          ⟨none, .asg 6 (.t 41)⟩])
       (.drop [41] .ret))))))))))
abbrev r_spec_l23Followers : List RS := [.t 6]
theorem k_spec_l23Followers : fitsF Try.prog f_spec_l23Followers 42 c_spec_l23Followers r_spec_l23Followers = true := by kernel_rfl

/- loop.example/g01078/spec.FewestChains: [p=0, p=1, out=4, n=5, taken=6, next=7, x=8, most=9, y=10, x=11, chain=12, y=13] -/
def c_spec_FewestChains_k1 : ACode :=
  (.seq (.reg [⟨none, .mov 38 (.t 10)⟩,
      ⟨none, .mov 39 (.t 5)⟩,
      ⟨none, .bin 40 .lss (.t 38) (.t 39)⟩,
      ⟨none, .asg 41 (.t 40)⟩,
      ⟨some (41, true), .mov 42 (.t 7)⟩,
      ⟨some (41, true), .mov 43 (.t 8)⟩,
      ⟨some (41, true), .iad 44 1 (.t 42) (.t 43)⟩,
      ⟨some (41, true), .ld 45 1 false (.t 44)⟩,
      ⟨some (41, true), .bin 46 .lss (.t 45) (.c (.int .i64 0))⟩,
      ⟨none, .pick 47 (.t 41) (.t 46) (.c (.bool false))⟩])
   (.drop [38, 39, 40, 41, 42, 43, 44, 45, 46] (.cond (.t 47) .skip
    (.exit 2))))
def c_spec_FewestChains_k2 : ACode :=
  (.seq (.reg [⟨none, .ld 50 1 true (.t 1)⟩,
         ⟨none, .mov 51 (.t 8)⟩,
         ⟨none, .mov 52 (.t 10)⟩,
         ⟨none, .call 53 f_spec_l23Less [((.t 50), false), ((.t 51), false), ((.t 52), false)]⟩,
         ⟨none, .un 54 .not (.t 53)⟩,
         ⟨none, .asg 55 (.t 54)⟩,
         ⟨some (55, false), .mov 56 (.t 6)⟩,
         ⟨some (55, false), .mov 57 (.t 10)⟩,
         ⟨some (55, false), .iad 58 1 (.t 56) (.t 57)⟩,
         ⟨some (55, false), .ld 59 1 false (.t 58)⟩,
         ⟨none, .pick 60 (.t 55) (.c (.bool true)) (.t 59)⟩])
      (.drop [50, 51, 52, 53, 54, 55, 56, 57, 58, 59] (.cond (.t 60) (.exit 3)
       .skip)))
def c_spec_FewestChains_l1 : ACode :=
  (.seq (.cut c_spec_FewestChains_k1)
  (.drop [38, 39, 40, 41, 42, 43, 44, 45, 46, 47] (.seq (.block 3 (.seq (.cut c_spec_FewestChains_k2)
     (.drop [50, 51, 52, 53, 54, 55, 56, 57, 58, 59, 60] (.seq (.reg [⟨none, .mov 61 (.t 6)⟩,
         ⟨none, .mov 62 (.t 10)⟩,
         ⟨none, .iad 63 1 (.t 61) (.t 62)⟩,
         ⟨none, .st 1 (.t 63) (.c (.bool true))⟩])
      (.drop [61, 62, 63] (.seq (.reg [⟨none, .ld 64 1 true (.t 1)⟩,
          ⟨none, .mov 65 (.t 8)⟩,
          ⟨none, .bin 66 .add (.t 65) (.c (.int .i64 1))⟩,
          ⟨none, .mov 67 (.t 6)⟩,
          ⟨none, .call 68 f_spec_l23Followers [((.t 64), false), ((.t 66), false), ((.t 67), false)]⟩,
          ⟨none, .bin 69 .add (.t 68) (.c (.int .i64 1))⟩,
          ⟨none, .mov 70 (.t 9)⟩,
          ⟨none, .bin 71 .eql (.t 69) (.t 70)⟩])
       (.drop [64, 65, 66, 67, 68, 69, 70] (.cond (.t 71) (.reg [⟨none, .mov 72 (.t 7)⟩,
           ⟨none, .mov 73 (.t 8)⟩,
           ⟨none, .mov 74 (.t 10)⟩,
           ⟨none, .iad 75 1 (.t 72) (.t 73)⟩,
           ⟨none, .st 1 (.t 75) (.t 74)⟩])
        (.reg [⟨none, .mov 76 (.t 6)⟩,
           ⟨none, .mov 77 (.t 10)⟩,
           ⟨none, .iad 78 1 (.t 76) (.t 77)⟩,
           ⟨none, .st 1 (.t 78) (.c (.bool false))⟩])))))))))
   (.drop [50, 51, 52, 53, 54, 55, 56, 57, 58, 59, 60, 61, 62, 63, 64, 65, 66, 67, 68, 69, 70, 71, 72, 73, 74, 75, 76, 77, 78] (.reg [⟨none, .mov 48 (.t 10)⟩,
      ⟨none, .bin 49 .add (.t 48) (.c (.int .i64 1))⟩,
      ⟨none, .asg 10 (.t 49)⟩])))))
def c_spec_FewestChains_l2 : ACode :=
  (.seq (.seq (.reg [⟨none, .mov 26 (.t 8)⟩,
      ⟨none, .mov 27 (.t 5)⟩,
      ⟨none, .bin 28 .lss (.t 26) (.t 27)⟩])
   (.drop [26, 27] (.cond (.t 28) .skip
    (.exit 0))))
  (.drop [26, 27, 28] (.seq (.block 1 (.seq (.reg [⟨none, .mov 31 (.t 7)⟩,
        ⟨none, .mov 32 (.t 8)⟩,
        ⟨none, .iad 33 1 (.t 31) (.t 32)⟩,
        ⟨none, .st 1 (.t 33) (.c (.int .i64 (-1)))⟩])
     (.drop [31, 32, 33] (.seq (.reg [⟨none, .ld 34 1 true (.t 1)⟩,
         ⟨none, .mov 35 (.t 8)⟩,
         ⟨none, .mov 36 (.t 6)⟩,
         ⟨none, .call 37 f_spec_l23Followers [((.t 34), false), ((.t 35), false), ((.t 36), false)]⟩,
         ⟨none, .asg 9 (.t 37)⟩])
      (.drop [34, 35, 36, 37] (.seq (.reg [⟨none, .asg 10 (.c (.int .i64 0))⟩])
       (.block 2 (.loop c_spec_FewestChains_l1))))))))
   (.drop [31, 32, 33, 34, 35, 36, 37, 9, 10, 38, 39, 40, 41, 42, 43, 44, 45, 46, 47, 50, 51, 52, 53, 54, 55, 56, 57, 58, 59, 60, 61, 62, 63, 64, 65, 66, 67, 68, 69, 70, 71, 72, 73, 74, 75, 76, 77, 78, 48, 49] (.reg [⟨none, .mov 29 (.t 8)⟩,
      ⟨none, .bin 30 .add (.t 29) (.c (.int .i64 1))⟩,
      ⟨none, .asg 8 (.t 30)⟩])))))
def c_spec_FewestChains_l3 : ACode :=
  (.seq (.seq (.reg [⟨none, .mov 90 (.t 13)⟩,
      ⟨none, .bin 91 .geq (.t 90) (.c (.int .i64 0))⟩])
   (.drop [90] (.cond (.t 91) .skip
    (.exit 6))))
  (.drop [90, 91] (.seq (.block 7 (.reg [⟨none, .mov 96 (.t 12)⟩,
       ⟨none, .mov 97 (.t 13)⟩,
       ⟨none, .bsl 98 1 [(.t 97)]⟩,
       ⟨none, .app 99 1 (.t 96) (.t 98)⟩,
       ⟨none, .asg 12 (.t 99)⟩]))
   (.drop [96, 97, 98, 99] (.reg [⟨none, .mov 92 (.t 7)⟩,
      ⟨none, .mov 93 (.t 13)⟩,
      ⟨none, .iad 94 1 (.t 92) (.t 93)⟩,
      ⟨none, .ld 95 1 false (.t 94)⟩,
      ⟨none, .asg 13 (.t 95)⟩])))))
def c_spec_FewestChains_l4 : ACode :=
  (.seq (.seq (.reg [⟨none, .mov 79 (.t 11)⟩,
      ⟨none, .mov 80 (.t 5)⟩,
      ⟨none, .bin 81 .lss (.t 79) (.t 80)⟩])
   (.drop [79, 80] (.cond (.t 81) .skip
    (.exit 4))))
  (.drop [79, 80, 81] (.seq (.block 5 (.seq (.seq (.reg [⟨none, .mov 84 (.t 6)⟩,
         ⟨none, .mov 85 (.t 11)⟩,
         ⟨none, .iad 86 1 (.t 84) (.t 85)⟩,
         ⟨none, .ld 87 1 false (.t 86)⟩])
      (.drop [84, 85, 86] (.cond (.t 87) (.exit 5)
       .skip)))
     (.drop [84, 85, 86, 87] (.seq (.reg [⟨none, .bsl 88 1 []⟩,
         ⟨none, .asg 12 (.t 88)⟩])
      (.drop [88] (.seq (.seq (.reg [⟨none, .mov 89 (.t 11)⟩,
           ⟨none, .asg 13 (.t 89)⟩])
        (.drop [89] (.block 6 (.loop c_spec_FewestChains_l3))))
       (.drop [89, 13, 90, 91, 96, 97, 98, 99, 92, 93, 94, 95] (.reg [⟨none, .mov 100 (.t 4)⟩,
          ⟨none, .mov 101 (.t 12)⟩,
          ⟨none, .bsl 102 1 [(.t 101)]⟩,
          ⟨none, .app 103 1 (.t 100) (.t 102)⟩,
          ⟨none, .asg 4 (.t 103)⟩]))))))))
   (.drop [84, 85, 86, 87, 88, 12, 89, 13, 90, 91, 96, 97, 98, 99, 92, 93, 94, 95, 100, 101, 102, 103] (.reg [⟨none, .mov 82 (.t 11)⟩,
      ⟨none, .bin 83 .add (.t 82) (.c (.int .i64 1))⟩,
      ⟨none, .asg 11 (.t 83)⟩])))))
def c_spec_FewestChains : ACode :=
  (.seq (.reg [⟨none, .box 1 (.t 0)⟩,
     ⟨none, .asg 2 (.c (.nilsl 1))⟩,
     ⟨none, .asg 3 (.c (.bool false))⟩])
  (.seq (.reg [⟨none, .bsl 14 1 []⟩,
      ⟨none, .asg 4 (.t 14)⟩])
   (.drop [14] (.seq (.seq (.reg [⟨none, .ld 15 1 true (.t 1)⟩,
        ⟨none, .call 16 f_spec_l23Good [((.t 15), false)]⟩,
        ⟨none, .un 17 .not (.t 16)⟩])
     (.drop [15, 16] (.cond (.t 17) (.seq (.reg [⟨none, .mov 18 (.t 4)⟩,
          ⟨none, .asg 2 (.t 18)⟩,
          ⟨none, .asg 3 (.c (.bool false))⟩])
       (.drop [18] .ret))
      .skip)))
    (.drop [15, 16, 17, 18] (.seq (.reg [⟨none, .fadr 19 0 (.t 1)⟩,
        ⟨none, .ld 20 1 false (.t 19)⟩,
        ⟨none, .len 21 (.t 20)⟩,
        ⟨none, .asg 5 (.t 21)⟩])
     (.drop [19, 20, 21] (.seq (.dregp 0 [6] [(⟨none, .mov 22 (.t 5)⟩, []),
         (⟨none, .mk 23 1 (.bool false) (.t 22)⟩, []),
         (⟨none, .mov 24 (.t 5)⟩, [22, 23, 23]),
         (⟨none, .mk 25 1 (.int .i64 0) (.t 24)⟩, [22, 23, 23]),
         (⟨none, .asg 6 (.t 23)⟩, [24, 25])]
        [⟨none, .asg 7 (.t 25)⟩])
      (.drop [22, 23, 24, 25] (.seq (.seq (.reg [⟨none, .asg 8 (.c (.int .i64 0))⟩])
        (.block 0 (.loop c_spec_FewestChains_l2)))
       (.drop [8, 26, 27, 28, 31, 32, 33, 34, 35, 36, 37, 9, 10, 38, 39, 40, 41, 42, 43, 44, 45, 46, 47, 50, 51, 52, 53, 54, 55, 56, 57, 58, 59, 60, 61, 62, 63, 64, 65, 66, 67, 68, 69, 70, 71, 72, 73, 74, 75, 76, 77, 78, 48, 49, 29, 30] (.seq (.seq (.reg [⟨none, .asg 11 (.c (.int .i64 0))⟩])
         (.block 4 (.loop c_spec_FewestChains_l4)))
        (.drop [11, 79, 80, 81, 84, 85, 86, 87, 88, 12, 89, 13, 90, 91, 96, 97, 98, 99, 92, 93, 94, 95, 100, 101, 102, 103, 82, 83] (.seq (.reg [⟨none, .mov 104 (.t 4)⟩,
            ⟨none, .asg 2 (.t 104)⟩,
            ⟨none, .asg 3 (.c (.bool true))⟩])
         (.drop [104] .ret)))))))))))))))
abbrev r_spec_FewestChains : List RS := [.t 2, .t 3]
theorem k_spec_FewestChains : fitsF Try.prog f_spec_FewestChains 105 c_spec_FewestChains r_spec_FewestChains = true := by kernel_rfl

/- loop.example/g01078/laws.FnExactFewestChains: [aP=0, aP=1, left=3, w0=4, w1=5, x0=6, g0=7, g1=8, k=9, m=10, q=11, h0=12, h1=13] -/
def c_laws_FnExactFewestChains_k1 : ACode :=
  (.seq (.reg [⟨none, .mov 32 (.t 7)⟩,
             ⟨none, .mov 33 (.t 4)⟩,
             ⟨none, .call 34 f_laws_eqIntSS [((.t 32), false), ((.t 33), false)]⟩,
             ⟨none, .un 35 .not (.t 34)⟩,
             ⟨none, .asg 36 (.t 35)⟩,
             ⟨some (36, false), .mov 37 (.t 8)⟩,
             ⟨some (36, false), .mov 38 (.t 5)⟩,
             ⟨some (36, false), .binb 39 .neq (.t 37) (.t 38)⟩,
             ⟨none, .pick 40 (.t 36) (.c (.bool true)) (.t 39)⟩])
          (.drop [32, 33, 34, 35, 36, 37, 38, 39] (.cond (.t 40) (.seq (.reg [⟨none, .asg 2 (.c (.bool false))⟩])
            .ret)
           .skip)))
def c_laws_FnExactFewestChains_k2 : ACode :=
  (.seq (.reg [⟨none, .mov 49 (.t 9)⟩,
                 ⟨none, .bin 50 .lss (.t 49) (.c (.int .i64 0))⟩,
                 ⟨none, .asg 51 (.t 50)⟩,
                 ⟨some (51, false), .mov 52 (.t 7)⟩,
                 ⟨some (51, false), .mov 53 (.t 4)⟩,
                 ⟨some (51, false), .call 54 f_laws_eqIntSS [((.t 52), false), ((.t 53), false)]⟩,
                 ⟨some (51, false), .un 55 .not (.t 54)⟩,
                 ⟨none, .pick 56 (.t 51) (.c (.bool true)) (.t 55)⟩,
                 ⟨none, .asg 57 (.t 56)⟩,
                 ⟨some (57, false), .mov 58 (.t 8)⟩,
                 ⟨some (57, false), .mov 59 (.t 5)⟩,
                 ⟨some (57, false), .binb 60 .neq (.t 58) (.t 59)⟩,
                 ⟨none, .pick 61 (.t 57) (.c (.bool true)) (.t 60)⟩])
              (.drop [49, 50, 51, 52, 53, 54, 55, 56, 57, 58, 59, 60] (.cond (.t 61) (.seq (.reg [⟨none, .asg 2 (.c (.bool false))⟩])
                .ret)
               .skip)))
def c_laws_FnExactFewestChains_k3 : ACode :=
  (.seq (.reg [⟨none, .mov 79 (.t 12)⟩,
                         ⟨none, .mov 80 (.t 4)⟩,
                         ⟨none, .call 81 f_laws_eqIntSS [((.t 79), false), ((.t 80), false)]⟩,
                         ⟨none, .un 82 .not (.t 81)⟩,
                         ⟨none, .asg 83 (.t 82)⟩,
                         ⟨some (83, false), .mov 84 (.t 13)⟩,
                         ⟨some (83, false), .mov 85 (.t 5)⟩,
                         ⟨some (83, false), .binb 86 .neq (.t 84) (.t 85)⟩,
                         ⟨none, .pick 87 (.t 83) (.c (.bool true)) (.t 86)⟩])
                      (.drop [79, 80, 81, 82, 83, 84, 85, 86] (.cond (.t 87) (.seq (.reg [⟨none, .asg 2 (.c (.bool false))⟩])
                        .ret)
                       .skip)))
def c_laws_FnExactFewestChains : ACode :=
  (.seq (.reg [⟨none, .box 1 (.t 0)⟩,
     ⟨none, .asg 2 (.c (.bool false))⟩])
  (.seq (.reg [⟨none, .asg 3 (.c (.int .i64 1048576))⟩])
   (.seq (.reg [⟨none, .ld 14 1 true (.t 1)⟩,
       ⟨none, .mov 15 (.t 3)⟩,
       ⟨none, .call 16 f_laws_szPoset [((.t 14), false), ((.t 15), false)]⟩,
       ⟨none, .asg 3 (.t 16)⟩])
    (.drop [14, 15, 16] (.seq (.seq (.reg [⟨none, .mov 17 (.t 3)⟩,
         ⟨none, .bin 18 .lss (.t 17) (.c (.int .i64 0))⟩])
      (.drop [17] (.cond (.t 18) (.seq (.reg [⟨none, .asg 2 (.c (.bool true))⟩])
        .ret)
       .skip)))
     (.drop [17, 18] (.seq (.reg [⟨none, .ld 20 1 true (.t 1)⟩,
         ⟨none, .call 21 f_laws_toPoset [((.t 20), false)]⟩,
         ⟨none, .call 22 f_spec_FewestChains [((.t 21), false)]⟩,
         ⟨none, .asg 19 (.t 22)⟩,
         ⟨none, .ext 23 (.t 19) 0⟩,
         ⟨none, .ext 24 (.t 19) 1⟩,
         ⟨none, .asg 4 (.t 23)⟩,
         ⟨none, .asg 5 (.t 24)⟩])
      (.drop [20, 21, 22, 19, 23, 24] (.seq (.reg [⟨none, .ld 25 1 true (.t 1)⟩,
          ⟨none, .call 26 f_laws_toPoset [((.t 25), false)]⟩,
          ⟨none, .alc 6 (.agg [.nilsl 1])⟩,
          ⟨none, .st 1 (.t 6) (.t 26)⟩])
       (.drop [25, 26] (.seq (.reg [⟨none, .ld 28 1 true (.t 6)⟩,
           ⟨none, .call 29 f_impl_FewestChains [((.t 28), false)]⟩,
           ⟨none, .asg 27 (.t 29)⟩,
           ⟨none, .ext 30 (.t 27) 0⟩,
           ⟨none, .ext 31 (.t 27) 1⟩,
           ⟨none, .asg 7 (.t 30)⟩,
           ⟨none, .asg 8 (.t 31)⟩])
        (.drop [28, 29, 27, 30, 31] (.seq (.cut c_laws_FnExactFewestChains_k1)
         (.drop [32, 33, 34, 35, 36, 37, 38, 39, 40] (.seq (.seq (.dreg [(⟨none, .ld 41 1 true (.t 6)⟩, []),
              (⟨none, .ld 42 1 true (.t 1)⟩, [41]),
              (⟨none, .call 43 f_laws_toPoset [((.t 42), false)]⟩, [41])]
             [⟨none, .call 44 f_laws_eqPoset [((.t 41), false), ((.t 43), false)]⟩,
              ⟨none, .un 45 .not (.t 44)⟩])
           (.drop [41, 42, 43, 44] (.cond (.t 45) (.seq (.reg [⟨none, .asg 2 (.c (.bool false))⟩])
             .ret)
            .skip)))
          (.drop [41, 42, 43, 44, 45] (.seq (.reg [⟨none, .asg 9 (.c (.int .i64 1))⟩])
           (.seq (.reg [⟨none, .ld 46 1 true (.t 6)⟩,
               ⟨none, .mov 47 (.t 9)⟩,
               ⟨none, .call 48 f_laws_markPoset [((.t 46), true), ((.t 47), false)]⟩,
               ⟨none, .asg 9 (.t 48)⟩])
            (.drop [46, 47, 48] (.seq (.cut c_laws_FnExactFewestChains_k2)
             (.drop [49, 50, 51, 52, 53, 54, 55, 56, 57, 58, 59, 60, 61] (.seq (.reg [⟨none, .asg 10 (.c (.int .i64 1))⟩])
              (.seq (.reg [⟨none, .mov 62 (.t 7)⟩,
                  ⟨none, .mov 63 (.t 10)⟩,
                  ⟨none, .call 64 f_laws_markIntSS [((.t 62), true), ((.t 63), false)]⟩,
                  ⟨none, .asg 10 (.t 64)⟩])
               (.drop [62, 63, 64] (.seq (.reg [⟨none, .asg 11 (.c (.int .i64 1))⟩])
                (.seq (.reg [⟨none, .mov 65 (.t 7)⟩,
                    ⟨none, .mov 66 (.t 11)⟩,
                    ⟨none, .call 67 f_laws_heldIntSS [((.t 65), false), ((.t 66), false)]⟩,
                    ⟨none, .asg 11 (.t 67)⟩])
                 (.drop [65, 66, 67] (.seq (.seq (.reg [⟨none, .mov 68 (.t 11)⟩,
                      ⟨none, .bin 69 .lss (.t 68) (.c (.int .i64 0))⟩])
                   (.drop [68] (.cond (.t 69) (.seq (.reg [⟨none, .asg 2 (.c (.bool false))⟩])
                     .ret)
                    .skip)))
                  (.drop [68, 69] (.seq (.seq (.reg [⟨none, .mov 70 (.t 11)⟩,
                       ⟨none, .mov 71 (.t 10)⟩,
                       ⟨none, .bin 72 .neq (.t 70) (.t 71)⟩])
                    (.drop [70, 71] (.cond (.t 72) (.seq (.reg [⟨none, .asg 2 (.c (.bool false))⟩])
                      .ret)
                     .skip)))
                   (.drop [70, 71, 72] (.seq (.reg [⟨none, .ld 74 1 true (.t 1)⟩,
                       ⟨none, .call 75 f_laws_toPoset [((.t 74), false)]⟩,
                       ⟨none, .call 76 f_impl_FewestChains [((.t 75), false)]⟩,
                       ⟨none, .asg 73 (.t 76)⟩,
                       ⟨none, .ext 77 (.t 73) 0⟩,
                       ⟨none, .ext 78 (.t 73) 1⟩,
                       ⟨none, .asg 12 (.t 77)⟩,
                       ⟨none, .asg 13 (.t 78)⟩])
                    (.drop [74, 75, 76, 73, 77, 78] (.seq (.cut c_laws_FnExactFewestChains_k3)
                     (.drop [79, 80, 81, 82, 83, 84, 85, 86, 87] (.seq (.reg [⟨none, .asg 11 (.c (.int .i64 1))⟩])
                      (.seq (.reg [⟨none, .mov 88 (.t 7)⟩,
                          ⟨none, .mov 89 (.t 11)⟩,
                          ⟨none, .call 90 f_laws_heldIntSS [((.t 88), false), ((.t 89), false)]⟩,
                          ⟨none, .asg 11 (.t 90)⟩])
                       (.drop [88, 89, 90] (.seq (.seq (.reg [⟨none, .mov 91 (.t 11)⟩,
                            ⟨none, .bin 92 .lss (.t 91) (.c (.int .i64 0))⟩])
                         (.drop [91] (.cond (.t 92) (.seq (.reg [⟨none, .asg 2 (.c (.bool false))⟩])
                           .ret)
                          .skip)))
                        (.drop [91, 92] (.seq (.seq (.reg [⟨none, .mov 93 (.t 11)⟩,
                             ⟨none, .mov 94 (.t 10)⟩,
                             ⟨none, .bin 95 .neq (.t 93) (.t 94)⟩])
                          (.drop [93, 94] (.cond (.t 95) (.seq (.reg [⟨none, .asg 2 (.c (.bool false))⟩])
                            .ret)
                           .skip)))
                         (.drop [93, 94, 95] (.seq (.reg [⟨none, .asg 2 (.c (.bool true))⟩])
                          .ret)))))))))))))))))))))))))))))))))))))))))))
abbrev r_laws_FnExactFewestChains : List RS := [.t 2]
theorem k_laws_FnExactFewestChains : fitsF Try.prog f_laws_FnExactFewestChains 96 c_laws_FnExactFewestChains r_laws_FnExactFewestChains = true := by kernel_rfl

end Go.Proofs.Ytpfikenknmlajaa.Ax
