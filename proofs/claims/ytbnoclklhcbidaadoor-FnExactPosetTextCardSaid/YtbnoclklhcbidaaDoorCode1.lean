/-
  The small code of the functions, written by program; that the program's code is this one, the kernel looks at.
-/
import Derived.Test.YtbnoclklhcbidaaDoorAx3
import Derived.Test.YtbnoclklhcbidaaDoorProg
import Derived.KernelRfl
import Derived.Test.YtbnoclklhcbidaaDoorNum
namespace Go.Proofs.YtbnoclklhcbidaaDoor.Ax
open Go
set_option maxRecDepth 100000

/- loop.example/g01078/laws.szIntS: [a=0, left=1, a=2, left=3] -/
def c_laws_szIntS : ACode :=
  (.seq (.reg [⟨none, .asg 4 (.c (.int .i64 0))⟩])
  (.seq (.reg [⟨none, .mov 5 (.t 1)⟩,
      ⟨none, .mov 6 (.t 0)⟩,
      ⟨none, .len 7 (.t 6)⟩,
      ⟨none, .bin 8 .sub (.t 5) (.t 7)⟩,
      ⟨none, .asg 1 (.t 8)⟩])
   (.drop [5, 6, 7, 8] (.seq (.seq (.reg [⟨none, .mov 9 (.t 1)⟩,
        ⟨none, .bin 10 .lss (.t 9) (.c (.int .i64 0))⟩])
     (.drop [9] (.cond (.t 10) (.seq (.reg [⟨none, .asg 4 (.c (.int .i64 (-1)))⟩])
       .ret)
      .skip)))
    (.drop [9, 10] (.seq (.reg [⟨none, .mov 11 (.t 1)⟩,
        ⟨none, .asg 4 (.t 11)⟩])
     (.drop [11] .ret)))))))
abbrev r_laws_szIntS : List RS := [.t 4]
theorem k_laws_szIntS : fitsF Tryd.prog f_laws_szIntS 12 c_laws_szIntS r_laws_szIntS = true := by kernel_rfl

/- loop.example/g01078/spec.l1Has: [l=0, n=1, l=2, n=3, i=5] -/
def c_spec_l1Has_l1 : ACode :=
  (.seq (.seq (.reg [⟨none, .mov 6 (.t 5)⟩,
      ⟨none, .mov 7 (.t 0)⟩,
      ⟨none, .len 8 (.t 7)⟩,
      ⟨none, .bin 9 .lss (.t 6) (.t 8)⟩])
   (.drop [6, 7, 8] (.cond (.t 9) .skip
    (.exit 0))))
  (.drop [6, 7, 8, 9] (.seq (.block 1 (.seq (.reg [⟨none, .mov 12 (.t 0)⟩,
        ⟨none, .mov 13 (.t 5)⟩,
        ⟨none, .iad 14 1 (.t 12) (.t 13)⟩,
        ⟨none, .ld 15 1 false (.t 14)⟩,
        ⟨none, .mov 16 (.t 1)⟩,
        ⟨none, .bin 17 .eql (.t 15) (.t 16)⟩])
     (.drop [12, 13, 14, 15, 16] (.cond (.t 17) (.seq (.reg [⟨none, .asg 4 (.c (.bool true))⟩])
       .ret)
      .skip))))
   (.drop [12, 13, 14, 15, 16, 17] (.reg [⟨none, .mov 10 (.t 5)⟩,
      ⟨none, .bin 11 .add (.t 10) (.c (.int .i64 1))⟩,
      ⟨none, .asg 5 (.t 11)⟩])))))
def c_spec_l1Has : ACode :=
  (.seq (.reg [⟨none, .asg 4 (.c (.bool false))⟩])
  (.seq (.seq (.reg [⟨none, .asg 5 (.c (.int .i64 0))⟩])
    (.block 0 (.loop c_spec_l1Has_l1)))
   (.drop [5, 6, 7, 8, 9, 12, 13, 14, 15, 16, 17, 10, 11] (.seq (.reg [⟨none, .asg 4 (.c (.bool false))⟩])
    .ret))))
abbrev r_spec_l1Has : List RS := [.t 4]
theorem k_spec_l1Has : fitsF Tryd.prog f_spec_l1Has 18 c_spec_l1Has r_spec_l1Has = true := by kernel_rfl

/- loop.example/g01078/spec.l1Num: [n=0, n=1] -/
def c_spec_l1Num : ACode :=
  (.seq (.reg [⟨none, .asg 2 (.c (.str ⟨#[]⟩))⟩])
  (.seq (.seq (.reg [⟨none, .mov 3 (.t 0)⟩,
       ⟨none, .bin 4 .lss (.t 3) (.c (.int .i64 0))⟩])
    (.drop [3] (.cond (.t 4) (.seq (.reg [⟨none, .mov 5 (.t 0)⟩,
         ⟨none, .un 6 .neg (.t 5)⟩,
         ⟨none, .call 7 f_spec_l1Num [((.t 6), false)]⟩,
         ⟨none, .bin 8 .add (.c (.str ⟨#[45]⟩)) (.t 7)⟩,
         ⟨none, .asg 2 (.t 8)⟩])
      (.drop [5, 6, 7, 8] .ret))
     .skip)))
   (.drop [3, 4, 5, 6, 7, 8] (.seq (.seq (.reg [⟨none, .mov 9 (.t 0)⟩,
        ⟨none, .bin 10 .lss (.t 9) (.c (.int .i64 10))⟩])
     (.drop [9] (.cond (.t 10) (.seq (.reg [⟨none, .mov 11 (.t 0)⟩,
          ⟨none, .mov 12 (.t 0)⟩,
          ⟨none, .bin 13 .add (.t 12) (.c (.int .i64 1))⟩,
          ⟨none, .ssl 14 (.c (.str ⟨#[48, 49, 50, 51, 52, 53, 54, 55, 56, 57]⟩)) (some (.t 11)) (some (.t 13))⟩,
          ⟨none, .asg 2 (.t 14)⟩])
       (.drop [11, 12, 13, 14] .ret))
      .skip)))
    (.drop [9, 10, 11, 12, 13, 14] (.seq (.dreg [(⟨none, .mov 15 (.t 0)⟩, []),
        (⟨none, .bin 16 .quo (.t 15) (.c (.int .i64 10))⟩, []),
        (⟨none, .call 17 f_spec_l1Num [((.t 16), false)]⟩, []),
        (⟨none, .mov 18 (.t 0)⟩, [15, 16, 17]),
        (⟨none, .bin 19 .rem (.t 18) (.c (.int .i64 10))⟩, [15, 16, 17]),
        (⟨none, .mov 20 (.t 0)⟩, [15, 16, 17, 18, 19]),
        (⟨none, .bin 21 .rem (.t 20) (.c (.int .i64 10))⟩, [15, 16, 17, 18, 19]),
        (⟨none, .bin 22 .add (.t 21) (.c (.int .i64 1))⟩, [15, 16, 17, 18, 19]),
        (⟨none, .ssl 23 (.c (.str ⟨#[48, 49, 50, 51, 52, 53, 54, 55, 56, 57]⟩)) (some (.t 19)) (some (.t 22))⟩, [15, 16, 17])]
       [⟨none, .bin 24 .add (.t 17) (.t 23)⟩,
        ⟨none, .asg 2 (.t 24)⟩])
     (.drop [15, 16, 17, 18, 19, 20, 21, 22, 23, 24] .ret)))))))
abbrev r_spec_l1Num : List RS := [.t 2]
theorem k_spec_l1Num : fitsF Tryd.prog f_spec_l1Num 25 c_spec_l1Num r_spec_l1Num = true := by kernel_rfl

/- loop.example/g01078/laws.toIntS: [a=0, a=1, out=3, i=4] -/
def c_laws_toIntS_l1 : ACode :=
  (.seq (.seq (.reg [⟨none, .mov 8 (.t 4)⟩,
      ⟨none, .mov 9 (.t 0)⟩,
      ⟨none, .len 10 (.t 9)⟩,
      ⟨none, .bin 11 .lss (.t 8) (.t 10)⟩])
   (.drop [8, 9, 10] (.cond (.t 11) .skip
    (.exit 0))))
  (.drop [8, 9, 10, 11] (.seq (.block 1 (.reg [⟨none, .mov 14 (.t 3)⟩,
       ⟨none, .mov 15 (.t 4)⟩,
       ⟨none, .mov 16 (.t 0)⟩,
       ⟨none, .mov 17 (.t 4)⟩,
       ⟨none, .iad 18 1 (.t 16) (.t 17)⟩,
       ⟨none, .ld 19 1 false (.t 18)⟩,
       ⟨none, .iad 20 1 (.t 14) (.t 15)⟩,
       ⟨none, .st 1 (.t 20) (.t 19)⟩]))
   (.drop [14, 15, 16, 17, 18, 19, 20] (.reg [⟨none, .mov 12 (.t 4)⟩,
      ⟨none, .bin 13 .add (.t 12) (.c (.int .i64 1))⟩,
      ⟨none, .asg 4 (.t 13)⟩])))))
def c_laws_toIntS : ACode :=
  (.seq (.reg [⟨none, .asg 2 (.c (.nilsl 1))⟩])
  (.seq (.reg [⟨none, .mov 5 (.t 0)⟩,
      ⟨none, .len 6 (.t 5)⟩,
      ⟨none, .mk 7 1 (.int .i64 0) (.t 6)⟩,
      ⟨none, .asg 3 (.t 7)⟩])
   (.drop [5, 6, 7] (.seq (.seq (.reg [⟨none, .asg 4 (.c (.int .i64 0))⟩])
     (.block 0 (.loop c_laws_toIntS_l1)))
    (.drop [4, 8, 9, 10, 11, 14, 15, 16, 17, 18, 19, 20, 12, 13] (.seq (.reg [⟨none, .mov 21 (.t 3)⟩,
        ⟨none, .asg 2 (.t 21)⟩])
     (.drop [21] .ret)))))))
abbrev r_laws_toIntS : List RS := [.t 2]
theorem k_laws_toIntS : fitsF Tryd.prog f_laws_toIntS 22 c_laws_toIntS r_laws_toIntS = true := by kernel_rfl

/- loop.example/g01078/impl.newOrder: [n=0, n=1, o=3, x=4] -/
def c_impl_newOrder_l1 : ACode :=
  (.seq (.reg [⟨none, .bin 10 .lss (.t 9) (.t 8)⟩])
  (.seq (.cond (.t 10) .skip
    (.exit 0))
   (.seq (.block 1 (.seq (.reg [⟨none, .mov 11 (.t 9)⟩,
         ⟨none, .asg 4 (.t 11)⟩])
      (.drop [11] (.reg [⟨none, .mov 12 (.t 3)⟩,
         ⟨none, .mov 13 (.t 4)⟩,
         ⟨none, .mov 14 (.t 0)⟩,
         ⟨none, .mk 15 1 (.bool false) (.t 14)⟩,
         ⟨none, .iad 16 1 (.t 12) (.t 13)⟩,
         ⟨none, .st 1 (.t 16) (.t 15)⟩]))))
    (.drop [11, 4, 12, 13, 14, 15, 16] (.reg [⟨none, .bin 17 .add (.t 9) (.c (.int .i64 1))⟩,
       ⟨none, .asg 9 (.t 17)⟩])))))
def c_impl_newOrder : ACode :=
  (.seq (.reg [⟨none, .asg 2 (.c (.nilsl 1))⟩])
  (.seq (.reg [⟨none, .mov 5 (.t 0)⟩,
      ⟨none, .mk 6 1 (.nilsl 1) (.t 5)⟩,
      ⟨none, .asg 3 (.t 6)⟩])
   (.drop [5, 6] (.seq (.seq (.reg [⟨none, .mov 7 (.t 3)⟩,
        ⟨none, .len 8 (.t 7)⟩,
        ⟨none, .mov 9 (.c (.int .i64 0))⟩])
     (.drop [7] (.block 0 (.loop c_impl_newOrder_l1))))
    (.drop [7, 8, 9, 10, 11, 4, 12, 13, 14, 15, 16, 17] (.seq (.reg [⟨none, .mov 18 (.t 3)⟩,
        ⟨none, .asg 2 (.t 18)⟩])
     (.drop [18] .ret)))))))
abbrev r_impl_newOrder : List RS := [.t 2]
theorem k_impl_newOrder : fitsF Tryd.prog f_impl_newOrder 19 c_impl_newOrder r_impl_newOrder = true := by kernel_rfl

/- loop.example/g01078/impl.rises: [list=0, list=1, i=3] -/
def c_impl_rises_l1 : ACode :=
  (.seq (.seq (.reg [⟨none, .mov 4 (.t 3)⟩,
      ⟨none, .mov 5 (.t 0)⟩,
      ⟨none, .len 6 (.t 5)⟩,
      ⟨none, .bin 7 .lss (.t 4) (.t 6)⟩])
   (.drop [4, 5, 6] (.cond (.t 7) .skip
    (.exit 0))))
  (.drop [4, 5, 6, 7] (.seq (.block 1 (.seq (.dreg [(⟨none, .mov 10 (.t 0)⟩, []),
        (⟨none, .mov 11 (.t 3)⟩, [10]),
        (⟨none, .bin 12 .sub (.t 11) (.c (.int .i64 1))⟩, [10]),
        (⟨none, .iad 13 1 (.t 10) (.t 12)⟩, []),
        (⟨none, .ld 14 1 false (.t 13)⟩, []),
        (⟨none, .mov 15 (.t 0)⟩, [10, 11, 12, 13, 14]),
        (⟨none, .mov 16 (.t 3)⟩, [10, 11, 12, 13, 14, 15]),
        (⟨none, .iad 17 1 (.t 15) (.t 16)⟩, [10, 11, 12, 13, 14]),
        (⟨none, .ld 18 1 false (.t 17)⟩, [10, 11, 12, 13, 14])]
       [⟨none, .bin 19 .geq (.t 14) (.t 18)⟩])
     (.drop [10, 11, 12, 13, 14, 15, 16, 17, 18] (.cond (.t 19) (.seq (.reg [⟨none, .asg 2 (.c (.bool false))⟩])
       .ret)
      .skip))))
   (.drop [10, 11, 12, 13, 14, 15, 16, 17, 18, 19] (.reg [⟨none, .mov 8 (.t 3)⟩,
      ⟨none, .bin 9 .add (.t 8) (.c (.int .i64 1))⟩,
      ⟨none, .asg 3 (.t 9)⟩])))))
def c_impl_rises : ACode :=
  (.seq (.reg [⟨none, .asg 2 (.c (.bool false))⟩])
  (.seq (.seq (.reg [⟨none, .asg 3 (.c (.int .i64 1))⟩])
    (.block 0 (.loop c_impl_rises_l1)))
   (.drop [3, 4, 5, 6, 7, 10, 11, 12, 13, 14, 15, 16, 17, 18, 19, 8, 9] (.seq (.reg [⟨none, .asg 2 (.c (.bool true))⟩])
    .ret))))
abbrev r_impl_rises : List RS := [.t 2]
theorem k_impl_rises : fitsF Tryd.prog f_impl_rises 20 c_impl_rises r_impl_rises = true := by kernel_rfl

/- loop.example/g01078/impl.inSize: [list=0, n=1, list=2, n=3, _=5, x=6] -/
def c_impl_inSize_l1 : ACode :=
  (.seq (.reg [⟨none, .bin 10 .lss (.t 9) (.t 8)⟩])
  (.seq (.cond (.t 10) .skip
    (.exit 0))
   (.seq (.block 1 (.seq (.reg [⟨none, .iad 11 1 (.t 7) (.t 9)⟩,
         ⟨none, .ld 12 1 false (.t 11)⟩,
         ⟨none, .asg 6 (.t 12)⟩])
      (.drop [11, 12] (.seq (.reg [⟨none, .mov 13 (.t 6)⟩,
          ⟨none, .bin 14 .lss (.t 13) (.c (.int .i64 0))⟩,
          ⟨none, .asg 15 (.t 14)⟩,
          ⟨some (15, false), .mov 16 (.t 6)⟩,
          ⟨some (15, false), .mov 17 (.t 1)⟩,
          ⟨some (15, false), .bin 18 .geq (.t 16) (.t 17)⟩,
          ⟨none, .pick 19 (.t 15) (.c (.bool true)) (.t 18)⟩])
       (.drop [13, 14, 15, 16, 17, 18] (.cond (.t 19) (.seq (.reg [⟨none, .asg 4 (.c (.bool false))⟩])
         .ret)
        .skip))))))
    (.drop [11, 12, 6, 13, 14, 15, 16, 17, 18, 19] (.reg [⟨none, .bin 20 .add (.t 9) (.c (.int .i64 1))⟩,
       ⟨none, .asg 9 (.t 20)⟩])))))
def c_impl_inSize : ACode :=
  (.seq (.reg [⟨none, .asg 4 (.c (.bool false))⟩])
  (.seq (.seq (.reg [⟨none, .mov 7 (.t 0)⟩,
       ⟨none, .len 8 (.t 7)⟩,
       ⟨none, .mov 9 (.c (.int .i64 0))⟩])
    (.block 0 (.loop c_impl_inSize_l1)))
   (.drop [7, 8, 9, 10, 11, 12, 6, 13, 14, 15, 16, 17, 18, 19, 20] (.seq (.reg [⟨none, .asg 4 (.c (.bool true))⟩])
    .ret))))
abbrev r_impl_inSize : List RS := [.t 4]
theorem k_impl_inSize : fitsF Tryd.prog f_impl_inSize 21 c_impl_inSize r_impl_inSize = true := by kernel_rfl

/- (loop.example/g01078/impl.order).isOrder: [o=0, o=1, x=3, y=4, z=5] -/
def c_impl_order_isOrder_k1 : ACode :=
  (.seq (.reg [⟨none, .mov 24 (.t 3)⟩,
           ⟨none, .mov 25 (.t 4)⟩,
           ⟨none, .bin 26 .neq (.t 24) (.t 25)⟩,
           ⟨none, .asg 27 (.t 26)⟩,
           ⟨some (27, true), .mov 28 (.t 0)⟩,
           ⟨some (27, true), .mov 29 (.t 3)⟩,
           ⟨some (27, true), .iad 30 1 (.t 28) (.t 29)⟩,
           ⟨some (27, true), .ld 31 1 false (.t 30)⟩,
           ⟨some (27, true), .mov 32 (.t 4)⟩,
           ⟨some (27, true), .iad 33 1 (.t 31) (.t 32)⟩,
           ⟨some (27, true), .ld 34 1 false (.t 33)⟩,
           ⟨none, .pick 35 (.t 27) (.t 34) (.c (.bool false))⟩,
           ⟨none, .asg 36 (.t 35)⟩,
           ⟨some (36, true), .mov 37 (.t 0)⟩,
           ⟨some (36, true), .mov 38 (.t 4)⟩,
           ⟨some (36, true), .iad 39 1 (.t 37) (.t 38)⟩,
           ⟨some (36, true), .ld 40 1 false (.t 39)⟩,
           ⟨some (36, true), .mov 41 (.t 3)⟩,
           ⟨some (36, true), .iad 42 1 (.t 40) (.t 41)⟩,
           ⟨some (36, true), .ld 43 1 false (.t 42)⟩,
           ⟨none, .pick 44 (.t 36) (.t 43) (.c (.bool false))⟩])
        (.drop [24, 25, 26, 27, 28, 29, 30, 31, 32, 33, 34, 35, 36, 37, 38, 39, 40, 41, 42, 43] (.cond (.t 44) (.seq (.reg [⟨none, .asg 2 (.c (.bool false))⟩])
          .ret)
         .skip)))
def c_impl_order_isOrder_l1 : ACode :=
  (.seq (.reg [⟨none, .bin 48 .lss (.t 47) (.t 46)⟩])
  (.seq (.cond (.t 48) .skip
    (.exit 4))
   (.seq (.block 5 (.seq (.reg [⟨none, .mov 49 (.t 47)⟩,
         ⟨none, .asg 5 (.t 49)⟩])
      (.drop [49] (.seq (.reg [⟨none, .mov 50 (.t 0)⟩,
          ⟨none, .mov 51 (.t 3)⟩,
          ⟨none, .iad 52 1 (.t 50) (.t 51)⟩,
          ⟨none, .ld 53 1 false (.t 52)⟩,
          ⟨none, .mov 54 (.t 4)⟩,
          ⟨none, .iad 55 1 (.t 53) (.t 54)⟩,
          ⟨none, .ld 56 1 false (.t 55)⟩,
          ⟨none, .asg 57 (.t 56)⟩,
          ⟨some (57, true), .mov 58 (.t 0)⟩,
          ⟨some (57, true), .mov 59 (.t 4)⟩,
          ⟨some (57, true), .iad 60 1 (.t 58) (.t 59)⟩,
          ⟨some (57, true), .ld 61 1 false (.t 60)⟩,
          ⟨some (57, true), .mov 62 (.t 5)⟩,
          ⟨some (57, true), .iad 63 1 (.t 61) (.t 62)⟩,
          ⟨some (57, true), .ld 64 1 false (.t 63)⟩,
          ⟨none, .pick 65 (.t 57) (.t 64) (.c (.bool false))⟩,
          ⟨none, .asg 66 (.t 65)⟩,
          ⟨some (66, true), .mov 67 (.t 0)⟩,
          ⟨some (66, true), .mov 68 (.t 3)⟩,
          ⟨some (66, true), .iad 69 1 (.t 67) (.t 68)⟩,
          ⟨some (66, true), .ld 70 1 false (.t 69)⟩,
          ⟨some (66, true), .mov 71 (.t 5)⟩,
          ⟨some (66, true), .iad 72 1 (.t 70) (.t 71)⟩,
          ⟨some (66, true), .ld 73 1 false (.t 72)⟩,
          ⟨some (66, true), .un 74 .not (.t 73)⟩,
          ⟨none, .pick 75 (.t 66) (.t 74) (.c (.bool false))⟩])
       (.drop [50, 51, 52, 53, 54, 55, 56, 57, 58, 59, 60, 61, 62, 63, 64, 65, 66, 67, 68, 69, 70, 71, 72, 73, 74] (.cond (.t 75) (.seq (.reg [⟨none, .asg 2 (.c (.bool false))⟩])
         .ret)
        .skip))))))
    (.drop [49, 5, 50, 51, 52, 53, 54, 55, 56, 57, 58, 59, 60, 61, 62, 63, 64, 65, 66, 67, 68, 69, 70, 71, 72, 73, 74, 75] (.reg [⟨none, .bin 76 .add (.t 47) (.c (.int .i64 1))⟩,
       ⟨none, .asg 47 (.t 76)⟩])))))
def c_impl_order_isOrder_l2 : ACode :=
  (.seq (.reg [⟨none, .bin 22 .lss (.t 21) (.t 20)⟩])
  (.seq (.cond (.t 22) .skip
    (.exit 2))
   (.seq (.block 3 (.seq (.reg [⟨none, .mov 23 (.t 21)⟩,
         ⟨none, .asg 4 (.t 23)⟩])
      (.drop [23] (.seq (.cut c_impl_order_isOrder_k1)
       (.drop [24, 25, 26, 27, 28, 29, 30, 31, 32, 33, 34, 35, 36, 37, 38, 39, 40, 41, 42, 43, 44] (.seq (.reg [⟨none, .mov 45 (.t 0)⟩,
           ⟨none, .len 46 (.t 45)⟩,
           ⟨none, .mov 47 (.c (.int .i64 0))⟩])
        (.drop [45] (.block 4 (.loop c_impl_order_isOrder_l1)))))))))
    (.drop [23, 4, 24, 25, 26, 27, 28, 29, 30, 31, 32, 33, 34, 35, 36, 37, 38, 39, 40, 41, 42, 43, 44, 45, 46, 47, 48, 49, 5, 50, 51, 52, 53, 54, 55, 56, 57, 58, 59, 60, 61, 62, 63, 64, 65, 66, 67, 68, 69, 70, 71, 72, 73, 74, 75, 76] (.reg [⟨none, .bin 77 .add (.t 21) (.c (.int .i64 1))⟩,
       ⟨none, .asg 21 (.t 77)⟩])))))
def c_impl_order_isOrder_l3 : ACode :=
  (.seq (.reg [⟨none, .bin 9 .lss (.t 8) (.t 7)⟩])
  (.seq (.cond (.t 9) .skip
    (.exit 0))
   (.seq (.block 1 (.seq (.reg [⟨none, .mov 10 (.t 8)⟩,
         ⟨none, .asg 3 (.t 10)⟩])
      (.drop [10] (.seq (.seq (.reg [⟨none, .mov 11 (.t 0)⟩,
           ⟨none, .mov 12 (.t 3)⟩,
           ⟨none, .iad 13 1 (.t 11) (.t 12)⟩,
           ⟨none, .ld 14 1 false (.t 13)⟩,
           ⟨none, .mov 15 (.t 3)⟩,
           ⟨none, .iad 16 1 (.t 14) (.t 15)⟩,
           ⟨none, .ld 17 1 false (.t 16)⟩,
           ⟨none, .un 18 .not (.t 17)⟩])
        (.drop [11, 12, 13, 14, 15, 16, 17] (.cond (.t 18) (.seq (.reg [⟨none, .asg 2 (.c (.bool false))⟩])
          .ret)
         .skip)))
       (.drop [11, 12, 13, 14, 15, 16, 17, 18] (.seq (.reg [⟨none, .mov 19 (.t 0)⟩,
           ⟨none, .len 20 (.t 19)⟩,
           ⟨none, .mov 21 (.c (.int .i64 0))⟩])
        (.drop [19] (.block 2 (.loop c_impl_order_isOrder_l2)))))))))
    (.drop [10, 3, 11, 12, 13, 14, 15, 16, 17, 18, 19, 20, 21, 22, 23, 4, 24, 25, 26, 27, 28, 29, 30, 31, 32, 33, 34, 35, 36, 37, 38, 39, 40, 41, 42, 43, 44, 45, 46, 47, 48, 49, 5, 50, 51, 52, 53, 54, 55, 56, 57, 58, 59, 60, 61, 62, 63, 64, 65, 66, 67, 68, 69, 70, 71, 72, 73, 74, 75, 76, 77] (.reg [⟨none, .bin 78 .add (.t 8) (.c (.int .i64 1))⟩,
       ⟨none, .asg 8 (.t 78)⟩])))))
def c_impl_order_isOrder : ACode :=
  (.seq (.reg [⟨none, .asg 2 (.c (.bool false))⟩])
  (.seq (.seq (.reg [⟨none, .mov 6 (.t 0)⟩,
       ⟨none, .len 7 (.t 6)⟩,
       ⟨none, .mov 8 (.c (.int .i64 0))⟩])
    (.drop [6] (.block 0 (.loop c_impl_order_isOrder_l3))))
   (.drop [6, 7, 8, 9, 10, 3, 11, 12, 13, 14, 15, 16, 17, 18, 19, 20, 21, 22, 23, 4, 24, 25, 26, 27, 28, 29, 30, 31, 32, 33, 34, 35, 36, 37, 38, 39, 40, 41, 42, 43, 44, 45, 46, 47, 48, 49, 5, 50, 51, 52, 53, 54, 55, 56, 57, 58, 59, 60, 61, 62, 63, 64, 65, 66, 67, 68, 69, 70, 71, 72, 73, 74, 75, 76, 77, 78] (.seq (.reg [⟨none, .asg 2 (.c (.bool true))⟩])
    .ret))))
abbrev r_impl_order_isOrder : List RS := [.t 2]
theorem k_impl_order_isOrder : fitsF Tryd.prog f_impl_order_isOrder 79 c_impl_order_isOrder r_impl_order_isOrder = true := by kernel_rfl

/- loop.example/g01078/laws.eqIntS: [a=0, b=1, a=2, b=3, i=5] -/
def c_laws_eqIntS_l1 : ACode :=
  (.seq (.seq (.reg [⟨none, .mov 11 (.t 5)⟩,
      ⟨none, .mov 12 (.t 0)⟩,
      ⟨none, .len 13 (.t 12)⟩,
      ⟨none, .bin 14 .lss (.t 11) (.t 13)⟩])
   (.drop [11, 12, 13] (.cond (.t 14) .skip
    (.exit 0))))
  (.drop [11, 12, 13, 14] (.seq (.block 1 (.seq (.dreg [(⟨none, .mov 17 (.t 0)⟩, []),
        (⟨none, .mov 18 (.t 5)⟩, [17]),
        (⟨none, .iad 19 1 (.t 17) (.t 18)⟩, []),
        (⟨none, .ld 20 1 false (.t 19)⟩, []),
        (⟨none, .mov 21 (.t 1)⟩, [17, 18, 19, 20]),
        (⟨none, .mov 22 (.t 5)⟩, [17, 18, 19, 20, 21]),
        (⟨none, .iad 23 1 (.t 21) (.t 22)⟩, [17, 18, 19, 20]),
        (⟨none, .ld 24 1 false (.t 23)⟩, [17, 18, 19, 20])]
       [⟨none, .bin 25 .neq (.t 20) (.t 24)⟩])
     (.drop [17, 18, 19, 20, 21, 22, 23, 24] (.cond (.t 25) (.seq (.reg [⟨none, .asg 4 (.c (.bool false))⟩])
       .ret)
      .skip))))
   (.drop [17, 18, 19, 20, 21, 22, 23, 24, 25] (.reg [⟨none, .mov 15 (.t 5)⟩,
      ⟨none, .bin 16 .add (.t 15) (.c (.int .i64 1))⟩,
      ⟨none, .asg 5 (.t 16)⟩])))))
def c_laws_eqIntS : ACode :=
  (.seq (.reg [⟨none, .asg 4 (.c (.bool false))⟩])
  (.seq (.seq (.reg [⟨none, .mov 6 (.t 0)⟩,
       ⟨none, .len 7 (.t 6)⟩,
       ⟨none, .mov 8 (.t 1)⟩,
       ⟨none, .len 9 (.t 8)⟩,
       ⟨none, .bin 10 .neq (.t 7) (.t 9)⟩])
    (.drop [6, 7, 8, 9] (.cond (.t 10) (.seq (.reg [⟨none, .asg 4 (.c (.bool false))⟩])
      .ret)
     .skip)))
   (.drop [6, 7, 8, 9, 10] (.seq (.seq (.reg [⟨none, .asg 5 (.c (.int .i64 0))⟩])
     (.block 0 (.loop c_laws_eqIntS_l1)))
    (.drop [5, 11, 12, 13, 14, 17, 18, 19, 20, 21, 22, 23, 24, 25, 15, 16] (.seq (.reg [⟨none, .asg 4 (.c (.bool true))⟩])
     .ret))))))
abbrev r_laws_eqIntS : List RS := [.t 4]
theorem k_laws_eqIntS : fitsF Tryd.prog f_laws_eqIntS 26 c_laws_eqIntS r_laws_eqIntS = true := by kernel_rfl

/- loop.example/g01078/spec.l1In: [x=0, a=1, b=2, x=3, a=4, b=5] -/
def c_spec_l1In : ACode :=
  (.seq (.reg [⟨none, .asg 6 (.c (.bool false))⟩])
  (.seq (.reg [⟨none, .mov 7 (.t 0)⟩,
      ⟨none, .mov 8 (.t 1)⟩,
      ⟨none, .bin 9 .geq (.t 7) (.t 8)⟩,
      ⟨none, .asg 10 (.t 9)⟩,
      ⟨some (10, true), .mov 11 (.t 0)⟩,
      ⟨some (10, true), .mov 12 (.t 2)⟩,
      ⟨some (10, true), .bin 13 .leq (.t 11) (.t 12)⟩,
      ⟨none, .pick 14 (.t 10) (.t 13) (.c (.bool false))⟩,
      ⟨none, .asg 6 (.t 14)⟩])
   (.drop [7, 8, 9, 10, 11, 12, 13, 14] .ret)))
abbrev r_spec_l1In : List RS := [.t 6]
theorem k_spec_l1In : fitsF Tryd.prog f_spec_l1In 15 c_spec_l1In r_spec_l1In = true := by kernel_rfl

/- (loop.example/g01078/impl.order).less: [o=0, x=1, y=2, o=3, x=4, y=5] -/
def c_impl_order_less : ACode :=
  (.seq (.reg [⟨none, .asg 6 (.c (.bool false))⟩])
  (.seq (.reg [⟨none, .mov 7 (.t 1)⟩,
      ⟨none, .mov 8 (.t 2)⟩,
      ⟨none, .bin 9 .neq (.t 7) (.t 8)⟩,
      ⟨none, .asg 10 (.t 9)⟩,
      ⟨some (10, true), .mov 11 (.t 0)⟩,
      ⟨some (10, true), .mov 12 (.t 1)⟩,
      ⟨some (10, true), .iad 13 1 (.t 11) (.t 12)⟩,
      ⟨some (10, true), .ld 14 1 false (.t 13)⟩,
      ⟨some (10, true), .mov 15 (.t 2)⟩,
      ⟨some (10, true), .iad 16 1 (.t 14) (.t 15)⟩,
      ⟨some (10, true), .ld 17 1 false (.t 16)⟩,
      ⟨none, .pick 18 (.t 10) (.t 17) (.c (.bool false))⟩,
      ⟨none, .asg 6 (.t 18)⟩])
   (.drop [7, 8, 9, 10, 11, 12, 13, 14, 15, 16, 17, 18] .ret)))
abbrev r_impl_order_less : List RS := [.t 6]
theorem k_impl_order_less : fitsF Tryd.prog f_impl_order_less 19 c_impl_order_less r_impl_order_less = true := by kernel_rfl

/- loop.example/g01078/laws.szIntSS: [a=0, left=1, a=2, left=3, i=5] -/
def c_laws_szIntSS_l1 : ACode :=
  (.seq (.seq (.reg [⟨none, .mov 12 (.t 5)⟩,
      ⟨none, .mov 13 (.t 0)⟩,
      ⟨none, .len 14 (.t 13)⟩,
      ⟨none, .bin 15 .lss (.t 12) (.t 14)⟩])
   (.drop [12, 13, 14] (.cond (.t 15) .skip
    (.exit 0))))
  (.drop [12, 13, 14, 15] (.seq (.block 1 (.seq (.reg [⟨none, .mov 18 (.t 0)⟩,
        ⟨none, .mov 19 (.t 5)⟩,
        ⟨none, .iad 20 1 (.t 18) (.t 19)⟩,
        ⟨none, .ld 21 1 false (.t 20)⟩,
        ⟨none, .mov 22 (.t 1)⟩,
        ⟨none, .call 23 f_laws_szIntS [((.t 21), false), ((.t 22), false)]⟩,
        ⟨none, .asg 1 (.t 23)⟩])
     (.drop [18, 19, 20, 21, 22, 23] (.seq (.reg [⟨none, .mov 24 (.t 1)⟩,
         ⟨none, .bin 25 .lss (.t 24) (.c (.int .i64 0))⟩])
      (.drop [24] (.cond (.t 25) (.seq (.reg [⟨none, .asg 4 (.c (.int .i64 (-1)))⟩])
        .ret)
       .skip))))))
   (.drop [18, 19, 20, 21, 22, 23, 24, 25] (.reg [⟨none, .mov 16 (.t 5)⟩,
      ⟨none, .bin 17 .add (.t 16) (.c (.int .i64 1))⟩,
      ⟨none, .asg 5 (.t 17)⟩])))))
def c_laws_szIntSS : ACode :=
  (.seq (.reg [⟨none, .asg 4 (.c (.int .i64 0))⟩])
  (.seq (.reg [⟨none, .mov 6 (.t 1)⟩,
      ⟨none, .mov 7 (.t 0)⟩,
      ⟨none, .len 8 (.t 7)⟩,
      ⟨none, .bin 9 .sub (.t 6) (.t 8)⟩,
      ⟨none, .asg 1 (.t 9)⟩])
   (.drop [6, 7, 8, 9] (.seq (.seq (.reg [⟨none, .mov 10 (.t 1)⟩,
        ⟨none, .bin 11 .lss (.t 10) (.c (.int .i64 0))⟩])
     (.drop [10] (.cond (.t 11) (.seq (.reg [⟨none, .asg 4 (.c (.int .i64 (-1)))⟩])
       .ret)
      .skip)))
    (.drop [10, 11] (.seq (.seq (.reg [⟨none, .asg 5 (.c (.int .i64 0))⟩])
      (.block 0 (.loop c_laws_szIntSS_l1)))
     (.drop [5, 12, 13, 14, 15, 18, 19, 20, 21, 22, 23, 24, 25, 16, 17] (.seq (.reg [⟨none, .mov 26 (.t 1)⟩,
         ⟨none, .asg 4 (.t 26)⟩])
      (.drop [26] .ret)))))))))
abbrev r_laws_szIntSS : List RS := [.t 4]
theorem k_laws_szIntSS : fitsF Tryd.prog f_laws_szIntSS 27 c_laws_szIntSS r_laws_szIntSS = true := by kernel_rfl

/- loop.example/g01078/laws.toIntSS: [a=0, a=1, out=3, i=4] -/
def c_laws_toIntSS_l1 : ACode :=
  (.seq (.seq (.reg [⟨none, .mov 8 (.t 4)⟩,
      ⟨none, .mov 9 (.t 0)⟩,
      ⟨none, .len 10 (.t 9)⟩,
      ⟨none, .bin 11 .lss (.t 8) (.t 10)⟩])
   (.drop [8, 9, 10] (.cond (.t 11) .skip
    (.exit 0))))
  (.drop [8, 9, 10, 11] (.seq (.block 1 (.reg [⟨none, .mov 14 (.t 3)⟩,
       ⟨none, .mov 15 (.t 4)⟩,
       ⟨none, .mov 16 (.t 0)⟩,
       ⟨none, .mov 17 (.t 4)⟩,
       ⟨none, .iad 18 1 (.t 16) (.t 17)⟩,
       ⟨none, .ld 19 1 false (.t 18)⟩,
       ⟨none, .call 20 f_laws_toIntS [((.t 19), false)]⟩,
       ⟨none, .iad 21 1 (.t 14) (.t 15)⟩,
       ⟨none, .st 1 (.t 21) (.t 20)⟩]))
   (.drop [14, 15, 16, 17, 18, 19, 20, 21] (.reg [⟨none, .mov 12 (.t 4)⟩,
      ⟨none, .bin 13 .add (.t 12) (.c (.int .i64 1))⟩,
      ⟨none, .asg 4 (.t 13)⟩])))))
def c_laws_toIntSS : ACode :=
  (.seq (.reg [⟨none, .asg 2 (.c (.nilsl 1))⟩])
  (.seq (.reg [⟨none, .mov 5 (.t 0)⟩,
      ⟨none, .len 6 (.t 5)⟩,
      ⟨none, .mk 7 1 (.nilsl 1) (.t 6)⟩,
      ⟨none, .asg 3 (.t 7)⟩])
   (.drop [5, 6, 7] (.seq (.seq (.reg [⟨none, .asg 4 (.c (.int .i64 0))⟩])
     (.block 0 (.loop c_laws_toIntSS_l1)))
    (.drop [4, 8, 9, 10, 11, 14, 15, 16, 17, 18, 19, 20, 21, 12, 13] (.seq (.reg [⟨none, .mov 22 (.t 3)⟩,
        ⟨none, .asg 2 (.t 22)⟩])
     (.drop [22] .ret)))))))
abbrev r_laws_toIntSS : List RS := [.t 2]
theorem k_laws_toIntSS : fitsF Tryd.prog f_laws_toIntSS 23 c_laws_toIntSS r_laws_toIntSS = true := by kernel_rfl

/- loop.example/g01078/impl.orderOf: [p=0, p=1, n=4, o=5, x=6, list=7, _=8, y=9] -/
def c_impl_orderOf_k1 : ACode :=
  (.seq (.reg [⟨none, .mov 25 (.t 7)⟩,
           ⟨none, .call 26 f_impl_rises [((.t 25), false)]⟩,
           ⟨none, .un 27 .not (.t 26)⟩,
           ⟨none, .asg 28 (.t 27)⟩,
           ⟨some (28, false), .mov 29 (.t 7)⟩,
           ⟨some (28, false), .mov 30 (.t 4)⟩,
           ⟨some (28, false), .call 31 f_impl_inSize [((.t 29), false), ((.t 30), false)]⟩,
           ⟨some (28, false), .un 32 .not (.t 31)⟩,
           ⟨none, .pick 33 (.t 28) (.c (.bool true)) (.t 32)⟩])
        (.drop [25, 26, 27, 28, 29, 30, 31, 32] (.cond (.t 33) (.seq (.reg [⟨none, .asg 2 (.c (.nilsl 1))⟩,
             ⟨none, .asg 3 (.c (.bool false))⟩])
          .ret)
         .skip)))
def c_impl_orderOf_l1 : ACode :=
  (.seq (.reg [⟨none, .bin 37 .lss (.t 36) (.t 35)⟩])
  (.seq (.cond (.t 37) .skip
    (.exit 2))
   (.seq (.block 3 (.seq (.reg [⟨none, .iad 38 1 (.t 34) (.t 36)⟩,
         ⟨none, .ld 39 1 false (.t 38)⟩,
         ⟨none, .asg 9 (.t 39)⟩])
      (.drop [38, 39] (.reg [⟨none, .mov 40 (.t 5)⟩,
         ⟨none, .mov 41 (.t 9)⟩,
         ⟨none, .iad 42 1 (.t 40) (.t 41)⟩,
         ⟨none, .ld 43 1 false (.t 42)⟩,
         ⟨none, .mov 44 (.t 6)⟩,
         ⟨none, .iad 45 1 (.t 43) (.t 44)⟩,
         ⟨none, .st 1 (.t 45) (.c (.bool true))⟩]))))
    (.drop [38, 39, 9, 40, 41, 42, 43, 44, 45] (.reg [⟨none, .bin 46 .add (.t 36) (.c (.int .i64 1))⟩,
       ⟨none, .asg 36 (.t 46)⟩])))))
def c_impl_orderOf_l2 : ACode :=
  (.seq (.reg [⟨none, .bin 21 .lss (.t 20) (.t 19)⟩])
  (.seq (.cond (.t 21) .skip
    (.exit 0))
   (.seq (.block 1 (.seq (.reg [⟨none, .mov 22 (.t 20)⟩,
         ⟨none, .iad 23 1 (.t 18) (.t 20)⟩,
         ⟨none, .ld 24 1 false (.t 23)⟩,
         ⟨none, .asg 6 (.t 22)⟩,
         ⟨none, .asg 7 (.t 24)⟩])
      (.drop [22, 23, 24] (.seq (.cut c_impl_orderOf_k1)
       (.drop [25, 26, 27, 28, 29, 30, 31, 32, 33] (.seq (.reg [⟨none, .mov 34 (.t 7)⟩,
           ⟨none, .len 35 (.t 34)⟩,
           ⟨none, .mov 36 (.c (.int .i64 0))⟩])
        (.block 2 (.loop c_impl_orderOf_l1))))))))
    (.drop [22, 23, 24, 6, 7, 25, 26, 27, 28, 29, 30, 31, 32, 33, 34, 35, 36, 37, 38, 39, 9, 40, 41, 42, 43, 44, 45, 46] (.reg [⟨none, .bin 47 .add (.t 20) (.c (.int .i64 1))⟩,
       ⟨none, .asg 20 (.t 47)⟩])))))
def c_impl_orderOf : ACode :=
  (.seq (.reg [⟨none, .box 1 (.t 0)⟩,
     ⟨none, .asg 2 (.c (.nilsl 1))⟩,
     ⟨none, .asg 3 (.c (.bool false))⟩])
  (.seq (.reg [⟨none, .fadr 10 0 (.t 1)⟩,
      ⟨none, .ld 11 1 false (.t 10)⟩,
      ⟨none, .len 12 (.t 11)⟩,
      ⟨none, .asg 4 (.t 12)⟩])
   (.drop [10, 11, 12] (.seq (.seq (.reg [⟨none, .mov 13 (.t 4)⟩,
        ⟨none, .bin 14 .gtr (.t 13) (.c (.int .i64 10))⟩])
     (.drop [13] (.cond (.t 14) (.seq (.reg [⟨none, .asg 2 (.c (.nilsl 1))⟩,
          ⟨none, .asg 3 (.c (.bool false))⟩])
       .ret)
      .skip)))
    (.drop [13, 14] (.seq (.reg [⟨none, .mov 15 (.t 4)⟩,
        ⟨none, .call 16 f_impl_newOrder [((.t 15), false)]⟩,
        ⟨none, .asg 5 (.t 16)⟩])
     (.drop [15, 16] (.seq (.seq (.reg [⟨none, .fadr 17 0 (.t 1)⟩,
          ⟨none, .ld 18 1 false (.t 17)⟩,
          ⟨none, .len 19 (.t 18)⟩,
          ⟨none, .mov 20 (.c (.int .i64 0))⟩])
       (.drop [17] (.block 0 (.loop c_impl_orderOf_l2))))
      (.drop [17, 18, 19, 20, 21, 22, 23, 24, 6, 7, 25, 26, 27, 28, 29, 30, 31, 32, 33, 34, 35, 36, 37, 38, 39, 9, 40, 41, 42, 43, 44, 45, 46, 47] (.seq (.reg [⟨none, .mov 48 (.t 5)⟩,
          ⟨none, .mov 49 (.t 5)⟩,
          ⟨none, .call 50 f_impl_order_isOrder [((.t 49), false)]⟩,
          ⟨none, .asg 2 (.t 48)⟩,
          ⟨none, .asg 3 (.t 50)⟩])
       (.drop [48, 49, 50] .ret)))))))))))
abbrev r_impl_orderOf : List RS := [.t 2, .t 3]
theorem k_impl_orderOf : fitsF Tryd.prog f_impl_orderOf 51 c_impl_orderOf r_impl_orderOf = true := by kernel_rfl

/- loop.example/g01078/laws.eqIntSS: [a=0, b=1, a=2, b=3, i=5] -/
def c_laws_eqIntSS_l1 : ACode :=
  (.seq (.seq (.reg [⟨none, .mov 11 (.t 5)⟩,
      ⟨none, .mov 12 (.t 0)⟩,
      ⟨none, .len 13 (.t 12)⟩,
      ⟨none, .bin 14 .lss (.t 11) (.t 13)⟩])
   (.drop [11, 12, 13] (.cond (.t 14) .skip
    (.exit 0))))
  (.drop [11, 12, 13, 14] (.seq (.block 1 (.seq (.dreg [(⟨none, .mov 17 (.t 0)⟩, []),
        (⟨none, .mov 18 (.t 5)⟩, [17]),
        (⟨none, .iad 19 1 (.t 17) (.t 18)⟩, []),
        (⟨none, .ld 20 1 false (.t 19)⟩, []),
        (⟨none, .mov 21 (.t 1)⟩, [17, 18, 19, 20]),
        (⟨none, .mov 22 (.t 5)⟩, [17, 18, 19, 20, 21]),
        (⟨none, .iad 23 1 (.t 21) (.t 22)⟩, [17, 18, 19, 20]),
        (⟨none, .ld 24 1 false (.t 23)⟩, [17, 18, 19, 20])]
       [⟨none, .call 25 f_laws_eqIntS [((.t 20), false), ((.t 24), false)]⟩,
        ⟨none, .un 26 .not (.t 25)⟩])
     (.drop [17, 18, 19, 20, 21, 22, 23, 24, 25] (.cond (.t 26) (.seq (.reg [⟨none, .asg 4 (.c (.bool false))⟩])
       .ret)
      .skip))))
   (.drop [17, 18, 19, 20, 21, 22, 23, 24, 25, 26] (.reg [⟨none, .mov 15 (.t 5)⟩,
      ⟨none, .bin 16 .add (.t 15) (.c (.int .i64 1))⟩,
      ⟨none, .asg 5 (.t 16)⟩])))))
def c_laws_eqIntSS : ACode :=
  (.seq (.reg [⟨none, .asg 4 (.c (.bool false))⟩])
  (.seq (.seq (.reg [⟨none, .mov 6 (.t 0)⟩,
       ⟨none, .len 7 (.t 6)⟩,
       ⟨none, .mov 8 (.t 1)⟩,
       ⟨none, .len 9 (.t 8)⟩,
       ⟨none, .bin 10 .neq (.t 7) (.t 9)⟩])
    (.drop [6, 7, 8, 9] (.cond (.t 10) (.seq (.reg [⟨none, .asg 4 (.c (.bool false))⟩])
      .ret)
     .skip)))
   (.drop [6, 7, 8, 9, 10] (.seq (.seq (.reg [⟨none, .asg 5 (.c (.int .i64 0))⟩])
     (.block 0 (.loop c_laws_eqIntSS_l1)))
    (.drop [5, 11, 12, 13, 14, 17, 18, 19, 20, 21, 22, 23, 24, 25, 26, 15, 16] (.seq (.reg [⟨none, .asg 4 (.c (.bool true))⟩])
     .ret))))))
abbrev r_laws_eqIntSS : List RS := [.t 4]
theorem k_laws_eqIntSS : fitsF Tryd.prog f_laws_eqIntSS 27 c_laws_eqIntSS r_laws_eqIntSS = true := by kernel_rfl

/- loop.example/g01078/spec.l1Rising: [l=0, lo=1, hi=2, l=3, lo=4, hi=5, i=7] -/
def c_spec_l1Rising_l1 : ACode :=
  (.seq (.seq (.reg [⟨none, .mov 8 (.t 7)⟩,
      ⟨none, .mov 9 (.t 0)⟩,
      ⟨none, .len 10 (.t 9)⟩,
      ⟨none, .bin 11 .lss (.t 8) (.t 10)⟩])
   (.drop [8, 9, 10] (.cond (.t 11) .skip
    (.exit 0))))
  (.drop [8, 9, 10, 11] (.seq (.block 1 (.seq (.dreg [(⟨none, .mov 14 (.t 0)⟩, []),
        (⟨none, .mov 15 (.t 7)⟩, [14]),
        (⟨none, .iad 16 1 (.t 14) (.t 15)⟩, []),
        (⟨none, .ld 17 1 false (.t 16)⟩, []),
        (⟨none, .mov 18 (.t 1)⟩, [14, 15, 16, 17]),
        (⟨none, .mov 19 (.t 2)⟩, [14, 15, 16, 17, 18]),
        (⟨none, .call 20 f_spec_l1In [((.t 17), false), ((.t 18), false), ((.t 19), false)]⟩, []),
        (⟨none, .un 21 .not (.t 20)⟩, []),
        (⟨none, .asg 22 (.t 21)⟩, []),
        (⟨some (22, false), .mov 23 (.t 7)⟩, [21]),
        (⟨some (22, false), .bin 24 .gtr (.t 23) (.c (.int .i64 0))⟩, [21]),
        (⟨some (22, false), .asg 25 (.t 24)⟩, [21]),
        (⟨some (25, true), .mov 26 (.t 0)⟩, [21, 24]),
        (⟨some (25, true), .mov 27 (.t 7)⟩, [26, 21, 24]),
        (⟨some (25, true), .bin 28 .sub (.t 27) (.c (.int .i64 1))⟩, [26, 21, 24]),
        (⟨some (25, true), .iad 29 1 (.t 26) (.t 28)⟩, [21, 24]),
        (⟨some (25, true), .ld 30 1 false (.t 29)⟩, [21, 24]),
        (⟨some (25, true), .mov 31 (.t 0)⟩, [26, 27, 28, 29, 30, 21, 24]),
        (⟨some (25, true), .mov 32 (.t 7)⟩, [26, 27, 28, 29, 30, 31, 21, 24]),
        (⟨some (25, true), .iad 33 1 (.t 31) (.t 32)⟩, [26, 27, 28, 29, 30, 21, 24]),
        (⟨some (25, true), .ld 34 1 false (.t 33)⟩, [26, 27, 28, 29, 30, 21, 24])]
       [⟨some (25, true), .bin 35 .geq (.t 30) (.t 34)⟩,
        ⟨some (22, false), .pick 36 (.t 25) (.t 35) (.c (.bool false))⟩,
        ⟨none, .pick 37 (.t 22) (.c (.bool true)) (.t 36)⟩])
     (.drop [14, 15, 16, 17, 18, 19, 20, 21, 22, 23, 24, 25, 26, 27, 28, 29, 30, 31, 32, 33, 34, 35, 36] (.cond (.t 37) (.seq (.reg [⟨none, .asg 6 (.c (.bool false))⟩])
       .ret)
      .skip))))
   (.drop [14, 15, 16, 17, 18, 19, 20, 21, 22, 23, 24, 25, 26, 27, 28, 29, 30, 31, 32, 33, 34, 35, 36, 37] (.reg [⟨none, .mov 12 (.t 7)⟩,
      ⟨none, .bin 13 .add (.t 12) (.c (.int .i64 1))⟩,
      ⟨none, .asg 7 (.t 13)⟩])))))
def c_spec_l1Rising : ACode :=
  (.seq (.reg [⟨none, .asg 6 (.c (.bool false))⟩])
  (.seq (.seq (.reg [⟨none, .asg 7 (.c (.int .i64 0))⟩])
    (.block 0 (.loop c_spec_l1Rising_l1)))
   (.drop [7, 8, 9, 10, 11, 14, 15, 16, 17, 18, 19, 20, 21, 22, 23, 24, 25, 26, 27, 28, 29, 30, 31, 32, 33, 34, 35, 36, 37, 12, 13] (.seq (.reg [⟨none, .asg 6 (.c (.bool true))⟩])
    .ret))))
abbrev r_spec_l1Rising : List RS := [.t 6]
theorem k_spec_l1Rising : fitsF Tryd.prog f_spec_l1Rising 38 c_spec_l1Rising r_spec_l1Rising = true := by kernel_rfl

/- loop.example/g01078/spec.l5Within: [x=0, y=1, x=2, y=3, i=5] -/
def c_spec_l5Within_l1 : ACode :=
  (.seq (.seq (.reg [⟨none, .mov 6 (.t 5)⟩,
      ⟨none, .mov 7 (.t 0)⟩,
      ⟨none, .len 8 (.t 7)⟩,
      ⟨none, .bin 9 .lss (.t 6) (.t 8)⟩])
   (.drop [6, 7, 8] (.cond (.t 9) .skip
    (.exit 0))))
  (.drop [6, 7, 8, 9] (.seq (.block 1 (.seq (.reg [⟨none, .mov 12 (.t 1)⟩,
        ⟨none, .mov 13 (.t 0)⟩,
        ⟨none, .mov 14 (.t 5)⟩,
        ⟨none, .iad 15 1 (.t 13) (.t 14)⟩,
        ⟨none, .ld 16 1 false (.t 15)⟩,
        ⟨none, .call 17 f_spec_l1Has [((.t 12), false), ((.t 16), false)]⟩,
        ⟨none, .un 18 .not (.t 17)⟩])
     (.drop [12, 13, 14, 15, 16, 17] (.cond (.t 18) (.seq (.reg [⟨none, .asg 4 (.c (.bool false))⟩])
       .ret)
      .skip))))
   (.drop [12, 13, 14, 15, 16, 17, 18] (.reg [⟨none, .mov 10 (.t 5)⟩,
      ⟨none, .bin 11 .add (.t 10) (.c (.int .i64 1))⟩,
      ⟨none, .asg 5 (.t 11)⟩])))))
def c_spec_l5Within : ACode :=
  (.seq (.reg [⟨none, .asg 4 (.c (.bool false))⟩])
  (.seq (.seq (.reg [⟨none, .asg 5 (.c (.int .i64 0))⟩])
    (.block 0 (.loop c_spec_l5Within_l1)))
   (.drop [5, 6, 7, 8, 9, 12, 13, 14, 15, 16, 17, 18, 10, 11] (.seq (.reg [⟨none, .asg 4 (.c (.bool true))⟩])
    .ret))))
abbrev r_spec_l5Within : List RS := [.t 4]
theorem k_spec_l5Within : fitsF Tryd.prog f_spec_l5Within 19 c_spec_l5Within r_spec_l5Within = true := by kernel_rfl

/- (loop.example/g01078/impl.order).covers: [o=0, x=1, y=2, o=3, x=4, y=5, z=7] -/
def c_impl_order_covers_l1 : ACode :=
  (.seq (.reg [⟨none, .bin 16 .lss (.t 15) (.t 14)⟩])
  (.seq (.cond (.t 16) .skip
    (.exit 0))
   (.seq (.block 1 (.seq (.reg [⟨none, .mov 17 (.t 15)⟩,
         ⟨none, .asg 7 (.t 17)⟩])
      (.drop [17] (.seq (.reg [⟨none, .mov 18 (.t 0)⟩,
          ⟨none, .mov 19 (.t 1)⟩,
          ⟨none, .mov 20 (.t 7)⟩,
          ⟨none, .call 21 f_impl_order_less [((.t 18), false), ((.t 19), false), ((.t 20), false)]⟩,
          ⟨none, .asg 22 (.t 21)⟩,
          ⟨some (22, true), .mov 23 (.t 0)⟩,
          ⟨some (22, true), .mov 24 (.t 7)⟩,
          ⟨some (22, true), .mov 25 (.t 2)⟩,
          ⟨some (22, true), .call 26 f_impl_order_less [((.t 23), false), ((.t 24), false), ((.t 25), false)]⟩,
          ⟨none, .pick 27 (.t 22) (.t 26) (.c (.bool false))⟩])
       (.drop [18, 19, 20, 21, 22, 23, 24, 25, 26] (.cond (.t 27) (.seq (.reg [⟨none, .asg 6 (.c (.bool false))⟩])
         .ret)
        .skip))))))
    (.drop [17, 7, 18, 19, 20, 21, 22, 23, 24, 25, 26, 27] (.reg [⟨none, .bin 28 .add (.t 15) (.c (.int .i64 1))⟩,
       ⟨none, .asg 15 (.t 28)⟩])))))
def c_impl_order_covers : ACode :=
  (.seq (.reg [⟨none, .asg 6 (.c (.bool false))⟩])
  (.seq (.seq (.reg [⟨none, .mov 8 (.t 0)⟩,
       ⟨none, .mov 9 (.t 1)⟩,
       ⟨none, .mov 10 (.t 2)⟩,
       ⟨none, .call 11 f_impl_order_less [((.t 8), false), ((.t 9), false), ((.t 10), false)]⟩,
       ⟨none, .un 12 .not (.t 11)⟩])
    (.drop [8, 9, 10, 11] (.cond (.t 12) (.seq (.reg [⟨none, .asg 6 (.c (.bool false))⟩])
      .ret)
     .skip)))
   (.drop [8, 9, 10, 11, 12] (.seq (.seq (.reg [⟨none, .mov 13 (.t 0)⟩,
        ⟨none, .len 14 (.t 13)⟩,
        ⟨none, .mov 15 (.c (.int .i64 0))⟩])
     (.drop [13] (.block 0 (.loop c_impl_order_covers_l1))))
    (.drop [13, 14, 15, 16, 17, 7, 18, 19, 20, 21, 22, 23, 24, 25, 26, 27, 28] (.seq (.reg [⟨none, .asg 6 (.c (.bool true))⟩])
     .ret))))))
abbrev r_impl_order_covers : List RS := [.t 6]
theorem k_impl_order_covers : fitsF Tryd.prog f_impl_order_covers 29 c_impl_order_covers r_impl_order_covers = true := by kernel_rfl

/- loop.example/g01078/spec.l23Leq: [p=0, x=1, y=2, p=3, x=4, y=5] -/
def c_spec_l23Leq : ACode :=
  (.seq (.reg [⟨none, .box 3 (.t 0)⟩,
     ⟨none, .asg 6 (.c (.bool false))⟩])
  (.seq (.reg [⟨none, .fadr 7 0 (.t 3)⟩,
      ⟨none, .ld 8 1 false (.t 7)⟩,
      ⟨none, .mov 9 (.t 2)⟩,
      ⟨none, .iad 10 1 (.t 8) (.t 9)⟩,
      ⟨none, .ld 11 1 false (.t 10)⟩,
      ⟨none, .mov 12 (.t 1)⟩,
      ⟨none, .call 13 f_spec_l1Has [((.t 11), false), ((.t 12), false)]⟩,
      ⟨none, .asg 6 (.t 13)⟩])
   (.drop [7, 8, 9, 10, 11, 12, 13] .ret)))
abbrev r_spec_l23Leq : List RS := [.t 6]
theorem k_spec_l23Leq : fitsF Tryd.prog f_spec_l23Leq 14 c_spec_l23Leq r_spec_l23Leq = true := by kernel_rfl

/- loop.example/g01078/laws.szPoset: [a=0, left=1, a=2, left=3] -/
def c_laws_szPoset : ACode :=
  (.seq (.reg [⟨none, .box 2 (.t 0)⟩,
     ⟨none, .asg 4 (.c (.int .i64 0))⟩])
  (.seq (.reg [⟨none, .fadr 5 0 (.t 2)⟩,
      ⟨none, .ld 6 1 false (.t 5)⟩,
      ⟨none, .mov 7 (.t 1)⟩,
      ⟨none, .call 8 f_laws_szIntSS [((.t 6), false), ((.t 7), false)]⟩,
      ⟨none, .asg 1 (.t 8)⟩])
   (.drop [5, 6, 7, 8] (.seq (.seq (.reg [⟨none, .mov 9 (.t 1)⟩,
        ⟨none, .bin 10 .lss (.t 9) (.c (.int .i64 0))⟩])
     (.drop [9] (.cond (.t 10) (.seq (.reg [⟨none, .asg 4 (.c (.int .i64 (-1)))⟩])
       .ret)
      .skip)))
    (.drop [9, 10] (.seq (.reg [⟨none, .mov 11 (.t 1)⟩,
        ⟨none, .asg 4 (.t 11)⟩])
     (.drop [11] .ret)))))))
abbrev r_laws_szPoset : List RS := [.t 4]
theorem k_laws_szPoset : fitsF Tryd.prog f_laws_szPoset 12 c_laws_szPoset r_laws_szPoset = true := by kernel_rfl

/- loop.example/g01078/laws.toPoset: [a=0, a=1, out=3] -/
def c_laws_toPoset : ACode :=
  (.seq (.reg [⟨none, .box 1 (.t 0)⟩,
     ⟨none, .alc 2 (.agg [.nilsl 1])⟩])
  (.seq (.reg [⟨none, .alc 3 (.agg [.nilsl 1])⟩])
   (.seq (.reg [⟨none, .fadr 4 0 (.t 1)⟩,
       ⟨none, .ld 5 1 false (.t 4)⟩,
       ⟨none, .call 6 f_laws_toIntSS [((.t 5), false)]⟩,
       ⟨none, .fadr 7 0 (.t 3)⟩,
       ⟨none, .st 1 (.t 7) (.t 6)⟩])
    (.drop [4, 5, 6, 7] (.seq (.reg [⟨none, .ld 8 1 true (.t 3)⟩,
        ⟨none, .st 1 (.t 2) (.t 8)⟩])
     (.drop [8] .ret))))))
abbrev r_laws_toPoset : List RS := [.c 2 1 true]
theorem k_laws_toPoset : fitsF Tryd.prog f_laws_toPoset 9 c_laws_toPoset r_laws_toPoset = true := by kernel_rfl

/- loop.example/g01078/laws.eqPoset: [a=0, b=1, a=2, b=3] -/
def c_laws_eqPoset : ACode :=
  (.seq (.reg [⟨none, .box 2 (.t 0)⟩,
     ⟨none, .box 3 (.t 1)⟩,
     ⟨none, .asg 4 (.c (.bool false))⟩])
  (.seq (.seq (.reg [⟨none, .fadr 5 0 (.t 2)⟩,
       ⟨none, .ld 6 1 false (.t 5)⟩,
       ⟨none, .fadr 7 0 (.t 3)⟩,
       ⟨none, .ld 8 1 false (.t 7)⟩,
       ⟨none, .call 9 f_laws_eqIntSS [((.t 6), false), ((.t 8), false)]⟩,
       ⟨none, .un 10 .not (.t 9)⟩])
    (.drop [5, 6, 7, 8, 9] (.cond (.t 10) (.seq (.reg [⟨none, .asg 4 (.c (.bool false))⟩])
      .ret)
     .skip)))
   (.drop [5, 6, 7, 8, 9, 10] (.seq (.reg [⟨none, .asg 4 (.c (.bool true))⟩])
    .ret))))
abbrev r_laws_eqPoset : List RS := [.t 4]
theorem k_laws_eqPoset : fitsF Tryd.prog f_laws_eqPoset 11 c_laws_eqPoset r_laws_eqPoset = true := by kernel_rfl

/- loop.example/g01078/spec.l23Good: [p=0, p=1, n=3, x=4, x=5, i=6, y=7] -/
def c_spec_l23Good_l1 : ACode :=
  (.seq (.seq (.reg [⟨none, .mov 13 (.t 4)⟩,
      ⟨none, .mov 14 (.t 3)⟩,
      ⟨none, .bin 15 .lss (.t 13) (.t 14)⟩])
   (.drop [13, 14] (.cond (.t 15) .skip
    (.exit 0))))
  (.drop [13, 14, 15] (.seq (.block 1 (.seq (.reg [⟨none, .fadr 18 0 (.t 1)⟩,
        ⟨none, .ld 19 1 false (.t 18)⟩,
        ⟨none, .mov 20 (.t 4)⟩,
        ⟨none, .iad 21 1 (.t 19) (.t 20)⟩,
        ⟨none, .ld 22 1 false (.t 21)⟩,
        ⟨none, .mov 23 (.t 3)⟩,
        ⟨none, .bin 24 .sub (.t 23) (.c (.int .i64 1))⟩,
        ⟨none, .call 25 f_spec_l1Rising [((.t 22), false), ((.c (.int .i64 0)), false), ((.t 24), false)]⟩,
        ⟨none, .un 26 .not (.t 25)⟩,
        ⟨none, .asg 27 (.t 26)⟩,
        ⟨some (27, false), .fadr 28 0 (.t 1)⟩,
        ⟨some (27, false), .ld 29 1 false (.t 28)⟩,
        ⟨some (27, false), .mov 30 (.t 4)⟩,
        ⟨some (27, false), .iad 31 1 (.t 29) (.t 30)⟩,
        ⟨some (27, false), .ld 32 1 false (.t 31)⟩,
        ⟨some (27, false), .mov 33 (.t 4)⟩,
        ⟨some (27, false), .call 34 f_spec_l1Has [((.t 32), false), ((.t 33), false)]⟩,
        ⟨some (27, false), .un 35 .not (.t 34)⟩,
        ⟨none, .pick 36 (.t 27) (.c (.bool true)) (.t 35)⟩])
     (.drop [18, 19, 20, 21, 22, 23, 24, 25, 26, 27, 28, 29, 30, 31, 32, 33, 34, 35] (.cond (.t 36) (.seq (.reg [⟨none, .asg 2 (.c (.bool false))⟩])
       .ret)
      .skip))))
   (.drop [18, 19, 20, 21, 22, 23, 24, 25, 26, 27, 28, 29, 30, 31, 32, 33, 34, 35, 36] (.reg [⟨none, .mov 16 (.t 4)⟩,
      ⟨none, .bin 17 .add (.t 16) (.c (.int .i64 1))⟩,
      ⟨none, .asg 4 (.t 17)⟩])))))
def c_spec_l23Good_l2 : ACode :=
  (.seq (.seq (.reg [⟨none, .mov 42 (.t 6)⟩,
      ⟨none, .fadr 43 0 (.t 1)⟩,
      ⟨none, .ld 44 1 false (.t 43)⟩,
      ⟨none, .mov 45 (.t 5)⟩,
      ⟨none, .iad 46 1 (.t 44) (.t 45)⟩,
      ⟨none, .ld 47 1 false (.t 46)⟩,
      ⟨none, .len 48 (.t 47)⟩,
      ⟨none, .bin 49 .lss (.t 42) (.t 48)⟩])
   (.drop [42, 43, 44, 45, 46, 47, 48] (.cond (.t 49) .skip
    (.exit 4))))
  (.drop [42, 43, 44, 45, 46, 47, 48, 49] (.seq (.block 5 (.seq (.reg [⟨none, .fadr 52 0 (.t 1)⟩,
        ⟨none, .ld 53 1 false (.t 52)⟩,
        ⟨none, .mov 54 (.t 5)⟩,
        ⟨none, .iad 55 1 (.t 53) (.t 54)⟩,
        ⟨none, .ld 56 1 false (.t 55)⟩,
        ⟨none, .mov 57 (.t 6)⟩,
        ⟨none, .iad 58 1 (.t 56) (.t 57)⟩,
        ⟨none, .ld 59 1 false (.t 58)⟩,
        ⟨none, .asg 7 (.t 59)⟩])
     (.drop [52, 53, 54, 55, 56, 57, 58, 59] (.seq (.dreg [(⟨none, .mov 60 (.t 7)⟩, []),
         (⟨none, .mov 61 (.t 5)⟩, [60]),
         (⟨none, .bin 62 .neq (.t 60) (.t 61)⟩, []),
         (⟨none, .asg 63 (.t 62)⟩, []),
         (⟨some (63, true), .fadr 64 0 (.t 1)⟩, [62]),
         (⟨some (63, true), .ld 65 1 false (.t 64)⟩, [62]),
         (⟨some (63, true), .mov 66 (.t 7)⟩, [64, 65, 62]),
         (⟨some (63, true), .iad 67 1 (.t 65) (.t 66)⟩, [62]),
         (⟨some (63, true), .ld 68 1 false (.t 67)⟩, [62]),
         (⟨some (63, true), .mov 69 (.t 5)⟩, [64, 65, 66, 67, 68, 62]),
         (⟨some (63, true), .call 70 f_spec_l1Has [((.t 68), false), ((.t 69), false)]⟩, [62]),
         (⟨none, .pick 71 (.t 63) (.t 70) (.c (.bool false))⟩, [62]),
         (⟨none, .asg 72 (.t 71)⟩, [62]),
         (⟨some (72, false), .fadr 73 0 (.t 1)⟩, [62, 71]),
         (⟨some (72, false), .ld 74 1 false (.t 73)⟩, [62, 71]),
         (⟨some (72, false), .mov 75 (.t 7)⟩, [73, 74, 62, 71]),
         (⟨some (72, false), .iad 76 1 (.t 74) (.t 75)⟩, [62, 71]),
         (⟨some (72, false), .ld 77 1 false (.t 76)⟩, [62, 71]),
         (⟨some (72, false), .fadr 78 0 (.t 1)⟩, [73, 74, 75, 76, 77, 62, 71]),
         (⟨some (72, false), .ld 79 1 false (.t 78)⟩, [73, 74, 75, 76, 77, 62, 71]),
         (⟨some (72, false), .mov 80 (.t 5)⟩, [73, 74, 75, 76, 77, 78, 79, 62, 71]),
         (⟨some (72, false), .iad 81 1 (.t 79) (.t 80)⟩, [73, 74, 75, 76, 77, 62, 71]),
         (⟨some (72, false), .ld 82 1 false (.t 81)⟩, [73, 74, 75, 76, 77, 62, 71])]
        [⟨some (72, false), .call 83 f_spec_l5Within [((.t 77), false), ((.t 82), false)]⟩,
         ⟨some (72, false), .un 84 .not (.t 83)⟩,
         ⟨none, .pick 85 (.t 72) (.c (.bool true)) (.t 84)⟩])
      (.drop [60, 61, 62, 63, 64, 65, 66, 67, 68, 69, 70, 71, 72, 73, 74, 75, 76, 77, 78, 79, 80, 81, 82, 83, 84] (.cond (.t 85) (.seq (.reg [⟨none, .asg 2 (.c (.bool false))⟩])
        .ret)
       .skip))))))
   (.drop [52, 53, 54, 55, 56, 57, 58, 59, 7, 60, 61, 62, 63, 64, 65, 66, 67, 68, 69, 70, 71, 72, 73, 74, 75, 76, 77, 78, 79, 80, 81, 82, 83, 84, 85] (.reg [⟨none, .mov 50 (.t 6)⟩,
      ⟨none, .bin 51 .add (.t 50) (.c (.int .i64 1))⟩,
      ⟨none, .asg 6 (.t 51)⟩])))))
def c_spec_l23Good_l3 : ACode :=
  (.seq (.seq (.reg [⟨none, .mov 37 (.t 5)⟩,
      ⟨none, .mov 38 (.t 3)⟩,
      ⟨none, .bin 39 .lss (.t 37) (.t 38)⟩])
   (.drop [37, 38] (.cond (.t 39) .skip
    (.exit 2))))
  (.drop [37, 38, 39] (.seq (.block 3 (.seq (.reg [⟨none, .asg 6 (.c (.int .i64 0))⟩])
     (.block 4 (.loop c_spec_l23Good_l2))))
   (.drop [6, 42, 43, 44, 45, 46, 47, 48, 49, 52, 53, 54, 55, 56, 57, 58, 59, 7, 60, 61, 62, 63, 64, 65, 66, 67, 68, 69, 70, 71, 72, 73, 74, 75, 76, 77, 78, 79, 80, 81, 82, 83, 84, 85, 50, 51] (.reg [⟨none, .mov 40 (.t 5)⟩,
      ⟨none, .bin 41 .add (.t 40) (.c (.int .i64 1))⟩,
      ⟨none, .asg 5 (.t 41)⟩])))))
def c_spec_l23Good : ACode :=
  (.seq (.reg [⟨none, .box 1 (.t 0)⟩,
     ⟨none, .asg 2 (.c (.bool false))⟩])
  (.seq (.reg [⟨none, .fadr 8 0 (.t 1)⟩,
      ⟨none, .ld 9 1 false (.t 8)⟩,
      ⟨none, .len 10 (.t 9)⟩,
      ⟨none, .asg 3 (.t 10)⟩])
   (.drop [8, 9, 10] (.seq (.seq (.reg [⟨none, .mov 11 (.t 3)⟩,
        ⟨none, .bin 12 .gtr (.t 11) (.c (.int .i64 10))⟩])
     (.drop [11] (.cond (.t 12) (.seq (.reg [⟨none, .asg 2 (.c (.bool false))⟩])
       .ret)
      .skip)))
    (.drop [11, 12] (.seq (.seq (.reg [⟨none, .asg 4 (.c (.int .i64 0))⟩])
      (.block 0 (.loop c_spec_l23Good_l1)))
     (.drop [4, 13, 14, 15, 18, 19, 20, 21, 22, 23, 24, 25, 26, 27, 28, 29, 30, 31, 32, 33, 34, 35, 36, 16, 17] (.seq (.seq (.reg [⟨none, .asg 5 (.c (.int .i64 0))⟩])
       (.block 2 (.loop c_spec_l23Good_l3)))
      (.drop [5, 37, 38, 39, 6, 42, 43, 44, 45, 46, 47, 48, 49, 52, 53, 54, 55, 56, 57, 58, 59, 7, 60, 61, 62, 63, 64, 65, 66, 67, 68, 69, 70, 71, 72, 73, 74, 75, 76, 77, 78, 79, 80, 81, 82, 83, 84, 85, 50, 51, 40, 41] (.seq (.reg [⟨none, .asg 2 (.c (.bool true))⟩])
       .ret))))))))))
abbrev r_spec_l23Good : List RS := [.t 2]
theorem k_spec_l23Good : fitsF Tryd.prog f_spec_l23Good 86 c_spec_l23Good r_spec_l23Good = true := by kernel_rfl

/- (loop.example/g01078/impl.order).coverPairs: [o=0, o=1, list=3, x=4, y=5] -/
def c_impl_order_coverPairs_l1 : ACode :=
  (.seq (.reg [⟨none, .bin 15 .lss (.t 14) (.t 13)⟩])
  (.seq (.cond (.t 15) .skip
    (.exit 2))
   (.seq (.block 3 (.seq (.reg [⟨none, .mov 16 (.t 14)⟩,
         ⟨none, .asg 5 (.t 16)⟩])
      (.drop [16] (.seq (.reg [⟨none, .mov 17 (.t 0)⟩,
          ⟨none, .mov 18 (.t 4)⟩,
          ⟨none, .mov 19 (.t 5)⟩,
          ⟨none, .call 20 f_impl_order_covers [((.t 17), false), ((.t 18), false), ((.t 19), false)]⟩])
       (.drop [17, 18, 19] (.cond (.t 20) (.reg [⟨none, .mov 21 (.t 3)⟩,
           ⟨none, .mov 22 (.t 4)⟩,
           ⟨none, .mov 23 (.t 5)⟩,
           ⟨none, .bld 24 [.int .i64 0, .int .i64 0] [(0, 1, (.t 22)), (1, 1, (.t 23))]⟩,
           ⟨none, .bsl 25 2 [(.t 24)]⟩,
           ⟨none, .app 26 2 (.t 21) (.t 25)⟩,
           ⟨none, .asg 3 (.t 26)⟩])
        .skip))))))
    (.drop [16, 5, 17, 18, 19, 20, 21, 22, 23, 24, 25, 26] (.reg [⟨none, .bin 27 .add (.t 14) (.c (.int .i64 1))⟩,
       ⟨none, .asg 14 (.t 27)⟩])))))
def c_impl_order_coverPairs_l2 : ACode :=
  (.seq (.reg [⟨none, .bin 10 .lss (.t 9) (.t 8)⟩])
  (.seq (.cond (.t 10) .skip
    (.exit 0))
   (.seq (.block 1 (.seq (.reg [⟨none, .mov 11 (.t 9)⟩,
         ⟨none, .asg 4 (.t 11)⟩])
      (.drop [11] (.seq (.reg [⟨none, .mov 12 (.t 0)⟩,
          ⟨none, .len 13 (.t 12)⟩,
          ⟨none, .mov 14 (.c (.int .i64 0))⟩])
       (.drop [12] (.block 2 (.loop c_impl_order_coverPairs_l1)))))))
    (.drop [11, 4, 12, 13, 14, 15, 16, 5, 17, 18, 19, 20, 21, 22, 23, 24, 25, 26, 27] (.reg [⟨none, .bin 28 .add (.t 9) (.c (.int .i64 1))⟩,
       ⟨none, .asg 9 (.t 28)⟩])))))
def c_impl_order_coverPairs : ACode :=
  (.seq (.reg [⟨none, .asg 2 (.c (.nilsl 2))⟩])
  (.seq (.reg [⟨none, .bsl 6 2 []⟩,
      ⟨none, .asg 3 (.t 6)⟩])
   (.drop [6] (.seq (.seq (.reg [⟨none, .mov 7 (.t 0)⟩,
        ⟨none, .len 8 (.t 7)⟩,
        ⟨none, .mov 9 (.c (.int .i64 0))⟩])
     (.drop [7] (.block 0 (.loop c_impl_order_coverPairs_l2))))
    (.drop [7, 8, 9, 10, 11, 4, 12, 13, 14, 15, 16, 5, 17, 18, 19, 20, 21, 22, 23, 24, 25, 26, 27, 28] (.seq (.reg [⟨none, .mov 29 (.t 3)⟩,
        ⟨none, .asg 2 (.t 29)⟩])
     (.drop [29] .ret)))))))
abbrev r_impl_order_coverPairs : List RS := [.t 2]
theorem k_impl_order_coverPairs : fitsF Tryd.prog f_impl_order_coverPairs 30 c_impl_order_coverPairs r_impl_order_coverPairs = true := by kernel_rfl

/- loop.example/g01078/spec.l23Less: [p=0, x=1, y=2, p=3, x=4, y=5] -/
def c_spec_l23Less : ACode :=
  (.seq (.reg [⟨none, .box 3 (.t 0)⟩,
     ⟨none, .asg 6 (.c (.bool false))⟩])
  (.seq (.reg [⟨none, .mov 7 (.t 1)⟩,
      ⟨none, .mov 8 (.t 2)⟩,
      ⟨none, .bin 9 .neq (.t 7) (.t 8)⟩,
      ⟨none, .asg 10 (.t 9)⟩,
      ⟨some (10, true), .ld 11 1 true (.t 3)⟩,
      ⟨some (10, true), .mov 12 (.t 1)⟩,
      ⟨some (10, true), .mov 13 (.t 2)⟩,
      ⟨some (10, true), .call 14 f_spec_l23Leq [((.t 11), false), ((.t 12), false), ((.t 13), false)]⟩,
      ⟨none, .pick 15 (.t 10) (.t 14) (.c (.bool false))⟩,
      ⟨none, .asg 6 (.t 15)⟩])
   (.drop [7, 8, 9, 10, 11, 12, 13, 14, 15] .ret)))
abbrev r_spec_l23Less : List RS := [.t 6]
theorem k_spec_l23Less : fitsF Tryd.prog f_spec_l23Less 16 c_spec_l23Less r_spec_l23Less = true := by kernel_rfl

/- loop.example/g01078/impl.PosetText: [p=0, p=1, o=4, ok=5, b=6, _=7, pair=8] -/
def c_impl_PosetText_l1 : ACode :=
  (.seq (.reg [⟨none, .bin 24 .lss (.t 23) (.t 22)⟩])
  (.seq (.cond (.t 24) .skip
    (.exit 0))
   (.seq (.block 1 (.seq (.reg [⟨none, .iad 25 2 (.t 21) (.t 23)⟩,
         ⟨none, .ld 26 2 true (.t 25)⟩,
         ⟨none, .alc 8 (.agg [.int .i64 0, .int .i64 0])⟩,
         ⟨none, .st 2 (.t 8) (.t 26)⟩])
      (.drop [25, 26] (.dreg [(⟨none, .aad 27 1 2 (.t 8) (.c (.int .i64 0))⟩, []),
         (⟨none, .ld 28 1 false (.t 27)⟩, []),
         (⟨none, .call 29 f_strconv_Itoa [((.t 28), false)]⟩, []),
         (⟨none, .bin 30 .add (.c (.str ⟨#[32]⟩)) (.t 29)⟩, []),
         (⟨none, .bin 31 .add (.t 30) (.c (.str ⟨#[60]⟩))⟩, []),
         (⟨none, .aad 32 1 2 (.t 8) (.c (.int .i64 1))⟩, [27, 28, 29, 30, 31]),
         (⟨none, .ld 33 1 false (.t 32)⟩, [27, 28, 29, 30, 31]),
         (⟨none, .call 34 f_strconv_Itoa [((.t 33), false)]⟩, [30, 31])]
        [⟨none, .bin 35 .add (.t 31) (.t 34)⟩,
         ⟨none, .call 36 f_strings_Builder_WriteString [((.t 6), true), ((.t 35), false)]⟩]))))
    (.drop [25, 26, 8, 27, 28, 29, 30, 31, 32, 33, 34, 35, 36] (.reg [⟨none, .bin 37 .add (.t 23) (.c (.int .i64 1))⟩,
       ⟨none, .asg 23 (.t 37)⟩])))))
def c_impl_PosetText : ACode :=
  (.seq (.reg [⟨none, .box 1 (.t 0)⟩,
     ⟨none, .asg 2 (.c (.str ⟨#[]⟩))⟩,
     ⟨none, .asg 3 (.c (.bool false))⟩])
  (.seq (.reg [⟨none, .ld 10 1 true (.t 1)⟩,
      ⟨none, .call 11 f_impl_orderOf [((.t 10), false)]⟩,
      ⟨none, .asg 9 (.t 11)⟩,
      ⟨none, .ext 12 (.t 9) 0⟩,
      ⟨none, .ext 13 (.t 9) 1⟩,
      ⟨none, .asg 4 (.t 12)⟩,
      ⟨none, .asg 5 (.t 13)⟩])
   (.drop [10, 11, 9, 12, 13] (.seq (.seq (.reg [⟨none, .mov 14 (.t 5)⟩,
        ⟨none, .un 15 .not (.t 14)⟩])
     (.drop [14] (.cond (.t 15) (.seq (.reg [⟨none, .asg 2 (.c (.str ⟨#[]⟩))⟩,
          ⟨none, .asg 3 (.c (.bool false))⟩])
       .ret)
      .skip)))
    (.drop [14, 15] (.seq (.reg [⟨none, .alb 6 65 5⟩])
     (.seq (.reg [⟨none, .mov 16 (.t 4)⟩,
         ⟨none, .len 17 (.t 16)⟩,
         ⟨none, .call 18 f_strconv_Itoa [((.t 17), false)]⟩,
         ⟨none, .call 19 f_strings_Builder_WriteString [((.t 6), true), ((.t 18), false)]⟩])
      (.drop [16, 17, 18, 19] (.seq (.seq (.reg [⟨none, .mov 20 (.t 4)⟩,
           ⟨none, .call 21 f_impl_order_coverPairs [((.t 20), false)]⟩,
           ⟨none, .len 22 (.t 21)⟩,
           ⟨none, .mov 23 (.c (.int .i64 0))⟩])
        (.drop [20] (.block 0 (.loop c_impl_PosetText_l1))))
       (.drop [20, 21, 22, 23, 24, 25, 26, 8, 27, 28, 29, 30, 31, 32, 33, 34, 35, 36, 37] (.seq (.reg [⟨none, .call 38 f_strings_Builder_String [((.t 6), true)]⟩,
           ⟨none, .asg 2 (.t 38)⟩,
           ⟨none, .asg 3 (.c (.bool true))⟩])
        (.drop [38] .ret))))))))))))
abbrev r_impl_PosetText : List RS := [.t 2, .t 3]
theorem k_impl_PosetText : fitsF Tryd.prog f_impl_PosetText 39 c_impl_PosetText r_impl_PosetText = true := by kernel_rfl

/- loop.example/g01078/spec.l23Covers: [p=0, x=1, y=2, p=3, x=4, y=5, z=7] -/
def c_spec_l23Covers_l1 : ACode :=
  (.seq (.seq (.reg [⟨none, .mov 13 (.t 7)⟩,
      ⟨none, .fadr 14 0 (.t 3)⟩,
      ⟨none, .ld 15 1 false (.t 14)⟩,
      ⟨none, .len 16 (.t 15)⟩,
      ⟨none, .bin 17 .lss (.t 13) (.t 16)⟩])
   (.drop [13, 14, 15, 16] (.cond (.t 17) .skip
    (.exit 0))))
  (.drop [13, 14, 15, 16, 17] (.seq (.block 1 (.seq (.reg [⟨none, .ld 20 1 true (.t 3)⟩,
        ⟨none, .mov 21 (.t 1)⟩,
        ⟨none, .mov 22 (.t 7)⟩,
        ⟨none, .call 23 f_spec_l23Less [((.t 20), false), ((.t 21), false), ((.t 22), false)]⟩,
        ⟨none, .asg 24 (.t 23)⟩,
        ⟨some (24, true), .ld 25 1 true (.t 3)⟩,
        ⟨some (24, true), .mov 26 (.t 7)⟩,
        ⟨some (24, true), .mov 27 (.t 2)⟩,
        ⟨some (24, true), .call 28 f_spec_l23Less [((.t 25), false), ((.t 26), false), ((.t 27), false)]⟩,
        ⟨none, .pick 29 (.t 24) (.t 28) (.c (.bool false))⟩])
     (.drop [20, 21, 22, 23, 24, 25, 26, 27, 28] (.cond (.t 29) (.seq (.reg [⟨none, .asg 6 (.c (.bool false))⟩])
       .ret)
      .skip))))
   (.drop [20, 21, 22, 23, 24, 25, 26, 27, 28, 29] (.reg [⟨none, .mov 18 (.t 7)⟩,
      ⟨none, .bin 19 .add (.t 18) (.c (.int .i64 1))⟩,
      ⟨none, .asg 7 (.t 19)⟩])))))
def c_spec_l23Covers : ACode :=
  (.seq (.reg [⟨none, .box 3 (.t 0)⟩,
     ⟨none, .asg 6 (.c (.bool false))⟩])
  (.seq (.seq (.reg [⟨none, .ld 8 1 true (.t 3)⟩,
       ⟨none, .mov 9 (.t 1)⟩,
       ⟨none, .mov 10 (.t 2)⟩,
       ⟨none, .call 11 f_spec_l23Less [((.t 8), false), ((.t 9), false), ((.t 10), false)]⟩,
       ⟨none, .un 12 .not (.t 11)⟩])
    (.drop [8, 9, 10, 11] (.cond (.t 12) (.seq (.reg [⟨none, .asg 6 (.c (.bool false))⟩])
      .ret)
     .skip)))
   (.drop [8, 9, 10, 11, 12] (.seq (.seq (.reg [⟨none, .asg 7 (.c (.int .i64 0))⟩])
     (.block 0 (.loop c_spec_l23Covers_l1)))
    (.drop [7, 13, 14, 15, 16, 17, 20, 21, 22, 23, 24, 25, 26, 27, 28, 29, 18, 19] (.seq (.reg [⟨none, .asg 6 (.c (.bool true))⟩])
     .ret))))))
abbrev r_spec_l23Covers : List RS := [.t 6]
theorem k_spec_l23Covers : fitsF Tryd.prog f_spec_l23Covers 30 c_spec_l23Covers r_spec_l23Covers = true := by kernel_rfl

/- loop.example/g01078/spec.l23Pairs: [p=0, p=1, out=3, x=4, y=5] -/
def c_spec_l23Pairs_l1 : ACode :=
  (.seq (.seq (.reg [⟨none, .mov 14 (.t 5)⟩,
      ⟨none, .fadr 15 0 (.t 1)⟩,
      ⟨none, .ld 16 1 false (.t 15)⟩,
      ⟨none, .len 17 (.t 16)⟩,
      ⟨none, .bin 18 .lss (.t 14) (.t 17)⟩])
   (.drop [14, 15, 16, 17] (.cond (.t 18) .skip
    (.exit 2))))
  (.drop [14, 15, 16, 17, 18] (.seq (.block 3 (.seq (.reg [⟨none, .ld 21 1 true (.t 1)⟩,
        ⟨none, .mov 22 (.t 4)⟩,
        ⟨none, .mov 23 (.t 5)⟩,
        ⟨none, .call 24 f_spec_l23Covers [((.t 21), false), ((.t 22), false), ((.t 23), false)]⟩])
     (.drop [21, 22, 23] (.cond (.t 24) (.reg [⟨none, .mov 25 (.t 3)⟩,
         ⟨none, .mov 26 (.t 4)⟩,
         ⟨none, .mov 27 (.t 5)⟩,
         ⟨none, .bld 28 [.int .i64 0, .int .i64 0] [(0, 1, (.t 26)), (1, 1, (.t 27))]⟩,
         ⟨none, .bsl 29 2 [(.t 28)]⟩,
         ⟨none, .app 30 2 (.t 25) (.t 29)⟩,
         ⟨none, .asg 3 (.t 30)⟩])
      .skip))))
   (.drop [21, 22, 23, 24, 25, 26, 27, 28, 29, 30] (.reg [⟨none, .mov 19 (.t 5)⟩,
      ⟨none, .bin 20 .add (.t 19) (.c (.int .i64 1))⟩,
      ⟨none, .asg 5 (.t 20)⟩])))))
def c_spec_l23Pairs_l2 : ACode :=
  (.seq (.seq (.reg [⟨none, .mov 7 (.t 4)⟩,
      ⟨none, .fadr 8 0 (.t 1)⟩,
      ⟨none, .ld 9 1 false (.t 8)⟩,
      ⟨none, .len 10 (.t 9)⟩,
      ⟨none, .bin 11 .lss (.t 7) (.t 10)⟩])
   (.drop [7, 8, 9, 10] (.cond (.t 11) .skip
    (.exit 0))))
  (.drop [7, 8, 9, 10, 11] (.seq (.block 1 (.seq (.reg [⟨none, .asg 5 (.c (.int .i64 0))⟩])
     (.block 2 (.loop c_spec_l23Pairs_l1))))
   (.drop [5, 14, 15, 16, 17, 18, 21, 22, 23, 24, 25, 26, 27, 28, 29, 30, 19, 20] (.reg [⟨none, .mov 12 (.t 4)⟩,
      ⟨none, .bin 13 .add (.t 12) (.c (.int .i64 1))⟩,
      ⟨none, .asg 4 (.t 13)⟩])))))
def c_spec_l23Pairs : ACode :=
  (.seq (.reg [⟨none, .box 1 (.t 0)⟩,
     ⟨none, .asg 2 (.c (.nilsl 2))⟩])
  (.seq (.reg [⟨none, .bsl 6 2 []⟩,
      ⟨none, .asg 3 (.t 6)⟩])
   (.drop [6] (.seq (.seq (.reg [⟨none, .asg 4 (.c (.int .i64 0))⟩])
     (.block 0 (.loop c_spec_l23Pairs_l2)))
    (.drop [4, 7, 8, 9, 10, 11, 5, 14, 15, 16, 17, 18, 21, 22, 23, 24, 25, 26, 27, 28, 29, 30, 19, 20, 12, 13] (.seq (.reg [⟨none, .mov 31 (.t 3)⟩,
        ⟨none, .asg 2 (.t 31)⟩])
     (.drop [31] .ret)))))))
abbrev r_spec_l23Pairs : List RS := [.t 2]
theorem k_spec_l23Pairs : fitsF Tryd.prog f_spec_l23Pairs 32 c_spec_l23Pairs r_spec_l23Pairs = true := by kernel_rfl

/- loop.example/g01078/spec.l23Text: [p=0, p=1, s=3, pairs=4, i=5] -/
def c_spec_l23Text_l1 : ACode :=
  (.seq (.seq (.reg [⟨none, .mov 12 (.t 5)⟩,
      ⟨none, .mov 13 (.t 4)⟩,
      ⟨none, .len 14 (.t 13)⟩,
      ⟨none, .bin 15 .lss (.t 12) (.t 14)⟩])
   (.drop [12, 13, 14] (.cond (.t 15) .skip
    (.exit 0))))
  (.drop [12, 13, 14, 15] (.seq (.block 1 (.dreg [(⟨none, .mov 18 (.t 3)⟩, []),
       (⟨none, .bin 19 .add (.t 18) (.c (.str ⟨#[32]⟩))⟩, []),
       (⟨none, .mov 20 (.t 4)⟩, [18, 19]),
       (⟨none, .mov 21 (.t 5)⟩, [18, 19, 20]),
       (⟨none, .iad 22 2 (.t 20) (.t 21)⟩, [18, 19]),
       (⟨none, .aad 23 1 2 (.t 22) (.c (.int .i64 0))⟩, [18, 19]),
       (⟨none, .ld 24 1 false (.t 23)⟩, [18, 19]),
       (⟨none, .call 25 f_spec_l1Num [((.t 24), false)]⟩, [18, 19]),
       (⟨none, .bin 26 .add (.t 19) (.t 25)⟩, []),
       (⟨none, .bin 27 .add (.t 26) (.c (.str ⟨#[60]⟩))⟩, []),
       (⟨none, .mov 28 (.t 4)⟩, [18, 19, 20, 21, 22, 23, 24, 25, 26, 27]),
       (⟨none, .mov 29 (.t 5)⟩, [18, 19, 20, 21, 22, 23, 24, 25, 26, 27, 28]),
       (⟨none, .iad 30 2 (.t 28) (.t 29)⟩, [18, 19, 20, 21, 22, 23, 24, 25, 26, 27]),
       (⟨none, .aad 31 1 2 (.t 30) (.c (.int .i64 1))⟩, [18, 19, 20, 21, 22, 23, 24, 25, 26, 27]),
       (⟨none, .ld 32 1 false (.t 31)⟩, [18, 19, 20, 21, 22, 23, 24, 25, 26, 27]),
       (⟨none, .call 33 f_spec_l1Num [((.t 32), false)]⟩, [18, 19, 26, 27])]
      [⟨none, .bin 34 .add (.t 27) (.t 33)⟩,
       ⟨none, .asg 3 (.t 34)⟩]))
   (.drop [18, 19, 20, 21, 22, 23, 24, 25, 26, 27, 28, 29, 30, 31, 32, 33, 34] (.reg [⟨none, .mov 16 (.t 5)⟩,
      ⟨none, .bin 17 .add (.t 16) (.c (.int .i64 1))⟩,
      ⟨none, .asg 5 (.t 17)⟩])))))
def c_spec_l23Text : ACode :=
  (.seq (.reg [⟨none, .box 1 (.t 0)⟩,
     ⟨none, .asg 2 (.c (.str ⟨#[]⟩))⟩])
  (.seq (.reg [⟨none, .fadr 6 0 (.t 1)⟩,
      ⟨none, .ld 7 1 false (.t 6)⟩,
      ⟨none, .len 8 (.t 7)⟩,
      ⟨none, .call 9 f_spec_l1Num [((.t 8), false)]⟩,
      ⟨none, .asg 3 (.t 9)⟩])
   (.drop [6, 7, 8, 9] (.seq (.reg [⟨none, .ld 10 1 true (.t 1)⟩,
       ⟨none, .call 11 f_spec_l23Pairs [((.t 10), false)]⟩,
       ⟨none, .asg 4 (.t 11)⟩])
    (.drop [10, 11] (.seq (.seq (.reg [⟨none, .asg 5 (.c (.int .i64 0))⟩])
      (.block 0 (.loop c_spec_l23Text_l1)))
     (.drop [5, 12, 13, 14, 15, 18, 19, 20, 21, 22, 23, 24, 25, 26, 27, 28, 29, 30, 31, 32, 33, 34, 16, 17] (.seq (.reg [⟨none, .mov 35 (.t 3)⟩,
         ⟨none, .asg 2 (.t 35)⟩])
      (.drop [35] .ret)))))))))
abbrev r_spec_l23Text : List RS := [.t 2]
theorem k_spec_l23Text : fitsF Tryd.prog f_spec_l23Text 36 c_spec_l23Text r_spec_l23Text = true := by kernel_rfl

/- loop.example/g01078/spec.PosetText: [p=0, p=1] -/
def c_spec_PosetText : ACode :=
  (.seq (.reg [⟨none, .box 1 (.t 0)⟩,
     ⟨none, .asg 2 (.c (.str ⟨#[]⟩))⟩,
     ⟨none, .asg 3 (.c (.bool false))⟩])
  (.seq (.seq (.reg [⟨none, .ld 4 1 true (.t 1)⟩,
       ⟨none, .call 5 f_spec_l23Good [((.t 4), false)]⟩,
       ⟨none, .un 6 .not (.t 5)⟩])
    (.drop [4, 5] (.cond (.t 6) (.seq (.reg [⟨none, .asg 2 (.c (.str ⟨#[]⟩))⟩,
         ⟨none, .asg 3 (.c (.bool false))⟩])
      .ret)
     .skip)))
   (.drop [4, 5, 6] (.seq (.reg [⟨none, .ld 7 1 true (.t 1)⟩,
       ⟨none, .call 8 f_spec_l23Text [((.t 7), false)]⟩,
       ⟨none, .asg 2 (.t 8)⟩,
       ⟨none, .asg 3 (.c (.bool true))⟩])
    (.drop [7, 8] .ret)))))
abbrev r_spec_PosetText : List RS := [.t 2, .t 3]
theorem k_spec_PosetText : fitsF Tryd.prog f_spec_PosetText 9 c_spec_PosetText r_spec_PosetText = true := by kernel_rfl

/- loop.example/g01078/laws.FnExactPosetText: [aP=0, aP=1, left=3, w0=4, w1=5, x0=6, g0=7, g1=8] -/
def c_laws_FnExactPosetText : ACode :=
  (.seq (.reg [⟨none, .box 1 (.t 0)⟩,
     ⟨none, .asg 2 (.c (.bool false))⟩])
  (.seq (.reg [⟨none, .asg 3 (.c (.int .i64 1048576))⟩])
   (.seq (.reg [⟨none, .ld 9 1 true (.t 1)⟩,
       ⟨none, .mov 10 (.t 3)⟩,
       ⟨none, .call 11 f_laws_szPoset [((.t 9), false), ((.t 10), false)]⟩,
       ⟨none, .asg 3 (.t 11)⟩])
    (.drop [9, 10, 11] (.seq (.seq (.reg [⟨none, .mov 12 (.t 3)⟩,
         ⟨none, .bin 13 .lss (.t 12) (.c (.int .i64 0))⟩])
      (.drop [12] (.cond (.t 13) (.seq (.reg [⟨none, .asg 2 (.c (.bool true))⟩])
        .ret)
       .skip)))
     (.drop [12, 13] (.seq (.reg [⟨none, .ld 15 1 true (.t 1)⟩,
         ⟨none, .call 16 f_laws_toPoset [((.t 15), false)]⟩,
         ⟨none, .call 17 f_spec_PosetText [((.t 16), false)]⟩,
         ⟨none, .asg 14 (.t 17)⟩,
         ⟨none, .ext 18 (.t 14) 0⟩,
         ⟨none, .ext 19 (.t 14) 1⟩,
         ⟨none, .asg 4 (.t 18)⟩,
         ⟨none, .asg 5 (.t 19)⟩])
      (.drop [15, 16, 17, 14, 18, 19] (.seq (.reg [⟨none, .ld 20 1 true (.t 1)⟩,
          ⟨none, .call 21 f_laws_toPoset [((.t 20), false)]⟩,
          ⟨none, .alc 6 (.agg [.nilsl 1])⟩,
          ⟨none, .st 1 (.t 6) (.t 21)⟩])
       (.drop [20, 21] (.seq (.reg [⟨none, .ld 23 1 true (.t 6)⟩,
           ⟨none, .call 24 f_impl_PosetText [((.t 23), false)]⟩,
           ⟨none, .asg 22 (.t 24)⟩,
           ⟨none, .ext 25 (.t 22) 0⟩,
           ⟨none, .ext 26 (.t 22) 1⟩,
           ⟨none, .asg 7 (.t 25)⟩,
           ⟨none, .asg 8 (.t 26)⟩])
        (.drop [23, 24, 22, 25, 26] (.seq (.seq (.reg [⟨none, .mov 27 (.t 7)⟩,
             ⟨none, .mov 28 (.t 4)⟩,
             ⟨none, .bin 29 .neq (.t 27) (.t 28)⟩,
             ⟨none, .asg 30 (.t 29)⟩,
             ⟨some (30, false), .mov 31 (.t 8)⟩,
             ⟨some (30, false), .mov 32 (.t 5)⟩,
             ⟨some (30, false), .binb 33 .neq (.t 31) (.t 32)⟩,
             ⟨none, .pick 34 (.t 30) (.c (.bool true)) (.t 33)⟩])
          (.drop [27, 28, 29, 30, 31, 32, 33] (.cond (.t 34) (.seq (.reg [⟨none, .asg 2 (.c (.bool false))⟩])
            .ret)
           .skip)))
         (.drop [27, 28, 29, 30, 31, 32, 33, 34] (.seq (.seq (.dreg [(⟨none, .ld 35 1 true (.t 6)⟩, []),
              (⟨none, .ld 36 1 true (.t 1)⟩, [35]),
              (⟨none, .call 37 f_laws_toPoset [((.t 36), false)]⟩, [35])]
             [⟨none, .call 38 f_laws_eqPoset [((.t 35), false), ((.t 37), false)]⟩,
              ⟨none, .un 39 .not (.t 38)⟩])
           (.drop [35, 36, 37, 38] (.cond (.t 39) (.seq (.reg [⟨none, .asg 2 (.c (.bool false))⟩])
             .ret)
            .skip)))
          (.drop [35, 36, 37, 38, 39] (.seq (.reg [⟨none, .asg 2 (.c (.bool true))⟩])
           .ret)))))))))))))))))
abbrev r_laws_FnExactPosetText : List RS := [.t 2]
theorem k_laws_FnExactPosetText : fitsF Tryd.prog f_laws_FnExactPosetText 40 c_laws_FnExactPosetText r_laws_FnExactPosetText = true := by kernel_rfl

end Go.Proofs.YtbnoclklhcbidaaDoor.Ax
