/-
  The small code of the functions, written by program; that the program's code is this one, the kernel looks at.
-/
import Derived.Test.YthcnmahjhahafaaAx3
import Derived.Test.YthcnmahjhahafaaProg
import Derived.KernelRfl
import Derived.Test.YthcnmahjhahafaaNum
namespace Go.Proofs.Ythcnmahjhahafaa.Ax
open Go
set_option maxRecDepth 100000

/- loop.example/g01078/impl.FirstExtension: [p=0, p=1, o=4, ok=5, list=6, x=7] -/
def c_impl_FirstExtension_l1 : ACode :=
  (.seq (.reg [⟨none, .bin 25 .lss (.t 24) (.t 23)⟩])
  (.seq (.cond (.t 25) .skip
    (.exit 2))
   (.seq (.block 3 (.seq (.reg [⟨none, .mov 26 (.t 24)⟩,
         ⟨none, .alc 7 (.int .i64 0)⟩,
         ⟨none, .st 1 (.t 7) (.t 26)⟩])
      (.drop [26] (.seq (.reg [⟨none, .ld 27 1 false (.t 6)⟩,
          ⟨none, .ld 28 1 false (.t 7)⟩,
          ⟨none, .call 29 f_impl_hasNot [((.t 27), false), ((.t 28), false)]⟩,
          ⟨none, .asg 30 (.t 29)⟩,
          ⟨some (30, true), .ld 31 1 false (.t 4)⟩,
          ⟨some (30, true), .mkf 32 f_impl_FirstExtension_1 [(.t 4), (.t 7), (.t 6)]⟩,
          ⟨some (30, true), .call 33 f_impl_order_none [((.t 31), false), ((.t 32), false)]⟩,
          ⟨none, .pick 34 (.t 30) (.t 33) (.c (.bool false))⟩])
       (.drop [27, 28, 29, 30, 31, 32, 33] (.cond (.t 34) (.seq (.reg [⟨none, .ld 35 1 false (.t 6)⟩,
            ⟨none, .ld 36 1 false (.t 7)⟩,
            ⟨none, .bsl 37 1 [(.t 36)]⟩,
            ⟨none, .app 38 1 (.t 35) (.t 37)⟩,
            ⟨none, .st 1 (.t 6) (.t 38)⟩])
         (.drop [35, 36, 37, 38] (.exit 2)))
        .skip))))))
    (.drop [26, 7, 27, 28, 29, 30, 31, 32, 33, 34, 35, 36, 37, 38] (.reg [⟨none, .bin 39 .add (.t 24) (.c (.int .i64 1))⟩,
       ⟨none, .asg 24 (.t 39)⟩])))))
def c_impl_FirstExtension_l2 : ACode :=
  (.seq (.seq (.reg [⟨none, .ld 17 1 false (.t 6)⟩,
      ⟨none, .len 18 (.t 17)⟩,
      ⟨none, .ld 19 1 false (.t 4)⟩,
      ⟨none, .len 20 (.t 19)⟩,
      ⟨none, .bin 21 .lss (.t 18) (.t 20)⟩])
   (.drop [17, 18, 19, 20] (.cond (.t 21) .skip
    (.exit 0))))
  (.drop [17, 18, 19, 20, 21] (.block 1 (.seq (.reg [⟨none, .ld 22 1 false (.t 4)⟩,
       ⟨none, .len 23 (.t 22)⟩,
       ⟨none, .mov 24 (.c (.int .i64 0))⟩])
    (.drop [22] (.block 2 (.loop c_impl_FirstExtension_l1)))))))
def c_impl_FirstExtension : ACode :=
  (.seq (.reg [⟨none, .box 1 (.t 0)⟩,
     ⟨none, .asg 2 (.c (.nilsl 1))⟩,
     ⟨none, .asg 3 (.c (.bool false))⟩])
  (.seq (.reg [⟨none, .ld 9 1 true (.t 1)⟩,
      ⟨none, .call 10 f_impl_orderOf [((.t 9), false)]⟩,
      ⟨none, .asg 8 (.t 10)⟩,
      ⟨none, .ext 11 (.t 8) 0⟩,
      ⟨none, .ext 12 (.t 8) 1⟩,
      ⟨none, .alc 4 (.nilsl 1)⟩,
      ⟨none, .st 1 (.t 4) (.t 11)⟩,
      ⟨none, .asg 5 (.t 12)⟩])
   (.drop [9, 10, 8, 11, 12] (.seq (.seq (.reg [⟨none, .mov 13 (.t 5)⟩,
        ⟨none, .un 14 .not (.t 13)⟩])
     (.drop [13] (.cond (.t 14) (.seq (.reg [⟨none, .bsl 15 1 []⟩,
          ⟨none, .asg 2 (.t 15)⟩,
          ⟨none, .asg 3 (.c (.bool false))⟩])
       (.drop [15] .ret))
      .skip)))
    (.drop [13, 14, 15] (.seq (.reg [⟨none, .bsl 16 1 []⟩,
        ⟨none, .alc 6 (.nilsl 1)⟩,
        ⟨none, .st 1 (.t 6) (.t 16)⟩])
     (.drop [16] (.seq (.block 0 (.loop c_impl_FirstExtension_l2))
      (.drop [17, 18, 19, 20, 21, 22, 23, 24, 25, 26, 7, 27, 28, 29, 30, 31, 32, 33, 34, 35, 36, 37, 38, 39] (.seq (.reg [⟨none, .ld 40 1 false (.t 6)⟩,
          ⟨none, .asg 2 (.t 40)⟩,
          ⟨none, .asg 3 (.c (.bool true))⟩])
       (.drop [40] .ret)))))))))))
abbrev r_impl_FirstExtension : List RS := [.t 2, .t 3]
theorem k_impl_FirstExtension : fitsF Try.prog f_impl_FirstExtension 41 c_impl_FirstExtension r_impl_FirstExtension = true := by kernel_rfl

/- loop.example/g01078/impl.DownsetOf: [p=0, some=1, p=2, some=3, o=6, ok=7] -/
def c_impl_DownsetOf : ACode :=
  (.seq (.reg [⟨none, .box 2 (.t 0)⟩,
     ⟨none, .box 3 (.t 1)⟩,
     ⟨none, .asg 4 (.c (.nilsl 1))⟩,
     ⟨none, .asg 5 (.c (.bool false))⟩])
  (.seq (.reg [⟨none, .ld 9 1 true (.t 2)⟩,
      ⟨none, .call 10 f_impl_orderOf [((.t 9), false)]⟩,
      ⟨none, .asg 8 (.t 10)⟩,
      ⟨none, .ext 11 (.t 8) 0⟩,
      ⟨none, .ext 12 (.t 8) 1⟩,
      ⟨none, .alc 6 (.nilsl 1)⟩,
      ⟨none, .st 1 (.t 6) (.t 11)⟩,
      ⟨none, .asg 7 (.t 12)⟩])
   (.drop [9, 10, 8, 11, 12] (.seq (.seq (.reg [⟨none, .mov 13 (.t 7)⟩,
        ⟨none, .un 14 .not (.t 13)⟩,
        ⟨none, .asg 15 (.t 14)⟩,
        ⟨some (15, false), .ld 16 1 false (.t 3)⟩,
        ⟨some (15, false), .len 17 (.t 16)⟩,
        ⟨some (15, false), .bin 18 .gtr (.t 17) (.c (.int .i64 20))⟩,
        ⟨none, .pick 19 (.t 15) (.c (.bool true)) (.t 18)⟩,
        ⟨none, .asg 20 (.t 19)⟩,
        ⟨some (20, false), .ld 21 1 false (.t 6)⟩,
        ⟨some (20, false), .ld 22 1 false (.t 3)⟩,
        ⟨some (20, false), .call 23 f_impl_order_has [((.t 21), false), ((.t 22), false)]⟩,
        ⟨some (20, false), .un 24 .not (.t 23)⟩,
        ⟨none, .pick 25 (.t 20) (.c (.bool true)) (.t 24)⟩])
     (.drop [13, 14, 15, 16, 17, 18, 19, 20, 21, 22, 23, 24] (.cond (.t 25) (.seq (.reg [⟨none, .bsl 26 1 []⟩,
          ⟨none, .asg 4 (.t 26)⟩,
          ⟨none, .asg 5 (.c (.bool false))⟩])
       (.drop [26] .ret))
      .skip)))
    (.drop [13, 14, 15, 16, 17, 18, 19, 20, 21, 22, 23, 24, 25, 26] (.seq (.reg [⟨none, .ld 27 1 false (.t 6)⟩,
        ⟨none, .mkf 28 f_impl_DownsetOf_1 [(.t 3), (.t 6)]⟩,
        ⟨none, .call 29 f_impl_order_those [((.t 27), false), ((.t 28), false)]⟩,
        ⟨none, .asg 4 (.t 29)⟩,
        ⟨none, .asg 5 (.c (.bool true))⟩])
     (.drop [27, 28, 29] .ret)))))))
abbrev r_impl_DownsetOf : List RS := [.t 4, .t 5]
theorem k_impl_DownsetOf : fitsF Try.prog f_impl_DownsetOf 30 c_impl_DownsetOf r_impl_DownsetOf = true := by kernel_rfl

/- loop.example/g01078/impl.DualPoset: [p=0, p=1, o=4, ok=5] -/
def c_impl_DualPoset : ACode :=
  (.seq (.reg [⟨none, .box 1 (.t 0)⟩,
     ⟨none, .alc 2 (.agg [.nilsl 1])⟩,
     ⟨none, .asg 3 (.c (.bool false))⟩])
  (.seq (.reg [⟨none, .ld 7 1 true (.t 1)⟩,
      ⟨none, .call 8 f_impl_orderOf [((.t 7), false)]⟩,
      ⟨none, .asg 6 (.t 8)⟩,
      ⟨none, .ext 9 (.t 6) 0⟩,
      ⟨none, .ext 10 (.t 6) 1⟩,
      ⟨none, .asg 4 (.t 9)⟩,
      ⟨none, .asg 5 (.t 10)⟩])
   (.drop [7, 8, 6, 9, 10] (.seq (.seq (.reg [⟨none, .mov 11 (.t 5)⟩,
        ⟨none, .un 12 .not (.t 11)⟩])
     (.drop [11] (.cond (.t 12) (.seq (.reg [⟨none, .bld 13 [.nilsl 1] []⟩,
          ⟨none, .st 1 (.t 2) (.t 13)⟩,
          ⟨none, .asg 3 (.c (.bool false))⟩])
       (.drop [13] .ret))
      .skip)))
    (.drop [11, 12, 13] (.seq (.reg [⟨none, .mov 14 (.t 4)⟩,
        ⟨none, .call 15 f_impl_order_dual [((.t 14), false)]⟩,
        ⟨none, .call 16 f_impl_order_poset [((.t 15), false)]⟩,
        ⟨none, .st 1 (.t 2) (.t 16)⟩,
        ⟨none, .asg 3 (.c (.bool true))⟩])
     (.drop [14, 15, 16] .ret)))))))
abbrev r_impl_DualPoset : List RS := [.c 2 1 true, .t 3]
theorem k_impl_DualPoset : fitsF Try.prog f_impl_DualPoset 17 c_impl_DualPoset r_impl_DualPoset = true := by kernel_rfl

/- loop.example/g01078/laws.heldPoset: [a=0, k=1, a=2, k=3] -/
def c_laws_heldPoset : ACode :=
  (.seq (.reg [⟨none, .box 2 (.t 0)⟩,
     ⟨none, .asg 4 (.c (.int .i64 0))⟩])
  (.seq (.reg [⟨none, .fadr 5 0 (.t 2)⟩,
      ⟨none, .ld 6 1 false (.t 5)⟩,
      ⟨none, .mov 7 (.t 1)⟩,
      ⟨none, .call 8 f_laws_heldIntSS [((.t 6), false), ((.t 7), false)]⟩,
      ⟨none, .asg 1 (.t 8)⟩])
   (.drop [5, 6, 7, 8] (.seq (.seq (.reg [⟨none, .mov 9 (.t 1)⟩,
        ⟨none, .bin 10 .lss (.t 9) (.c (.int .i64 0))⟩])
     (.drop [9] (.cond (.t 10) (.seq (.reg [⟨none, .asg 4 (.c (.int .i64 (-1)))⟩])
       .ret)
      .skip)))
    (.drop [9, 10] (.seq (.reg [⟨none, .mov 11 (.t 1)⟩,
        ⟨none, .asg 4 (.t 11)⟩])
     (.drop [11] .ret)))))))
abbrev r_laws_heldPoset : List RS := [.t 4]
theorem k_laws_heldPoset : fitsF Try.prog f_laws_heldPoset 12 c_laws_heldPoset r_laws_heldPoset = true := by kernel_rfl

/- loop.example/g01078/impl.FromCovers: [n=0, pairs=1, n=2, pairs=3, o=6, x=7, _=8, pair=9, z=10, x=11, y=12] -/
def c_impl_FromCovers_k1 : ACode :=
  (.seq (.reg [⟨none, .mov 13 (.t 0)⟩,
       ⟨none, .bin 14 .lss (.t 13) (.c (.int .i64 0))⟩,
       ⟨none, .asg 15 (.t 14)⟩,
       ⟨some (15, false), .mov 16 (.t 0)⟩,
       ⟨some (15, false), .bin 17 .gtr (.t 16) (.c (.int .i64 10))⟩,
       ⟨none, .pick 18 (.t 15) (.c (.bool true)) (.t 17)⟩,
       ⟨none, .asg 19 (.t 18)⟩,
       ⟨some (19, false), .mov 20 (.t 1)⟩,
       ⟨some (19, false), .len 21 (.t 20)⟩,
       ⟨some (19, false), .bin 22 .gtr (.t 21) (.c (.int .i64 60))⟩,
       ⟨none, .pick 23 (.t 19) (.c (.bool true)) (.t 22)⟩])
    (.drop [13, 14, 15, 16, 17, 18, 19, 20, 21, 22] (.cond (.t 23) (.seq (.reg [⟨none, .bld 24 [.nilsl 1] []⟩,
         ⟨none, .st 1 (.t 4) (.t 24)⟩,
         ⟨none, .asg 5 (.c (.bool false))⟩])
      (.drop [24] .ret))
     .skip)))
def c_impl_FromCovers_l1 : ACode :=
  (.seq (.reg [⟨none, .bin 30 .lss (.t 29) (.t 28)⟩])
  (.seq (.cond (.t 30) .skip
    (.exit 0))
   (.seq (.block 1 (.seq (.reg [⟨none, .mov 31 (.t 29)⟩,
         ⟨none, .asg 7 (.t 31)⟩])
      (.drop [31] (.reg [⟨none, .mov 32 (.t 6)⟩,
         ⟨none, .mov 33 (.t 7)⟩,
         ⟨none, .iad 34 1 (.t 32) (.t 33)⟩,
         ⟨none, .ld 35 1 false (.t 34)⟩,
         ⟨none, .mov 36 (.t 7)⟩,
         ⟨none, .iad 37 1 (.t 35) (.t 36)⟩,
         ⟨none, .st 1 (.t 37) (.c (.bool true))⟩]))))
    (.drop [31, 7, 32, 33, 34, 35, 36, 37] (.reg [⟨none, .bin 38 .add (.t 29) (.c (.int .i64 1))⟩,
       ⟨none, .asg 29 (.t 38)⟩])))))
def c_impl_FromCovers_k2 : ACode :=
  (.seq (.reg [⟨none, .mov 45 (.t 6)⟩,
           ⟨none, .aad 46 1 2 (.t 9) (.c (.int .i64 0))⟩,
           ⟨none, .ld 47 1 false (.t 46)⟩,
           ⟨none, .aad 48 1 2 (.t 9) (.c (.int .i64 1))⟩,
           ⟨none, .ld 49 1 false (.t 48)⟩,
           ⟨none, .bsl 50 1 [(.t 47), (.t 49)]⟩,
           ⟨none, .call 51 f_impl_order_has [((.t 45), false), ((.t 50), false)]⟩,
           ⟨none, .un 52 .not (.t 51)⟩,
           ⟨none, .asg 53 (.t 52)⟩,
           ⟨some (53, false), .aad 54 1 2 (.t 9) (.c (.int .i64 0))⟩,
           ⟨some (53, false), .ld 55 1 false (.t 54)⟩,
           ⟨some (53, false), .aad 56 1 2 (.t 9) (.c (.int .i64 1))⟩,
           ⟨some (53, false), .ld 57 1 false (.t 56)⟩,
           ⟨some (53, false), .bin 58 .eql (.t 55) (.t 57)⟩,
           ⟨none, .pick 59 (.t 53) (.c (.bool true)) (.t 58)⟩])
        (.drop [45, 46, 47, 48, 49, 50, 51, 52, 53, 54, 55, 56, 57, 58] (.cond (.t 59) (.seq (.reg [⟨none, .bld 60 [.nilsl 1] []⟩,
             ⟨none, .st 1 (.t 4) (.t 60)⟩,
             ⟨none, .asg 5 (.c (.bool false))⟩])
          (.drop [60] .ret))
         .skip)))
def c_impl_FromCovers_l2 : ACode :=
  (.seq (.reg [⟨none, .bin 42 .lss (.t 41) (.t 40)⟩])
  (.seq (.cond (.t 42) .skip
    (.exit 2))
   (.seq (.block 3 (.seq (.reg [⟨none, .iad 43 2 (.t 39) (.t 41)⟩,
         ⟨none, .ld 44 2 true (.t 43)⟩,
         ⟨none, .alc 9 (.agg [.int .i64 0, .int .i64 0])⟩,
         ⟨none, .st 2 (.t 9) (.t 44)⟩])
      (.drop [43, 44] (.seq (.cut c_impl_FromCovers_k2)
       (.drop [45, 46, 47, 48, 49, 50, 51, 52, 53, 54, 55, 56, 57, 58, 59, 60] (.dreg [(⟨none, .mov 61 (.t 6)⟩, []),
          (⟨none, .aad 62 1 2 (.t 9) (.c (.int .i64 0))⟩, [61]),
          (⟨none, .ld 63 1 false (.t 62)⟩, [61]),
          (⟨none, .iad 64 1 (.t 61) (.t 63)⟩, []),
          (⟨none, .ld 65 1 false (.t 64)⟩, []),
          (⟨none, .aad 66 1 2 (.t 9) (.c (.int .i64 1))⟩, [61, 62, 63, 64, 65]),
          (⟨none, .ld 67 1 false (.t 66)⟩, [61, 62, 63, 64, 65])]
         [⟨none, .iad 68 1 (.t 65) (.t 67)⟩,
          ⟨none, .st 1 (.t 68) (.c (.bool true))⟩]))))))
    (.drop [43, 44, 9, 45, 46, 47, 48, 49, 50, 51, 52, 53, 54, 55, 56, 57, 58, 59, 60, 61, 62, 63, 64, 65, 66, 67, 68] (.reg [⟨none, .bin 69 .add (.t 41) (.c (.int .i64 1))⟩,
       ⟨none, .asg 41 (.t 69)⟩])))))
def c_impl_FromCovers_l3 : ACode :=
  (.seq (.reg [⟨none, .bin 83 .lss (.t 82) (.t 81)⟩])
  (.seq (.cond (.t 83) .skip
    (.exit 8))
   (.seq (.block 9 (.seq (.reg [⟨none, .mov 84 (.t 82)⟩,
         ⟨none, .asg 12 (.t 84)⟩])
      (.drop [84] (.dreg [(⟨none, .mov 85 (.t 6)⟩, []),
         (⟨none, .mov 86 (.t 11)⟩, [85]),
         (⟨none, .iad 87 1 (.t 85) (.t 86)⟩, []),
         (⟨none, .ld 88 1 false (.t 87)⟩, []),
         (⟨none, .mov 89 (.t 12)⟩, [85, 86, 87, 88]),
         (⟨none, .mov 90 (.t 6)⟩, [85, 86, 87, 88, 89]),
         (⟨none, .mov 91 (.t 11)⟩, [85, 86, 87, 88, 89, 90]),
         (⟨none, .iad 92 1 (.t 90) (.t 91)⟩, [85, 86, 87, 88, 89]),
         (⟨none, .ld 93 1 false (.t 92)⟩, [85, 86, 87, 88, 89]),
         (⟨none, .mov 94 (.t 12)⟩, [85, 86, 87, 88, 89, 90, 91, 92, 93]),
         (⟨none, .iad 95 1 (.t 93) (.t 94)⟩, [85, 86, 87, 88, 89]),
         (⟨none, .ld 96 1 false (.t 95)⟩, [85, 86, 87, 88, 89]),
         (⟨none, .asg 97 (.t 96)⟩, [85, 86, 87, 88, 89]),
         (⟨some (97, false), .mov 98 (.t 6)⟩, [85, 86, 87, 88, 89]),
         (⟨some (97, false), .mov 99 (.t 11)⟩, [85, 86, 87, 88, 89, 98]),
         (⟨some (97, false), .iad 100 1 (.t 98) (.t 99)⟩, [85, 86, 87, 88, 89]),
         (⟨some (97, false), .ld 101 1 false (.t 100)⟩, [85, 86, 87, 88, 89]),
         (⟨some (97, false), .mov 102 (.t 10)⟩, [85, 86, 87, 88, 89, 98, 99, 100, 101]),
         (⟨some (97, false), .iad 103 1 (.t 101) (.t 102)⟩, [85, 86, 87, 88, 89]),
         (⟨some (97, false), .ld 104 1 false (.t 103)⟩, [85, 86, 87, 88, 89]),
         (⟨some (97, false), .asg 105 (.t 104)⟩, [85, 86, 87, 88, 89]),
         (⟨some (105, true), .mov 106 (.t 6)⟩, [85, 86, 87, 88, 89]),
         (⟨some (105, true), .mov 107 (.t 10)⟩, [85, 86, 87, 88, 89, 106]),
         (⟨some (105, true), .iad 108 1 (.t 106) (.t 107)⟩, [85, 86, 87, 88, 89]),
         (⟨some (105, true), .ld 109 1 false (.t 108)⟩, [85, 86, 87, 88, 89]),
         (⟨some (105, true), .mov 110 (.t 12)⟩, [85, 86, 87, 88, 89, 106, 107, 108, 109]),
         (⟨some (105, true), .iad 111 1 (.t 109) (.t 110)⟩, [85, 86, 87, 88, 89]),
         (⟨some (105, true), .ld 112 1 false (.t 111)⟩, [85, 86, 87, 88, 89]),
         (⟨some (97, false), .pick 113 (.t 105) (.t 112) (.c (.bool false))⟩, [85, 86, 87, 88, 89]),
         (⟨none, .pick 114 (.t 97) (.c (.bool true)) (.t 113)⟩, [85, 86, 87, 88, 89])]
        [⟨none, .iad 115 1 (.t 88) (.t 89)⟩,
         ⟨none, .st 1 (.t 115) (.t 114)⟩]))))
    (.drop [84, 12, 85, 86, 87, 88, 89, 90, 91, 92, 93, 94, 95, 96, 97, 98, 99, 100, 101, 102, 103, 104, 105, 106, 107, 108, 109, 110, 111, 112, 113, 114, 115] (.reg [⟨none, .bin 116 .add (.t 82) (.c (.int .i64 1))⟩,
       ⟨none, .asg 82 (.t 116)⟩])))))
def c_impl_FromCovers_l4 : ACode :=
  (.seq (.reg [⟨none, .bin 78 .lss (.t 77) (.t 76)⟩])
  (.seq (.cond (.t 78) .skip
    (.exit 6))
   (.seq (.block 7 (.seq (.reg [⟨none, .mov 79 (.t 77)⟩,
         ⟨none, .asg 11 (.t 79)⟩])
      (.drop [79] (.seq (.reg [⟨none, .mov 80 (.t 6)⟩,
          ⟨none, .len 81 (.t 80)⟩,
          ⟨none, .mov 82 (.c (.int .i64 0))⟩])
       (.drop [80] (.block 8 (.loop c_impl_FromCovers_l3)))))))
    (.drop [79, 11, 80, 81, 82, 83, 84, 12, 85, 86, 87, 88, 89, 90, 91, 92, 93, 94, 95, 96, 97, 98, 99, 100, 101, 102, 103, 104, 105, 106, 107, 108, 109, 110, 111, 112, 113, 114, 115, 116] (.reg [⟨none, .bin 117 .add (.t 77) (.c (.int .i64 1))⟩,
       ⟨none, .asg 77 (.t 117)⟩])))))
def c_impl_FromCovers_l5 : ACode :=
  (.seq (.reg [⟨none, .bin 73 .lss (.t 72) (.t 71)⟩])
  (.seq (.cond (.t 73) .skip
    (.exit 4))
   (.seq (.block 5 (.seq (.reg [⟨none, .mov 74 (.t 72)⟩,
         ⟨none, .asg 10 (.t 74)⟩])
      (.drop [74] (.seq (.reg [⟨none, .mov 75 (.t 6)⟩,
          ⟨none, .len 76 (.t 75)⟩,
          ⟨none, .mov 77 (.c (.int .i64 0))⟩])
       (.drop [75] (.block 6 (.loop c_impl_FromCovers_l4)))))))
    (.drop [74, 10, 75, 76, 77, 78, 79, 11, 80, 81, 82, 83, 84, 12, 85, 86, 87, 88, 89, 90, 91, 92, 93, 94, 95, 96, 97, 98, 99, 100, 101, 102, 103, 104, 105, 106, 107, 108, 109, 110, 111, 112, 113, 114, 115, 116, 117] (.reg [⟨none, .bin 118 .add (.t 72) (.c (.int .i64 1))⟩,
       ⟨none, .asg 72 (.t 118)⟩])))))
def c_impl_FromCovers : ACode :=
  (.seq (.reg [⟨none, .alc 4 (.agg [.nilsl 1])⟩,
     ⟨none, .asg 5 (.c (.bool false))⟩])
  (.seq (.cut c_impl_FromCovers_k1)
   (.drop [13, 14, 15, 16, 17, 18, 19, 20, 21, 22, 23, 24] (.seq (.reg [⟨none, .mov 25 (.t 0)⟩,
       ⟨none, .call 26 f_impl_newOrder [((.t 25), false)]⟩,
       ⟨none, .asg 6 (.t 26)⟩])
    (.drop [25, 26] (.seq (.seq (.reg [⟨none, .mov 27 (.t 6)⟩,
         ⟨none, .len 28 (.t 27)⟩,
         ⟨none, .mov 29 (.c (.int .i64 0))⟩])
      (.drop [27] (.block 0 (.loop c_impl_FromCovers_l1))))
     (.drop [27, 28, 29, 30, 31, 7, 32, 33, 34, 35, 36, 37, 38] (.seq (.seq (.reg [⟨none, .mov 39 (.t 1)⟩,
          ⟨none, .len 40 (.t 39)⟩,
          ⟨none, .mov 41 (.c (.int .i64 0))⟩])
       (.block 2 (.loop c_impl_FromCovers_l2)))
      (.drop [39, 40, 41, 42, 43, 44, 9, 45, 46, 47, 48, 49, 50, 51, 52, 53, 54, 55, 56, 57, 58, 59, 60, 61, 62, 63, 64, 65, 66, 67, 68, 69] (.seq (.seq (.reg [⟨none, .mov 70 (.t 6)⟩,
           ⟨none, .len 71 (.t 70)⟩,
           ⟨none, .mov 72 (.c (.int .i64 0))⟩])
        (.drop [70] (.block 4 (.loop c_impl_FromCovers_l5))))
       (.drop [70, 71, 72, 73, 74, 10, 75, 76, 77, 78, 79, 11, 80, 81, 82, 83, 84, 12, 85, 86, 87, 88, 89, 90, 91, 92, 93, 94, 95, 96, 97, 98, 99, 100, 101, 102, 103, 104, 105, 106, 107, 108, 109, 110, 111, 112, 113, 114, 115, 116, 117, 118] (.seq (.seq (.reg [⟨none, .mov 119 (.t 6)⟩,
            ⟨none, .call 120 f_impl_order_isOrder [((.t 119), false)]⟩,
            ⟨none, .un 121 .not (.t 120)⟩])
         (.drop [119, 120] (.cond (.t 121) (.seq (.reg [⟨none, .bld 122 [.nilsl 1] []⟩,
              ⟨none, .st 1 (.t 4) (.t 122)⟩,
              ⟨none, .asg 5 (.c (.bool false))⟩])
           (.drop [122] .ret))
          .skip)))
        (.drop [119, 120, 121, 122] (.seq (.reg [⟨none, .mov 123 (.t 6)⟩,
            ⟨none, .call 124 f_impl_order_poset [((.t 123), false)]⟩,
            ⟨none, .st 1 (.t 4) (.t 124)⟩,
            ⟨none, .asg 5 (.c (.bool true))⟩])
         (.drop [123, 124] .ret)))))))))))))))
abbrev r_impl_FromCovers : List RS := [.c 4 1 true, .t 5]
theorem k_impl_FromCovers : fitsF Try.prog f_impl_FromCovers 125 c_impl_FromCovers r_impl_FromCovers = true := by kernel_rfl

/- loop.example/g01078/impl.LongestChain: [p=0, p=1, o=4, ok=5, up=6, most=7, _=8, h=9, chain=10, x=11] -/
def c_impl_LongestChain_l1 : ACode :=
  (.seq (.reg [⟨none, .bin 25 .lss (.t 24) (.t 23)⟩])
  (.seq (.cond (.t 25) .skip
    (.exit 0))
   (.seq (.block 1 (.seq (.reg [⟨none, .iad 26 1 (.t 22) (.t 24)⟩,
         ⟨none, .ld 27 1 false (.t 26)⟩,
         ⟨none, .asg 9 (.t 27)⟩])
      (.drop [26, 27] (.reg [⟨none, .mov 28 (.t 7)⟩,
         ⟨none, .mov 29 (.t 9)⟩,
         ⟨none, .max 30 (.t 28) (.t 29)⟩,
         ⟨none, .asg 7 (.t 30)⟩]))))
    (.drop [26, 27, 9, 28, 29, 30] (.reg [⟨none, .bin 31 .add (.t 24) (.c (.int .i64 1))⟩,
       ⟨none, .asg 24 (.t 31)⟩])))))
def c_impl_LongestChain_l2 : ACode :=
  (.seq (.reg [⟨none, .bin 40 .lss (.t 39) (.t 38)⟩])
  (.seq (.cond (.t 40) .skip
    (.exit 4))
   (.seq (.block 5 (.seq (.reg [⟨none, .mov 41 (.t 39)⟩,
         ⟨none, .asg 11 (.t 41)⟩])
      (.drop [41] (.seq (.reg [⟨none, .mov 42 (.t 6)⟩,
          ⟨none, .mov 43 (.t 11)⟩,
          ⟨none, .iad 44 1 (.t 42) (.t 43)⟩,
          ⟨none, .ld 45 1 false (.t 44)⟩,
          ⟨none, .mov 46 (.t 7)⟩,
          ⟨none, .bin 47 .eql (.t 45) (.t 46)⟩,
          ⟨none, .asg 48 (.t 47)⟩,
          ⟨some (48, true), .mov 49 (.t 10)⟩,
          ⟨some (48, true), .len 50 (.t 49)⟩,
          ⟨some (48, true), .bin 51 .eql (.t 50) (.c (.int .i64 0))⟩,
          ⟨some (48, true), .asg 52 (.t 51)⟩,
          ⟨some (52, false), .mov 53 (.t 4)⟩,
          ⟨some (52, false), .mov 54 (.t 10)⟩,
          ⟨some (52, false), .mov 55 (.t 10)⟩,
          ⟨some (52, false), .len 56 (.t 55)⟩,
          ⟨some (52, false), .bin 57 .sub (.t 56) (.c (.int .i64 1))⟩,
          ⟨some (52, false), .iad 58 1 (.t 54) (.t 57)⟩,
          ⟨some (52, false), .ld 59 1 false (.t 58)⟩,
          ⟨some (52, false), .mov 60 (.t 11)⟩,
          ⟨some (52, false), .call 61 f_impl_order_less [((.t 53), false), ((.t 59), false), ((.t 60), false)]⟩,
          ⟨some (48, true), .pick 62 (.t 52) (.c (.bool true)) (.t 61)⟩,
          ⟨none, .pick 63 (.t 48) (.t 62) (.c (.bool false))⟩])
       (.drop [42, 43, 44, 45, 46, 47, 48, 49, 50, 51, 52, 53, 54, 55, 56, 57, 58, 59, 60, 61, 62] (.cond (.t 63) (.seq (.reg [⟨none, .mov 64 (.t 10)⟩,
            ⟨none, .mov 65 (.t 11)⟩,
            ⟨none, .bsl 66 1 [(.t 65)]⟩,
            ⟨none, .app 67 1 (.t 64) (.t 66)⟩,
            ⟨none, .asg 10 (.t 67)⟩])
         (.drop [64, 65, 66, 67] (.exit 4)))
        .skip))))))
    (.drop [41, 11, 42, 43, 44, 45, 46, 47, 48, 49, 50, 51, 52, 53, 54, 55, 56, 57, 58, 59, 60, 61, 62, 63, 64, 65, 66, 67] (.reg [⟨none, .bin 68 .add (.t 39) (.c (.int .i64 1))⟩,
       ⟨none, .asg 39 (.t 68)⟩])))))
def c_impl_LongestChain_l3 : ACode :=
  (.seq (.seq (.reg [⟨none, .mov 33 (.t 7)⟩,
      ⟨none, .bin 34 .geq (.t 33) (.c (.int .i64 0))⟩])
   (.drop [33] (.cond (.t 34) .skip
    (.exit 2))))
  (.drop [33, 34] (.seq (.block 3 (.seq (.reg [⟨none, .mov 37 (.t 4)⟩,
        ⟨none, .len 38 (.t 37)⟩,
        ⟨none, .mov 39 (.c (.int .i64 0))⟩])
     (.drop [37] (.block 4 (.loop c_impl_LongestChain_l2)))))
   (.drop [37, 38, 39, 40, 41, 11, 42, 43, 44, 45, 46, 47, 48, 49, 50, 51, 52, 53, 54, 55, 56, 57, 58, 59, 60, 61, 62, 63, 64, 65, 66, 67, 68] (.reg [⟨none, .mov 35 (.t 7)⟩,
      ⟨none, .bin 36 .sub (.t 35) (.c (.int .i64 1))⟩,
      ⟨none, .asg 7 (.t 36)⟩])))))
def c_impl_LongestChain : ACode :=
  (.seq (.reg [⟨none, .box 1 (.t 0)⟩,
     ⟨none, .asg 2 (.c (.nilsl 1))⟩,
     ⟨none, .asg 3 (.c (.bool false))⟩])
  (.seq (.reg [⟨none, .ld 13 1 true (.t 1)⟩,
      ⟨none, .call 14 f_impl_orderOf [((.t 13), false)]⟩,
      ⟨none, .asg 12 (.t 14)⟩,
      ⟨none, .ext 15 (.t 12) 0⟩,
      ⟨none, .ext 16 (.t 12) 1⟩,
      ⟨none, .asg 4 (.t 15)⟩,
      ⟨none, .asg 5 (.t 16)⟩])
   (.drop [13, 14, 12, 15, 16] (.seq (.seq (.reg [⟨none, .mov 17 (.t 5)⟩,
        ⟨none, .un 18 .not (.t 17)⟩])
     (.drop [17] (.cond (.t 18) (.seq (.reg [⟨none, .bsl 19 1 []⟩,
          ⟨none, .asg 2 (.t 19)⟩,
          ⟨none, .asg 3 (.c (.bool false))⟩])
       (.drop [19] .ret))
      .skip)))
    (.drop [17, 18, 19] (.seq (.reg [⟨none, .mov 20 (.t 4)⟩,
        ⟨none, .call 21 f_impl_order_lengths [((.t 20), false), ((.c (.bool false)), false)]⟩,
        ⟨none, .asg 6 (.t 21)⟩])
     (.drop [20, 21] (.seq (.reg [⟨none, .asg 7 (.c (.int .i64 (-1)))⟩])
      (.seq (.seq (.reg [⟨none, .mov 22 (.t 6)⟩,
           ⟨none, .len 23 (.t 22)⟩,
           ⟨none, .mov 24 (.c (.int .i64 0))⟩])
        (.block 0 (.loop c_impl_LongestChain_l1)))
       (.drop [22, 23, 24, 25, 26, 27, 9, 28, 29, 30, 31] (.seq (.reg [⟨none, .bsl 32 1 []⟩,
           ⟨none, .asg 10 (.t 32)⟩])
        (.drop [32] (.seq (.block 2 (.loop c_impl_LongestChain_l3))
         (.drop [33, 34, 37, 38, 39, 40, 41, 11, 42, 43, 44, 45, 46, 47, 48, 49, 50, 51, 52, 53, 54, 55, 56, 57, 58, 59, 60, 61, 62, 63, 64, 65, 66, 67, 68, 35, 36] (.seq (.reg [⟨none, .mov 69 (.t 10)⟩,
             ⟨none, .asg 2 (.t 69)⟩,
             ⟨none, .asg 3 (.c (.bool true))⟩])
          (.drop [69] .ret))))))))))))))))
abbrev r_impl_LongestChain : List RS := [.t 2, .t 3]
theorem k_impl_LongestChain : fitsF Try.prog f_impl_LongestChain 70 c_impl_LongestChain r_impl_LongestChain = true := by kernel_rfl

/- loop.example/g01078/spec.l23Good: [p=0, p=1, n=3, x=4, x=5, i=6, y=7] -/
def c_spec_l23Good_l1 : ACode :=
  (.seq (.seq (.reg [⟨none, .mov 13 (.t 4)⟩,
      ⟨none, .mov 14 (.t 3)⟩,
      ⟨none, .bin 15 .lss (.t 13) (.t 14)⟩])
   (.drop [13, 14] (.cond (.t 15) .skip
    (.exit 0))))
  (.drop [13, 14, 15] (.seq (.block 1 (.seq (.reg [⟨none, .fadr 18 0 (.t 1)⟩,
        ⟨none, .ld 19 1 false (.t 18)⟩,
        ⟨none, .mov 20 (.t 4)⟩,
        ⟨none, .iad 21 1 (.t 19) (.t 20)⟩,
        ⟨none, .ld 22 1 false (.t 21)⟩,
        ⟨none, .mov 23 (.t 3)⟩,
        ⟨none, .bin 24 .sub (.t 23) (.c (.int .i64 1))⟩,
        ⟨none, .call 25 f_spec_l1Rising [((.t 22), false), ((.c (.int .i64 0)), false), ((.t 24), false)]⟩,
        ⟨none, .un 26 .not (.t 25)⟩,
        ⟨none, .asg 27 (.t 26)⟩,
        ⟨some (27, false), .fadr 28 0 (.t 1)⟩,
        ⟨some (27, false), .ld 29 1 false (.t 28)⟩,
        ⟨some (27, false), .mov 30 (.t 4)⟩,
        ⟨some (27, false), .iad 31 1 (.t 29) (.t 30)⟩,
        ⟨some (27, false), .ld 32 1 false (.t 31)⟩,
        ⟨some (27, false), .mov 33 (.t 4)⟩,
        ⟨some (27, false), .call 34 f_spec_l1Has [((.t 32), false), ((.t 33), false)]⟩,
        ⟨some (27, false), .un 35 .not (.t 34)⟩,
        ⟨none, .pick 36 (.t 27) (.c (.bool true)) (.t 35)⟩])
     (.drop [18, 19, 20, 21, 22, 23, 24, 25, 26, 27, 28, 29, 30, 31, 32, 33, 34, 35] (.cond (.t 36) (.seq (.reg [⟨none, .asg 2 (.c (.bool false))⟩])
       .ret)
      .skip))))
   (.drop [18, 19, 20, 21, 22, 23, 24, 25, 26, 27, 28, 29, 30, 31, 32, 33, 34, 35, 36] (.reg [⟨none, .mov 16 (.t 4)⟩,
      ⟨none, .bin 17 .add (.t 16) (.c (.int .i64 1))⟩,
      ⟨none, .asg 4 (.t 17)⟩])))))
def c_spec_l23Good_l2 : ACode :=
  (.seq (.seq (.reg [⟨none, .mov 42 (.t 6)⟩,
      ⟨none, .fadr 43 0 (.t 1)⟩,
      ⟨none, .ld 44 1 false (.t 43)⟩,
      ⟨none, .mov 45 (.t 5)⟩,
      ⟨none, .iad 46 1 (.t 44) (.t 45)⟩,
      ⟨none, .ld 47 1 false (.t 46)⟩,
      ⟨none, .len 48 (.t 47)⟩,
      ⟨none, .bin 49 .lss (.t 42) (.t 48)⟩])
   (.drop [42, 43, 44, 45, 46, 47, 48] (.cond (.t 49) .skip
    (.exit 4))))
  (.drop [42, 43, 44, 45, 46, 47, 48, 49] (.seq (.block 5 (.seq (.reg [⟨none, .fadr 52 0 (.t 1)⟩,
        ⟨none, .ld 53 1 false (.t 52)⟩,
        ⟨none, .mov 54 (.t 5)⟩,
        ⟨none, .iad 55 1 (.t 53) (.t 54)⟩,
        ⟨none, .ld 56 1 false (.t 55)⟩,
        ⟨none, .mov 57 (.t 6)⟩,
        ⟨none, .iad 58 1 (.t 56) (.t 57)⟩,
        ⟨none, .ld 59 1 false (.t 58)⟩,
        ⟨none, .asg 7 (.t 59)⟩])
     (.drop [52, 53, 54, 55, 56, 57, 58, 59] (.seq (.dreg [(⟨none, .mov 60 (.t 7)⟩, []),
         (⟨none, .mov 61 (.t 5)⟩, [60]),
         (⟨none, .bin 62 .neq (.t 60) (.t 61)⟩, []),
         (⟨none, .asg 63 (.t 62)⟩, []),
         (⟨some (63, true), .fadr 64 0 (.t 1)⟩, []),
         (⟨some (63, true), .ld 65 1 false (.t 64)⟩, []),
         (⟨some (63, true), .mov 66 (.t 7)⟩, [64, 65]),
         (⟨some (63, true), .iad 67 1 (.t 65) (.t 66)⟩, []),
         (⟨some (63, true), .ld 68 1 false (.t 67)⟩, []),
         (⟨some (63, true), .mov 69 (.t 5)⟩, [64, 65, 66, 67, 68]),
         (⟨some (63, true), .call 70 f_spec_l1Has [((.t 68), false), ((.t 69), false)]⟩, []),
         (⟨none, .pick 71 (.t 63) (.t 70) (.c (.bool false))⟩, []),
         (⟨none, .asg 72 (.t 71)⟩, []),
         (⟨some (72, false), .fadr 73 0 (.t 1)⟩, []),
         (⟨some (72, false), .ld 74 1 false (.t 73)⟩, []),
         (⟨some (72, false), .mov 75 (.t 7)⟩, [73, 74]),
         (⟨some (72, false), .iad 76 1 (.t 74) (.t 75)⟩, []),
         (⟨some (72, false), .ld 77 1 false (.t 76)⟩, []),
         (⟨some (72, false), .fadr 78 0 (.t 1)⟩, [73, 74, 75, 76, 77]),
         (⟨some (72, false), .ld 79 1 false (.t 78)⟩, [73, 74, 75, 76, 77]),
         (⟨some (72, false), .mov 80 (.t 5)⟩, [73, 74, 75, 76, 77, 78, 79]),
         (⟨some (72, false), .iad 81 1 (.t 79) (.t 80)⟩, [73, 74, 75, 76, 77]),
         (⟨some (72, false), .ld 82 1 false (.t 81)⟩, [73, 74, 75, 76, 77])]
        [⟨some (72, false), .call 83 f_spec_l5Within [((.t 77), false), ((.t 82), false)]⟩,
         ⟨some (72, false), .un 84 .not (.t 83)⟩,
         ⟨none, .pick 85 (.t 72) (.c (.bool true)) (.t 84)⟩])
      (.drop [60, 61, 62, 63, 64, 65, 66, 67, 68, 69, 70, 71, 72, 73, 74, 75, 76, 77, 78, 79, 80, 81, 82, 83, 84] (.cond (.t 85) (.seq (.reg [⟨none, .asg 2 (.c (.bool false))⟩])
        .ret)
       .skip))))))
   (.drop [52, 53, 54, 55, 56, 57, 58, 59, 7, 60, 61, 62, 63, 64, 65, 66, 67, 68, 69, 70, 71, 72, 73, 74, 75, 76, 77, 78, 79, 80, 81, 82, 83, 84, 85] (.reg [⟨none, .mov 50 (.t 6)⟩,
      ⟨none, .bin 51 .add (.t 50) (.c (.int .i64 1))⟩,
      ⟨none, .asg 6 (.t 51)⟩])))))
def c_spec_l23Good_l3 : ACode :=
  (.seq (.seq (.reg [⟨none, .mov 37 (.t 5)⟩,
      ⟨none, .mov 38 (.t 3)⟩,
      ⟨none, .bin 39 .lss (.t 37) (.t 38)⟩])
   (.drop [37, 38] (.cond (.t 39) .skip
    (.exit 2))))
  (.drop [37, 38, 39] (.seq (.block 3 (.seq (.reg [⟨none, .asg 6 (.c (.int .i64 0))⟩])
     (.block 4 (.loop c_spec_l23Good_l2))))
   (.drop [6, 42, 43, 44, 45, 46, 47, 48, 49, 52, 53, 54, 55, 56, 57, 58, 59, 7, 60, 61, 62, 63, 64, 65, 66, 67, 68, 69, 70, 71, 72, 73, 74, 75, 76, 77, 78, 79, 80, 81, 82, 83, 84, 85, 50, 51] (.reg [⟨none, .mov 40 (.t 5)⟩,
      ⟨none, .bin 41 .add (.t 40) (.c (.int .i64 1))⟩,
      ⟨none, .asg 5 (.t 41)⟩])))))
def c_spec_l23Good : ACode :=
  (.seq (.reg [⟨none, .box 1 (.t 0)⟩,
     ⟨none, .asg 2 (.c (.bool false))⟩])
  (.seq (.reg [⟨none, .fadr 8 0 (.t 1)⟩,
      ⟨none, .ld 9 1 false (.t 8)⟩,
      ⟨none, .len 10 (.t 9)⟩,
      ⟨none, .asg 3 (.t 10)⟩])
   (.drop [8, 9, 10] (.seq (.seq (.reg [⟨none, .mov 11 (.t 3)⟩,
        ⟨none, .bin 12 .gtr (.t 11) (.c (.int .i64 10))⟩])
     (.drop [11] (.cond (.t 12) (.seq (.reg [⟨none, .asg 2 (.c (.bool false))⟩])
       .ret)
      .skip)))
    (.drop [11, 12] (.seq (.seq (.reg [⟨none, .asg 4 (.c (.int .i64 0))⟩])
      (.block 0 (.loop c_spec_l23Good_l1)))
     (.drop [4, 13, 14, 15, 18, 19, 20, 21, 22, 23, 24, 25, 26, 27, 28, 29, 30, 31, 32, 33, 34, 35, 36, 16, 17] (.seq (.seq (.reg [⟨none, .asg 5 (.c (.int .i64 0))⟩])
       (.block 2 (.loop c_spec_l23Good_l3)))
      (.drop [5, 37, 38, 39, 6, 42, 43, 44, 45, 46, 47, 48, 49, 52, 53, 54, 55, 56, 57, 58, 59, 7, 60, 61, 62, 63, 64, 65, 66, 67, 68, 69, 70, 71, 72, 73, 74, 75, 76, 77, 78, 79, 80, 81, 82, 83, 84, 85, 50, 51, 40, 41] (.seq (.reg [⟨none, .asg 2 (.c (.bool true))⟩])
       .ret))))))))))
abbrev r_spec_l23Good : List RS := [.t 2]
theorem k_spec_l23Good : fitsF Try.prog f_spec_l23Good 86 c_spec_l23Good r_spec_l23Good = true := by kernel_rfl

/- loop.example/g01078/impl.MinimalElements$1: [x=0, x=2] -/
def c_impl_MinimalElements_1 : ACode :=
  (.seq (.reg [⟨none, .box 2 (.t 0)⟩,
     ⟨none, .asg 3 (.c (.bool false))⟩])
  (.seq (.reg [⟨none, .ld 4 1 false (.t 1)⟩,
      ⟨none, .mkf 5 f_impl_MinimalElements_1_1 [(.t 1), (.t 2)]⟩,
      ⟨none, .call 6 f_impl_order_none [((.t 4), false), ((.t 5), false)]⟩,
      ⟨none, .asg 3 (.t 6)⟩])
   (.drop [4, 5, 6] .ret)))
abbrev r_impl_MinimalElements_1 : List RS := [.t 3]
theorem k_impl_MinimalElements_1 : fitsF Try.prog f_impl_MinimalElements_1 7 c_impl_MinimalElements_1 r_impl_MinimalElements_1 = true := by kernel_rfl

/- loop.example/g01078/spec.l23Dual: [p=0, p=1, out=3, x=4, below=5, y=6] -/
def c_spec_l23Dual_l1 : ACode :=
  (.seq (.seq (.reg [⟨none, .mov 17 (.t 6)⟩,
      ⟨none, .fadr 18 0 (.t 1)⟩,
      ⟨none, .ld 19 1 false (.t 18)⟩,
      ⟨none, .len 20 (.t 19)⟩,
      ⟨none, .bin 21 .lss (.t 17) (.t 20)⟩])
   (.drop [17, 18, 19, 20] (.cond (.t 21) .skip
    (.exit 2))))
  (.drop [17, 18, 19, 20, 21] (.seq (.block 3 (.seq (.reg [⟨none, .ld 24 1 true (.t 1)⟩,
        ⟨none, .mov 25 (.t 4)⟩,
        ⟨none, .mov 26 (.t 6)⟩,
        ⟨none, .call 27 f_spec_l23Leq [((.t 24), false), ((.t 25), false), ((.t 26), false)]⟩])
     (.drop [24, 25, 26] (.cond (.t 27) (.reg [⟨none, .mov 28 (.t 5)⟩,
         ⟨none, .mov 29 (.t 6)⟩,
         ⟨none, .bsl 30 1 [(.t 29)]⟩,
         ⟨none, .app 31 1 (.t 28) (.t 30)⟩,
         ⟨none, .asg 5 (.t 31)⟩])
      .skip))))
   (.drop [24, 25, 26, 27, 28, 29, 30, 31] (.reg [⟨none, .mov 22 (.t 6)⟩,
      ⟨none, .bin 23 .add (.t 22) (.c (.int .i64 1))⟩,
      ⟨none, .asg 6 (.t 23)⟩])))))
def c_spec_l23Dual_l2 : ACode :=
  (.seq (.seq (.reg [⟨none, .mov 9 (.t 4)⟩,
      ⟨none, .fadr 10 0 (.t 1)⟩,
      ⟨none, .ld 11 1 false (.t 10)⟩,
      ⟨none, .len 12 (.t 11)⟩,
      ⟨none, .bin 13 .lss (.t 9) (.t 12)⟩])
   (.drop [9, 10, 11, 12] (.cond (.t 13) .skip
    (.exit 0))))
  (.drop [9, 10, 11, 12, 13] (.seq (.block 1 (.seq (.reg [⟨none, .bsl 16 1 []⟩,
        ⟨none, .asg 5 (.t 16)⟩])
     (.drop [16] (.seq (.seq (.reg [⟨none, .asg 6 (.c (.int .i64 0))⟩])
       (.block 2 (.loop c_spec_l23Dual_l1)))
      (.drop [6, 17, 18, 19, 20, 21, 24, 25, 26, 27, 28, 29, 30, 31, 22, 23] (.reg [⟨none, .fadr 32 0 (.t 3)⟩,
         ⟨none, .ld 33 1 false (.t 32)⟩,
         ⟨none, .mov 34 (.t 5)⟩,
         ⟨none, .bsl 35 1 [(.t 34)]⟩,
         ⟨none, .app 36 1 (.t 33) (.t 35)⟩,
         ⟨none, .fadr 37 0 (.t 3)⟩,
         ⟨none, .st 1 (.t 37) (.t 36)⟩]))))))
   (.drop [16, 5, 6, 17, 18, 19, 20, 21, 24, 25, 26, 27, 28, 29, 30, 31, 22, 23, 32, 33, 34, 35, 36, 37] (.reg [⟨none, .mov 14 (.t 4)⟩,
      ⟨none, .bin 15 .add (.t 14) (.c (.int .i64 1))⟩,
      ⟨none, .asg 4 (.t 15)⟩])))))
def c_spec_l23Dual : ACode :=
  (.seq (.reg [⟨none, .box 1 (.t 0)⟩,
     ⟨none, .alc 2 (.agg [.nilsl 1])⟩])
  (.seq (.reg [⟨none, .bsl 7 1 []⟩,
      ⟨none, .bld 8 [.nilsl 1] [(0, 1, (.t 7))]⟩,
      ⟨none, .alc 3 (.agg [.nilsl 1])⟩,
      ⟨none, .st 1 (.t 3) (.t 8)⟩])
   (.drop [7, 8] (.seq (.seq (.reg [⟨none, .asg 4 (.c (.int .i64 0))⟩])
     (.block 0 (.loop c_spec_l23Dual_l2)))
    (.drop [4, 9, 10, 11, 12, 13, 16, 5, 6, 17, 18, 19, 20, 21, 24, 25, 26, 27, 28, 29, 30, 31, 22, 23, 32, 33, 34, 35, 36, 37, 14, 15] (.seq (.reg [⟨none, .ld 38 1 true (.t 3)⟩,
        ⟨none, .st 1 (.t 2) (.t 38)⟩])
     (.drop [38] .ret)))))))
abbrev r_spec_l23Dual : List RS := [.c 2 1 true]
theorem k_spec_l23Dual : fitsF Try.prog f_spec_l23Dual 39 c_spec_l23Dual r_spec_l23Dual = true := by kernel_rfl

/- loop.example/g01078/impl.MaximalElements$1: [x=0, x=2] -/
def c_impl_MaximalElements_1 : ACode :=
  (.seq (.reg [⟨none, .box 2 (.t 0)⟩,
     ⟨none, .asg 3 (.c (.bool false))⟩])
  (.seq (.reg [⟨none, .ld 4 1 false (.t 1)⟩,
      ⟨none, .mkf 5 f_impl_MaximalElements_1_1 [(.t 1), (.t 2)]⟩,
      ⟨none, .call 6 f_impl_order_none [((.t 4), false), ((.t 5), false)]⟩,
      ⟨none, .asg 3 (.t 6)⟩])
   (.drop [4, 5, 6] .ret)))
abbrev r_impl_MaximalElements_1 : List RS := [.t 3]
theorem k_impl_MaximalElements_1 : fitsF Try.prog f_impl_MaximalElements_1 7 c_impl_MaximalElements_1 r_impl_MaximalElements_1 = true := by kernel_rfl

/- loop.example/g01078/spec.l23First: [p=0, p=1, out=3, x=4] -/
def c_spec_l23First_l1 : ACode :=
  (.seq (.seq (.dreg [(⟨none, .mov 12 (.t 3)⟩, []),
      (⟨none, .mov 13 (.t 4)⟩, [12]),
      (⟨none, .call 14 f_spec_l1Has [((.t 12), false), ((.t 13), false)]⟩, []),
      (⟨none, .asg 15 (.t 14)⟩, []),
      (⟨some (15, false), .fadr 16 0 (.t 1)⟩, []),
      (⟨some (15, false), .ld 17 1 false (.t 16)⟩, []),
      (⟨some (15, false), .mov 18 (.t 4)⟩, [16, 17]),
      (⟨some (15, false), .iad 19 1 (.t 17) (.t 18)⟩, []),
      (⟨some (15, false), .ld 20 1 false (.t 19)⟩, []),
      (⟨some (15, false), .mov 21 (.t 3)⟩, [16, 17, 18, 19, 20]),
      (⟨some (15, false), .call 22 f_spec_l1Own [((.t 21), false)]⟩, [16, 17, 18, 19, 20]),
      (⟨some (15, false), .mov 23 (.t 4)⟩, [16, 17, 18, 19, 20, 21, 22]),
      (⟨some (15, false), .bsl 24 1 [(.t 23)]⟩, [16, 17, 18, 19, 20, 21, 22]),
      (⟨some (15, false), .app 25 1 (.t 22) (.t 24)⟩, [16, 17, 18, 19, 20])]
     [⟨some (15, false), .call 26 f_spec_l5Within [((.t 20), false), ((.t 25), false)]⟩,
      ⟨some (15, false), .un 27 .not (.t 26)⟩,
      ⟨none, .pick 28 (.t 15) (.c (.bool true)) (.t 27)⟩])
   (.drop [12, 13, 14, 15, 16, 17, 18, 19, 20, 21, 22, 23, 24, 25, 26, 27] (.cond (.t 28) .skip
    (.exit 2))))
  (.drop [12, 13, 14, 15, 16, 17, 18, 19, 20, 21, 22, 23, 24, 25, 26, 27, 28] (.block 3 (.reg [⟨none, .mov 29 (.t 4)⟩,
      ⟨none, .bin 30 .add (.t 29) (.c (.int .i64 1))⟩,
      ⟨none, .asg 4 (.t 30)⟩]))))
def c_spec_l23First_l2 : ACode :=
  (.seq (.seq (.reg [⟨none, .mov 6 (.t 3)⟩,
      ⟨none, .len 7 (.t 6)⟩,
      ⟨none, .fadr 8 0 (.t 1)⟩,
      ⟨none, .ld 9 1 false (.t 8)⟩,
      ⟨none, .len 10 (.t 9)⟩,
      ⟨none, .bin 11 .lss (.t 7) (.t 10)⟩])
   (.drop [6, 7, 8, 9, 10] (.cond (.t 11) .skip
    (.exit 0))))
  (.drop [6, 7, 8, 9, 10, 11] (.block 1 (.seq (.reg [⟨none, .asg 4 (.c (.int .i64 0))⟩])
    (.seq (.block 2 (.loop c_spec_l23First_l1))
     (.drop [12, 13, 14, 15, 16, 17, 18, 19, 20, 21, 22, 23, 24, 25, 26, 27, 28, 29, 30] (.reg [⟨none, .mov 31 (.t 3)⟩,
        ⟨none, .mov 32 (.t 4)⟩,
        ⟨none, .bsl 33 1 [(.t 32)]⟩,
        ⟨none, .app 34 1 (.t 31) (.t 33)⟩,
        ⟨none, .asg 3 (.t 34)⟩])))))))
def c_spec_l23First : ACode :=
  (.seq (.reg [⟨none, .box 1 (.t 0)⟩,
     ⟨none, .asg 2 (.c (.nilsl 1))⟩])
  (.seq (.reg [⟨none, .bsl 5 1 []⟩,
      ⟨none, .asg 3 (.t 5)⟩])
   (.drop [5] (.seq (.block 0 (.loop c_spec_l23First_l2))
    (.drop [6, 7, 8, 9, 10, 11, 4, 12, 13, 14, 15, 16, 17, 18, 19, 20, 21, 22, 23, 24, 25, 26, 27, 28, 29, 30, 31, 32, 33, 34] (.seq (.reg [⟨none, .mov 35 (.t 3)⟩,
        ⟨none, .asg 2 (.t 35)⟩])
     (.drop [35] .ret)))))))
abbrev r_spec_l23First : List RS := [.t 2]
theorem k_spec_l23First : fitsF Try.prog f_spec_l23First 36 c_spec_l23First r_spec_l23First = true := by kernel_rfl

/- loop.example/g01078/impl.latticeOf: [p=0, p=1, o=4, ok=5, meets=6, one=7, joins=8, two=9] -/
def c_impl_latticeOf_k1 : ACode :=
  (.seq (.reg [⟨none, .mov 15 (.t 5)⟩,
        ⟨none, .un 16 .not (.t 15)⟩,
        ⟨none, .asg 17 (.t 16)⟩,
        ⟨some (17, false), .mov 18 (.t 4)⟩,
        ⟨some (17, false), .len 19 (.t 18)⟩,
        ⟨some (17, false), .bin 20 .eql (.t 19) (.c (.int .i64 0))⟩,
        ⟨none, .pick 21 (.t 17) (.c (.bool true)) (.t 20)⟩])
     (.drop [15, 16, 17, 18, 19, 20] (.cond (.t 21) (.seq (.reg [⟨none, .asg 2 (.c (.nilp))⟩,
          ⟨none, .asg 3 (.c (.bool false))⟩])
       .ret)
      .skip)))
def c_impl_latticeOf : ACode :=
  (.seq (.reg [⟨none, .box 1 (.t 0)⟩,
     ⟨none, .asg 2 (.c (.nilp))⟩,
     ⟨none, .asg 3 (.c (.bool false))⟩])
  (.seq (.reg [⟨none, .ld 11 1 true (.t 1)⟩,
      ⟨none, .call 12 f_impl_orderOf [((.t 11), false)]⟩,
      ⟨none, .asg 10 (.t 12)⟩,
      ⟨none, .ext 13 (.t 10) 0⟩,
      ⟨none, .ext 14 (.t 10) 1⟩,
      ⟨none, .asg 4 (.t 13)⟩,
      ⟨none, .asg 5 (.t 14)⟩])
   (.drop [11, 12, 10, 13, 14] (.seq (.cut c_impl_latticeOf_k1)
    (.drop [15, 16, 17, 18, 19, 20, 21] (.seq (.reg [⟨none, .mov 23 (.t 4)⟩,
        ⟨none, .call 24 f_impl_order_meetTable [((.t 23), false)]⟩,
        ⟨none, .asg 22 (.t 24)⟩,
        ⟨none, .ext 25 (.t 22) 0⟩,
        ⟨none, .ext 26 (.t 22) 1⟩,
        ⟨none, .asg 6 (.t 25)⟩,
        ⟨none, .asg 7 (.t 26)⟩])
     (.drop [23, 24, 22, 25, 26] (.seq (.reg [⟨none, .mov 28 (.t 4)⟩,
         ⟨none, .call 29 f_impl_order_dual [((.t 28), false)]⟩,
         ⟨none, .call 30 f_impl_order_meetTable [((.t 29), false)]⟩,
         ⟨none, .asg 27 (.t 30)⟩,
         ⟨none, .ext 31 (.t 27) 0⟩,
         ⟨none, .ext 32 (.t 27) 1⟩,
         ⟨none, .asg 8 (.t 31)⟩,
         ⟨none, .asg 9 (.t 32)⟩])
      (.drop [28, 29, 30, 27, 31, 32] (.seq (.reg [⟨none, .mov 33 (.t 4)⟩,
          ⟨none, .mov 34 (.t 6)⟩,
          ⟨none, .mov 35 (.t 8)⟩,
          ⟨none, .bld 36 [.nilsl 1, .nilsl 1, .nilsl 1] [(0, 1, (.t 33)), (1, 1, (.t 34)), (2, 1, (.t 35))]⟩,
          ⟨none, .box 37 (.t 36)⟩,
          ⟨none, .mov 38 (.t 7)⟩,
          ⟨none, .asg 39 (.t 38)⟩,
          ⟨some (39, true), .mov 40 (.t 9)⟩,
          ⟨none, .pick 41 (.t 39) (.t 40) (.c (.bool false))⟩,
          ⟨none, .asg 2 (.t 37)⟩,
          ⟨none, .asg 3 (.t 41)⟩])
       (.drop [33, 34, 35, 36, 37, 38, 39, 40, 41] .ret)))))))))))
abbrev r_impl_latticeOf : List RS := [.t 2, .t 3]
theorem k_impl_latticeOf : fitsF Try.prog f_impl_latticeOf 42 c_impl_latticeOf r_impl_latticeOf = true := by kernel_rfl

/- loop.example/g01078/spec.l23Less: [p=0, x=1, y=2, p=3, x=4, y=5] -/
def c_spec_l23Less : ACode :=
  (.seq (.reg [⟨none, .box 3 (.t 0)⟩,
     ⟨none, .asg 6 (.c (.bool false))⟩])
  (.seq (.reg [⟨none, .mov 7 (.t 1)⟩,
      ⟨none, .mov 8 (.t 2)⟩,
      ⟨none, .bin 9 .neq (.t 7) (.t 8)⟩,
      ⟨none, .asg 10 (.t 9)⟩,
      ⟨some (10, true), .ld 11 1 true (.t 3)⟩,
      ⟨some (10, true), .mov 12 (.t 1)⟩,
      ⟨some (10, true), .mov 13 (.t 2)⟩,
      ⟨some (10, true), .call 14 f_spec_l23Leq [((.t 11), false), ((.t 12), false), ((.t 13), false)]⟩,
      ⟨none, .pick 15 (.t 10) (.t 14) (.c (.bool false))⟩,
      ⟨none, .asg 6 (.t 15)⟩])
   (.drop [7, 8, 9, 10, 11, 12, 13, 14, 15] .ret)))
abbrev r_spec_l23Less : List RS := [.t 6]
theorem k_spec_l23Less : fitsF Try.prog f_spec_l23Less 16 c_spec_l23Less r_spec_l23Less = true := by kernel_rfl

/- loop.example/g01078/spec.l24Bound: [p=0, some=1, p=2, some=3, low=5, z=6, all=7, i=8, i=9] -/
def c_spec_l24Bound_l1 : ACode :=
  (.seq (.seq (.reg [⟨none, .mov 18 (.t 8)⟩,
      ⟨none, .mov 19 (.t 1)⟩,
      ⟨none, .len 20 (.t 19)⟩,
      ⟨none, .bin 21 .lss (.t 18) (.t 20)⟩])
   (.drop [18, 19, 20] (.cond (.t 21) .skip
    (.exit 2))))
  (.drop [18, 19, 20, 21] (.seq (.block 3 (.dreg [(⟨none, .mov 24 (.t 7)⟩, []),
       (⟨none, .asg 25 (.t 24)⟩, []),
       (⟨some (25, true), .ld 26 1 true (.t 2)⟩, []),
       (⟨some (25, true), .mov 27 (.t 6)⟩, [26]),
       (⟨some (25, true), .mov 28 (.t 1)⟩, [26, 27]),
       (⟨some (25, true), .mov 29 (.t 8)⟩, [26, 27, 28]),
       (⟨some (25, true), .iad 30 1 (.t 28) (.t 29)⟩, [26, 27]),
       (⟨some (25, true), .ld 31 1 false (.t 30)⟩, [26, 27])]
      [⟨some (25, true), .call 32 f_spec_l23Leq [((.t 26), false), ((.t 27), false), ((.t 31), false)]⟩,
       ⟨none, .pick 33 (.t 25) (.t 32) (.c (.bool false))⟩,
       ⟨none, .asg 7 (.t 33)⟩]))
   (.drop [24, 25, 26, 27, 28, 29, 30, 31, 32, 33] (.reg [⟨none, .mov 22 (.t 8)⟩,
      ⟨none, .bin 23 .add (.t 22) (.c (.int .i64 1))⟩,
      ⟨none, .asg 8 (.t 23)⟩])))))
def c_spec_l24Bound_l2 : ACode :=
  (.seq (.seq (.reg [⟨none, .mov 11 (.t 6)⟩,
      ⟨none, .fadr 12 0 (.t 2)⟩,
      ⟨none, .ld 13 1 false (.t 12)⟩,
      ⟨none, .len 14 (.t 13)⟩,
      ⟨none, .bin 15 .lss (.t 11) (.t 14)⟩])
   (.drop [11, 12, 13, 14] (.cond (.t 15) .skip
    (.exit 0))))
  (.drop [11, 12, 13, 14, 15] (.seq (.block 1 (.seq (.reg [⟨none, .asg 7 (.c (.bool true))⟩])
     (.seq (.seq (.reg [⟨none, .asg 8 (.c (.int .i64 0))⟩])
       (.block 2 (.loop c_spec_l24Bound_l1)))
      (.drop [8, 18, 19, 20, 21, 24, 25, 26, 27, 28, 29, 30, 31, 32, 33, 22, 23] (.seq (.reg [⟨none, .mov 34 (.t 7)⟩])
       (.cond (.t 34) (.reg [⟨none, .mov 35 (.t 5)⟩,
           ⟨none, .mov 36 (.t 6)⟩,
           ⟨none, .bsl 37 1 [(.t 36)]⟩,
           ⟨none, .app 38 1 (.t 35) (.t 37)⟩,
           ⟨none, .asg 5 (.t 38)⟩])
        .skip))))))
   (.drop [7, 8, 18, 19, 20, 21, 24, 25, 26, 27, 28, 29, 30, 31, 32, 33, 22, 23, 34, 35, 36, 37, 38] (.reg [⟨none, .mov 16 (.t 6)⟩,
      ⟨none, .bin 17 .add (.t 16) (.c (.int .i64 1))⟩,
      ⟨none, .asg 6 (.t 17)⟩])))))
def c_spec_l24Bound_l3 : ACode :=
  (.seq (.seq (.reg [⟨none, .mov 39 (.t 9)⟩,
      ⟨none, .mov 40 (.t 5)⟩,
      ⟨none, .len 41 (.t 40)⟩,
      ⟨none, .bin 42 .lss (.t 39) (.t 41)⟩])
   (.drop [39, 40, 41] (.cond (.t 42) .skip
    (.exit 4))))
  (.drop [39, 40, 41, 42] (.seq (.block 5 (.seq (.dreg [(⟨none, .mov 45 (.t 5)⟩, []),
        (⟨none, .fadr 46 0 (.t 2)⟩, [45]),
        (⟨none, .ld 47 1 false (.t 46)⟩, [45]),
        (⟨none, .mov 48 (.t 5)⟩, [45, 46, 47]),
        (⟨none, .mov 49 (.t 9)⟩, [45, 46, 47, 48]),
        (⟨none, .iad 50 1 (.t 48) (.t 49)⟩, [45, 46, 47]),
        (⟨none, .ld 51 1 false (.t 50)⟩, [45, 46, 47]),
        (⟨none, .iad 52 1 (.t 47) (.t 51)⟩, [45]),
        (⟨none, .ld 53 1 false (.t 52)⟩, [45])]
       [⟨none, .call 54 f_spec_l5Within [((.t 45), false), ((.t 53), false)]⟩])
     (.drop [45, 46, 47, 48, 49, 50, 51, 52, 53] (.cond (.t 54) (.seq (.reg [⟨none, .mov 55 (.t 5)⟩,
          ⟨none, .mov 56 (.t 9)⟩,
          ⟨none, .iad 57 1 (.t 55) (.t 56)⟩,
          ⟨none, .ld 58 1 false (.t 57)⟩,
          ⟨none, .asg 4 (.t 58)⟩])
       (.drop [55, 56, 57, 58] .ret))
      .skip))))
   (.drop [45, 46, 47, 48, 49, 50, 51, 52, 53, 54, 55, 56, 57, 58] (.reg [⟨none, .mov 43 (.t 9)⟩,
      ⟨none, .bin 44 .add (.t 43) (.c (.int .i64 1))⟩,
      ⟨none, .asg 9 (.t 44)⟩])))))
def c_spec_l24Bound : ACode :=
  (.seq (.reg [⟨none, .box 2 (.t 0)⟩,
     ⟨none, .asg 4 (.c (.int .i64 0))⟩])
  (.seq (.reg [⟨none, .bsl 10 1 []⟩,
      ⟨none, .asg 5 (.t 10)⟩])
   (.drop [10] (.seq (.seq (.reg [⟨none, .asg 6 (.c (.int .i64 0))⟩])
     (.block 0 (.loop c_spec_l24Bound_l2)))
    (.drop [6, 11, 12, 13, 14, 15, 7, 8, 18, 19, 20, 21, 24, 25, 26, 27, 28, 29, 30, 31, 32, 33, 22, 23, 34, 35, 36, 37, 38, 16, 17] (.seq (.seq (.reg [⟨none, .asg 9 (.c (.int .i64 0))⟩])
      (.block 4 (.loop c_spec_l24Bound_l3)))
     (.drop [9, 39, 40, 41, 42, 45, 46, 47, 48, 49, 50, 51, 52, 53, 54, 55, 56, 57, 58, 43, 44] (.seq (.reg [⟨none, .asg 4 (.c (.int .i64 (-1)))⟩])
      .ret))))))))
abbrev r_spec_l24Bound : List RS := [.t 4]
theorem k_spec_l24Bound : fitsF Try.prog f_spec_l24Bound 59 c_spec_l24Bound r_spec_l24Bound = true := by kernel_rfl

/- loop.example/g01078/spec.IsPoset: [p=0, p=1] -/
def c_spec_IsPoset : ACode :=
  (.seq (.reg [⟨none, .box 1 (.t 0)⟩,
     ⟨none, .asg 2 (.c (.bool false))⟩])
  (.seq (.reg [⟨none, .ld 3 1 true (.t 1)⟩,
      ⟨none, .call 4 f_spec_l23Good [((.t 3), false)]⟩,
      ⟨none, .asg 2 (.t 4)⟩])
   (.drop [3, 4] .ret)))
abbrev r_spec_IsPoset : List RS := [.t 2]
theorem k_spec_IsPoset : fitsF Try.prog f_spec_IsPoset 5 c_spec_IsPoset r_spec_IsPoset = true := by kernel_rfl

/- loop.example/g01078/spec.IsAtMost: [p=0, x=1, y=2, p=3, x=4, y=5] -/
def c_spec_IsAtMost : ACode :=
  (.seq (.reg [⟨none, .box 3 (.t 0)⟩,
     ⟨none, .asg 6 (.c (.bool false))⟩,
     ⟨none, .asg 7 (.c (.bool false))⟩])
  (.seq (.seq (.reg [⟨none, .ld 8 1 true (.t 3)⟩,
       ⟨none, .call 9 f_spec_l23Good [((.t 8), false)]⟩,
       ⟨none, .un 10 .not (.t 9)⟩,
       ⟨none, .asg 11 (.t 10)⟩,
       ⟨some (11, false), .ld 12 1 true (.t 3)⟩,
       ⟨some (11, false), .mov 13 (.t 1)⟩,
       ⟨some (11, false), .call 14 f_spec_l23Is [((.t 12), false), ((.t 13), false)]⟩,
       ⟨some (11, false), .un 15 .not (.t 14)⟩,
       ⟨none, .pick 16 (.t 11) (.c (.bool true)) (.t 15)⟩,
       ⟨none, .asg 17 (.t 16)⟩,
       ⟨some (17, false), .ld 18 1 true (.t 3)⟩,
       ⟨some (17, false), .mov 19 (.t 2)⟩,
       ⟨some (17, false), .call 20 f_spec_l23Is [((.t 18), false), ((.t 19), false)]⟩,
       ⟨some (17, false), .un 21 .not (.t 20)⟩,
       ⟨none, .pick 22 (.t 17) (.c (.bool true)) (.t 21)⟩])
    (.drop [8, 9, 10, 11, 12, 13, 14, 15, 16, 17, 18, 19, 20, 21] (.cond (.t 22) (.seq (.reg [⟨none, .asg 6 (.c (.bool false))⟩,
         ⟨none, .asg 7 (.c (.bool false))⟩])
      .ret)
     .skip)))
   (.drop [8, 9, 10, 11, 12, 13, 14, 15, 16, 17, 18, 19, 20, 21, 22] (.seq (.reg [⟨none, .ld 23 1 true (.t 3)⟩,
       ⟨none, .mov 24 (.t 1)⟩,
       ⟨none, .mov 25 (.t 2)⟩,
       ⟨none, .call 26 f_spec_l23Leq [((.t 23), false), ((.t 24), false), ((.t 25), false)]⟩,
       ⟨none, .asg 6 (.t 26)⟩,
       ⟨none, .asg 7 (.c (.bool true))⟩])
    (.drop [23, 24, 25, 26] .ret)))))
abbrev r_spec_IsAtMost : List RS := [.t 6, .t 7]
theorem k_spec_IsAtMost : fitsF Try.prog f_spec_IsAtMost 27 c_spec_IsAtMost r_spec_IsAtMost = true := by kernel_rfl

/- loop.example/g01078/spec.CountExtensions: [p=0, p=1, n=4, ways=5, bits=6, x=7, free=8, k=9] -/
def c_spec_CountExtensions_k1 : ACode :=
  (.seq (.reg [⟨none, .mov 27 (.t 7)⟩,
      ⟨none, .mov 28 (.t 4)⟩,
      ⟨none, .bin 29 .lss (.t 27) (.t 28)⟩,
      ⟨none, .asg 30 (.t 29)⟩,
      ⟨some (30, true), .mov 31 (.t 5)⟩,
      ⟨some (30, true), .mov 32 (.t 6)⟩,
      ⟨some (30, true), .iad 33 1 (.t 31) (.t 32)⟩,
      ⟨some (30, true), .ld 34 1 false (.t 33)⟩,
      ⟨some (30, true), .bin 35 .gtr (.t 34) (.c (.int .i64 0))⟩,
      ⟨none, .pick 36 (.t 30) (.t 35) (.c (.bool false))⟩])
   (.drop [27, 28, 29, 30, 31, 32, 33, 34, 35] (.cond (.t 36) .skip
    (.exit 2))))
def c_spec_CountExtensions_k2 : ACode :=
  (.seq (.reg [⟨none, .mov 44 (.t 9)⟩,
      ⟨none, .fadr 45 0 (.t 1)⟩,
      ⟨none, .ld 46 1 false (.t 45)⟩,
      ⟨none, .mov 47 (.t 7)⟩,
      ⟨none, .iad 48 1 (.t 46) (.t 47)⟩,
      ⟨none, .ld 49 1 false (.t 48)⟩,
      ⟨none, .len 50 (.t 49)⟩,
      ⟨none, .bin 51 .lss (.t 44) (.t 50)⟩,
      ⟨none, .asg 52 (.t 51)⟩,
      ⟨some (52, true), .mov 53 (.t 8)⟩,
      ⟨none, .pick 54 (.t 52) (.t 53) (.c (.bool false))⟩])
   (.drop [44, 45, 46, 47, 48, 49, 50, 51, 52, 53] (.cond (.t 54) .skip
    (.exit 4))))
def c_spec_CountExtensions_l1 : ACode :=
  (.seq (.cut c_spec_CountExtensions_k2)
  (.drop [44, 45, 46, 47, 48, 49, 50, 51, 52, 53, 54] (.seq (.block 5 (.reg [⟨none, .fadr 57 0 (.t 1)⟩,
       ⟨none, .ld 58 1 false (.t 57)⟩,
       ⟨none, .mov 59 (.t 7)⟩,
       ⟨none, .iad 60 1 (.t 58) (.t 59)⟩,
       ⟨none, .ld 61 1 false (.t 60)⟩,
       ⟨none, .mov 62 (.t 9)⟩,
       ⟨none, .iad 63 1 (.t 61) (.t 62)⟩,
       ⟨none, .ld 64 1 false (.t 63)⟩,
       ⟨none, .mov 65 (.t 7)⟩,
       ⟨none, .bin 66 .eql (.t 64) (.t 65)⟩,
       ⟨none, .asg 67 (.t 66)⟩,
       ⟨some (67, false), .mov 68 (.t 6)⟩,
       ⟨some (67, false), .fadr 69 0 (.t 1)⟩,
       ⟨some (67, false), .ld 70 1 false (.t 69)⟩,
       ⟨some (67, false), .mov 71 (.t 7)⟩,
       ⟨some (67, false), .iad 72 1 (.t 70) (.t 71)⟩,
       ⟨some (67, false), .ld 73 1 false (.t 72)⟩,
       ⟨some (67, false), .mov 74 (.t 9)⟩,
       ⟨some (67, false), .iad 75 1 (.t 73) (.t 74)⟩,
       ⟨some (67, false), .ld 76 1 false (.t 75)⟩,
       ⟨some (67, false), .bin 77 .shr (.t 68) (.t 76)⟩,
       ⟨some (67, false), .bin 78 .and (.t 77) (.c (.int .i64 1))⟩,
       ⟨some (67, false), .bin 79 .eql (.t 78) (.c (.int .i64 1))⟩,
       ⟨none, .pick 80 (.t 67) (.c (.bool true)) (.t 79)⟩,
       ⟨none, .asg 8 (.t 80)⟩]))
   (.drop [57, 58, 59, 60, 61, 62, 63, 64, 65, 66, 67, 68, 69, 70, 71, 72, 73, 74, 75, 76, 77, 78, 79, 80] (.reg [⟨none, .mov 55 (.t 9)⟩,
      ⟨none, .bin 56 .add (.t 55) (.c (.int .i64 1))⟩,
      ⟨none, .asg 9 (.t 56)⟩])))))
def c_spec_CountExtensions_l2 : ACode :=
  (.seq (.cut c_spec_CountExtensions_k1)
  (.drop [27, 28, 29, 30, 31, 32, 33, 34, 35, 36] (.seq (.block 3 (.seq (.reg [⟨none, .mov 39 (.t 6)⟩,
        ⟨none, .mov 40 (.t 7)⟩,
        ⟨none, .bin 41 .shr (.t 39) (.t 40)⟩,
        ⟨none, .bin 42 .and (.t 41) (.c (.int .i64 1))⟩,
        ⟨none, .bin 43 .eql (.t 42) (.c (.int .i64 0))⟩,
        ⟨none, .asg 8 (.t 43)⟩])
     (.drop [39, 40, 41, 42, 43] (.seq (.seq (.reg [⟨none, .asg 9 (.c (.int .i64 0))⟩])
       (.block 4 (.loop c_spec_CountExtensions_l1)))
      (.drop [9, 44, 45, 46, 47, 48, 49, 50, 51, 52, 53, 54, 57, 58, 59, 60, 61, 62, 63, 64, 65, 66, 67, 68, 69, 70, 71, 72, 73, 74, 75, 76, 77, 78, 79, 80, 55, 56] (.seq (.reg [⟨none, .mov 81 (.t 8)⟩])
       (.cond (.t 81) (.dreg [(⟨none, .mov 82 (.t 5)⟩, []),
           (⟨none, .mov 83 (.t 6)⟩, [82]),
           (⟨none, .mov 84 (.t 7)⟩, [82, 83]),
           (⟨none, .bin 85 .shl (.c (.int .i64 1)) (.t 84)⟩, [82, 83]),
           (⟨none, .bin 86 .or (.t 83) (.t 85)⟩, [82]),
           (⟨none, .mov 87 (.t 5)⟩, [82, 83, 84, 85, 86]),
           (⟨none, .mov 88 (.t 6)⟩, [82, 83, 84, 85, 86, 87]),
           (⟨none, .mov 89 (.t 7)⟩, [82, 83, 84, 85, 86, 87, 88]),
           (⟨none, .bin 90 .shl (.c (.int .i64 1)) (.t 89)⟩, [82, 83, 84, 85, 86, 87, 88]),
           (⟨none, .bin 91 .or (.t 88) (.t 90)⟩, [82, 83, 84, 85, 86, 87]),
           (⟨none, .iad 92 1 (.t 87) (.t 91)⟩, [82, 83, 84, 85, 86]),
           (⟨none, .ld 93 1 false (.t 92)⟩, [82, 83, 84, 85, 86]),
           (⟨none, .mov 94 (.t 5)⟩, [82, 83, 84, 85, 86, 87, 88, 89, 90, 91, 92, 93]),
           (⟨none, .mov 95 (.t 6)⟩, [82, 83, 84, 85, 86, 87, 88, 89, 90, 91, 92, 93, 94]),
           (⟨none, .iad 96 1 (.t 94) (.t 95)⟩, [82, 83, 84, 85, 86, 87, 88, 89, 90, 91, 92, 93]),
           (⟨none, .ld 97 1 false (.t 96)⟩, [82, 83, 84, 85, 86, 87, 88, 89, 90, 91, 92, 93]),
           (⟨none, .bin 98 .add (.t 93) (.t 97)⟩, [82, 83, 84, 85, 86])]
          [⟨none, .iad 99 1 (.t 82) (.t 86)⟩,
           ⟨none, .st 1 (.t 99) (.t 98)⟩])
        .skip)))))))
   (.drop [39, 40, 41, 42, 43, 8, 9, 44, 45, 46, 47, 48, 49, 50, 51, 52, 53, 54, 57, 58, 59, 60, 61, 62, 63, 64, 65, 66, 67, 68, 69, 70, 71, 72, 73, 74, 75, 76, 77, 78, 79, 80, 55, 56, 81, 82, 83, 84, 85, 86, 87, 88, 89, 90, 91, 92, 93, 94, 95, 96, 97, 98, 99] (.reg [⟨none, .mov 37 (.t 7)⟩,
      ⟨none, .bin 38 .add (.t 37) (.c (.int .i64 1))⟩,
      ⟨none, .asg 7 (.t 38)⟩])))))
def c_spec_CountExtensions_l3 : ACode :=
  (.seq (.seq (.reg [⟨none, .mov 21 (.t 6)⟩,
      ⟨none, .mov 22 (.t 4)⟩,
      ⟨none, .bin 23 .shl (.c (.int .i64 1)) (.t 22)⟩,
      ⟨none, .bin 24 .lss (.t 21) (.t 23)⟩])
   (.drop [21, 22, 23] (.cond (.t 24) .skip
    (.exit 0))))
  (.drop [21, 22, 23, 24] (.seq (.block 1 (.seq (.reg [⟨none, .asg 7 (.c (.int .i64 0))⟩])
     (.block 2 (.loop c_spec_CountExtensions_l2))))
   (.drop [7, 27, 28, 29, 30, 31, 32, 33, 34, 35, 36, 39, 40, 41, 42, 43, 8, 9, 44, 45, 46, 47, 48, 49, 50, 51, 52, 53, 54, 57, 58, 59, 60, 61, 62, 63, 64, 65, 66, 67, 68, 69, 70, 71, 72, 73, 74, 75, 76, 77, 78, 79, 80, 55, 56, 81, 82, 83, 84, 85, 86, 87, 88, 89, 90, 91, 92, 93, 94, 95, 96, 97, 98, 99, 37, 38] (.reg [⟨none, .mov 25 (.t 6)⟩,
      ⟨none, .bin 26 .add (.t 25) (.c (.int .i64 1))⟩,
      ⟨none, .asg 6 (.t 26)⟩])))))
def c_spec_CountExtensions : ACode :=
  (.seq (.reg [⟨none, .box 1 (.t 0)⟩,
     ⟨none, .asg 2 (.c (.int .i64 0))⟩,
     ⟨none, .asg 3 (.c (.bool false))⟩])
  (.seq (.seq (.reg [⟨none, .ld 10 1 true (.t 1)⟩,
       ⟨none, .call 11 f_spec_l23Good [((.t 10), false)]⟩,
       ⟨none, .un 12 .not (.t 11)⟩])
    (.drop [10, 11] (.cond (.t 12) (.seq (.reg [⟨none, .asg 2 (.c (.int .i64 0))⟩,
         ⟨none, .asg 3 (.c (.bool false))⟩])
      .ret)
     .skip)))
   (.drop [10, 11, 12] (.seq (.reg [⟨none, .fadr 13 0 (.t 1)⟩,
       ⟨none, .ld 14 1 false (.t 13)⟩,
       ⟨none, .len 15 (.t 14)⟩,
       ⟨none, .asg 4 (.t 15)⟩])
    (.drop [13, 14, 15] (.seq (.reg [⟨none, .mov 16 (.t 4)⟩,
        ⟨none, .bin 17 .shl (.c (.int .i64 1)) (.t 16)⟩,
        ⟨none, .mk 18 1 (.int .i64 0) (.t 17)⟩,
        ⟨none, .asg 5 (.t 18)⟩])
     (.drop [16, 17, 18] (.seq (.reg [⟨none, .mov 19 (.t 5)⟩,
         ⟨none, .iad 20 1 (.t 19) (.c (.int .i64 0))⟩,
         ⟨none, .st 1 (.t 20) (.c (.int .i64 1))⟩])
      (.drop [19, 20] (.seq (.seq (.reg [⟨none, .asg 6 (.c (.int .i64 0))⟩])
        (.block 0 (.loop c_spec_CountExtensions_l3)))
       (.drop [6, 21, 22, 23, 24, 7, 27, 28, 29, 30, 31, 32, 33, 34, 35, 36, 39, 40, 41, 42, 43, 8, 9, 44, 45, 46, 47, 48, 49, 50, 51, 52, 53, 54, 57, 58, 59, 60, 61, 62, 63, 64, 65, 66, 67, 68, 69, 70, 71, 72, 73, 74, 75, 76, 77, 78, 79, 80, 55, 56, 81, 82, 83, 84, 85, 86, 87, 88, 89, 90, 91, 92, 93, 94, 95, 96, 97, 98, 99, 37, 38, 25, 26] (.seq (.reg [⟨none, .mov 100 (.t 5)⟩,
           ⟨none, .mov 101 (.t 4)⟩,
           ⟨none, .bin 102 .shl (.c (.int .i64 1)) (.t 101)⟩,
           ⟨none, .bin 103 .sub (.t 102) (.c (.int .i64 1))⟩,
           ⟨none, .iad 104 1 (.t 100) (.t 103)⟩,
           ⟨none, .ld 105 1 false (.t 104)⟩,
           ⟨none, .asg 2 (.t 105)⟩,
           ⟨none, .asg 3 (.c (.bool true))⟩])
        (.drop [100, 101, 102, 103, 104, 105] .ret)))))))))))))
abbrev r_spec_CountExtensions : List RS := [.t 2, .t 3]
theorem k_spec_CountExtensions : fitsF Try.prog f_spec_CountExtensions 106 c_spec_CountExtensions r_spec_CountExtensions = true := by kernel_rfl

/- loop.example/g01078/spec.MinimalElements: [p=0, p=1] -/
def c_spec_MinimalElements : ACode :=
  (.seq (.reg [⟨none, .box 1 (.t 0)⟩,
     ⟨none, .asg 2 (.c (.nilsl 1))⟩,
     ⟨none, .asg 3 (.c (.bool false))⟩])
  (.seq (.seq (.reg [⟨none, .ld 4 1 true (.t 1)⟩,
       ⟨none, .call 5 f_spec_l23Good [((.t 4), false)]⟩,
       ⟨none, .un 6 .not (.t 5)⟩])
    (.drop [4, 5] (.cond (.t 6) (.seq (.reg [⟨none, .bsl 7 1 []⟩,
         ⟨none, .asg 2 (.t 7)⟩,
         ⟨none, .asg 3 (.c (.bool false))⟩])
      (.drop [7] .ret))
     .skip)))
   (.drop [4, 5, 6, 7] (.seq (.reg [⟨none, .ld 8 1 true (.t 1)⟩,
       ⟨none, .call 9 f_spec_l23Least [((.t 8), false)]⟩,
       ⟨none, .asg 2 (.t 9)⟩,
       ⟨none, .asg 3 (.c (.bool true))⟩])
    (.drop [8, 9] .ret)))))
abbrev r_spec_MinimalElements : List RS := [.t 2, .t 3]
theorem k_spec_MinimalElements : fitsF Try.prog f_spec_MinimalElements 10 c_spec_MinimalElements r_spec_MinimalElements = true := by kernel_rfl

/- loop.example/g01078/impl.MinimalElements: [p=0, p=1, o=4, ok=5] -/
def c_impl_MinimalElements : ACode :=
  (.seq (.reg [⟨none, .box 1 (.t 0)⟩,
     ⟨none, .asg 2 (.c (.nilsl 1))⟩,
     ⟨none, .asg 3 (.c (.bool false))⟩])
  (.seq (.reg [⟨none, .ld 7 1 true (.t 1)⟩,
      ⟨none, .call 8 f_impl_orderOf [((.t 7), false)]⟩,
      ⟨none, .asg 6 (.t 8)⟩,
      ⟨none, .ext 9 (.t 6) 0⟩,
      ⟨none, .ext 10 (.t 6) 1⟩,
      ⟨none, .alc 4 (.nilsl 1)⟩,
      ⟨none, .st 1 (.t 4) (.t 9)⟩,
      ⟨none, .asg 5 (.t 10)⟩])
   (.drop [7, 8, 6, 9, 10] (.seq (.seq (.reg [⟨none, .mov 11 (.t 5)⟩,
        ⟨none, .un 12 .not (.t 11)⟩])
     (.drop [11] (.cond (.t 12) (.seq (.reg [⟨none, .bsl 13 1 []⟩,
          ⟨none, .asg 2 (.t 13)⟩,
          ⟨none, .asg 3 (.c (.bool false))⟩])
       (.drop [13] .ret))
      .skip)))
    (.drop [11, 12, 13] (.seq (.reg [⟨none, .ld 14 1 false (.t 4)⟩,
        ⟨none, .mkf 15 f_impl_MinimalElements_1 [(.t 4)]⟩,
        ⟨none, .call 16 f_impl_order_those [((.t 14), false), ((.t 15), false)]⟩,
        ⟨none, .asg 2 (.t 16)⟩,
        ⟨none, .asg 3 (.c (.bool true))⟩])
     (.drop [14, 15, 16] .ret)))))))
abbrev r_impl_MinimalElements : List RS := [.t 2, .t 3]
theorem k_impl_MinimalElements : fitsF Try.prog f_impl_MinimalElements 17 c_impl_MinimalElements r_impl_MinimalElements = true := by kernel_rfl

/- loop.example/g01078/spec.MaximalElements: [p=0, p=1] -/
def c_spec_MaximalElements : ACode :=
  (.seq (.reg [⟨none, .box 1 (.t 0)⟩,
     ⟨none, .asg 2 (.c (.nilsl 1))⟩,
     ⟨none, .asg 3 (.c (.bool false))⟩])
  (.seq (.seq (.reg [⟨none, .ld 4 1 true (.t 1)⟩,
       ⟨none, .call 5 f_spec_l23Good [((.t 4), false)]⟩,
       ⟨none, .un 6 .not (.t 5)⟩])
    (.drop [4, 5] (.cond (.t 6) (.seq (.reg [⟨none, .bsl 7 1 []⟩,
         ⟨none, .asg 2 (.t 7)⟩,
         ⟨none, .asg 3 (.c (.bool false))⟩])
      (.drop [7] .ret))
     .skip)))
   (.drop [4, 5, 6, 7] (.seq (.reg [⟨none, .ld 8 1 true (.t 1)⟩,
       ⟨none, .call 9 f_spec_l23Dual [((.t 8), false)]⟩,
       ⟨none, .call 10 f_spec_l23Least [((.t 9), false)]⟩,
       ⟨none, .asg 2 (.t 10)⟩,
       ⟨none, .asg 3 (.c (.bool true))⟩])
    (.drop [8, 9, 10] .ret)))))
abbrev r_spec_MaximalElements : List RS := [.t 2, .t 3]
theorem k_spec_MaximalElements : fitsF Try.prog f_spec_MaximalElements 11 c_spec_MaximalElements r_spec_MaximalElements = true := by kernel_rfl

/- loop.example/g01078/impl.MaximalElements: [p=0, p=1, o=4, ok=5] -/
def c_impl_MaximalElements : ACode :=
  (.seq (.reg [⟨none, .box 1 (.t 0)⟩,
     ⟨none, .asg 2 (.c (.nilsl 1))⟩,
     ⟨none, .asg 3 (.c (.bool false))⟩])
  (.seq (.reg [⟨none, .ld 7 1 true (.t 1)⟩,
      ⟨none, .call 8 f_impl_orderOf [((.t 7), false)]⟩,
      ⟨none, .asg 6 (.t 8)⟩,
      ⟨none, .ext 9 (.t 6) 0⟩,
      ⟨none, .ext 10 (.t 6) 1⟩,
      ⟨none, .alc 4 (.nilsl 1)⟩,
      ⟨none, .st 1 (.t 4) (.t 9)⟩,
      ⟨none, .asg 5 (.t 10)⟩])
   (.drop [7, 8, 6, 9, 10] (.seq (.seq (.reg [⟨none, .mov 11 (.t 5)⟩,
        ⟨none, .un 12 .not (.t 11)⟩])
     (.drop [11] (.cond (.t 12) (.seq (.reg [⟨none, .bsl 13 1 []⟩,
          ⟨none, .asg 2 (.t 13)⟩,
          ⟨none, .asg 3 (.c (.bool false))⟩])
       (.drop [13] .ret))
      .skip)))
    (.drop [11, 12, 13] (.seq (.reg [⟨none, .ld 14 1 false (.t 4)⟩,
        ⟨none, .mkf 15 f_impl_MaximalElements_1 [(.t 4)]⟩,
        ⟨none, .call 16 f_impl_order_those [((.t 14), false), ((.t 15), false)]⟩,
        ⟨none, .asg 2 (.t 16)⟩,
        ⟨none, .asg 3 (.c (.bool true))⟩])
     (.drop [14, 15, 16] .ret)))))))
abbrev r_impl_MaximalElements : List RS := [.t 2, .t 3]
theorem k_impl_MaximalElements : fitsF Try.prog f_impl_MaximalElements 17 c_impl_MaximalElements r_impl_MaximalElements = true := by kernel_rfl

/- loop.example/g01078/spec.HeightsOf: [p=0, p=1, out=4, x=5] -/
def c_spec_HeightsOf_l1 : ACode :=
  (.seq (.seq (.reg [⟨none, .mov 11 (.t 5)⟩,
      ⟨none, .fadr 12 0 (.t 1)⟩,
      ⟨none, .ld 13 1 false (.t 12)⟩,
      ⟨none, .len 14 (.t 13)⟩,
      ⟨none, .bin 15 .lss (.t 11) (.t 14)⟩])
   (.drop [11, 12, 13, 14] (.cond (.t 15) .skip
    (.exit 0))))
  (.drop [11, 12, 13, 14, 15] (.seq (.block 1 (.reg [⟨none, .mov 18 (.t 4)⟩,
       ⟨none, .ld 19 1 true (.t 1)⟩,
       ⟨none, .mov 20 (.t 5)⟩,
       ⟨none, .call 21 f_spec_l23Height [((.t 19), false), ((.t 20), false)]⟩,
       ⟨none, .bsl 22 1 [(.t 21)]⟩,
       ⟨none, .app 23 1 (.t 18) (.t 22)⟩,
       ⟨none, .asg 4 (.t 23)⟩]))
   (.drop [18, 19, 20, 21, 22, 23] (.reg [⟨none, .mov 16 (.t 5)⟩,
      ⟨none, .bin 17 .add (.t 16) (.c (.int .i64 1))⟩,
      ⟨none, .asg 5 (.t 17)⟩])))))
def c_spec_HeightsOf : ACode :=
  (.seq (.reg [⟨none, .box 1 (.t 0)⟩,
     ⟨none, .asg 2 (.c (.nilsl 1))⟩,
     ⟨none, .asg 3 (.c (.bool false))⟩])
  (.seq (.reg [⟨none, .bsl 6 1 []⟩,
      ⟨none, .asg 4 (.t 6)⟩])
   (.drop [6] (.seq (.seq (.reg [⟨none, .ld 7 1 true (.t 1)⟩,
        ⟨none, .call 8 f_spec_l23Good [((.t 7), false)]⟩,
        ⟨none, .un 9 .not (.t 8)⟩])
     (.drop [7, 8] (.cond (.t 9) (.seq (.reg [⟨none, .mov 10 (.t 4)⟩,
          ⟨none, .asg 2 (.t 10)⟩,
          ⟨none, .asg 3 (.c (.bool false))⟩])
       (.drop [10] .ret))
      .skip)))
    (.drop [7, 8, 9, 10] (.seq (.seq (.reg [⟨none, .asg 5 (.c (.int .i64 0))⟩])
      (.block 0 (.loop c_spec_HeightsOf_l1)))
     (.drop [5, 11, 12, 13, 14, 15, 18, 19, 20, 21, 22, 23, 16, 17] (.seq (.reg [⟨none, .mov 24 (.t 4)⟩,
         ⟨none, .asg 2 (.t 24)⟩,
         ⟨none, .asg 3 (.c (.bool true))⟩])
      (.drop [24] .ret)))))))))
abbrev r_spec_HeightsOf : List RS := [.t 2, .t 3]
theorem k_spec_HeightsOf : fitsF Try.prog f_spec_HeightsOf 25 c_spec_HeightsOf r_spec_HeightsOf = true := by kernel_rfl

/- loop.example/g01078/spec.FirstExtension: [p=0, p=1] -/
def c_spec_FirstExtension : ACode :=
  (.seq (.reg [⟨none, .box 1 (.t 0)⟩,
     ⟨none, .asg 2 (.c (.nilsl 1))⟩,
     ⟨none, .asg 3 (.c (.bool false))⟩])
  (.seq (.seq (.reg [⟨none, .ld 4 1 true (.t 1)⟩,
       ⟨none, .call 5 f_spec_l23Good [((.t 4), false)]⟩,
       ⟨none, .un 6 .not (.t 5)⟩])
    (.drop [4, 5] (.cond (.t 6) (.seq (.reg [⟨none, .bsl 7 1 []⟩,
         ⟨none, .asg 2 (.t 7)⟩,
         ⟨none, .asg 3 (.c (.bool false))⟩])
      (.drop [7] .ret))
     .skip)))
   (.drop [4, 5, 6, 7] (.seq (.reg [⟨none, .ld 8 1 true (.t 1)⟩,
       ⟨none, .call 9 f_spec_l23First [((.t 8), false)]⟩,
       ⟨none, .asg 2 (.t 9)⟩,
       ⟨none, .asg 3 (.c (.bool true))⟩])
    (.drop [8, 9] .ret)))))
abbrev r_spec_FirstExtension : List RS := [.t 2, .t 3]
theorem k_spec_FirstExtension : fitsF Try.prog f_spec_FirstExtension 10 c_spec_FirstExtension r_spec_FirstExtension = true := by kernel_rfl

/- loop.example/g01078/spec.DownsetOf: [p=0, some=1, p=2, some=3] -/
def c_spec_DownsetOf : ACode :=
  (.seq (.reg [⟨none, .box 2 (.t 0)⟩,
     ⟨none, .asg 4 (.c (.nilsl 1))⟩,
     ⟨none, .asg 5 (.c (.bool false))⟩])
  (.seq (.seq (.reg [⟨none, .ld 6 1 true (.t 2)⟩,
       ⟨none, .call 7 f_spec_l23Good [((.t 6), false)]⟩,
       ⟨none, .un 8 .not (.t 7)⟩,
       ⟨none, .asg 9 (.t 8)⟩,
       ⟨some (9, false), .mov 10 (.t 1)⟩,
       ⟨some (9, false), .len 11 (.t 10)⟩,
       ⟨some (9, false), .bin 12 .gtr (.t 11) (.c (.int .i64 20))⟩,
       ⟨none, .pick 13 (.t 9) (.c (.bool true)) (.t 12)⟩,
       ⟨none, .asg 14 (.t 13)⟩,
       ⟨some (14, false), .fadr 15 0 (.t 2)⟩,
       ⟨some (14, false), .ld 16 1 false (.t 15)⟩,
       ⟨some (14, false), .len 17 (.t 16)⟩,
       ⟨some (14, false), .mov 18 (.t 1)⟩,
       ⟨some (14, false), .call 19 f_spec_l2Elements [((.t 17), false), ((.t 18), false)]⟩,
       ⟨some (14, false), .un 20 .not (.t 19)⟩,
       ⟨none, .pick 21 (.t 14) (.c (.bool true)) (.t 20)⟩])
    (.drop [6, 7, 8, 9, 10, 11, 12, 13, 14, 15, 16, 17, 18, 19, 20] (.cond (.t 21) (.seq (.reg [⟨none, .bsl 22 1 []⟩,
         ⟨none, .asg 4 (.t 22)⟩,
         ⟨none, .asg 5 (.c (.bool false))⟩])
      (.drop [22] .ret))
     .skip)))
   (.drop [6, 7, 8, 9, 10, 11, 12, 13, 14, 15, 16, 17, 18, 19, 20, 21, 22] (.seq (.reg [⟨none, .ld 23 1 true (.t 2)⟩,
       ⟨none, .mov 24 (.t 1)⟩,
       ⟨none, .call 25 f_spec_l23Down [((.t 23), false), ((.t 24), false)]⟩,
       ⟨none, .asg 4 (.t 25)⟩,
       ⟨none, .asg 5 (.c (.bool true))⟩])
    (.drop [23, 24, 25] .ret)))))
abbrev r_spec_DownsetOf : List RS := [.t 4, .t 5]
theorem k_spec_DownsetOf : fitsF Try.prog f_spec_DownsetOf 26 c_spec_DownsetOf r_spec_DownsetOf = true := by kernel_rfl

/- loop.example/g01078/spec.DualPoset: [p=0, p=1] -/
def c_spec_DualPoset : ACode :=
  (.seq (.reg [⟨none, .box 1 (.t 0)⟩,
     ⟨none, .alc 2 (.agg [.nilsl 1])⟩,
     ⟨none, .asg 3 (.c (.bool false))⟩])
  (.seq (.seq (.reg [⟨none, .ld 4 1 true (.t 1)⟩,
       ⟨none, .call 5 f_spec_l23Good [((.t 4), false)]⟩,
       ⟨none, .un 6 .not (.t 5)⟩])
    (.drop [4, 5] (.cond (.t 6) (.seq (.reg [⟨none, .bld 7 [.nilsl 1] []⟩,
         ⟨none, .st 1 (.t 2) (.t 7)⟩,
         ⟨none, .asg 3 (.c (.bool false))⟩])
      (.drop [7] .ret))
     .skip)))
   (.drop [4, 5, 6, 7] (.seq (.reg [⟨none, .ld 8 1 true (.t 1)⟩,
       ⟨none, .call 9 f_spec_l23Dual [((.t 8), false)]⟩,
       ⟨none, .st 1 (.t 2) (.t 9)⟩,
       ⟨none, .asg 3 (.c (.bool true))⟩])
    (.drop [8, 9] .ret)))))
abbrev r_spec_DualPoset : List RS := [.c 2 1 true, .t 3]
theorem k_spec_DualPoset : fitsF Try.prog f_spec_DualPoset 10 c_spec_DualPoset r_spec_DualPoset = true := by kernel_rfl

/- loop.example/g01078/spec.FromCovers: [n=0, pairs=1, n=2, pairs=3, i=6, p=7] -/
def c_spec_FromCovers_k1 : ACode :=
  (.seq (.reg [⟨none, .mov 8 (.t 0)⟩,
       ⟨none, .call 9 f_spec_l1In [((.t 8), false), ((.c (.int .i64 0)), false), ((.c (.int .i64 10)), false)]⟩,
       ⟨none, .un 10 .not (.t 9)⟩,
       ⟨none, .asg 11 (.t 10)⟩,
       ⟨some (11, false), .mov 12 (.t 1)⟩,
       ⟨some (11, false), .len 13 (.t 12)⟩,
       ⟨some (11, false), .bin 14 .gtr (.t 13) (.c (.int .i64 60))⟩,
       ⟨none, .pick 15 (.t 11) (.c (.bool true)) (.t 14)⟩])
    (.drop [8, 9, 10, 11, 12, 13, 14] (.cond (.t 15) (.seq (.reg [⟨none, .bld 16 [.nilsl 1] []⟩,
         ⟨none, .st 1 (.t 4) (.t 16)⟩,
         ⟨none, .asg 5 (.c (.bool false))⟩])
      (.drop [16] .ret))
     .skip)))
def c_spec_FromCovers_l1 : ACode :=
  (.seq (.seq (.reg [⟨none, .mov 17 (.t 6)⟩,
      ⟨none, .mov 18 (.t 1)⟩,
      ⟨none, .len 19 (.t 18)⟩,
      ⟨none, .bin 20 .lss (.t 17) (.t 19)⟩])
   (.drop [17, 18, 19] (.cond (.t 20) .skip
    (.exit 0))))
  (.drop [17, 18, 19, 20] (.seq (.block 1 (.seq (.dreg [(⟨none, .mov 23 (.t 1)⟩, []),
        (⟨none, .mov 24 (.t 6)⟩, [23]),
        (⟨none, .iad 25 2 (.t 23) (.t 24)⟩, []),
        (⟨none, .aad 26 1 2 (.t 25) (.c (.int .i64 0))⟩, []),
        (⟨none, .ld 27 1 false (.t 26)⟩, []),
        (⟨none, .mov 28 (.t 0)⟩, [23, 24, 25, 26, 27]),
        (⟨none, .bin 29 .sub (.t 28) (.c (.int .i64 1))⟩, [23, 24, 25, 26, 27]),
        (⟨none, .call 30 f_spec_l1In [((.t 27), false), ((.c (.int .i64 0)), false), ((.t 29), false)]⟩, []),
        (⟨none, .un 31 .not (.t 30)⟩, []),
        (⟨none, .asg 32 (.t 31)⟩, []),
        (⟨some (32, false), .mov 33 (.t 1)⟩, []),
        (⟨some (32, false), .mov 34 (.t 6)⟩, [33]),
        (⟨some (32, false), .iad 35 2 (.t 33) (.t 34)⟩, []),
        (⟨some (32, false), .aad 36 1 2 (.t 35) (.c (.int .i64 1))⟩, []),
        (⟨some (32, false), .ld 37 1 false (.t 36)⟩, []),
        (⟨some (32, false), .mov 38 (.t 0)⟩, [33, 34, 35, 36, 37]),
        (⟨some (32, false), .bin 39 .sub (.t 38) (.c (.int .i64 1))⟩, [33, 34, 35, 36, 37]),
        (⟨some (32, false), .call 40 f_spec_l1In [((.t 37), false), ((.c (.int .i64 0)), false), ((.t 39), false)]⟩, []),
        (⟨some (32, false), .un 41 .not (.t 40)⟩, []),
        (⟨none, .pick 42 (.t 32) (.c (.bool true)) (.t 41)⟩, []),
        (⟨none, .asg 43 (.t 42)⟩, []),
        (⟨some (43, false), .mov 44 (.t 1)⟩, []),
        (⟨some (43, false), .mov 45 (.t 6)⟩, [44]),
        (⟨some (43, false), .iad 46 2 (.t 44) (.t 45)⟩, []),
        (⟨some (43, false), .aad 47 1 2 (.t 46) (.c (.int .i64 0))⟩, []),
        (⟨some (43, false), .ld 48 1 false (.t 47)⟩, []),
        (⟨some (43, false), .mov 49 (.t 1)⟩, [44, 45, 46, 47, 48]),
        (⟨some (43, false), .mov 50 (.t 6)⟩, [44, 45, 46, 47, 48, 49]),
        (⟨some (43, false), .iad 51 2 (.t 49) (.t 50)⟩, [44, 45, 46, 47, 48]),
        (⟨some (43, false), .aad 52 1 2 (.t 51) (.c (.int .i64 1))⟩, [44, 45, 46, 47, 48]),
        (⟨some (43, false), .ld 53 1 false (.t 52)⟩, [44, 45, 46, 47, 48])]
       [⟨some (43, false), .bin 54 .eql (.t 48) (.t 53)⟩,
        ⟨none, .pick 55 (.t 43) (.c (.bool true)) (.t 54)⟩])
     (.drop [23, 24, 25, 26, 27, 28, 29, 30, 31, 32, 33, 34, 35, 36, 37, 38, 39, 40, 41, 42, 43, 44, 45, 46, 47, 48, 49, 50, 51, 52, 53, 54] (.cond (.t 55) (.seq (.reg [⟨none, .bld 56 [.nilsl 1] []⟩,
          ⟨none, .st 1 (.t 4) (.t 56)⟩,
          ⟨none, .asg 5 (.c (.bool false))⟩])
       (.drop [56] .ret))
      .skip))))
   (.drop [23, 24, 25, 26, 27, 28, 29, 30, 31, 32, 33, 34, 35, 36, 37, 38, 39, 40, 41, 42, 43, 44, 45, 46, 47, 48, 49, 50, 51, 52, 53, 54, 55, 56] (.reg [⟨none, .mov 21 (.t 6)⟩,
      ⟨none, .bin 22 .add (.t 21) (.c (.int .i64 1))⟩,
      ⟨none, .asg 6 (.t 22)⟩])))))
def c_spec_FromCovers : ACode :=
  (.seq (.reg [⟨none, .alc 4 (.agg [.nilsl 1])⟩,
     ⟨none, .asg 5 (.c (.bool false))⟩])
  (.seq (.cut c_spec_FromCovers_k1)
   (.drop [8, 9, 10, 11, 12, 13, 14, 15, 16] (.seq (.seq (.reg [⟨none, .asg 6 (.c (.int .i64 0))⟩])
     (.block 0 (.loop c_spec_FromCovers_l1)))
    (.drop [6, 17, 18, 19, 20, 23, 24, 25, 26, 27, 28, 29, 30, 31, 32, 33, 34, 35, 36, 37, 38, 39, 40, 41, 42, 43, 44, 45, 46, 47, 48, 49, 50, 51, 52, 53, 54, 55, 56, 21, 22] (.seq (.reg [⟨none, .mov 57 (.t 0)⟩,
        ⟨none, .mov 58 (.t 1)⟩,
        ⟨none, .call 59 f_spec_l23From [((.t 57), false), ((.t 58), false)]⟩,
        ⟨none, .alc 7 (.agg [.nilsl 1])⟩,
        ⟨none, .st 1 (.t 7) (.t 59)⟩])
     (.drop [57, 58, 59] (.seq (.seq (.reg [⟨none, .ld 60 1 true (.t 7)⟩,
          ⟨none, .call 61 f_spec_l23Good [((.t 60), false)]⟩,
          ⟨none, .un 62 .not (.t 61)⟩])
       (.drop [60, 61] (.cond (.t 62) (.seq (.reg [⟨none, .bld 63 [.nilsl 1] []⟩,
            ⟨none, .st 1 (.t 4) (.t 63)⟩,
            ⟨none, .asg 5 (.c (.bool false))⟩])
         (.drop [63] .ret))
        .skip)))
      (.drop [60, 61, 62, 63] (.seq (.reg [⟨none, .ld 64 1 true (.t 7)⟩,
          ⟨none, .st 1 (.t 4) (.t 64)⟩,
          ⟨none, .asg 5 (.c (.bool true))⟩])
       (.drop [64] .ret)))))))))))
abbrev r_spec_FromCovers : List RS := [.c 4 1 true, .t 5]
theorem k_spec_FromCovers : fitsF Try.prog f_spec_FromCovers 65 c_spec_FromCovers r_spec_FromCovers = true := by kernel_rfl

/- loop.example/g01078/impl.IsLattice: [p=0, p=1, _=3, ok=4] -/
def c_impl_IsLattice : ACode :=
  (.seq (.reg [⟨none, .box 1 (.t 0)⟩,
     ⟨none, .asg 2 (.c (.bool false))⟩])
  (.seq (.reg [⟨none, .ld 6 1 true (.t 1)⟩,
      ⟨none, .call 7 f_impl_latticeOf [((.t 6), false)]⟩,
      ⟨none, .asg 5 (.t 7)⟩,
      ⟨none, .ext 8 (.t 5) 0⟩,
      ⟨none, .ext 9 (.t 5) 1⟩,
      ⟨none, .asg 3 (.t 8)⟩,
      ⟨none, .asg 4 (.t 9)⟩])
   (.drop [6, 7, 5, 8, 9, 3] (.seq (.reg [⟨none, .mov 10 (.t 4)⟩,
       ⟨none, .asg 2 (.t 10)⟩])
    (.drop [10] .ret)))))
abbrev r_impl_IsLattice : List RS := [.t 2]
theorem k_impl_IsLattice : fitsF Try.prog f_impl_IsLattice 11 c_impl_IsLattice r_impl_IsLattice = true := by kernel_rfl

/- loop.example/g01078/spec.LongestChain: [p=0, p=1, out=4, dual=5, left=6, x=7, x=8] -/
def c_spec_LongestChain_l1 : ACode :=
  (.seq (.seq (.reg [⟨none, .mov 16 (.t 7)⟩,
      ⟨none, .fadr 17 0 (.t 1)⟩,
      ⟨none, .ld 18 1 false (.t 17)⟩,
      ⟨none, .len 19 (.t 18)⟩,
      ⟨none, .bin 20 .lss (.t 16) (.t 19)⟩])
   (.drop [16, 17, 18, 19] (.cond (.t 20) .skip
    (.exit 0))))
  (.drop [16, 17, 18, 19, 20] (.seq (.block 1 (.reg [⟨none, .mov 23 (.t 6)⟩,
       ⟨none, .ld 24 1 true (.t 5)⟩,
       ⟨none, .mov 25 (.t 7)⟩,
       ⟨none, .call 26 f_spec_l23Height [((.t 24), false), ((.t 25), false)]⟩,
       ⟨none, .bin 27 .add (.t 26) (.c (.int .i64 1))⟩,
       ⟨none, .call 28 f_spec_l1Most [((.t 23), false), ((.t 27), false)]⟩,
       ⟨none, .asg 6 (.t 28)⟩]))
   (.drop [23, 24, 25, 26, 27, 28] (.reg [⟨none, .mov 21 (.t 7)⟩,
      ⟨none, .bin 22 .add (.t 21) (.c (.int .i64 1))⟩,
      ⟨none, .asg 7 (.t 22)⟩])))))
def c_spec_LongestChain_l2 : ACode :=
  (.seq (.seq (.dreg [(⟨none, .ld 33 1 true (.t 5)⟩, []),
      (⟨none, .mov 34 (.t 8)⟩, [33]),
      (⟨none, .call 35 f_spec_l23Height [((.t 33), false), ((.t 34), false)]⟩, []),
      (⟨none, .bin 36 .add (.t 35) (.c (.int .i64 1))⟩, []),
      (⟨none, .mov 37 (.t 6)⟩, [33, 34, 35, 36]),
      (⟨none, .bin 38 .lss (.t 36) (.t 37)⟩, []),
      (⟨none, .asg 39 (.t 38)⟩, []),
      (⟨some (39, false), .mov 40 (.t 4)⟩, []),
      (⟨some (39, false), .len 41 (.t 40)⟩, []),
      (⟨some (39, false), .bin 42 .gtr (.t 41) (.c (.int .i64 0))⟩, []),
      (⟨some (39, false), .asg 43 (.t 42)⟩, []),
      (⟨some (43, true), .ld 44 1 true (.t 1)⟩, []),
      (⟨some (43, true), .mov 45 (.t 4)⟩, [44]),
      (⟨some (43, true), .mov 46 (.t 4)⟩, [44, 45]),
      (⟨some (43, true), .len 47 (.t 46)⟩, [44, 45]),
      (⟨some (43, true), .bin 48 .sub (.t 47) (.c (.int .i64 1))⟩, [44, 45]),
      (⟨some (43, true), .iad 49 1 (.t 45) (.t 48)⟩, [44]),
      (⟨some (43, true), .ld 50 1 false (.t 49)⟩, [44]),
      (⟨some (43, true), .mov 51 (.t 8)⟩, [44, 45, 46, 47, 48, 49, 50])]
     [⟨some (43, true), .call 52 f_spec_l23Less [((.t 44), false), ((.t 50), false), ((.t 51), false)]⟩,
      ⟨some (43, true), .un 53 .not (.t 52)⟩,
      ⟨some (39, false), .pick 54 (.t 43) (.t 53) (.c (.bool false))⟩,
      ⟨none, .pick 55 (.t 39) (.c (.bool true)) (.t 54)⟩])
   (.drop [33, 34, 35, 36, 37, 38, 39, 40, 41, 42, 43, 44, 45, 46, 47, 48, 49, 50, 51, 52, 53, 54] (.cond (.t 55) .skip
    (.exit 4))))
  (.drop [33, 34, 35, 36, 37, 38, 39, 40, 41, 42, 43, 44, 45, 46, 47, 48, 49, 50, 51, 52, 53, 54, 55] (.block 5 (.reg [⟨none, .mov 56 (.t 8)⟩,
      ⟨none, .bin 57 .add (.t 56) (.c (.int .i64 1))⟩,
      ⟨none, .asg 8 (.t 57)⟩]))))
def c_spec_LongestChain_l3 : ACode :=
  (.seq (.seq (.reg [⟨none, .mov 29 (.t 6)⟩,
      ⟨none, .bin 30 .gtr (.t 29) (.c (.int .i64 0))⟩])
   (.drop [29] (.cond (.t 30) .skip
    (.exit 2))))
  (.drop [29, 30] (.seq (.block 3 (.seq (.reg [⟨none, .asg 8 (.c (.int .i64 0))⟩])
     (.seq (.block 4 (.loop c_spec_LongestChain_l2))
      (.drop [33, 34, 35, 36, 37, 38, 39, 40, 41, 42, 43, 44, 45, 46, 47, 48, 49, 50, 51, 52, 53, 54, 55, 56, 57] (.reg [⟨none, .mov 58 (.t 4)⟩,
         ⟨none, .mov 59 (.t 8)⟩,
         ⟨none, .bsl 60 1 [(.t 59)]⟩,
         ⟨none, .app 61 1 (.t 58) (.t 60)⟩,
         ⟨none, .asg 4 (.t 61)⟩])))))
   (.drop [8, 33, 34, 35, 36, 37, 38, 39, 40, 41, 42, 43, 44, 45, 46, 47, 48, 49, 50, 51, 52, 53, 54, 55, 56, 57, 58, 59, 60, 61] (.reg [⟨none, .mov 31 (.t 6)⟩,
      ⟨none, .bin 32 .sub (.t 31) (.c (.int .i64 1))⟩,
      ⟨none, .asg 6 (.t 32)⟩])))))
def c_spec_LongestChain : ACode :=
  (.seq (.reg [⟨none, .box 1 (.t 0)⟩,
     ⟨none, .asg 2 (.c (.nilsl 1))⟩,
     ⟨none, .asg 3 (.c (.bool false))⟩])
  (.seq (.reg [⟨none, .bsl 9 1 []⟩,
      ⟨none, .asg 4 (.t 9)⟩])
   (.drop [9] (.seq (.seq (.reg [⟨none, .ld 10 1 true (.t 1)⟩,
        ⟨none, .call 11 f_spec_l23Good [((.t 10), false)]⟩,
        ⟨none, .un 12 .not (.t 11)⟩])
     (.drop [10, 11] (.cond (.t 12) (.seq (.reg [⟨none, .mov 13 (.t 4)⟩,
          ⟨none, .asg 2 (.t 13)⟩,
          ⟨none, .asg 3 (.c (.bool false))⟩])
       (.drop [13] .ret))
      .skip)))
    (.drop [10, 11, 12, 13] (.seq (.reg [⟨none, .ld 14 1 true (.t 1)⟩,
        ⟨none, .call 15 f_spec_l23Dual [((.t 14), false)]⟩,
        ⟨none, .alc 5 (.agg [.nilsl 1])⟩,
        ⟨none, .st 1 (.t 5) (.t 15)⟩])
     (.drop [14, 15] (.seq (.reg [⟨none, .asg 6 (.c (.int .i64 0))⟩])
      (.seq (.seq (.reg [⟨none, .asg 7 (.c (.int .i64 0))⟩])
        (.block 0 (.loop c_spec_LongestChain_l1)))
       (.drop [7, 16, 17, 18, 19, 20, 23, 24, 25, 26, 27, 28, 21, 22] (.seq (.block 2 (.loop c_spec_LongestChain_l3))
        (.drop [29, 30, 8, 33, 34, 35, 36, 37, 38, 39, 40, 41, 42, 43, 44, 45, 46, 47, 48, 49, 50, 51, 52, 53, 54, 55, 56, 57, 58, 59, 60, 61, 31, 32] (.seq (.reg [⟨none, .mov 62 (.t 4)⟩,
            ⟨none, .asg 2 (.t 62)⟩,
            ⟨none, .asg 3 (.c (.bool true))⟩])
         (.drop [62] .ret))))))))))))))
abbrev r_spec_LongestChain : List RS := [.t 2, .t 3]
theorem k_spec_LongestChain : fitsF Try.prog f_spec_LongestChain 63 c_spec_LongestChain r_spec_LongestChain = true := by kernel_rfl

/- loop.example/g01078/spec.l24Good: [p=0, p=1, dual=3, x=4, y=5] -/
def c_spec_l24Good_k1 : ACode :=
  (.seq (.reg [⟨none, .ld 6 1 true (.t 1)⟩,
       ⟨none, .call 7 f_spec_l23Good [((.t 6), false)]⟩,
       ⟨none, .un 8 .not (.t 7)⟩,
       ⟨none, .asg 9 (.t 8)⟩,
       ⟨some (9, false), .fadr 10 0 (.t 1)⟩,
       ⟨some (9, false), .ld 11 1 false (.t 10)⟩,
       ⟨some (9, false), .len 12 (.t 11)⟩,
       ⟨some (9, false), .bin 13 .eql (.t 12) (.c (.int .i64 0))⟩,
       ⟨none, .pick 14 (.t 9) (.c (.bool true)) (.t 13)⟩])
    (.drop [6, 7, 8, 9, 10, 11, 12, 13] (.cond (.t 14) (.seq (.reg [⟨none, .asg 2 (.c (.bool false))⟩])
      .ret)
     .skip)))
def c_spec_l24Good_l1 : ACode :=
  (.seq (.seq (.reg [⟨none, .mov 24 (.t 5)⟩,
      ⟨none, .mov 25 (.t 4)⟩,
      ⟨none, .bin 26 .lss (.t 24) (.t 25)⟩])
   (.drop [24, 25] (.cond (.t 26) .skip
    (.exit 2))))
  (.drop [24, 25, 26] (.seq (.block 3 (.seq (.reg [⟨none, .ld 29 1 true (.t 1)⟩,
        ⟨none, .mov 30 (.t 4)⟩,
        ⟨none, .mov 31 (.t 5)⟩,
        ⟨none, .bsl 32 1 [(.t 30), (.t 31)]⟩,
        ⟨none, .call 33 f_spec_l24Bound [((.t 29), false), ((.t 32), false)]⟩,
        ⟨none, .bin 34 .lss (.t 33) (.c (.int .i64 0))⟩,
        ⟨none, .asg 35 (.t 34)⟩,
        ⟨some (35, false), .ld 36 1 true (.t 3)⟩,
        ⟨some (35, false), .mov 37 (.t 4)⟩,
        ⟨some (35, false), .mov 38 (.t 5)⟩,
        ⟨some (35, false), .bsl 39 1 [(.t 37), (.t 38)]⟩,
        ⟨some (35, false), .call 40 f_spec_l24Bound [((.t 36), false), ((.t 39), false)]⟩,
        ⟨some (35, false), .bin 41 .lss (.t 40) (.c (.int .i64 0))⟩,
        ⟨none, .pick 42 (.t 35) (.c (.bool true)) (.t 41)⟩])
     (.drop [29, 30, 31, 32, 33, 34, 35, 36, 37, 38, 39, 40, 41] (.cond (.t 42) (.seq (.reg [⟨none, .asg 2 (.c (.bool false))⟩])
       .ret)
      .skip))))
   (.drop [29, 30, 31, 32, 33, 34, 35, 36, 37, 38, 39, 40, 41, 42] (.reg [⟨none, .mov 27 (.t 5)⟩,
      ⟨none, .bin 28 .add (.t 27) (.c (.int .i64 1))⟩,
      ⟨none, .asg 5 (.t 28)⟩])))))
def c_spec_l24Good_l2 : ACode :=
  (.seq (.seq (.reg [⟨none, .mov 17 (.t 4)⟩,
      ⟨none, .fadr 18 0 (.t 1)⟩,
      ⟨none, .ld 19 1 false (.t 18)⟩,
      ⟨none, .len 20 (.t 19)⟩,
      ⟨none, .bin 21 .lss (.t 17) (.t 20)⟩])
   (.drop [17, 18, 19, 20] (.cond (.t 21) .skip
    (.exit 0))))
  (.drop [17, 18, 19, 20, 21] (.seq (.block 1 (.seq (.reg [⟨none, .asg 5 (.c (.int .i64 0))⟩])
     (.block 2 (.loop c_spec_l24Good_l1))))
   (.drop [5, 24, 25, 26, 29, 30, 31, 32, 33, 34, 35, 36, 37, 38, 39, 40, 41, 42, 27, 28] (.reg [⟨none, .mov 22 (.t 4)⟩,
      ⟨none, .bin 23 .add (.t 22) (.c (.int .i64 1))⟩,
      ⟨none, .asg 4 (.t 23)⟩])))))
def c_spec_l24Good : ACode :=
  (.seq (.reg [⟨none, .box 1 (.t 0)⟩,
     ⟨none, .asg 2 (.c (.bool false))⟩])
  (.seq (.cut c_spec_l24Good_k1)
   (.drop [6, 7, 8, 9, 10, 11, 12, 13, 14] (.seq (.reg [⟨none, .ld 15 1 true (.t 1)⟩,
       ⟨none, .call 16 f_spec_l23Dual [((.t 15), false)]⟩,
       ⟨none, .alc 3 (.agg [.nilsl 1])⟩,
       ⟨none, .st 1 (.t 3) (.t 16)⟩])
    (.drop [15, 16] (.seq (.seq (.reg [⟨none, .asg 4 (.c (.int .i64 0))⟩])
      (.block 0 (.loop c_spec_l24Good_l2)))
     (.drop [4, 17, 18, 19, 20, 21, 5, 24, 25, 26, 29, 30, 31, 32, 33, 34, 35, 36, 37, 38, 39, 40, 41, 42, 27, 28, 22, 23] (.seq (.reg [⟨none, .asg 2 (.c (.bool true))⟩])
      .ret))))))))
abbrev r_spec_l24Good : List RS := [.t 2]
theorem k_spec_l24Good : fitsF Try.prog f_spec_l24Good 43 c_spec_l24Good r_spec_l24Good = true := by kernel_rfl

/- loop.example/g01078/laws.FnExactIsPoset: [aP=0, aP=1, left=3, w0=4, x0=5, g0=6] -/
def c_laws_FnExactIsPoset : ACode :=
  (.seq (.reg [⟨none, .box 1 (.t 0)⟩,
     ⟨none, .asg 2 (.c (.bool false))⟩])
  (.seq (.reg [⟨none, .asg 3 (.c (.int .i64 1048576))⟩])
   (.seq (.reg [⟨none, .ld 7 1 true (.t 1)⟩,
       ⟨none, .mov 8 (.t 3)⟩,
       ⟨none, .call 9 f_laws_szPoset [((.t 7), false), ((.t 8), false)]⟩,
       ⟨none, .asg 3 (.t 9)⟩])
    (.drop [7, 8, 9] (.seq (.seq (.reg [⟨none, .mov 10 (.t 3)⟩,
         ⟨none, .bin 11 .lss (.t 10) (.c (.int .i64 0))⟩])
      (.drop [10] (.cond (.t 11) (.seq (.reg [⟨none, .asg 2 (.c (.bool true))⟩])
        .ret)
       .skip)))
     (.drop [10, 11] (.seq (.reg [⟨none, .ld 12 1 true (.t 1)⟩,
         ⟨none, .call 13 f_laws_toPoset [((.t 12), false)]⟩,
         ⟨none, .call 14 f_spec_IsPoset [((.t 13), false)]⟩,
         ⟨none, .asg 4 (.t 14)⟩])
      (.drop [12, 13, 14] (.seq (.reg [⟨none, .ld 15 1 true (.t 1)⟩,
          ⟨none, .call 16 f_laws_toPoset [((.t 15), false)]⟩,
          ⟨none, .alc 5 (.agg [.nilsl 1])⟩,
          ⟨none, .st 1 (.t 5) (.t 16)⟩])
       (.drop [15, 16] (.seq (.reg [⟨none, .ld 17 1 true (.t 5)⟩,
           ⟨none, .call 18 f_impl_IsPoset [((.t 17), false)]⟩,
           ⟨none, .asg 6 (.t 18)⟩])
        (.drop [17, 18] (.seq (.seq (.reg [⟨none, .mov 19 (.t 6)⟩,
             ⟨none, .mov 20 (.t 4)⟩,
             ⟨none, .binb 21 .neq (.t 19) (.t 20)⟩])
          (.drop [19, 20] (.cond (.t 21) (.seq (.reg [⟨none, .asg 2 (.c (.bool false))⟩])
            .ret)
           .skip)))
         (.drop [19, 20, 21] (.seq (.seq (.dreg [(⟨none, .ld 22 1 true (.t 5)⟩, []),
              (⟨none, .ld 23 1 true (.t 1)⟩, [22]),
              (⟨none, .call 24 f_laws_toPoset [((.t 23), false)]⟩, [22])]
             [⟨none, .call 25 f_laws_eqPoset [((.t 22), false), ((.t 24), false)]⟩,
              ⟨none, .un 26 .not (.t 25)⟩])
           (.drop [22, 23, 24, 25] (.cond (.t 26) (.seq (.reg [⟨none, .asg 2 (.c (.bool false))⟩])
             .ret)
            .skip)))
          (.drop [22, 23, 24, 25, 26] (.seq (.reg [⟨none, .asg 2 (.c (.bool true))⟩])
           .ret)))))))))))))))))
abbrev r_laws_FnExactIsPoset : List RS := [.t 2]
theorem k_laws_FnExactIsPoset : fitsF Try.prog f_laws_FnExactIsPoset 27 c_laws_FnExactIsPoset r_laws_FnExactIsPoset = true := by kernel_rfl

/- loop.example/g01078/laws.FnExactIsAtMost: [aP=0, aX=1, aY=2, aP=3, aX=4, aY=5, left=7, w0=8, w1=9, x0=10, g0=11, g1=12] -/
def c_laws_FnExactIsAtMost : ACode :=
  (.seq (.reg [⟨none, .box 3 (.t 0)⟩,
     ⟨none, .asg 6 (.c (.bool false))⟩])
  (.seq (.reg [⟨none, .asg 7 (.c (.int .i64 1048576))⟩])
   (.seq (.reg [⟨none, .ld 13 1 true (.t 3)⟩,
       ⟨none, .mov 14 (.t 7)⟩,
       ⟨none, .call 15 f_laws_szPoset [((.t 13), false), ((.t 14), false)]⟩,
       ⟨none, .asg 7 (.t 15)⟩])
    (.drop [13, 14, 15] (.seq (.seq (.reg [⟨none, .mov 16 (.t 7)⟩,
         ⟨none, .bin 17 .lss (.t 16) (.c (.int .i64 0))⟩])
      (.drop [16] (.cond (.t 17) (.seq (.reg [⟨none, .asg 6 (.c (.bool true))⟩])
        .ret)
       .skip)))
     (.drop [16, 17] (.seq (.reg [⟨none, .ld 19 1 true (.t 3)⟩,
         ⟨none, .call 20 f_laws_toPoset [((.t 19), false)]⟩,
         ⟨none, .mov 21 (.t 1)⟩,
         ⟨none, .mov 22 (.t 2)⟩,
         ⟨none, .call 23 f_spec_IsAtMost [((.t 20), false), ((.t 21), false), ((.t 22), false)]⟩,
         ⟨none, .asg 18 (.t 23)⟩,
         ⟨none, .ext 24 (.t 18) 0⟩,
         ⟨none, .ext 25 (.t 18) 1⟩,
         ⟨none, .asg 8 (.t 24)⟩,
         ⟨none, .asg 9 (.t 25)⟩])
      (.drop [19, 20, 21, 22, 23, 18, 24, 25] (.seq (.reg [⟨none, .ld 26 1 true (.t 3)⟩,
          ⟨none, .call 27 f_laws_toPoset [((.t 26), false)]⟩,
          ⟨none, .alc 10 (.agg [.nilsl 1])⟩,
          ⟨none, .st 1 (.t 10) (.t 27)⟩])
       (.drop [26, 27] (.seq (.reg [⟨none, .ld 29 1 true (.t 10)⟩,
           ⟨none, .mov 30 (.t 1)⟩,
           ⟨none, .mov 31 (.t 2)⟩,
           ⟨none, .call 32 f_impl_IsAtMost [((.t 29), false), ((.t 30), false), ((.t 31), false)]⟩,
           ⟨none, .asg 28 (.t 32)⟩,
           ⟨none, .ext 33 (.t 28) 0⟩,
           ⟨none, .ext 34 (.t 28) 1⟩,
           ⟨none, .asg 11 (.t 33)⟩,
           ⟨none, .asg 12 (.t 34)⟩])
        (.drop [29, 30, 31, 32, 28, 33, 34] (.seq (.seq (.reg [⟨none, .mov 35 (.t 11)⟩,
             ⟨none, .mov 36 (.t 8)⟩,
             ⟨none, .binb 37 .neq (.t 35) (.t 36)⟩,
             ⟨none, .asg 38 (.t 37)⟩,
             ⟨some (38, false), .mov 39 (.t 12)⟩,
             ⟨some (38, false), .mov 40 (.t 9)⟩,
             ⟨some (38, false), .binb 41 .neq (.t 39) (.t 40)⟩,
             ⟨none, .pick 42 (.t 38) (.c (.bool true)) (.t 41)⟩])
          (.drop [35, 36, 37, 38, 39, 40, 41] (.cond (.t 42) (.seq (.reg [⟨none, .asg 6 (.c (.bool false))⟩])
            .ret)
           .skip)))
         (.drop [35, 36, 37, 38, 39, 40, 41, 42] (.seq (.seq (.dreg [(⟨none, .ld 43 1 true (.t 10)⟩, []),
              (⟨none, .ld 44 1 true (.t 3)⟩, [43]),
              (⟨none, .call 45 f_laws_toPoset [((.t 44), false)]⟩, [43])]
             [⟨none, .call 46 f_laws_eqPoset [((.t 43), false), ((.t 45), false)]⟩,
              ⟨none, .un 47 .not (.t 46)⟩])
           (.drop [43, 44, 45, 46] (.cond (.t 47) (.seq (.reg [⟨none, .asg 6 (.c (.bool false))⟩])
             .ret)
            .skip)))
          (.drop [43, 44, 45, 46, 47] (.seq (.reg [⟨none, .asg 6 (.c (.bool true))⟩])
           .ret)))))))))))))))))
abbrev r_laws_FnExactIsAtMost : List RS := [.t 6]
theorem k_laws_FnExactIsAtMost : fitsF Try.prog f_laws_FnExactIsAtMost 48 c_laws_FnExactIsAtMost r_laws_FnExactIsAtMost = true := by kernel_rfl

/- loop.example/g01078/laws.FnExactCountExtensions: [aP=0, aP=1, left=3, w0=4, w1=5, x0=6, g0=7, g1=8] -/
def c_laws_FnExactCountExtensions : ACode :=
  (.seq (.reg [⟨none, .box 1 (.t 0)⟩,
     ⟨none, .asg 2 (.c (.bool false))⟩])
  (.seq (.reg [⟨none, .asg 3 (.c (.int .i64 1048576))⟩])
   (.seq (.reg [⟨none, .ld 9 1 true (.t 1)⟩,
       ⟨none, .mov 10 (.t 3)⟩,
       ⟨none, .call 11 f_laws_szPoset [((.t 9), false), ((.t 10), false)]⟩,
       ⟨none, .asg 3 (.t 11)⟩])
    (.drop [9, 10, 11] (.seq (.seq (.reg [⟨none, .mov 12 (.t 3)⟩,
         ⟨none, .bin 13 .lss (.t 12) (.c (.int .i64 0))⟩])
      (.drop [12] (.cond (.t 13) (.seq (.reg [⟨none, .asg 2 (.c (.bool true))⟩])
        .ret)
       .skip)))
     (.drop [12, 13] (.seq (.reg [⟨none, .ld 15 1 true (.t 1)⟩,
         ⟨none, .call 16 f_laws_toPoset [((.t 15), false)]⟩,
         ⟨none, .call 17 f_spec_CountExtensions [((.t 16), false)]⟩,
         ⟨none, .asg 14 (.t 17)⟩,
         ⟨none, .ext 18 (.t 14) 0⟩,
         ⟨none, .ext 19 (.t 14) 1⟩,
         ⟨none, .asg 4 (.t 18)⟩,
         ⟨none, .asg 5 (.t 19)⟩])
      (.drop [15, 16, 17, 14, 18, 19] (.seq (.reg [⟨none, .ld 20 1 true (.t 1)⟩,
          ⟨none, .call 21 f_laws_toPoset [((.t 20), false)]⟩,
          ⟨none, .alc 6 (.agg [.nilsl 1])⟩,
          ⟨none, .st 1 (.t 6) (.t 21)⟩])
       (.drop [20, 21] (.seq (.reg [⟨none, .ld 23 1 true (.t 6)⟩,
           ⟨none, .call 24 f_impl_CountExtensions [((.t 23), false)]⟩,
           ⟨none, .asg 22 (.t 24)⟩,
           ⟨none, .ext 25 (.t 22) 0⟩,
           ⟨none, .ext 26 (.t 22) 1⟩,
           ⟨none, .asg 7 (.t 25)⟩,
           ⟨none, .asg 8 (.t 26)⟩])
        (.drop [23, 24, 22, 25, 26] (.seq (.seq (.reg [⟨none, .mov 27 (.t 7)⟩,
             ⟨none, .mov 28 (.t 4)⟩,
             ⟨none, .bin 29 .neq (.t 27) (.t 28)⟩,
             ⟨none, .asg 30 (.t 29)⟩,
             ⟨some (30, false), .mov 31 (.t 8)⟩,
             ⟨some (30, false), .mov 32 (.t 5)⟩,
             ⟨some (30, false), .binb 33 .neq (.t 31) (.t 32)⟩,
             ⟨none, .pick 34 (.t 30) (.c (.bool true)) (.t 33)⟩])
          (.drop [27, 28, 29, 30, 31, 32, 33] (.cond (.t 34) (.seq (.reg [⟨none, .asg 2 (.c (.bool false))⟩])
            .ret)
           .skip)))
         (.drop [27, 28, 29, 30, 31, 32, 33, 34] (.seq (.seq (.dreg [(⟨none, .ld 35 1 true (.t 6)⟩, []),
              (⟨none, .ld 36 1 true (.t 1)⟩, [35]),
              (⟨none, .call 37 f_laws_toPoset [((.t 36), false)]⟩, [35])]
             [⟨none, .call 38 f_laws_eqPoset [((.t 35), false), ((.t 37), false)]⟩,
              ⟨none, .un 39 .not (.t 38)⟩])
           (.drop [35, 36, 37, 38] (.cond (.t 39) (.seq (.reg [⟨none, .asg 2 (.c (.bool false))⟩])
             .ret)
            .skip)))
          (.drop [35, 36, 37, 38, 39] (.seq (.reg [⟨none, .asg 2 (.c (.bool true))⟩])
           .ret)))))))))))))))))
abbrev r_laws_FnExactCountExtensions : List RS := [.t 2]
theorem k_laws_FnExactCountExtensions : fitsF Try.prog f_laws_FnExactCountExtensions 40 c_laws_FnExactCountExtensions r_laws_FnExactCountExtensions = true := by kernel_rfl

/- loop.example/g01078/laws.FnExactMinimalElements: [aP=0, aP=1, left=3, w0=4, w1=5, x0=6, g0=7, g1=8, k=9, m=10, q=11, h0=12, h1=13] -/
def c_laws_FnExactMinimalElements_k1 : ACode :=
  (.seq (.reg [⟨none, .mov 32 (.t 7)⟩,
             ⟨none, .mov 33 (.t 4)⟩,
             ⟨none, .call 34 f_laws_eqIntS [((.t 32), false), ((.t 33), false)]⟩,
             ⟨none, .un 35 .not (.t 34)⟩,
             ⟨none, .asg 36 (.t 35)⟩,
             ⟨some (36, false), .mov 37 (.t 8)⟩,
             ⟨some (36, false), .mov 38 (.t 5)⟩,
             ⟨some (36, false), .binb 39 .neq (.t 37) (.t 38)⟩,
             ⟨none, .pick 40 (.t 36) (.c (.bool true)) (.t 39)⟩])
          (.drop [32, 33, 34, 35, 36, 37, 38, 39] (.cond (.t 40) (.seq (.reg [⟨none, .asg 2 (.c (.bool false))⟩])
            .ret)
           .skip)))
def c_laws_FnExactMinimalElements_k2 : ACode :=
  (.seq (.reg [⟨none, .mov 49 (.t 9)⟩,
                 ⟨none, .bin 50 .lss (.t 49) (.c (.int .i64 0))⟩,
                 ⟨none, .asg 51 (.t 50)⟩,
                 ⟨some (51, false), .mov 52 (.t 7)⟩,
                 ⟨some (51, false), .mov 53 (.t 4)⟩,
                 ⟨some (51, false), .call 54 f_laws_eqIntS [((.t 52), false), ((.t 53), false)]⟩,
                 ⟨some (51, false), .un 55 .not (.t 54)⟩,
                 ⟨none, .pick 56 (.t 51) (.c (.bool true)) (.t 55)⟩,
                 ⟨none, .asg 57 (.t 56)⟩,
                 ⟨some (57, false), .mov 58 (.t 8)⟩,
                 ⟨some (57, false), .mov 59 (.t 5)⟩,
                 ⟨some (57, false), .binb 60 .neq (.t 58) (.t 59)⟩,
                 ⟨none, .pick 61 (.t 57) (.c (.bool true)) (.t 60)⟩])
              (.drop [49, 50, 51, 52, 53, 54, 55, 56, 57, 58, 59, 60] (.cond (.t 61) (.seq (.reg [⟨none, .asg 2 (.c (.bool false))⟩])
                .ret)
               .skip)))
def c_laws_FnExactMinimalElements_k3 : ACode :=
  (.seq (.reg [⟨none, .mov 79 (.t 12)⟩,
                         ⟨none, .mov 80 (.t 4)⟩,
                         ⟨none, .call 81 f_laws_eqIntS [((.t 79), false), ((.t 80), false)]⟩,
                         ⟨none, .un 82 .not (.t 81)⟩,
                         ⟨none, .asg 83 (.t 82)⟩,
                         ⟨some (83, false), .mov 84 (.t 13)⟩,
                         ⟨some (83, false), .mov 85 (.t 5)⟩,
                         ⟨some (83, false), .binb 86 .neq (.t 84) (.t 85)⟩,
                         ⟨none, .pick 87 (.t 83) (.c (.bool true)) (.t 86)⟩])
                      (.drop [79, 80, 81, 82, 83, 84, 85, 86] (.cond (.t 87) (.seq (.reg [⟨none, .asg 2 (.c (.bool false))⟩])
                        .ret)
                       .skip)))
def c_laws_FnExactMinimalElements : ACode :=
  (.seq (.reg [⟨none, .box 1 (.t 0)⟩,
     ⟨none, .asg 2 (.c (.bool false))⟩])
  (.seq (.reg [⟨none, .asg 3 (.c (.int .i64 1048576))⟩])
   (.seq (.reg [⟨none, .ld 14 1 true (.t 1)⟩,
       ⟨none, .mov 15 (.t 3)⟩,
       ⟨none, .call 16 f_laws_szPoset [((.t 14), false), ((.t 15), false)]⟩,
       ⟨none, .asg 3 (.t 16)⟩])
    (.drop [14, 15, 16] (.seq (.seq (.reg [⟨none, .mov 17 (.t 3)⟩,
         ⟨none, .bin 18 .lss (.t 17) (.c (.int .i64 0))⟩])
      (.drop [17] (.cond (.t 18) (.seq (.reg [⟨none, .asg 2 (.c (.bool true))⟩])
        .ret)
       .skip)))
     (.drop [17, 18] (.seq (.reg [⟨none, .ld 20 1 true (.t 1)⟩,
         ⟨none, .call 21 f_laws_toPoset [((.t 20), false)]⟩,
         ⟨none, .call 22 f_spec_MinimalElements [((.t 21), false)]⟩,
         ⟨none, .asg 19 (.t 22)⟩,
         ⟨none, .ext 23 (.t 19) 0⟩,
         ⟨none, .ext 24 (.t 19) 1⟩,
         ⟨none, .asg 4 (.t 23)⟩,
         ⟨none, .asg 5 (.t 24)⟩])
      (.drop [20, 21, 22, 19, 23, 24] (.seq (.reg [⟨none, .ld 25 1 true (.t 1)⟩,
          ⟨none, .call 26 f_laws_toPoset [((.t 25), false)]⟩,
          ⟨none, .alc 6 (.agg [.nilsl 1])⟩,
          ⟨none, .st 1 (.t 6) (.t 26)⟩])
       (.drop [25, 26] (.seq (.reg [⟨none, .ld 28 1 true (.t 6)⟩,
           ⟨none, .call 29 f_impl_MinimalElements [((.t 28), false)]⟩,
           ⟨none, .asg 27 (.t 29)⟩,
           ⟨none, .ext 30 (.t 27) 0⟩,
           ⟨none, .ext 31 (.t 27) 1⟩,
           ⟨none, .asg 7 (.t 30)⟩,
           ⟨none, .asg 8 (.t 31)⟩])
        (.drop [28, 29, 27, 30, 31] (.seq (.cut c_laws_FnExactMinimalElements_k1)
         (.drop [32, 33, 34, 35, 36, 37, 38, 39, 40] (.seq (.seq (.dreg [(⟨none, .ld 41 1 true (.t 6)⟩, []),
              (⟨none, .ld 42 1 true (.t 1)⟩, [41]),
              (⟨none, .call 43 f_laws_toPoset [((.t 42), false)]⟩, [41])]
             [⟨none, .call 44 f_laws_eqPoset [((.t 41), false), ((.t 43), false)]⟩,
              ⟨none, .un 45 .not (.t 44)⟩])
           (.drop [41, 42, 43, 44] (.cond (.t 45) (.seq (.reg [⟨none, .asg 2 (.c (.bool false))⟩])
             .ret)
            .skip)))
          (.drop [41, 42, 43, 44, 45] (.seq (.reg [⟨none, .asg 9 (.c (.int .i64 1))⟩])
           (.seq (.reg [⟨none, .ld 46 1 true (.t 6)⟩,
               ⟨none, .mov 47 (.t 9)⟩,
               ⟨none, .call 48 f_laws_markPoset [((.t 46), true), ((.t 47), false)]⟩,
               ⟨none, .asg 9 (.t 48)⟩])
            (.drop [46, 47, 48] (.seq (.cut c_laws_FnExactMinimalElements_k2)
             (.drop [49, 50, 51, 52, 53, 54, 55, 56, 57, 58, 59, 60, 61] (.seq (.reg [⟨none, .asg 10 (.c (.int .i64 1))⟩])
              (.seq (.reg [⟨none, .mov 62 (.t 7)⟩,
                  ⟨none, .mov 63 (.t 10)⟩,
                  ⟨none, .call 64 f_laws_markIntS [((.t 62), true), ((.t 63), false)]⟩,
                  ⟨none, .asg 10 (.t 64)⟩])
               (.drop [62, 63, 64] (.seq (.reg [⟨none, .asg 11 (.c (.int .i64 1))⟩])
                (.seq (.reg [⟨none, .mov 65 (.t 7)⟩,
                    ⟨none, .mov 66 (.t 11)⟩,
                    ⟨none, .call 67 f_laws_heldIntS [((.t 65), false), ((.t 66), false)]⟩,
                    ⟨none, .asg 11 (.t 67)⟩])
                 (.drop [65, 66, 67] (.seq (.seq (.reg [⟨none, .mov 68 (.t 11)⟩,
                      ⟨none, .bin 69 .lss (.t 68) (.c (.int .i64 0))⟩])
                   (.drop [68] (.cond (.t 69) (.seq (.reg [⟨none, .asg 2 (.c (.bool false))⟩])
                     .ret)
                    .skip)))
                  (.drop [68, 69] (.seq (.seq (.reg [⟨none, .mov 70 (.t 11)⟩,
                       ⟨none, .mov 71 (.t 10)⟩,
                       ⟨none, .bin 72 .neq (.t 70) (.t 71)⟩])
                    (.drop [70, 71] (.cond (.t 72) (.seq (.reg [⟨none, .asg 2 (.c (.bool false))⟩])
                      .ret)
                     .skip)))
                   (.drop [70, 71, 72] (.seq (.reg [⟨none, .ld 74 1 true (.t 1)⟩,
                       ⟨none, .call 75 f_laws_toPoset [((.t 74), false)]⟩,
                       ⟨none, .call 76 f_impl_MinimalElements [((.t 75), false)]⟩,
                       ⟨none, .asg 73 (.t 76)⟩,
                       ⟨none, .ext 77 (.t 73) 0⟩,
                       ⟨none, .ext 78 (.t 73) 1⟩,
                       ⟨none, .asg 12 (.t 77)⟩,
                       ⟨none, .asg 13 (.t 78)⟩])
                    (.drop [74, 75, 76, 73, 77, 78] (.seq (.cut c_laws_FnExactMinimalElements_k3)
                     (.drop [79, 80, 81, 82, 83, 84, 85, 86, 87] (.seq (.reg [⟨none, .asg 11 (.c (.int .i64 1))⟩])
                      (.seq (.reg [⟨none, .mov 88 (.t 7)⟩,
                          ⟨none, .mov 89 (.t 11)⟩,
                          ⟨none, .call 90 f_laws_heldIntS [((.t 88), false), ((.t 89), false)]⟩,
                          ⟨none, .asg 11 (.t 90)⟩])
                       (.drop [88, 89, 90] (.seq (.seq (.reg [⟨none, .mov 91 (.t 11)⟩,
                            ⟨none, .bin 92 .lss (.t 91) (.c (.int .i64 0))⟩])
                         (.drop [91] (.cond (.t 92) (.seq (.reg [⟨none, .asg 2 (.c (.bool false))⟩])
                           .ret)
                          .skip)))
                        (.drop [91, 92] (.seq (.seq (.reg [⟨none, .mov 93 (.t 11)⟩,
                             ⟨none, .mov 94 (.t 10)⟩,
                             ⟨none, .bin 95 .neq (.t 93) (.t 94)⟩])
                          (.drop [93, 94] (.cond (.t 95) (.seq (.reg [⟨none, .asg 2 (.c (.bool false))⟩])
                            .ret)
                           .skip)))
                         (.drop [93, 94, 95] (.seq (.reg [⟨none, .asg 2 (.c (.bool true))⟩])
                          .ret)))))))))))))))))))))))))))))))))))))))))))
abbrev r_laws_FnExactMinimalElements : List RS := [.t 2]
theorem k_laws_FnExactMinimalElements : fitsF Try.prog f_laws_FnExactMinimalElements 96 c_laws_FnExactMinimalElements r_laws_FnExactMinimalElements = true := by kernel_rfl

/- loop.example/g01078/laws.FnExactMaximalElements: [aP=0, aP=1, left=3, w0=4, w1=5, x0=6, g0=7, g1=8, k=9, m=10, q=11, h0=12, h1=13] -/
def c_laws_FnExactMaximalElements_k1 : ACode :=
  (.seq (.reg [⟨none, .mov 32 (.t 7)⟩,
             ⟨none, .mov 33 (.t 4)⟩,
             ⟨none, .call 34 f_laws_eqIntS [((.t 32), false), ((.t 33), false)]⟩,
             ⟨none, .un 35 .not (.t 34)⟩,
             ⟨none, .asg 36 (.t 35)⟩,
             ⟨some (36, false), .mov 37 (.t 8)⟩,
             ⟨some (36, false), .mov 38 (.t 5)⟩,
             ⟨some (36, false), .binb 39 .neq (.t 37) (.t 38)⟩,
             ⟨none, .pick 40 (.t 36) (.c (.bool true)) (.t 39)⟩])
          (.drop [32, 33, 34, 35, 36, 37, 38, 39] (.cond (.t 40) (.seq (.reg [⟨none, .asg 2 (.c (.bool false))⟩])
            .ret)
           .skip)))
def c_laws_FnExactMaximalElements_k2 : ACode :=
  (.seq (.reg [⟨none, .mov 49 (.t 9)⟩,
                 ⟨none, .bin 50 .lss (.t 49) (.c (.int .i64 0))⟩,
                 ⟨none, .asg 51 (.t 50)⟩,
                 ⟨some (51, false), .mov 52 (.t 7)⟩,
                 ⟨some (51, false), .mov 53 (.t 4)⟩,
                 ⟨some (51, false), .call 54 f_laws_eqIntS [((.t 52), false), ((.t 53), false)]⟩,
                 ⟨some (51, false), .un 55 .not (.t 54)⟩,
                 ⟨none, .pick 56 (.t 51) (.c (.bool true)) (.t 55)⟩,
                 ⟨none, .asg 57 (.t 56)⟩,
                 ⟨some (57, false), .mov 58 (.t 8)⟩,
                 ⟨some (57, false), .mov 59 (.t 5)⟩,
                 ⟨some (57, false), .binb 60 .neq (.t 58) (.t 59)⟩,
                 ⟨none, .pick 61 (.t 57) (.c (.bool true)) (.t 60)⟩])
              (.drop [49, 50, 51, 52, 53, 54, 55, 56, 57, 58, 59, 60] (.cond (.t 61) (.seq (.reg [⟨none, .asg 2 (.c (.bool false))⟩])
                .ret)
               .skip)))
def c_laws_FnExactMaximalElements_k3 : ACode :=
  (.seq (.reg [⟨none, .mov 79 (.t 12)⟩,
                         ⟨none, .mov 80 (.t 4)⟩,
                         ⟨none, .call 81 f_laws_eqIntS [((.t 79), false), ((.t 80), false)]⟩,
                         ⟨none, .un 82 .not (.t 81)⟩,
                         ⟨none, .asg 83 (.t 82)⟩,
                         ⟨some (83, false), .mov 84 (.t 13)⟩,
                         ⟨some (83, false), .mov 85 (.t 5)⟩,
                         ⟨some (83, false), .binb 86 .neq (.t 84) (.t 85)⟩,
                         ⟨none, .pick 87 (.t 83) (.c (.bool true)) (.t 86)⟩])
                      (.drop [79, 80, 81, 82, 83, 84, 85, 86] (.cond (.t 87) (.seq (.reg [⟨none, .asg 2 (.c (.bool false))⟩])
                        .ret)
                       .skip)))
def c_laws_FnExactMaximalElements : ACode :=
  (.seq (.reg [⟨none, .box 1 (.t 0)⟩,
     ⟨none, .asg 2 (.c (.bool false))⟩])
  (.seq (.reg [⟨none, .asg 3 (.c (.int .i64 1048576))⟩])
   (.seq (.reg [⟨none, .ld 14 1 true (.t 1)⟩,
       ⟨none, .mov 15 (.t 3)⟩,
       ⟨none, .call 16 f_laws_szPoset [((.t 14), false), ((.t 15), false)]⟩,
       ⟨none, .asg 3 (.t 16)⟩])
    (.drop [14, 15, 16] (.seq (.seq (.reg [⟨none, .mov 17 (.t 3)⟩,
         ⟨none, .bin 18 .lss (.t 17) (.c (.int .i64 0))⟩])
      (.drop [17] (.cond (.t 18) (.seq (.reg [⟨none, .asg 2 (.c (.bool true))⟩])
        .ret)
       .skip)))
     (.drop [17, 18] (.seq (.reg [⟨none, .ld 20 1 true (.t 1)⟩,
         ⟨none, .call 21 f_laws_toPoset [((.t 20), false)]⟩,
         ⟨none, .call 22 f_spec_MaximalElements [((.t 21), false)]⟩,
         ⟨none, .asg 19 (.t 22)⟩,
         ⟨none, .ext 23 (.t 19) 0⟩,
         ⟨none, .ext 24 (.t 19) 1⟩,
         ⟨none, .asg 4 (.t 23)⟩,
         ⟨none, .asg 5 (.t 24)⟩])
      (.drop [20, 21, 22, 19, 23, 24] (.seq (.reg [⟨none, .ld 25 1 true (.t 1)⟩,
          ⟨none, .call 26 f_laws_toPoset [((.t 25), false)]⟩,
          ⟨none, .alc 6 (.agg [.nilsl 1])⟩,
          ⟨none, .st 1 (.t 6) (.t 26)⟩])
       (.drop [25, 26] (.seq (.reg [⟨none, .ld 28 1 true (.t 6)⟩,
           ⟨none, .call 29 f_impl_MaximalElements [((.t 28), false)]⟩,
           ⟨none, .asg 27 (.t 29)⟩,
           ⟨none, .ext 30 (.t 27) 0⟩,
           ⟨none, .ext 31 (.t 27) 1⟩,
           ⟨none, .asg 7 (.t 30)⟩,
           ⟨none, .asg 8 (.t 31)⟩])
        (.drop [28, 29, 27, 30, 31] (.seq (.cut c_laws_FnExactMaximalElements_k1)
         (.drop [32, 33, 34, 35, 36, 37, 38, 39, 40] (.seq (.seq (.dreg [(⟨none, .ld 41 1 true (.t 6)⟩, []),
              (⟨none, .ld 42 1 true (.t 1)⟩, [41]),
              (⟨none, .call 43 f_laws_toPoset [((.t 42), false)]⟩, [41])]
             [⟨none, .call 44 f_laws_eqPoset [((.t 41), false), ((.t 43), false)]⟩,
              ⟨none, .un 45 .not (.t 44)⟩])
           (.drop [41, 42, 43, 44] (.cond (.t 45) (.seq (.reg [⟨none, .asg 2 (.c (.bool false))⟩])
             .ret)
            .skip)))
          (.drop [41, 42, 43, 44, 45] (.seq (.reg [⟨none, .asg 9 (.c (.int .i64 1))⟩])
           (.seq (.reg [⟨none, .ld 46 1 true (.t 6)⟩,
               ⟨none, .mov 47 (.t 9)⟩,
               ⟨none, .call 48 f_laws_markPoset [((.t 46), true), ((.t 47), false)]⟩,
               ⟨none, .asg 9 (.t 48)⟩])
            (.drop [46, 47, 48] (.seq (.cut c_laws_FnExactMaximalElements_k2)
             (.drop [49, 50, 51, 52, 53, 54, 55, 56, 57, 58, 59, 60, 61] (.seq (.reg [⟨none, .asg 10 (.c (.int .i64 1))⟩])
              (.seq (.reg [⟨none, .mov 62 (.t 7)⟩,
                  ⟨none, .mov 63 (.t 10)⟩,
                  ⟨none, .call 64 f_laws_markIntS [((.t 62), true), ((.t 63), false)]⟩,
                  ⟨none, .asg 10 (.t 64)⟩])
               (.drop [62, 63, 64] (.seq (.reg [⟨none, .asg 11 (.c (.int .i64 1))⟩])
                (.seq (.reg [⟨none, .mov 65 (.t 7)⟩,
                    ⟨none, .mov 66 (.t 11)⟩,
                    ⟨none, .call 67 f_laws_heldIntS [((.t 65), false), ((.t 66), false)]⟩,
                    ⟨none, .asg 11 (.t 67)⟩])
                 (.drop [65, 66, 67] (.seq (.seq (.reg [⟨none, .mov 68 (.t 11)⟩,
                      ⟨none, .bin 69 .lss (.t 68) (.c (.int .i64 0))⟩])
                   (.drop [68] (.cond (.t 69) (.seq (.reg [⟨none, .asg 2 (.c (.bool false))⟩])
                     .ret)
                    .skip)))
                  (.drop [68, 69] (.seq (.seq (.reg [⟨none, .mov 70 (.t 11)⟩,
                       ⟨none, .mov 71 (.t 10)⟩,
                       ⟨none, .bin 72 .neq (.t 70) (.t 71)⟩])
                    (.drop [70, 71] (.cond (.t 72) (.seq (.reg [⟨none, .asg 2 (.c (.bool false))⟩])
                      .ret)
                     .skip)))
                   (.drop [70, 71, 72] (.seq (.reg [⟨none, .ld 74 1 true (.t 1)⟩,
                       ⟨none, .call 75 f_laws_toPoset [((.t 74), false)]⟩,
                       ⟨none, .call 76 f_impl_MaximalElements [((.t 75), false)]⟩,
                       ⟨none, .asg 73 (.t 76)⟩,
                       ⟨none, .ext 77 (.t 73) 0⟩,
                       ⟨none, .ext 78 (.t 73) 1⟩,
                       ⟨none, .asg 12 (.t 77)⟩,
                       ⟨none, .asg 13 (.t 78)⟩])
                    (.drop [74, 75, 76, 73, 77, 78] (.seq (.cut c_laws_FnExactMaximalElements_k3)
                     (.drop [79, 80, 81, 82, 83, 84, 85, 86, 87] (.seq (.reg [⟨none, .asg 11 (.c (.int .i64 1))⟩])
                      (.seq (.reg [⟨none, .mov 88 (.t 7)⟩,
                          ⟨none, .mov 89 (.t 11)⟩,
                          ⟨none, .call 90 f_laws_heldIntS [((.t 88), false), ((.t 89), false)]⟩,
                          ⟨none, .asg 11 (.t 90)⟩])
                       (.drop [88, 89, 90] (.seq (.seq (.reg [⟨none, .mov 91 (.t 11)⟩,
                            ⟨none, .bin 92 .lss (.t 91) (.c (.int .i64 0))⟩])
                         (.drop [91] (.cond (.t 92) (.seq (.reg [⟨none, .asg 2 (.c (.bool false))⟩])
                           .ret)
                          .skip)))
                        (.drop [91, 92] (.seq (.seq (.reg [⟨none, .mov 93 (.t 11)⟩,
                             ⟨none, .mov 94 (.t 10)⟩,
                             ⟨none, .bin 95 .neq (.t 93) (.t 94)⟩])
                          (.drop [93, 94] (.cond (.t 95) (.seq (.reg [⟨none, .asg 2 (.c (.bool false))⟩])
                            .ret)
                           .skip)))
                         (.drop [93, 94, 95] (.seq (.reg [⟨none, .asg 2 (.c (.bool true))⟩])
                          .ret)))))))))))))))))))))))))))))))))))))))))))
abbrev r_laws_FnExactMaximalElements : List RS := [.t 2]
theorem k_laws_FnExactMaximalElements : fitsF Try.prog f_laws_FnExactMaximalElements 96 c_laws_FnExactMaximalElements r_laws_FnExactMaximalElements = true := by kernel_rfl

end Go.Proofs.Ythcnmahjhahafaa.Ax
