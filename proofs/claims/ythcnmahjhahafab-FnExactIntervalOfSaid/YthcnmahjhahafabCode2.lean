/-
  The small code of the functions, written by program; that the program's code is this one, the kernel looks at.
-/
import Derived.Test.YthcnmahjhahafabAx3
import Derived.Test.YthcnmahjhahafabProg
import Derived.KernelRfl
import Derived.Test.YthcnmahjhahafabNum
namespace Go.Proofs.Ythcnmahjhahafab.Ax
open Go
set_option maxRecDepth 100000

/- loop.example/g01078/laws.eqOp: [a=0, b=1, a=2, b=3] -/
def c_laws_eqOp : ACode :=
  (.seq (.reg [⟨none, .box 2 (.t 0)⟩,
     ⟨none, .box 3 (.t 1)⟩,
     ⟨none, .asg 4 (.c (.bool false))⟩])
  (.seq (.seq (.reg [⟨none, .fadr 5 0 (.t 2)⟩,
       ⟨none, .ld 6 1 false (.t 5)⟩,
       ⟨none, .fadr 7 0 (.t 3)⟩,
       ⟨none, .ld 8 1 false (.t 7)⟩,
       ⟨none, .bin 9 .neq (.t 6) (.t 8)⟩])
    (.drop [5, 6, 7, 8] (.cond (.t 9) (.seq (.reg [⟨none, .asg 4 (.c (.bool false))⟩])
      .ret)
     .skip)))
   (.drop [5, 6, 7, 8, 9] (.seq (.seq (.reg [⟨none, .fadr 10 1 (.t 2)⟩,
        ⟨none, .ld 11 1 false (.t 10)⟩,
        ⟨none, .fadr 12 1 (.t 3)⟩,
        ⟨none, .ld 13 1 false (.t 12)⟩,
        ⟨none, .call 14 f_laws_eqIntS [((.t 11), false), ((.t 13), false)]⟩,
        ⟨none, .un 15 .not (.t 14)⟩])
     (.drop [10, 11, 12, 13, 14] (.cond (.t 15) (.seq (.reg [⟨none, .asg 4 (.c (.bool false))⟩])
       .ret)
      .skip)))
    (.drop [10, 11, 12, 13, 14, 15] (.seq (.reg [⟨none, .asg 4 (.c (.bool true))⟩])
     .ret))))))
abbrev r_laws_eqOp : List RS := [.t 4]
theorem k_laws_eqOp : fitsF Try.prog f_laws_eqOp 16 c_laws_eqOp r_laws_eqOp = true := by kernel_rfl

/- loop.example/g01078/impl.widthOf: [n=0, less=1, n=2, less=3, match=5, i=6, seen=7, try=8, width=9, i=10] -/
def c_impl_widthOf_l1 : ACode :=
  (.seq (.reg [⟨none, .bin 16 .lss (.t 15) (.t 14)⟩])
  (.seq (.cond (.t 16) .skip
    (.exit 0))
   (.seq (.block 1 (.seq (.reg [⟨none, .mov 17 (.t 15)⟩,
         ⟨none, .asg 6 (.t 17)⟩])
      (.drop [17] (.reg [⟨none, .ld 18 1 false (.t 5)⟩,
         ⟨none, .mov 19 (.t 6)⟩,
         ⟨none, .iad 20 1 (.t 18) (.t 19)⟩,
         ⟨none, .st 1 (.t 20) (.c (.int .i64 (-1)))⟩]))))
    (.drop [17, 6, 18, 19, 20] (.reg [⟨none, .bin 21 .add (.t 15) (.c (.int .i64 1))⟩,
       ⟨none, .asg 15 (.t 21)⟩])))))
def c_impl_widthOf_l2 : ACode :=
  (.seq (.seq (.reg [⟨none, .mov 24 (.t 10)⟩,
      ⟨none, .ld 25 1 false (.t 2)⟩,
      ⟨none, .bin 26 .lss (.t 24) (.t 25)⟩])
   (.drop [24, 25] (.cond (.t 26) .skip
    (.exit 2))))
  (.drop [24, 25, 26] (.seq (.block 3 (.seq (.reg [⟨none, .ld 29 1 false (.t 2)⟩,
        ⟨none, .mk 30 1 (.bool false) (.t 29)⟩,
        ⟨none, .st 1 (.t 7) (.t 30)⟩])
     (.drop [29, 30] (.seq (.reg [⟨none, .ld 31 1 false (.t 8)⟩,
         ⟨none, .mov 32 (.t 10)⟩,
         ⟨none, .cally 33 (.t 31) [(.t 32)]⟩])
      (.drop [31, 32] (.cond (.t 33) (.reg [⟨none, .mov 34 (.t 9)⟩,
          ⟨none, .bin 35 .sub (.t 34) (.c (.int .i64 1))⟩,
          ⟨none, .asg 9 (.t 35)⟩])
       .skip))))))
   (.drop [29, 30, 31, 32, 33, 34, 35] (.reg [⟨none, .mov 27 (.t 10)⟩,
      ⟨none, .bin 28 .add (.t 27) (.c (.int .i64 1))⟩,
      ⟨none, .asg 10 (.t 28)⟩])))))
def c_impl_widthOf : ACode :=
  (.seq (.reg [⟨none, .box 2 (.t 0)⟩,
     ⟨none, .box 3 (.t 1)⟩,
     ⟨none, .asg 4 (.c (.int .i64 0))⟩])
  (.seq (.reg [⟨none, .ld 11 1 false (.t 2)⟩,
      ⟨none, .mk 12 1 (.int .i64 0) (.t 11)⟩,
      ⟨none, .alc 5 (.nilsl 1)⟩,
      ⟨none, .st 1 (.t 5) (.t 12)⟩])
   (.drop [11, 12] (.seq (.seq (.reg [⟨none, .ld 13 1 false (.t 5)⟩,
        ⟨none, .len 14 (.t 13)⟩,
        ⟨none, .mov 15 (.c (.int .i64 0))⟩])
     (.drop [13] (.block 0 (.loop c_impl_widthOf_l1))))
    (.drop [13, 14, 15, 16, 17, 6, 18, 19, 20, 21] (.seq (.reg [⟨none, .alc 7 (.nilsl 1)⟩])
     (.seq (.reg [⟨none, .alc 8 (.dead)⟩])
      (.seq (.reg [⟨none, .mkf 22 f_impl_widthOf_1 [(.t 2), (.t 7), (.t 3), (.t 5), (.t 8)]⟩,
          ⟨none, .st 1 (.t 8) (.t 22)⟩])
       (.drop [22] (.seq (.reg [⟨none, .ld 23 1 false (.t 2)⟩,
           ⟨none, .asg 9 (.t 23)⟩])
        (.drop [23] (.seq (.seq (.reg [⟨none, .asg 10 (.c (.int .i64 0))⟩])
          (.block 2 (.loop c_impl_widthOf_l2)))
         (.drop [10, 24, 25, 26, 29, 30, 31, 32, 33, 34, 35, 27, 28] (.seq (.reg [⟨none, .mov 36 (.t 9)⟩,
             ⟨none, .asg 4 (.t 36)⟩])
          (.drop [36] .ret)))))))))))))))
abbrev r_impl_widthOf : List RS := [.t 4]
theorem k_impl_widthOf : fitsF Try.prog f_impl_widthOf 37 c_impl_widthOf r_impl_widthOf = true := by kernel_rfl

/- (loop.example/g01078/impl.order).fewest$1: [x=0, y=1, x=4, y=5] -/
def c_impl_order_fewest_1 : ACode :=
  (.seq (.reg [⟨none, .asg 6 (.c (.bool false))⟩])
  (.seq (.seq (.reg [⟨none, .ld 7 1 false (.t 2)⟩,
       ⟨none, .mov 8 (.t 0)⟩,
       ⟨none, .iad 9 1 (.t 7) (.t 8)⟩,
       ⟨none, .ld 10 1 false (.t 9)⟩,
       ⟨none, .bin 11 .neq (.t 10) (.c (.int .i64 (-2)))⟩])
    (.drop [7, 8, 9, 10] (.cond (.t 11) (.seq (.reg [⟨none, .ld 12 1 false (.t 2)⟩,
         ⟨none, .mov 13 (.t 0)⟩,
         ⟨none, .iad 14 1 (.t 12) (.t 13)⟩,
         ⟨none, .ld 15 1 false (.t 14)⟩,
         ⟨none, .mov 16 (.t 1)⟩,
         ⟨none, .bin 17 .eql (.t 15) (.t 16)⟩,
         ⟨none, .asg 6 (.t 17)⟩])
      (.drop [12, 13, 14, 15, 16, 17] .ret))
     .skip)))
   (.drop [7, 8, 9, 10, 11, 12, 13, 14, 15, 16, 17] (.seq (.reg [⟨none, .ld 18 1 false (.t 3)⟩,
       ⟨none, .mov 19 (.t 0)⟩,
       ⟨none, .mov 20 (.t 1)⟩,
       ⟨none, .call 21 f_impl_order_less [((.t 18), false), ((.t 19), false), ((.t 20), false)]⟩,
       ⟨none, .asg 6 (.t 21)⟩])
    (.drop [18, 19, 20, 21] .ret)))))
abbrev r_impl_order_fewest_1 : List RS := [.t 6]
theorem k_impl_order_fewest_1 : fitsF Try.prog f_impl_order_fewest_1 22 c_impl_order_fewest_1 r_impl_order_fewest_1 = true := by kernel_rfl

/- loop.example/g01078/impl.cloneOp: [f=0, f=1] -/
def c_impl_cloneOp : ACode :=
  (.seq (.reg [⟨none, .box 1 (.t 0)⟩,
     ⟨none, .alc 2 (.agg [.int .i64 0, .nilsl 1])⟩])
  (.seq (.dreg [(⟨none, .fadr 3 0 (.t 1)⟩, []),
      (⟨none, .ld 4 1 false (.t 3)⟩, []),
      (⟨none, .fadr 5 1 (.t 1)⟩, [3, 4]),
      (⟨none, .ld 6 1 false (.t 5)⟩, [3, 4]),
      (⟨none, .call 7 f_impl_clone [((.t 6), false)]⟩, [3, 4])]
     [⟨none, .bld 8 [.int .i64 0, .nilsl 1] [(0, 1, (.t 4)), (1, 1, (.t 7))]⟩,
      ⟨none, .st 2 (.t 2) (.t 8)⟩])
   (.drop [3, 4, 5, 6, 7, 8] .ret)))
abbrev r_impl_cloneOp : List RS := [.c 2 2 true]
theorem k_impl_cloneOp : fitsF Try.prog f_impl_cloneOp 9 c_impl_cloneOp r_impl_cloneOp = true := by kernel_rfl

/- loop.example/g01078/laws.szPoset: [a=0, left=1, a=2, left=3] -/
def c_laws_szPoset : ACode :=
  (.seq (.reg [⟨none, .box 2 (.t 0)⟩,
     ⟨none, .asg 4 (.c (.int .i64 0))⟩])
  (.seq (.reg [⟨none, .fadr 5 0 (.t 2)⟩,
      ⟨none, .ld 6 1 false (.t 5)⟩,
      ⟨none, .mov 7 (.t 1)⟩,
      ⟨none, .call 8 f_laws_szIntSS [((.t 6), false), ((.t 7), false)]⟩,
      ⟨none, .asg 1 (.t 8)⟩])
   (.drop [5, 6, 7, 8] (.seq (.seq (.reg [⟨none, .mov 9 (.t 1)⟩,
        ⟨none, .bin 10 .lss (.t 9) (.c (.int .i64 0))⟩])
     (.drop [9] (.cond (.t 10) (.seq (.reg [⟨none, .asg 4 (.c (.int .i64 (-1)))⟩])
       .ret)
      .skip)))
    (.drop [9, 10] (.seq (.reg [⟨none, .mov 11 (.t 1)⟩,
        ⟨none, .asg 4 (.t 11)⟩])
     (.drop [11] .ret)))))))
abbrev r_laws_szPoset : List RS := [.t 4]
theorem k_laws_szPoset : fitsF Try.prog f_laws_szPoset 12 c_laws_szPoset r_laws_szPoset = true := by kernel_rfl

/- loop.example/g01078/laws.toPoset: [a=0, a=1, out=3] -/
def c_laws_toPoset : ACode :=
  (.seq (.reg [⟨none, .box 1 (.t 0)⟩,
     ⟨none, .alc 2 (.agg [.nilsl 1])⟩])
  (.seq (.reg [⟨none, .alc 3 (.agg [.nilsl 1])⟩])
   (.seq (.reg [⟨none, .fadr 4 0 (.t 1)⟩,
       ⟨none, .ld 5 1 false (.t 4)⟩,
       ⟨none, .call 6 f_laws_toIntSS [((.t 5), false)]⟩,
       ⟨none, .fadr 7 0 (.t 3)⟩,
       ⟨none, .st 1 (.t 7) (.t 6)⟩])
    (.drop [4, 5, 6, 7] (.seq (.reg [⟨none, .ld 8 1 true (.t 3)⟩,
        ⟨none, .st 1 (.t 2) (.t 8)⟩])
     (.drop [8] .ret))))))
abbrev r_laws_toPoset : List RS := [.c 2 1 true]
theorem k_laws_toPoset : fitsF Try.prog f_laws_toPoset 9 c_laws_toPoset r_laws_toPoset = true := by kernel_rfl

/- loop.example/g01078/laws.eqPoset: [a=0, b=1, a=2, b=3] -/
def c_laws_eqPoset : ACode :=
  (.seq (.reg [⟨none, .box 2 (.t 0)⟩,
     ⟨none, .box 3 (.t 1)⟩,
     ⟨none, .asg 4 (.c (.bool false))⟩])
  (.seq (.seq (.reg [⟨none, .fadr 5 0 (.t 2)⟩,
       ⟨none, .ld 6 1 false (.t 5)⟩,
       ⟨none, .fadr 7 0 (.t 3)⟩,
       ⟨none, .ld 8 1 false (.t 7)⟩,
       ⟨none, .call 9 f_laws_eqIntSS [((.t 6), false), ((.t 8), false)]⟩,
       ⟨none, .un 10 .not (.t 9)⟩])
    (.drop [5, 6, 7, 8, 9] (.cond (.t 10) (.seq (.reg [⟨none, .asg 4 (.c (.bool false))⟩])
      .ret)
     .skip)))
   (.drop [5, 6, 7, 8, 9, 10] (.seq (.reg [⟨none, .asg 4 (.c (.bool true))⟩])
    .ret))))
abbrev r_laws_eqPoset : List RS := [.t 4]
theorem k_laws_eqPoset : fitsF Try.prog f_laws_eqPoset 11 c_laws_eqPoset r_laws_eqPoset = true := by kernel_rfl

/- loop.example/g01078/laws.markPoset: [a=0, k=1, a=2, k=3] -/
def c_laws_markPoset : ACode :=
  (.seq (.reg [⟨none, .box 2 (.t 0)⟩,
     ⟨none, .asg 4 (.c (.int .i64 0))⟩])
  (.seq (.reg [⟨none, .fadr 5 0 (.t 2)⟩,
      ⟨none, .ld 6 1 false (.t 5)⟩,
      ⟨none, .mov 7 (.t 1)⟩,
      ⟨none, .call 8 f_laws_markIntSS [((.t 6), true), ((.t 7), false)]⟩,
      ⟨none, .asg 1 (.t 8)⟩])
   (.drop [5, 6, 7, 8] (.seq (.reg [⟨none, .mov 9 (.t 1)⟩,
       ⟨none, .asg 4 (.t 9)⟩])
    (.drop [9] .ret)))))
abbrev r_laws_markPoset : List RS := [.t 4]
theorem k_laws_markPoset : fitsF Try.prog f_laws_markPoset 10 c_laws_markPoset r_laws_markPoset = true := by kernel_rfl

/- loop.example/g01078/impl.LargestAntichain: [p=0, p=1, o=4, ok=5, best=6, mask=7, set=8, apart=9, _=10, x=11, _=12, y=13] -/
def c_impl_LargestAntichain_k1 : ACode :=
  (.seq (.reg [⟨none, .mov 32 (.t 8)⟩,
          ⟨none, .len 33 (.t 32)⟩,
          ⟨none, .mov 34 (.t 6)⟩,
          ⟨none, .len 35 (.t 34)⟩,
          ⟨none, .bin 36 .lss (.t 33) (.t 35)⟩,
          ⟨none, .asg 37 (.t 36)⟩,
          ⟨some (37, false), .mov 38 (.t 8)⟩,
          ⟨some (37, false), .len 39 (.t 38)⟩,
          ⟨some (37, false), .mov 40 (.t 6)⟩,
          ⟨some (37, false), .len 41 (.t 40)⟩,
          ⟨some (37, false), .bin 42 .eql (.t 39) (.t 41)⟩,
          ⟨some (37, false), .asg 43 (.t 42)⟩,
          ⟨some (43, true), .mov 44 (.t 8)⟩,
          ⟨some (43, true), .mov 45 (.t 6)⟩,
          ⟨some (43, true), .call 46 f_impl_compareLists [((.t 44), false), ((.t 45), false)]⟩,
          ⟨some (43, true), .bin 47 .geq (.t 46) (.c (.int .i64 0))⟩,
          ⟨some (37, false), .pick 48 (.t 43) (.t 47) (.c (.bool false))⟩,
          ⟨none, .pick 49 (.t 37) (.c (.bool true)) (.t 48)⟩])
       (.drop [32, 33, 34, 35, 36, 37, 38, 39, 40, 41, 42, 43, 44, 45, 46, 47, 48] (.cond (.t 49) (.exit 1)
        .skip)))
def c_impl_LargestAntichain_l1 : ACode :=
  (.seq (.reg [⟨none, .bin 59 .lss (.t 58) (.t 57)⟩])
  (.seq (.cond (.t 59) .skip
    (.exit 4))
   (.seq (.block 5 (.seq (.reg [⟨none, .iad 60 1 (.t 56) (.t 58)⟩,
         ⟨none, .ld 61 1 false (.t 60)⟩,
         ⟨none, .asg 13 (.t 61)⟩])
      (.drop [60, 61] (.reg [⟨none, .mov 62 (.t 9)⟩,
         ⟨none, .asg 63 (.t 62)⟩,
         ⟨some (63, true), .mov 64 (.t 4)⟩,
         ⟨some (63, true), .mov 65 (.t 11)⟩,
         ⟨some (63, true), .mov 66 (.t 13)⟩,
         ⟨some (63, true), .call 67 f_impl_order_less [((.t 64), false), ((.t 65), false), ((.t 66), false)]⟩,
         ⟨some (63, true), .un 68 .not (.t 67)⟩,
         ⟨none, .pick 69 (.t 63) (.t 68) (.c (.bool false))⟩,
         ⟨none, .asg 9 (.t 69)⟩]))))
    (.drop [60, 61, 13, 62, 63, 64, 65, 66, 67, 68, 69] (.reg [⟨none, .bin 70 .add (.t 58) (.c (.int .i64 1))⟩,
       ⟨none, .asg 58 (.t 70)⟩])))))
def c_impl_LargestAntichain_l2 : ACode :=
  (.seq (.reg [⟨none, .bin 53 .lss (.t 52) (.t 51)⟩])
  (.seq (.cond (.t 53) .skip
    (.exit 2))
   (.seq (.block 3 (.seq (.reg [⟨none, .iad 54 1 (.t 50) (.t 52)⟩,
         ⟨none, .ld 55 1 false (.t 54)⟩,
         ⟨none, .asg 11 (.t 55)⟩])
      (.drop [54, 55] (.seq (.reg [⟨none, .mov 56 (.t 8)⟩,
          ⟨none, .len 57 (.t 56)⟩,
          ⟨none, .mov 58 (.c (.int .i64 0))⟩])
       (.block 4 (.loop c_impl_LargestAntichain_l1))))))
    (.drop [54, 55, 11, 56, 57, 58, 59, 60, 61, 13, 62, 63, 64, 65, 66, 67, 68, 69, 70] (.reg [⟨none, .bin 71 .add (.t 52) (.c (.int .i64 1))⟩,
       ⟨none, .asg 52 (.t 71)⟩])))))
def c_impl_LargestAntichain_l3 : ACode :=
  (.seq (.seq (.reg [⟨none, .mov 23 (.t 7)⟩,
      ⟨none, .mov 24 (.t 4)⟩,
      ⟨none, .len 25 (.t 24)⟩,
      ⟨none, .bin 26 .shl (.c (.int .i64 1)) (.t 25)⟩,
      ⟨none, .bin 27 .lss (.t 23) (.t 26)⟩])
   (.drop [23, 24, 25, 26] (.cond (.t 27) .skip
    (.exit 0))))
  (.drop [23, 24, 25, 26, 27] (.seq (.block 1 (.seq (.reg [⟨none, .mov 30 (.t 7)⟩,
        ⟨none, .call 31 f_impl_bitsOf [((.t 30), false)]⟩,
        ⟨none, .asg 8 (.t 31)⟩])
     (.drop [30, 31] (.seq (.cut c_impl_LargestAntichain_k1)
      (.drop [32, 33, 34, 35, 36, 37, 38, 39, 40, 41, 42, 43, 44, 45, 46, 47, 48, 49] (.seq (.reg [⟨none, .asg 9 (.c (.bool true))⟩])
       (.seq (.seq (.reg [⟨none, .mov 50 (.t 8)⟩,
            ⟨none, .len 51 (.t 50)⟩,
            ⟨none, .mov 52 (.c (.int .i64 0))⟩])
         (.block 2 (.loop c_impl_LargestAntichain_l2)))
        (.drop [50, 51, 52, 53, 54, 55, 11, 56, 57, 58, 59, 60, 61, 13, 62, 63, 64, 65, 66, 67, 68, 69, 70, 71] (.seq (.reg [⟨none, .mov 72 (.t 9)⟩])
         (.cond (.t 72) (.reg [⟨none, .mov 73 (.t 8)⟩,
             ⟨none, .asg 6 (.t 73)⟩])
          .skip))))))))))
   (.drop [30, 31, 8, 32, 33, 34, 35, 36, 37, 38, 39, 40, 41, 42, 43, 44, 45, 46, 47, 48, 49, 9, 50, 51, 52, 53, 54, 55, 11, 56, 57, 58, 59, 60, 61, 13, 62, 63, 64, 65, 66, 67, 68, 69, 70, 71, 72, 73] (.reg [⟨none, .mov 28 (.t 7)⟩,
      ⟨none, .bin 29 .add (.t 28) (.c (.int .i64 1))⟩,
      ⟨none, .asg 7 (.t 29)⟩])))))
def c_impl_LargestAntichain : ACode :=
  (.seq (.reg [⟨none, .box 1 (.t 0)⟩,
     ⟨none, .asg 2 (.c (.nilsl 1))⟩,
     ⟨none, .asg 3 (.c (.bool false))⟩])
  (.seq (.reg [⟨none, .ld 15 1 true (.t 1)⟩,
      ⟨none, .call 16 f_impl_orderOf [((.t 15), false)]⟩,
      ⟨none, .asg 14 (.t 16)⟩,
      ⟨none, .ext 17 (.t 14) 0⟩,
      ⟨none, .ext 18 (.t 14) 1⟩,
      ⟨none, .asg 4 (.t 17)⟩,
      ⟨none, .asg 5 (.t 18)⟩])
   (.drop [15, 16, 14, 17, 18] (.seq (.seq (.reg [⟨none, .mov 19 (.t 5)⟩,
        ⟨none, .un 20 .not (.t 19)⟩])
     (.drop [19] (.cond (.t 20) (.seq (.reg [⟨none, .bsl 21 1 []⟩,
          ⟨none, .asg 2 (.t 21)⟩,
          ⟨none, .asg 3 (.c (.bool false))⟩])
       (.drop [21] .ret))
      .skip)))
    (.drop [19, 20, 21] (.seq (.reg [⟨none, .bsl 22 1 []⟩,
        ⟨none, .asg 6 (.t 22)⟩])
     (.drop [22] (.seq (.seq (.reg [⟨none, .asg 7 (.c (.int .i64 0))⟩])
       (.block 0 (.loop c_impl_LargestAntichain_l3)))
      (.drop [7, 23, 24, 25, 26, 27, 30, 31, 8, 32, 33, 34, 35, 36, 37, 38, 39, 40, 41, 42, 43, 44, 45, 46, 47, 48, 49, 9, 50, 51, 52, 53, 54, 55, 11, 56, 57, 58, 59, 60, 61, 13, 62, 63, 64, 65, 66, 67, 68, 69, 70, 71, 72, 73, 28, 29] (.seq (.reg [⟨none, .mov 74 (.t 6)⟩,
          ⟨none, .asg 2 (.t 74)⟩,
          ⟨none, .asg 3 (.c (.bool true))⟩])
       (.drop [74] .ret)))))))))))
abbrev r_impl_LargestAntichain : List RS := [.t 2, .t 3]
theorem k_impl_LargestAntichain : fitsF Try.prog f_impl_LargestAntichain 75 c_impl_LargestAntichain r_impl_LargestAntichain = true := by kernel_rfl

/- loop.example/g01078/laws.markAlgebra: [a=0, k=1, a=2, k=3] -/
def c_laws_markAlgebra : ACode :=
  (.seq (.reg [⟨none, .box 2 (.t 0)⟩,
     ⟨none, .asg 4 (.c (.int .i64 0))⟩])
  (.seq (.reg [⟨none, .fadr 5 1 (.t 2)⟩,
      ⟨none, .ld 6 1 false (.t 5)⟩,
      ⟨none, .mov 7 (.t 1)⟩,
      ⟨none, .call 8 f_laws_markOpS [((.t 6), true), ((.t 7), false)]⟩,
      ⟨none, .asg 1 (.t 8)⟩])
   (.drop [5, 6, 7, 8] (.seq (.reg [⟨none, .mov 9 (.t 1)⟩,
       ⟨none, .asg 4 (.t 9)⟩])
    (.drop [9] .ret)))))
abbrev r_laws_markAlgebra : List RS := [.t 4]
theorem k_laws_markAlgebra : fitsF Try.prog f_laws_markAlgebra 10 c_laws_markAlgebra r_laws_markAlgebra = true := by kernel_rfl

/- loop.example/g01078/laws.heldAlgebra: [a=0, k=1, a=2, k=3] -/
def c_laws_heldAlgebra : ACode :=
  (.seq (.reg [⟨none, .box 2 (.t 0)⟩,
     ⟨none, .asg 4 (.c (.int .i64 0))⟩])
  (.seq (.reg [⟨none, .fadr 5 1 (.t 2)⟩,
      ⟨none, .ld 6 1 false (.t 5)⟩,
      ⟨none, .mov 7 (.t 1)⟩,
      ⟨none, .call 8 f_laws_heldOpS [((.t 6), false), ((.t 7), false)]⟩,
      ⟨none, .asg 1 (.t 8)⟩])
   (.drop [5, 6, 7, 8] (.seq (.seq (.reg [⟨none, .mov 9 (.t 1)⟩,
        ⟨none, .bin 10 .lss (.t 9) (.c (.int .i64 0))⟩])
     (.drop [9] (.cond (.t 10) (.seq (.reg [⟨none, .asg 4 (.c (.int .i64 (-1)))⟩])
       .ret)
      .skip)))
    (.drop [9, 10] (.seq (.reg [⟨none, .mov 11 (.t 1)⟩,
        ⟨none, .asg 4 (.t 11)⟩])
     (.drop [11] .ret)))))))
abbrev r_laws_heldAlgebra : List RS := [.t 4]
theorem k_laws_heldAlgebra : fitsF Try.prog f_laws_heldAlgebra 12 c_laws_heldAlgebra r_laws_heldAlgebra = true := by kernel_rfl

/- loop.example/g01078/spec.l23Good: [p=0, p=1, n=3, x=4, x=5, i=6, y=7] -/
def c_spec_l23Good_l1 : ACode :=
  (.seq (.seq (.reg [⟨none, .mov 13 (.t 4)⟩,
      ⟨none, .mov 14 (.t 3)⟩,
      ⟨none, .bin 15 .lss (.t 13) (.t 14)⟩])
   (.drop [13, 14] (.cond (.t 15) .skip
    (.exit 0))))
  (.drop [13, 14, 15] (.seq (.block 1 (.seq (.reg [⟨none, .fadr 18 0 (.t 1)⟩,
        ⟨none, .ld 19 1 false (.t 18)⟩,
        ⟨none, .mov 20 (.t 4)⟩,
        ⟨none, .iad 21 1 (.t 19) (.t 20)⟩,
        ⟨none, .ld 22 1 false (.t 21)⟩,
        ⟨none, .mov 23 (.t 3)⟩,
        ⟨none, .bin 24 .sub (.t 23) (.c (.int .i64 1))⟩,
        ⟨none, .call 25 f_spec_l1Rising [((.t 22), false), ((.c (.int .i64 0)), false), ((.t 24), false)]⟩,
        ⟨none, .un 26 .not (.t 25)⟩,
        ⟨none, .asg 27 (.t 26)⟩,
        ⟨some (27, false), .fadr 28 0 (.t 1)⟩,
        ⟨some (27, false), .ld 29 1 false (.t 28)⟩,
        ⟨some (27, false), .mov 30 (.t 4)⟩,
        ⟨some (27, false), .iad 31 1 (.t 29) (.t 30)⟩,
        ⟨some (27, false), .ld 32 1 false (.t 31)⟩,
        ⟨some (27, false), .mov 33 (.t 4)⟩,
        ⟨some (27, false), .call 34 f_spec_l1Has [((.t 32), false), ((.t 33), false)]⟩,
        ⟨some (27, false), .un 35 .not (.t 34)⟩,
        ⟨none, .pick 36 (.t 27) (.c (.bool true)) (.t 35)⟩])
     (.drop [18, 19, 20, 21, 22, 23, 24, 25, 26, 27, 28, 29, 30, 31, 32, 33, 34, 35] (.cond (.t 36) (.seq (.reg [⟨none, .asg 2 (.c (.bool false))⟩])
       .ret)
      .skip))))
   (.drop [18, 19, 20, 21, 22, 23, 24, 25, 26, 27, 28, 29, 30, 31, 32, 33, 34, 35, 36] (.reg [⟨none, .mov 16 (.t 4)⟩,
      ⟨none, .bin 17 .add (.t 16) (.c (.int .i64 1))⟩,
      ⟨none, .asg 4 (.t 17)⟩])))))
def c_spec_l23Good_l2 : ACode :=
  (.seq (.seq (.reg [⟨none, .mov 42 (.t 6)⟩,
      ⟨none, .fadr 43 0 (.t 1)⟩,
      ⟨none, .ld 44 1 false (.t 43)⟩,
      ⟨none, .mov 45 (.t 5)⟩,
      ⟨none, .iad 46 1 (.t 44) (.t 45)⟩,
      ⟨none, .ld 47 1 false (.t 46)⟩,
      ⟨none, .len 48 (.t 47)⟩,
      ⟨none, .bin 49 .lss (.t 42) (.t 48)⟩])
   (.drop [42, 43, 44, 45, 46, 47, 48] (.cond (.t 49) .skip
    (.exit 4))))
  (.drop [42, 43, 44, 45, 46, 47, 48, 49] (.seq (.block 5 (.seq (.reg [⟨none, .fadr 52 0 (.t 1)⟩,
        ⟨none, .ld 53 1 false (.t 52)⟩,
        ⟨none, .mov 54 (.t 5)⟩,
        ⟨none, .iad 55 1 (.t 53) (.t 54)⟩,
        ⟨none, .ld 56 1 false (.t 55)⟩,
        ⟨none, .mov 57 (.t 6)⟩,
        ⟨none, .iad 58 1 (.t 56) (.t 57)⟩,
        ⟨none, .ld 59 1 false (.t 58)⟩,
        ⟨none, .asg 7 (.t 59)⟩])
     (.drop [52, 53, 54, 55, 56, 57, 58, 59] (.seq (.dreg [(⟨none, .mov 60 (.t 7)⟩, []),
         (⟨none, .mov 61 (.t 5)⟩, [60]),
         (⟨none, .bin 62 .neq (.t 60) (.t 61)⟩, []),
         (⟨none, .asg 63 (.t 62)⟩, []),
         (⟨some (63, true), .fadr 64 0 (.t 1)⟩, []),
         (⟨some (63, true), .ld 65 1 false (.t 64)⟩, []),
         (⟨some (63, true), .mov 66 (.t 7)⟩, [64, 65]),
         (⟨some (63, true), .iad 67 1 (.t 65) (.t 66)⟩, []),
         (⟨some (63, true), .ld 68 1 false (.t 67)⟩, []),
         (⟨some (63, true), .mov 69 (.t 5)⟩, [64, 65, 66, 67, 68]),
         (⟨some (63, true), .call 70 f_spec_l1Has [((.t 68), false), ((.t 69), false)]⟩, []),
         (⟨none, .pick 71 (.t 63) (.t 70) (.c (.bool false))⟩, []),
         (⟨none, .asg 72 (.t 71)⟩, []),
         (⟨some (72, false), .fadr 73 0 (.t 1)⟩, []),
         (⟨some (72, false), .ld 74 1 false (.t 73)⟩, []),
         (⟨some (72, false), .mov 75 (.t 7)⟩, [73, 74]),
         (⟨some (72, false), .iad 76 1 (.t 74) (.t 75)⟩, []),
         (⟨some (72, false), .ld 77 1 false (.t 76)⟩, []),
         (⟨some (72, false), .fadr 78 0 (.t 1)⟩, [73, 74, 75, 76, 77]),
         (⟨some (72, false), .ld 79 1 false (.t 78)⟩, [73, 74, 75, 76, 77]),
         (⟨some (72, false), .mov 80 (.t 5)⟩, [73, 74, 75, 76, 77, 78, 79]),
         (⟨some (72, false), .iad 81 1 (.t 79) (.t 80)⟩, [73, 74, 75, 76, 77]),
         (⟨some (72, false), .ld 82 1 false (.t 81)⟩, [73, 74, 75, 76, 77])]
        [⟨some (72, false), .call 83 f_spec_l5Within [((.t 77), false), ((.t 82), false)]⟩,
         ⟨some (72, false), .un 84 .not (.t 83)⟩,
         ⟨none, .pick 85 (.t 72) (.c (.bool true)) (.t 84)⟩])
      (.drop [60, 61, 62, 63, 64, 65, 66, 67, 68, 69, 70, 71, 72, 73, 74, 75, 76, 77, 78, 79, 80, 81, 82, 83, 84] (.cond (.t 85) (.seq (.reg [⟨none, .asg 2 (.c (.bool false))⟩])
        .ret)
       .skip))))))
   (.drop [52, 53, 54, 55, 56, 57, 58, 59, 7, 60, 61, 62, 63, 64, 65, 66, 67, 68, 69, 70, 71, 72, 73, 74, 75, 76, 77, 78, 79, 80, 81, 82, 83, 84, 85] (.reg [⟨none, .mov 50 (.t 6)⟩,
      ⟨none, .bin 51 .add (.t 50) (.c (.int .i64 1))⟩,
      ⟨none, .asg 6 (.t 51)⟩])))))
def c_spec_l23Good_l3 : ACode :=
  (.seq (.seq (.reg [⟨none, .mov 37 (.t 5)⟩,
      ⟨none, .mov 38 (.t 3)⟩,
      ⟨none, .bin 39 .lss (.t 37) (.t 38)⟩])
   (.drop [37, 38] (.cond (.t 39) .skip
    (.exit 2))))
  (.drop [37, 38, 39] (.seq (.block 3 (.seq (.reg [⟨none, .asg 6 (.c (.int .i64 0))⟩])
     (.block 4 (.loop c_spec_l23Good_l2))))
   (.drop [6, 42, 43, 44, 45, 46, 47, 48, 49, 52, 53, 54, 55, 56, 57, 58, 59, 7, 60, 61, 62, 63, 64, 65, 66, 67, 68, 69, 70, 71, 72, 73, 74, 75, 76, 77, 78, 79, 80, 81, 82, 83, 84, 85, 50, 51] (.reg [⟨none, .mov 40 (.t 5)⟩,
      ⟨none, .bin 41 .add (.t 40) (.c (.int .i64 1))⟩,
      ⟨none, .asg 5 (.t 41)⟩])))))
def c_spec_l23Good : ACode :=
  (.seq (.reg [⟨none, .box 1 (.t 0)⟩,
     ⟨none, .asg 2 (.c (.bool false))⟩])
  (.seq (.reg [⟨none, .fadr 8 0 (.t 1)⟩,
      ⟨none, .ld 9 1 false (.t 8)⟩,
      ⟨none, .len 10 (.t 9)⟩,
      ⟨none, .asg 3 (.t 10)⟩])
   (.drop [8, 9, 10] (.seq (.seq (.reg [⟨none, .mov 11 (.t 3)⟩,
        ⟨none, .bin 12 .gtr (.t 11) (.c (.int .i64 10))⟩])
     (.drop [11] (.cond (.t 12) (.seq (.reg [⟨none, .asg 2 (.c (.bool false))⟩])
       .ret)
      .skip)))
    (.drop [11, 12] (.seq (.seq (.reg [⟨none, .asg 4 (.c (.int .i64 0))⟩])
      (.block 0 (.loop c_spec_l23Good_l1)))
     (.drop [4, 13, 14, 15, 18, 19, 20, 21, 22, 23, 24, 25, 26, 27, 28, 29, 30, 31, 32, 33, 34, 35, 36, 16, 17] (.seq (.seq (.reg [⟨none, .asg 5 (.c (.int .i64 0))⟩])
       (.block 2 (.loop c_spec_l23Good_l3)))
      (.drop [5, 37, 38, 39, 6, 42, 43, 44, 45, 46, 47, 48, 49, 52, 53, 54, 55, 56, 57, 58, 59, 7, 60, 61, 62, 63, 64, 65, 66, 67, 68, 69, 70, 71, 72, 73, 74, 75, 76, 77, 78, 79, 80, 81, 82, 83, 84, 85, 50, 51, 40, 41] (.seq (.reg [⟨none, .asg 2 (.c (.bool true))⟩])
       .ret))))))))))
abbrev r_spec_l23Good : List RS := [.t 2]
theorem k_spec_l23Good : fitsF Try.prog f_spec_l23Good 86 c_spec_l23Good r_spec_l23Good = true := by kernel_rfl

/- (loop.example/g01078/impl.order).coverPairs: [o=0, o=1, list=3, x=4, y=5] -/
def c_impl_order_coverPairs_l1 : ACode :=
  (.seq (.reg [⟨none, .bin 15 .lss (.t 14) (.t 13)⟩])
  (.seq (.cond (.t 15) .skip
    (.exit 2))
   (.seq (.block 3 (.seq (.reg [⟨none, .mov 16 (.t 14)⟩,
         ⟨none, .asg 5 (.t 16)⟩])
      (.drop [16] (.seq (.reg [⟨none, .mov 17 (.t 0)⟩,
          ⟨none, .mov 18 (.t 4)⟩,
          ⟨none, .mov 19 (.t 5)⟩,
          ⟨none, .call 20 f_impl_order_covers [((.t 17), false), ((.t 18), false), ((.t 19), false)]⟩])
       (.drop [17, 18, 19] (.cond (.t 20) (.reg [⟨none, .mov 21 (.t 3)⟩,
           ⟨none, .mov 22 (.t 4)⟩,
           ⟨none, .mov 23 (.t 5)⟩,
           ⟨none, .bld 24 [.int .i64 0, .int .i64 0] [(0, 1, (.t 22)), (1, 1, (.t 23))]⟩,
           ⟨none, .bsl 25 2 [(.t 24)]⟩,
           ⟨none, .app 26 2 (.t 21) (.t 25)⟩,
           ⟨none, .asg 3 (.t 26)⟩])
        .skip))))))
    (.drop [16, 5, 17, 18, 19, 20, 21, 22, 23, 24, 25, 26] (.reg [⟨none, .bin 27 .add (.t 14) (.c (.int .i64 1))⟩,
       ⟨none, .asg 14 (.t 27)⟩])))))
def c_impl_order_coverPairs_l2 : ACode :=
  (.seq (.reg [⟨none, .bin 10 .lss (.t 9) (.t 8)⟩])
  (.seq (.cond (.t 10) .skip
    (.exit 0))
   (.seq (.block 1 (.seq (.reg [⟨none, .mov 11 (.t 9)⟩,
         ⟨none, .asg 4 (.t 11)⟩])
      (.drop [11] (.seq (.reg [⟨none, .mov 12 (.t 0)⟩,
          ⟨none, .len 13 (.t 12)⟩,
          ⟨none, .mov 14 (.c (.int .i64 0))⟩])
       (.drop [12] (.block 2 (.loop c_impl_order_coverPairs_l1)))))))
    (.drop [11, 4, 12, 13, 14, 15, 16, 5, 17, 18, 19, 20, 21, 22, 23, 24, 25, 26, 27] (.reg [⟨none, .bin 28 .add (.t 9) (.c (.int .i64 1))⟩,
       ⟨none, .asg 9 (.t 28)⟩])))))
def c_impl_order_coverPairs : ACode :=
  (.seq (.reg [⟨none, .asg 2 (.c (.nilsl 2))⟩])
  (.seq (.reg [⟨none, .bsl 6 2 []⟩,
      ⟨none, .asg 3 (.t 6)⟩])
   (.drop [6] (.seq (.seq (.reg [⟨none, .mov 7 (.t 0)⟩,
        ⟨none, .len 8 (.t 7)⟩,
        ⟨none, .mov 9 (.c (.int .i64 0))⟩])
     (.drop [7] (.block 0 (.loop c_impl_order_coverPairs_l2))))
    (.drop [7, 8, 9, 10, 11, 4, 12, 13, 14, 15, 16, 5, 17, 18, 19, 20, 21, 22, 23, 24, 25, 26, 27, 28] (.seq (.reg [⟨none, .mov 29 (.t 3)⟩,
        ⟨none, .asg 2 (.t 29)⟩])
     (.drop [29] .ret)))))))
abbrev r_impl_order_coverPairs : List RS := [.t 2]
theorem k_impl_order_coverPairs : fitsF Try.prog f_impl_order_coverPairs 30 c_impl_order_coverPairs r_impl_order_coverPairs = true := by kernel_rfl

/- loop.example/g01078/impl.latticeOf: [p=0, p=1, o=4, ok=5, meets=6, one=7, joins=8, two=9] -/
def c_impl_latticeOf_k1 : ACode :=
  (.seq (.reg [⟨none, .mov 15 (.t 5)⟩,
        ⟨none, .un 16 .not (.t 15)⟩,
        ⟨none, .asg 17 (.t 16)⟩,
        ⟨some (17, false), .mov 18 (.t 4)⟩,
        ⟨some (17, false), .len 19 (.t 18)⟩,
        ⟨some (17, false), .bin 20 .eql (.t 19) (.c (.int .i64 0))⟩,
        ⟨none, .pick 21 (.t 17) (.c (.bool true)) (.t 20)⟩])
     (.drop [15, 16, 17, 18, 19, 20] (.cond (.t 21) (.seq (.reg [⟨none, .asg 2 (.c (.nilp))⟩,
          ⟨none, .asg 3 (.c (.bool false))⟩])
       .ret)
      .skip)))
def c_impl_latticeOf : ACode :=
  (.seq (.reg [⟨none, .box 1 (.t 0)⟩,
     ⟨none, .asg 2 (.c (.nilp))⟩,
     ⟨none, .asg 3 (.c (.bool false))⟩])
  (.seq (.reg [⟨none, .ld 11 1 true (.t 1)⟩,
      ⟨none, .call 12 f_impl_orderOf [((.t 11), false)]⟩,
      ⟨none, .asg 10 (.t 12)⟩,
      ⟨none, .ext 13 (.t 10) 0⟩,
      ⟨none, .ext 14 (.t 10) 1⟩,
      ⟨none, .asg 4 (.t 13)⟩,
      ⟨none, .asg 5 (.t 14)⟩])
   (.drop [11, 12, 10, 13, 14] (.seq (.cut c_impl_latticeOf_k1)
    (.drop [15, 16, 17, 18, 19, 20, 21] (.seq (.reg [⟨none, .mov 23 (.t 4)⟩,
        ⟨none, .call 24 f_impl_order_meetTable [((.t 23), false)]⟩,
        ⟨none, .asg 22 (.t 24)⟩,
        ⟨none, .ext 25 (.t 22) 0⟩,
        ⟨none, .ext 26 (.t 22) 1⟩,
        ⟨none, .asg 6 (.t 25)⟩,
        ⟨none, .asg 7 (.t 26)⟩])
     (.drop [23, 24, 22, 25, 26] (.seq (.reg [⟨none, .mov 28 (.t 4)⟩,
         ⟨none, .call 29 f_impl_order_dual [((.t 28), false)]⟩,
         ⟨none, .call 30 f_impl_order_meetTable [((.t 29), false)]⟩,
         ⟨none, .asg 27 (.t 30)⟩,
         ⟨none, .ext 31 (.t 27) 0⟩,
         ⟨none, .ext 32 (.t 27) 1⟩,
         ⟨none, .asg 8 (.t 31)⟩,
         ⟨none, .asg 9 (.t 32)⟩])
      (.drop [28, 29, 30, 27, 31, 32] (.seq (.reg [⟨none, .mov 33 (.t 4)⟩,
          ⟨none, .mov 34 (.t 6)⟩,
          ⟨none, .mov 35 (.t 8)⟩,
          ⟨none, .bld 36 [.nilsl 1, .nilsl 1, .nilsl 1] [(0, 1, (.t 33)), (1, 1, (.t 34)), (2, 1, (.t 35))]⟩,
          ⟨none, .box 37 (.t 36)⟩,
          ⟨none, .mov 38 (.t 7)⟩,
          ⟨none, .asg 39 (.t 38)⟩,
          ⟨some (39, true), .mov 40 (.t 9)⟩,
          ⟨none, .pick 41 (.t 39) (.t 40) (.c (.bool false))⟩,
          ⟨none, .asg 2 (.t 37)⟩,
          ⟨none, .asg 3 (.t 41)⟩])
       (.drop [33, 34, 35, 36, 37, 38, 39, 40, 41] .ret)))))))))))
abbrev r_impl_latticeOf : List RS := [.t 2, .t 3]
theorem k_impl_latticeOf : fitsF Try.prog f_impl_latticeOf 42 c_impl_latticeOf r_impl_latticeOf = true := by kernel_rfl

/- loop.example/g01078/laws.szOpS: [a=0, left=1, a=2, left=3, i=5] -/
def c_laws_szOpS_l1 : ACode :=
  (.seq (.seq (.reg [⟨none, .mov 12 (.t 5)⟩,
      ⟨none, .mov 13 (.t 0)⟩,
      ⟨none, .len 14 (.t 13)⟩,
      ⟨none, .bin 15 .lss (.t 12) (.t 14)⟩])
   (.drop [12, 13, 14] (.cond (.t 15) .skip
    (.exit 0))))
  (.drop [12, 13, 14, 15] (.seq (.block 1 (.seq (.reg [⟨none, .mov 18 (.t 0)⟩,
        ⟨none, .mov 19 (.t 5)⟩,
        ⟨none, .iad 20 2 (.t 18) (.t 19)⟩,
        ⟨none, .ld 21 2 true (.t 20)⟩,
        ⟨none, .mov 22 (.t 1)⟩,
        ⟨none, .call 23 f_laws_szOp [((.t 21), false), ((.t 22), false)]⟩,
        ⟨none, .asg 1 (.t 23)⟩])
     (.drop [18, 19, 20, 21, 22, 23] (.seq (.reg [⟨none, .mov 24 (.t 1)⟩,
         ⟨none, .bin 25 .lss (.t 24) (.c (.int .i64 0))⟩])
      (.drop [24] (.cond (.t 25) (.seq (.reg [⟨none, .asg 4 (.c (.int .i64 (-1)))⟩])
        .ret)
       .skip))))))
   (.drop [18, 19, 20, 21, 22, 23, 24, 25] (.reg [⟨none, .mov 16 (.t 5)⟩,
      ⟨none, .bin 17 .add (.t 16) (.c (.int .i64 1))⟩,
      ⟨none, .asg 5 (.t 17)⟩])))))
def c_laws_szOpS : ACode :=
  (.seq (.reg [⟨none, .asg 4 (.c (.int .i64 0))⟩])
  (.seq (.reg [⟨none, .mov 6 (.t 1)⟩,
      ⟨none, .mov 7 (.t 0)⟩,
      ⟨none, .len 8 (.t 7)⟩,
      ⟨none, .bin 9 .sub (.t 6) (.t 8)⟩,
      ⟨none, .asg 1 (.t 9)⟩])
   (.drop [6, 7, 8, 9] (.seq (.seq (.reg [⟨none, .mov 10 (.t 1)⟩,
        ⟨none, .bin 11 .lss (.t 10) (.c (.int .i64 0))⟩])
     (.drop [10] (.cond (.t 11) (.seq (.reg [⟨none, .asg 4 (.c (.int .i64 (-1)))⟩])
       .ret)
      .skip)))
    (.drop [10, 11] (.seq (.seq (.reg [⟨none, .asg 5 (.c (.int .i64 0))⟩])
      (.block 0 (.loop c_laws_szOpS_l1)))
     (.drop [5, 12, 13, 14, 15, 18, 19, 20, 21, 22, 23, 24, 25, 16, 17] (.seq (.reg [⟨none, .mov 26 (.t 1)⟩,
         ⟨none, .asg 4 (.t 26)⟩])
      (.drop [26] .ret)))))))))
abbrev r_laws_szOpS : List RS := [.t 4]
theorem k_laws_szOpS : fitsF Try.prog f_laws_szOpS 27 c_laws_szOpS r_laws_szOpS = true := by kernel_rfl

/- loop.example/g01078/spec.l2Good: [a=0, a=1, i=3] -/
def c_spec_l2Good_k1 : ACode :=
  (.seq (.reg [⟨none, .fadr 4 0 (.t 1)⟩,
       ⟨none, .ld 5 1 false (.t 4)⟩,
       ⟨none, .call 6 f_spec_l1In [((.t 5), false), ((.c (.int .i64 1)), false), ((.c (.int .i64 8)), false)]⟩,
       ⟨none, .un 7 .not (.t 6)⟩,
       ⟨none, .asg 8 (.t 7)⟩,
       ⟨some (8, false), .fadr 9 1 (.t 1)⟩,
       ⟨some (8, false), .ld 10 1 false (.t 9)⟩,
       ⟨some (8, false), .len 11 (.t 10)⟩,
       ⟨some (8, false), .bin 12 .gtr (.t 11) (.c (.int .i64 4))⟩,
       ⟨none, .pick 13 (.t 8) (.c (.bool true)) (.t 12)⟩])
    (.drop [4, 5, 6, 7, 8, 9, 10, 11, 12] (.cond (.t 13) (.seq (.reg [⟨none, .asg 2 (.c (.bool false))⟩])
      .ret)
     .skip)))
def c_spec_l2Good_l1 : ACode :=
  (.seq (.seq (.reg [⟨none, .mov 14 (.t 3)⟩,
      ⟨none, .fadr 15 1 (.t 1)⟩,
      ⟨none, .ld 16 1 false (.t 15)⟩,
      ⟨none, .len 17 (.t 16)⟩,
      ⟨none, .bin 18 .lss (.t 14) (.t 17)⟩])
   (.drop [14, 15, 16, 17] (.cond (.t 18) .skip
    (.exit 0))))
  (.drop [14, 15, 16, 17, 18] (.seq (.block 1 (.seq (.dreg [(⟨none, .fadr 21 0 (.t 1)⟩, []),
        (⟨none, .ld 22 1 false (.t 21)⟩, []),
        (⟨none, .fadr 23 1 (.t 1)⟩, [21, 22]),
        (⟨none, .ld 24 1 false (.t 23)⟩, [21, 22]),
        (⟨none, .mov 25 (.t 3)⟩, [21, 22, 23, 24]),
        (⟨none, .iad 26 2 (.t 24) (.t 25)⟩, [21, 22]),
        (⟨none, .ld 27 2 true (.t 26)⟩, [21, 22])]
       [⟨none, .call 28 f_spec_l2Op [((.t 22), false), ((.t 27), false)]⟩,
        ⟨none, .un 29 .not (.t 28)⟩])
     (.drop [21, 22, 23, 24, 25, 26, 27, 28] (.cond (.t 29) (.seq (.reg [⟨none, .asg 2 (.c (.bool false))⟩])
       .ret)
      .skip))))
   (.drop [21, 22, 23, 24, 25, 26, 27, 28, 29] (.reg [⟨none, .mov 19 (.t 3)⟩,
      ⟨none, .bin 20 .add (.t 19) (.c (.int .i64 1))⟩,
      ⟨none, .asg 3 (.t 20)⟩])))))
def c_spec_l2Good : ACode :=
  (.seq (.reg [⟨none, .box 1 (.t 0)⟩,
     ⟨none, .asg 2 (.c (.bool false))⟩])
  (.seq (.cut c_spec_l2Good_k1)
   (.drop [4, 5, 6, 7, 8, 9, 10, 11, 12, 13] (.seq (.seq (.reg [⟨none, .asg 3 (.c (.int .i64 0))⟩])
     (.block 0 (.loop c_spec_l2Good_l1)))
    (.drop [3, 14, 15, 16, 17, 18, 21, 22, 23, 24, 25, 26, 27, 28, 29, 19, 20] (.seq (.reg [⟨none, .asg 2 (.c (.bool true))⟩])
     .ret))))))
abbrev r_spec_l2Good : List RS := [.t 2]
theorem k_spec_l2Good : fitsF Try.prog f_spec_l2Good 30 c_spec_l2Good r_spec_l2Good = true := by kernel_rfl

/- loop.example/g01078/spec.l2Perm: [l=0, n=1, l=2, n=3, seen=5, i=6] -/
def c_spec_l2Perm_k1 : ACode :=
  (.seq (.reg [⟨none, .mov 7 (.t 0)⟩,
       ⟨none, .len 8 (.t 7)⟩,
       ⟨none, .mov 9 (.t 1)⟩,
       ⟨none, .bin 10 .neq (.t 8) (.t 9)⟩,
       ⟨none, .asg 11 (.t 10)⟩,
       ⟨some (11, false), .mov 12 (.t 1)⟩,
       ⟨some (11, false), .mov 13 (.t 0)⟩,
       ⟨some (11, false), .call 14 f_spec_l2Elements [((.t 12), false), ((.t 13), false)]⟩,
       ⟨some (11, false), .un 15 .not (.t 14)⟩,
       ⟨none, .pick 16 (.t 11) (.c (.bool true)) (.t 15)⟩])
    (.drop [7, 8, 9, 10, 11, 12, 13, 14, 15] (.cond (.t 16) (.seq (.reg [⟨none, .asg 4 (.c (.bool false))⟩])
      .ret)
     .skip)))
def c_spec_l2Perm_l1 : ACode :=
  (.seq (.seq (.reg [⟨none, .mov 19 (.t 6)⟩,
      ⟨none, .mov 20 (.t 1)⟩,
      ⟨none, .bin 21 .lss (.t 19) (.t 20)⟩])
   (.drop [19, 20] (.cond (.t 21) .skip
    (.exit 0))))
  (.drop [19, 20, 21] (.seq (.block 1 (.seq (.seq (.reg [⟨none, .mov 24 (.t 5)⟩,
         ⟨none, .mov 25 (.t 0)⟩,
         ⟨none, .mov 26 (.t 6)⟩,
         ⟨none, .iad 27 1 (.t 25) (.t 26)⟩,
         ⟨none, .ld 28 1 false (.t 27)⟩,
         ⟨none, .iad 29 1 (.t 24) (.t 28)⟩,
         ⟨none, .ld 30 1 false (.t 29)⟩])
      (.drop [24, 25, 26, 27, 28, 29] (.cond (.t 30) (.seq (.reg [⟨none, .asg 4 (.c (.bool false))⟩])
        .ret)
       .skip)))
     (.drop [24, 25, 26, 27, 28, 29, 30] (.reg [⟨none, .mov 31 (.t 5)⟩,
        ⟨none, .mov 32 (.t 0)⟩,
        ⟨none, .mov 33 (.t 6)⟩,
        ⟨none, .iad 34 1 (.t 32) (.t 33)⟩,
        ⟨none, .ld 35 1 false (.t 34)⟩,
        ⟨none, .iad 36 1 (.t 31) (.t 35)⟩,
        ⟨none, .st 1 (.t 36) (.c (.bool true))⟩]))))
   (.drop [24, 25, 26, 27, 28, 29, 30, 31, 32, 33, 34, 35, 36] (.reg [⟨none, .mov 22 (.t 6)⟩,
      ⟨none, .bin 23 .add (.t 22) (.c (.int .i64 1))⟩,
      ⟨none, .asg 6 (.t 23)⟩])))))
def c_spec_l2Perm : ACode :=
  (.seq (.reg [⟨none, .asg 4 (.c (.bool false))⟩])
  (.seq (.cut c_spec_l2Perm_k1)
   (.drop [7, 8, 9, 10, 11, 12, 13, 14, 15, 16] (.seq (.reg [⟨none, .mov 17 (.t 1)⟩,
       ⟨none, .mk 18 1 (.bool false) (.t 17)⟩,
       ⟨none, .asg 5 (.t 18)⟩])
    (.drop [17, 18] (.seq (.seq (.reg [⟨none, .asg 6 (.c (.int .i64 0))⟩])
      (.block 0 (.loop c_spec_l2Perm_l1)))
     (.drop [6, 19, 20, 21, 24, 25, 26, 27, 28, 29, 30, 31, 32, 33, 34, 35, 36, 22, 23] (.seq (.reg [⟨none, .asg 4 (.c (.bool true))⟩])
      .ret))))))))
abbrev r_spec_l2Perm : List RS := [.t 4]
theorem k_spec_l2Perm : fitsF Try.prog f_spec_l2Perm 37 c_spec_l2Perm r_spec_l2Perm = true := by kernel_rfl

/- loop.example/g01078/laws.toOpS: [a=0, a=1, out=3, i=4] -/
def c_laws_toOpS_l1 : ACode :=
  (.seq (.seq (.reg [⟨none, .mov 8 (.t 4)⟩,
      ⟨none, .mov 9 (.t 0)⟩,
      ⟨none, .len 10 (.t 9)⟩,
      ⟨none, .bin 11 .lss (.t 8) (.t 10)⟩])
   (.drop [8, 9, 10] (.cond (.t 11) .skip
    (.exit 0))))
  (.drop [8, 9, 10, 11] (.seq (.block 1 (.reg [⟨none, .mov 14 (.t 3)⟩,
       ⟨none, .mov 15 (.t 4)⟩,
       ⟨none, .mov 16 (.t 0)⟩,
       ⟨none, .mov 17 (.t 4)⟩,
       ⟨none, .iad 18 2 (.t 16) (.t 17)⟩,
       ⟨none, .ld 19 2 true (.t 18)⟩,
       ⟨none, .call 20 f_laws_toOp [((.t 19), false)]⟩,
       ⟨none, .iad 21 2 (.t 14) (.t 15)⟩,
       ⟨none, .st 2 (.t 21) (.t 20)⟩]))
   (.drop [14, 15, 16, 17, 18, 19, 20, 21] (.reg [⟨none, .mov 12 (.t 4)⟩,
      ⟨none, .bin 13 .add (.t 12) (.c (.int .i64 1))⟩,
      ⟨none, .asg 4 (.t 13)⟩])))))
def c_laws_toOpS : ACode :=
  (.seq (.reg [⟨none, .asg 2 (.c (.nilsl 2))⟩])
  (.seq (.reg [⟨none, .mov 5 (.t 0)⟩,
      ⟨none, .len 6 (.t 5)⟩,
      ⟨none, .mk 7 2 (.agg [.int .i64 0, .nilsl 1]) (.t 6)⟩,
      ⟨none, .asg 3 (.t 7)⟩])
   (.drop [5, 6, 7] (.seq (.seq (.reg [⟨none, .asg 4 (.c (.int .i64 0))⟩])
     (.block 0 (.loop c_laws_toOpS_l1)))
    (.drop [4, 8, 9, 10, 11, 14, 15, 16, 17, 18, 19, 20, 21, 12, 13] (.seq (.reg [⟨none, .mov 22 (.t 3)⟩,
        ⟨none, .asg 2 (.t 22)⟩])
     (.drop [22] .ret)))))))
abbrev r_laws_toOpS : List RS := [.t 2]
theorem k_laws_toOpS : fitsF Try.prog f_laws_toOpS 23 c_laws_toOpS r_laws_toOpS = true := by kernel_rfl

/- loop.example/g01078/impl.IsAlgebra: [a=0, a=1, _=3, f=4] -/
def c_impl_IsAlgebra_k1 : ACode :=
  (.seq (.reg [⟨none, .fadr 5 0 (.t 1)⟩,
       ⟨none, .ld 6 1 false (.t 5)⟩,
       ⟨none, .bin 7 .lss (.t 6) (.c (.int .i64 1))⟩,
       ⟨none, .asg 8 (.t 7)⟩,
       ⟨some (8, false), .fadr 9 0 (.t 1)⟩,
       ⟨some (8, false), .ld 10 1 false (.t 9)⟩,
       ⟨some (8, false), .bin 11 .gtr (.t 10) (.c (.int .i64 8))⟩,
       ⟨none, .pick 12 (.t 8) (.c (.bool true)) (.t 11)⟩,
       ⟨none, .asg 13 (.t 12)⟩,
       ⟨some (13, false), .fadr 14 1 (.t 1)⟩,
       ⟨some (13, false), .ld 15 1 false (.t 14)⟩,
       ⟨some (13, false), .len 16 (.t 15)⟩,
       ⟨some (13, false), .bin 17 .gtr (.t 16) (.c (.int .i64 4))⟩,
       ⟨none, .pick 18 (.t 13) (.c (.bool true)) (.t 17)⟩])
    (.drop [5, 6, 7, 8, 9, 10, 11, 12, 13, 14, 15, 16, 17] (.cond (.t 18) (.seq (.reg [⟨none, .asg 2 (.c (.bool false))⟩])
      .ret)
     .skip)))
def c_impl_IsAlgebra_l1 : ACode :=
  (.seq (.reg [⟨none, .bin 23 .lss (.t 22) (.t 21)⟩])
  (.seq (.cond (.t 23) .skip
    (.exit 0))
   (.seq (.block 1 (.seq (.reg [⟨none, .iad 24 2 (.t 20) (.t 22)⟩,
         ⟨none, .ld 25 2 true (.t 24)⟩,
         ⟨none, .alc 4 (.agg [.int .i64 0, .nilsl 1])⟩,
         ⟨none, .st 2 (.t 4) (.t 25)⟩])
      (.drop [24, 25] (.seq (.reg [⟨none, .ld 26 2 true (.t 4)⟩,
          ⟨none, .fadr 27 0 (.t 1)⟩,
          ⟨none, .ld 28 1 false (.t 27)⟩,
          ⟨none, .call 29 f_impl_isOp [((.t 26), false), ((.t 28), false)]⟩,
          ⟨none, .un 30 .not (.t 29)⟩])
       (.drop [26, 27, 28, 29] (.cond (.t 30) (.seq (.reg [⟨none, .asg 2 (.c (.bool false))⟩])
         .ret)
        .skip))))))
    (.drop [24, 25, 4, 26, 27, 28, 29, 30] (.reg [⟨none, .bin 31 .add (.t 22) (.c (.int .i64 1))⟩,
       ⟨none, .asg 22 (.t 31)⟩])))))
def c_impl_IsAlgebra : ACode :=
  (.seq (.reg [⟨none, .box 1 (.t 0)⟩,
     ⟨none, .asg 2 (.c (.bool false))⟩])
  (.seq (.cut c_impl_IsAlgebra_k1)
   (.drop [5, 6, 7, 8, 9, 10, 11, 12, 13, 14, 15, 16, 17, 18] (.seq (.seq (.reg [⟨none, .fadr 19 1 (.t 1)⟩,
        ⟨none, .ld 20 1 false (.t 19)⟩,
        ⟨none, .len 21 (.t 20)⟩,
        ⟨none, .mov 22 (.c (.int .i64 0))⟩])
     (.drop [19] (.block 0 (.loop c_impl_IsAlgebra_l1))))
    (.drop [19, 20, 21, 22, 23, 24, 25, 4, 26, 27, 28, 29, 30, 31] (.seq (.reg [⟨none, .asg 2 (.c (.bool true))⟩])
     .ret))))))
abbrev r_impl_IsAlgebra : List RS := [.t 2]
theorem k_impl_IsAlgebra : fitsF Try.prog f_impl_IsAlgebra 32 c_impl_IsAlgebra r_impl_IsAlgebra = true := by kernel_rfl

/- loop.example/g01078/laws.eqOpS: [a=0, b=1, a=2, b=3, i=5] -/
def c_laws_eqOpS_l1 : ACode :=
  (.seq (.seq (.reg [⟨none, .mov 11 (.t 5)⟩,
      ⟨none, .mov 12 (.t 0)⟩,
      ⟨none, .len 13 (.t 12)⟩,
      ⟨none, .bin 14 .lss (.t 11) (.t 13)⟩])
   (.drop [11, 12, 13] (.cond (.t 14) .skip
    (.exit 0))))
  (.drop [11, 12, 13, 14] (.seq (.block 1 (.seq (.dreg [(⟨none, .mov 17 (.t 0)⟩, []),
        (⟨none, .mov 18 (.t 5)⟩, [17]),
        (⟨none, .iad 19 2 (.t 17) (.t 18)⟩, []),
        (⟨none, .ld 20 2 true (.t 19)⟩, []),
        (⟨none, .mov 21 (.t 1)⟩, [17, 18, 19, 20]),
        (⟨none, .mov 22 (.t 5)⟩, [17, 18, 19, 20, 21]),
        (⟨none, .iad 23 2 (.t 21) (.t 22)⟩, [17, 18, 19, 20]),
        (⟨none, .ld 24 2 true (.t 23)⟩, [17, 18, 19, 20])]
       [⟨none, .call 25 f_laws_eqOp [((.t 20), false), ((.t 24), false)]⟩,
        ⟨none, .un 26 .not (.t 25)⟩])
     (.drop [17, 18, 19, 20, 21, 22, 23, 24, 25] (.cond (.t 26) (.seq (.reg [⟨none, .asg 4 (.c (.bool false))⟩])
       .ret)
      .skip))))
   (.drop [17, 18, 19, 20, 21, 22, 23, 24, 25, 26] (.reg [⟨none, .mov 15 (.t 5)⟩,
      ⟨none, .bin 16 .add (.t 15) (.c (.int .i64 1))⟩,
      ⟨none, .asg 5 (.t 16)⟩])))))
def c_laws_eqOpS : ACode :=
  (.seq (.reg [⟨none, .asg 4 (.c (.bool false))⟩])
  (.seq (.seq (.reg [⟨none, .mov 6 (.t 0)⟩,
       ⟨none, .len 7 (.t 6)⟩,
       ⟨none, .mov 8 (.t 1)⟩,
       ⟨none, .len 9 (.t 8)⟩,
       ⟨none, .bin 10 .neq (.t 7) (.t 9)⟩])
    (.drop [6, 7, 8, 9] (.cond (.t 10) (.seq (.reg [⟨none, .asg 4 (.c (.bool false))⟩])
      .ret)
     .skip)))
   (.drop [6, 7, 8, 9, 10] (.seq (.seq (.reg [⟨none, .asg 5 (.c (.int .i64 0))⟩])
     (.block 0 (.loop c_laws_eqOpS_l1)))
    (.drop [5, 11, 12, 13, 14, 17, 18, 19, 20, 21, 22, 23, 24, 25, 26, 15, 16] (.seq (.reg [⟨none, .asg 4 (.c (.bool true))⟩])
     .ret))))))
abbrev r_laws_eqOpS : List RS := [.t 4]
theorem k_laws_eqOpS : fitsF Try.prog f_laws_eqOpS 27 c_laws_eqOpS r_laws_eqOpS = true := by kernel_rfl

/- loop.example/g01078/spec.l24Bound: [p=0, some=1, p=2, some=3, low=5, z=6, all=7, i=8, i=9] -/
def c_spec_l24Bound_l1 : ACode :=
  (.seq (.seq (.reg [⟨none, .mov 18 (.t 8)⟩,
      ⟨none, .mov 19 (.t 1)⟩,
      ⟨none, .len 20 (.t 19)⟩,
      ⟨none, .bin 21 .lss (.t 18) (.t 20)⟩])
   (.drop [18, 19, 20] (.cond (.t 21) .skip
    (.exit 2))))
  (.drop [18, 19, 20, 21] (.seq (.block 3 (.dreg [(⟨none, .mov 24 (.t 7)⟩, []),
       (⟨none, .asg 25 (.t 24)⟩, []),
       (⟨some (25, true), .ld 26 1 true (.t 2)⟩, []),
       (⟨some (25, true), .mov 27 (.t 6)⟩, [26]),
       (⟨some (25, true), .mov 28 (.t 1)⟩, [26, 27]),
       (⟨some (25, true), .mov 29 (.t 8)⟩, [26, 27, 28]),
       (⟨some (25, true), .iad 30 1 (.t 28) (.t 29)⟩, [26, 27]),
       (⟨some (25, true), .ld 31 1 false (.t 30)⟩, [26, 27])]
      [⟨some (25, true), .call 32 f_spec_l23Leq [((.t 26), false), ((.t 27), false), ((.t 31), false)]⟩,
       ⟨none, .pick 33 (.t 25) (.t 32) (.c (.bool false))⟩,
       ⟨none, .asg 7 (.t 33)⟩]))
   (.drop [24, 25, 26, 27, 28, 29, 30, 31, 32, 33] (.reg [⟨none, .mov 22 (.t 8)⟩,
      ⟨none, .bin 23 .add (.t 22) (.c (.int .i64 1))⟩,
      ⟨none, .asg 8 (.t 23)⟩])))))
def c_spec_l24Bound_l2 : ACode :=
  (.seq (.seq (.reg [⟨none, .mov 11 (.t 6)⟩,
      ⟨none, .fadr 12 0 (.t 2)⟩,
      ⟨none, .ld 13 1 false (.t 12)⟩,
      ⟨none, .len 14 (.t 13)⟩,
      ⟨none, .bin 15 .lss (.t 11) (.t 14)⟩])
   (.drop [11, 12, 13, 14] (.cond (.t 15) .skip
    (.exit 0))))
  (.drop [11, 12, 13, 14, 15] (.seq (.block 1 (.seq (.reg [⟨none, .asg 7 (.c (.bool true))⟩])
     (.seq (.seq (.reg [⟨none, .asg 8 (.c (.int .i64 0))⟩])
       (.block 2 (.loop c_spec_l24Bound_l1)))
      (.drop [8, 18, 19, 20, 21, 24, 25, 26, 27, 28, 29, 30, 31, 32, 33, 22, 23] (.seq (.reg [⟨none, .mov 34 (.t 7)⟩])
       (.cond (.t 34) (.reg [⟨none, .mov 35 (.t 5)⟩,
           ⟨none, .mov 36 (.t 6)⟩,
           ⟨none, .bsl 37 1 [(.t 36)]⟩,
           ⟨none, .app 38 1 (.t 35) (.t 37)⟩,
           ⟨none, .asg 5 (.t 38)⟩])
        .skip))))))
   (.drop [7, 8, 18, 19, 20, 21, 24, 25, 26, 27, 28, 29, 30, 31, 32, 33, 22, 23, 34, 35, 36, 37, 38] (.reg [⟨none, .mov 16 (.t 6)⟩,
      ⟨none, .bin 17 .add (.t 16) (.c (.int .i64 1))⟩,
      ⟨none, .asg 6 (.t 17)⟩])))))
def c_spec_l24Bound_l3 : ACode :=
  (.seq (.seq (.reg [⟨none, .mov 39 (.t 9)⟩,
      ⟨none, .mov 40 (.t 5)⟩,
      ⟨none, .len 41 (.t 40)⟩,
      ⟨none, .bin 42 .lss (.t 39) (.t 41)⟩])
   (.drop [39, 40, 41] (.cond (.t 42) .skip
    (.exit 4))))
  (.drop [39, 40, 41, 42] (.seq (.block 5 (.seq (.dreg [(⟨none, .mov 45 (.t 5)⟩, []),
        (⟨none, .fadr 46 0 (.t 2)⟩, [45]),
        (⟨none, .ld 47 1 false (.t 46)⟩, [45]),
        (⟨none, .mov 48 (.t 5)⟩, [45, 46, 47]),
        (⟨none, .mov 49 (.t 9)⟩, [45, 46, 47, 48]),
        (⟨none, .iad 50 1 (.t 48) (.t 49)⟩, [45, 46, 47]),
        (⟨none, .ld 51 1 false (.t 50)⟩, [45, 46, 47]),
        (⟨none, .iad 52 1 (.t 47) (.t 51)⟩, [45]),
        (⟨none, .ld 53 1 false (.t 52)⟩, [45])]
       [⟨none, .call 54 f_spec_l5Within [((.t 45), false), ((.t 53), false)]⟩])
     (.drop [45, 46, 47, 48, 49, 50, 51, 52, 53] (.cond (.t 54) (.seq (.reg [⟨none, .mov 55 (.t 5)⟩,
          ⟨none, .mov 56 (.t 9)⟩,
          ⟨none, .iad 57 1 (.t 55) (.t 56)⟩,
          ⟨none, .ld 58 1 false (.t 57)⟩,
          ⟨none, .asg 4 (.t 58)⟩])
       (.drop [55, 56, 57, 58] .ret))
      .skip))))
   (.drop [45, 46, 47, 48, 49, 50, 51, 52, 53, 54, 55, 56, 57, 58] (.reg [⟨none, .mov 43 (.t 9)⟩,
      ⟨none, .bin 44 .add (.t 43) (.c (.int .i64 1))⟩,
      ⟨none, .asg 9 (.t 44)⟩])))))
def c_spec_l24Bound : ACode :=
  (.seq (.reg [⟨none, .box 2 (.t 0)⟩,
     ⟨none, .asg 4 (.c (.int .i64 0))⟩])
  (.seq (.reg [⟨none, .bsl 10 1 []⟩,
      ⟨none, .asg 5 (.t 10)⟩])
   (.drop [10] (.seq (.seq (.reg [⟨none, .asg 6 (.c (.int .i64 0))⟩])
     (.block 0 (.loop c_spec_l24Bound_l2)))
    (.drop [6, 11, 12, 13, 14, 15, 7, 8, 18, 19, 20, 21, 24, 25, 26, 27, 28, 29, 30, 31, 32, 33, 22, 23, 34, 35, 36, 37, 38, 16, 17] (.seq (.seq (.reg [⟨none, .asg 9 (.c (.int .i64 0))⟩])
      (.block 4 (.loop c_spec_l24Bound_l3)))
     (.drop [9, 39, 40, 41, 42, 45, 46, 47, 48, 49, 50, 51, 52, 53, 54, 55, 56, 57, 58, 43, 44] (.seq (.reg [⟨none, .asg 4 (.c (.int .i64 (-1)))⟩])
      .ret))))))))
abbrev r_spec_l24Bound : List RS := [.t 4]
theorem k_spec_l24Bound : fitsF Try.prog f_spec_l24Bound 59 c_spec_l24Bound r_spec_l24Bound = true := by kernel_rfl

/- loop.example/g01078/spec.l23Dual: [p=0, p=1, out=3, x=4, below=5, y=6] -/
def c_spec_l23Dual_l1 : ACode :=
  (.seq (.seq (.reg [⟨none, .mov 17 (.t 6)⟩,
      ⟨none, .fadr 18 0 (.t 1)⟩,
      ⟨none, .ld 19 1 false (.t 18)⟩,
      ⟨none, .len 20 (.t 19)⟩,
      ⟨none, .bin 21 .lss (.t 17) (.t 20)⟩])
   (.drop [17, 18, 19, 20] (.cond (.t 21) .skip
    (.exit 2))))
  (.drop [17, 18, 19, 20, 21] (.seq (.block 3 (.seq (.reg [⟨none, .ld 24 1 true (.t 1)⟩,
        ⟨none, .mov 25 (.t 4)⟩,
        ⟨none, .mov 26 (.t 6)⟩,
        ⟨none, .call 27 f_spec_l23Leq [((.t 24), false), ((.t 25), false), ((.t 26), false)]⟩])
     (.drop [24, 25, 26] (.cond (.t 27) (.reg [⟨none, .mov 28 (.t 5)⟩,
         ⟨none, .mov 29 (.t 6)⟩,
         ⟨none, .bsl 30 1 [(.t 29)]⟩,
         ⟨none, .app 31 1 (.t 28) (.t 30)⟩,
         ⟨none, .asg 5 (.t 31)⟩])
      .skip))))
   (.drop [24, 25, 26, 27, 28, 29, 30, 31] (.reg [⟨none, .mov 22 (.t 6)⟩,
      ⟨none, .bin 23 .add (.t 22) (.c (.int .i64 1))⟩,
      ⟨none, .asg 6 (.t 23)⟩])))))
def c_spec_l23Dual_l2 : ACode :=
  (.seq (.seq (.reg [⟨none, .mov 9 (.t 4)⟩,
      ⟨none, .fadr 10 0 (.t 1)⟩,
      ⟨none, .ld 11 1 false (.t 10)⟩,
      ⟨none, .len 12 (.t 11)⟩,
      ⟨none, .bin 13 .lss (.t 9) (.t 12)⟩])
   (.drop [9, 10, 11, 12] (.cond (.t 13) .skip
    (.exit 0))))
  (.drop [9, 10, 11, 12, 13] (.seq (.block 1 (.seq (.reg [⟨none, .bsl 16 1 []⟩,
        ⟨none, .asg 5 (.t 16)⟩])
     (.drop [16] (.seq (.seq (.reg [⟨none, .asg 6 (.c (.int .i64 0))⟩])
       (.block 2 (.loop c_spec_l23Dual_l1)))
      (.drop [6, 17, 18, 19, 20, 21, 24, 25, 26, 27, 28, 29, 30, 31, 22, 23] (.reg [⟨none, .fadr 32 0 (.t 3)⟩,
         ⟨none, .ld 33 1 false (.t 32)⟩,
         ⟨none, .mov 34 (.t 5)⟩,
         ⟨none, .bsl 35 1 [(.t 34)]⟩,
         ⟨none, .app 36 1 (.t 33) (.t 35)⟩,
         ⟨none, .fadr 37 0 (.t 3)⟩,
         ⟨none, .st 1 (.t 37) (.t 36)⟩]))))))
   (.drop [16, 5, 6, 17, 18, 19, 20, 21, 24, 25, 26, 27, 28, 29, 30, 31, 22, 23, 32, 33, 34, 35, 36, 37] (.reg [⟨none, .mov 14 (.t 4)⟩,
      ⟨none, .bin 15 .add (.t 14) (.c (.int .i64 1))⟩,
      ⟨none, .asg 4 (.t 15)⟩])))))
def c_spec_l23Dual : ACode :=
  (.seq (.reg [⟨none, .box 1 (.t 0)⟩,
     ⟨none, .alc 2 (.agg [.nilsl 1])⟩])
  (.seq (.reg [⟨none, .bsl 7 1 []⟩,
      ⟨none, .bld 8 [.nilsl 1] [(0, 1, (.t 7))]⟩,
      ⟨none, .alc 3 (.agg [.nilsl 1])⟩,
      ⟨none, .st 1 (.t 3) (.t 8)⟩])
   (.drop [7, 8] (.seq (.seq (.reg [⟨none, .asg 4 (.c (.int .i64 0))⟩])
     (.block 0 (.loop c_spec_l23Dual_l2)))
    (.drop [4, 9, 10, 11, 12, 13, 16, 5, 6, 17, 18, 19, 20, 21, 24, 25, 26, 27, 28, 29, 30, 31, 22, 23, 32, 33, 34, 35, 36, 37, 14, 15] (.seq (.reg [⟨none, .ld 38 1 true (.t 3)⟩,
        ⟨none, .st 1 (.t 2) (.t 38)⟩])
     (.drop [38] .ret)))))))
abbrev r_spec_l23Dual : List RS := [.c 2 1 true]
theorem k_spec_l23Dual : fitsF Try.prog f_spec_l23Dual 39 c_spec_l23Dual r_spec_l23Dual = true := by kernel_rfl

/- loop.example/g01078/spec.l23Less: [p=0, x=1, y=2, p=3, x=4, y=5] -/
def c_spec_l23Less : ACode :=
  (.seq (.reg [⟨none, .box 3 (.t 0)⟩,
     ⟨none, .asg 6 (.c (.bool false))⟩])
  (.seq (.reg [⟨none, .mov 7 (.t 1)⟩,
      ⟨none, .mov 8 (.t 2)⟩,
      ⟨none, .bin 9 .neq (.t 7) (.t 8)⟩,
      ⟨none, .asg 10 (.t 9)⟩,
      ⟨some (10, true), .ld 11 1 true (.t 3)⟩,
      ⟨some (10, true), .mov 12 (.t 1)⟩,
      ⟨some (10, true), .mov 13 (.t 2)⟩,
      ⟨some (10, true), .call 14 f_spec_l23Leq [((.t 11), false), ((.t 12), false), ((.t 13), false)]⟩,
      ⟨none, .pick 15 (.t 10) (.t 14) (.c (.bool false))⟩,
      ⟨none, .asg 6 (.t 15)⟩])
   (.drop [7, 8, 9, 10, 11, 12, 13, 14, 15] .ret)))
abbrev r_spec_l23Less : List RS := [.t 6]
theorem k_spec_l23Less : fitsF Try.prog f_spec_l23Less 16 c_spec_l23Less r_spec_l23Less = true := by kernel_rfl

/- (loop.example/g01078/impl.order).fewest: [o=0, next=1, o=2, next=3] -/
def c_impl_order_fewest : ACode :=
  (.seq (.reg [⟨none, .box 2 (.t 0)⟩,
     ⟨none, .box 3 (.t 1)⟩,
     ⟨none, .asg 4 (.c (.int .i64 0))⟩])
  (.seq (.reg [⟨none, .ld 5 1 false (.t 2)⟩,
      ⟨none, .len 6 (.t 5)⟩,
      ⟨none, .mkf 7 f_impl_order_fewest_1 [(.t 3), (.t 2)]⟩,
      ⟨none, .call 8 f_impl_widthOf [((.t 6), false), ((.t 7), false)]⟩,
      ⟨none, .asg 4 (.t 8)⟩])
   (.drop [5, 6, 7, 8] .ret)))
abbrev r_impl_order_fewest : List RS := [.t 4]
theorem k_impl_order_fewest : fitsF Try.prog f_impl_order_fewest 9 c_impl_order_fewest r_impl_order_fewest = true := by kernel_rfl

/- loop.example/g01078/spec.l23Anti: [p=0, some=1, p=2, some=3, i=5, k=6] -/
def c_spec_l23Anti_l1 : ACode :=
  (.seq (.seq (.reg [⟨none, .mov 13 (.t 6)⟩,
      ⟨none, .mov 14 (.t 5)⟩,
      ⟨none, .bin 15 .lss (.t 13) (.t 14)⟩])
   (.drop [13, 14] (.cond (.t 15) .skip
    (.exit 2))))
  (.drop [13, 14, 15] (.seq (.block 3 (.seq (.dreg [(⟨none, .ld 18 1 true (.t 2)⟩, []),
        (⟨none, .mov 19 (.t 1)⟩, [18]),
        (⟨none, .mov 20 (.t 6)⟩, [18, 19]),
        (⟨none, .iad 21 1 (.t 19) (.t 20)⟩, [18]),
        (⟨none, .ld 22 1 false (.t 21)⟩, [18]),
        (⟨none, .mov 23 (.t 1)⟩, [18, 19, 20, 21, 22]),
        (⟨none, .mov 24 (.t 5)⟩, [18, 19, 20, 21, 22, 23]),
        (⟨none, .iad 25 1 (.t 23) (.t 24)⟩, [18, 19, 20, 21, 22]),
        (⟨none, .ld 26 1 false (.t 25)⟩, [18, 19, 20, 21, 22]),
        (⟨none, .call 27 f_spec_l23Leq [((.t 18), false), ((.t 22), false), ((.t 26), false)]⟩, []),
        (⟨none, .asg 28 (.t 27)⟩, []),
        (⟨some (28, false), .ld 29 1 true (.t 2)⟩, []),
        (⟨some (28, false), .mov 30 (.t 1)⟩, [29]),
        (⟨some (28, false), .mov 31 (.t 5)⟩, [29, 30]),
        (⟨some (28, false), .iad 32 1 (.t 30) (.t 31)⟩, [29]),
        (⟨some (28, false), .ld 33 1 false (.t 32)⟩, [29]),
        (⟨some (28, false), .mov 34 (.t 1)⟩, [29, 30, 31, 32, 33]),
        (⟨some (28, false), .mov 35 (.t 6)⟩, [29, 30, 31, 32, 33, 34]),
        (⟨some (28, false), .iad 36 1 (.t 34) (.t 35)⟩, [29, 30, 31, 32, 33]),
        (⟨some (28, false), .ld 37 1 false (.t 36)⟩, [29, 30, 31, 32, 33])]
       [⟨some (28, false), .call 38 f_spec_l23Leq [((.t 29), false), ((.t 33), false), ((.t 37), false)]⟩,
        ⟨none, .pick 39 (.t 28) (.c (.bool true)) (.t 38)⟩])
     (.drop [18, 19, 20, 21, 22, 23, 24, 25, 26, 27, 28, 29, 30, 31, 32, 33, 34, 35, 36, 37, 38] (.cond (.t 39) (.seq (.reg [⟨none, .asg 4 (.c (.bool false))⟩])
       .ret)
      .skip))))
   (.drop [18, 19, 20, 21, 22, 23, 24, 25, 26, 27, 28, 29, 30, 31, 32, 33, 34, 35, 36, 37, 38, 39] (.reg [⟨none, .mov 16 (.t 6)⟩,
      ⟨none, .bin 17 .add (.t 16) (.c (.int .i64 1))⟩,
      ⟨none, .asg 6 (.t 17)⟩])))))
def c_spec_l23Anti_l2 : ACode :=
  (.seq (.seq (.reg [⟨none, .mov 7 (.t 5)⟩,
      ⟨none, .mov 8 (.t 1)⟩,
      ⟨none, .len 9 (.t 8)⟩,
      ⟨none, .bin 10 .lss (.t 7) (.t 9)⟩])
   (.drop [7, 8, 9] (.cond (.t 10) .skip
    (.exit 0))))
  (.drop [7, 8, 9, 10] (.seq (.block 1 (.seq (.reg [⟨none, .asg 6 (.c (.int .i64 0))⟩])
     (.block 2 (.loop c_spec_l23Anti_l1))))
   (.drop [6, 13, 14, 15, 18, 19, 20, 21, 22, 23, 24, 25, 26, 27, 28, 29, 30, 31, 32, 33, 34, 35, 36, 37, 38, 39, 16, 17] (.reg [⟨none, .mov 11 (.t 5)⟩,
      ⟨none, .bin 12 .add (.t 11) (.c (.int .i64 1))⟩,
      ⟨none, .asg 5 (.t 12)⟩])))))
def c_spec_l23Anti : ACode :=
  (.seq (.reg [⟨none, .box 2 (.t 0)⟩,
     ⟨none, .asg 4 (.c (.bool false))⟩])
  (.seq (.seq (.reg [⟨none, .asg 5 (.c (.int .i64 0))⟩])
    (.block 0 (.loop c_spec_l23Anti_l2)))
   (.drop [5, 7, 8, 9, 10, 6, 13, 14, 15, 18, 19, 20, 21, 22, 23, 24, 25, 26, 27, 28, 29, 30, 31, 32, 33, 34, 35, 36, 37, 38, 39, 16, 17, 11, 12] (.seq (.reg [⟨none, .asg 4 (.c (.bool true))⟩])
    .ret))))
abbrev r_spec_l23Anti : List RS := [.t 4]
theorem k_spec_l23Anti : fitsF Try.prog f_spec_l23Anti 40 c_spec_l23Anti r_spec_l23Anti = true := by kernel_rfl

/- loop.example/g01078/impl.cloneAlgebra: [a=0, a=1, b=3, _=4, f=5] -/
def c_impl_cloneAlgebra_l1 : ACode :=
  (.seq (.reg [⟨none, .bin 13 .lss (.t 12) (.t 11)⟩])
  (.seq (.cond (.t 13) .skip
    (.exit 0))
   (.seq (.block 1 (.seq (.reg [⟨none, .iad 14 2 (.t 10) (.t 12)⟩,
         ⟨none, .ld 15 2 true (.t 14)⟩,
         ⟨none, .alc 5 (.agg [.int .i64 0, .nilsl 1])⟩,
         ⟨none, .st 2 (.t 5) (.t 15)⟩])
      (.drop [14, 15] (.dreg [(⟨none, .fadr 16 1 (.t 3)⟩, []),
         (⟨none, .ld 17 1 false (.t 16)⟩, []),
         (⟨none, .ld 18 2 true (.t 5)⟩, [16, 17]),
         (⟨none, .call 19 f_impl_cloneOp [((.t 18), false)]⟩, [16, 17]),
         (⟨none, .bsl 20 2 [(.t 19)]⟩, [16, 17])]
        [⟨none, .app 21 2 (.t 17) (.t 20)⟩,
         ⟨none, .fadr 22 1 (.t 3)⟩,
         ⟨none, .st 1 (.t 22) (.t 21)⟩]))))
    (.drop [14, 15, 5, 16, 17, 18, 19, 20, 21, 22] (.reg [⟨none, .bin 23 .add (.t 12) (.c (.int .i64 1))⟩,
       ⟨none, .asg 12 (.t 23)⟩])))))
def c_impl_cloneAlgebra : ACode :=
  (.seq (.reg [⟨none, .box 1 (.t 0)⟩,
     ⟨none, .alc 2 (.agg [.int .i64 0, .nilsl 2])⟩])
  (.seq (.reg [⟨none, .fadr 6 0 (.t 1)⟩,
      ⟨none, .ld 7 1 false (.t 6)⟩,
      ⟨none, .bld 8 [.int .i64 0, .nilsl 2] [(0, 1, (.t 7))]⟩,
      ⟨none, .alc 3 (.agg [.int .i64 0, .nilsl 2])⟩,
      ⟨none, .st 2 (.t 3) (.t 8)⟩])
   (.drop [6, 7, 8] (.seq (.seq (.reg [⟨none, .fadr 9 1 (.t 1)⟩,
        ⟨none, .ld 10 1 false (.t 9)⟩,
        ⟨none, .len 11 (.t 10)⟩,
        ⟨none, .mov 12 (.c (.int .i64 0))⟩])
     (.drop [9] (.block 0 (.loop c_impl_cloneAlgebra_l1))))
    (.drop [9, 10, 11, 12, 13, 14, 15, 5, 16, 17, 18, 19, 20, 21, 22, 23] (.seq (.reg [⟨none, .ld 24 2 true (.t 3)⟩,
        ⟨none, .st 2 (.t 2) (.t 24)⟩])
     (.drop [24] .ret)))))))
abbrev r_impl_cloneAlgebra : List RS := [.c 2 2 true]
theorem k_impl_cloneAlgebra : fitsF Try.prog f_impl_cloneAlgebra 25 c_impl_cloneAlgebra r_impl_cloneAlgebra = true := by kernel_rfl

/- (loop.example/g01078/impl.order).upperCovers$1: [y=0, y=3] -/
def c_impl_order_upperCovers_1 : ACode :=
  (.seq (.reg [⟨none, .asg 4 (.c (.bool false))⟩])
  (.seq (.reg [⟨none, .ld 5 1 false (.t 1)⟩,
      ⟨none, .ld 6 1 false (.t 2)⟩,
      ⟨none, .mov 7 (.t 0)⟩,
      ⟨none, .call 8 f_impl_order_covers [((.t 5), false), ((.t 6), false), ((.t 7), false)]⟩,
      ⟨none, .asg 4 (.t 8)⟩])
   (.drop [5, 6, 7, 8] .ret)))
abbrev r_impl_order_upperCovers_1 : List RS := [.t 4]
theorem k_impl_order_upperCovers_1 : fitsF Try.prog f_impl_order_upperCovers_1 9 c_impl_order_upperCovers_1 r_impl_order_upperCovers_1 = true := by kernel_rfl

/- (loop.example/g01078/impl.order).lowerCovers$1: [y=0, y=3] -/
def c_impl_order_lowerCovers_1 : ACode :=
  (.seq (.reg [⟨none, .asg 4 (.c (.bool false))⟩])
  (.seq (.reg [⟨none, .ld 5 1 false (.t 1)⟩,
      ⟨none, .mov 6 (.t 0)⟩,
      ⟨none, .ld 7 1 false (.t 2)⟩,
      ⟨none, .call 8 f_impl_order_covers [((.t 5), false), ((.t 6), false), ((.t 7), false)]⟩,
      ⟨none, .asg 4 (.t 8)⟩])
   (.drop [5, 6, 7, 8] .ret)))
abbrev r_impl_order_lowerCovers_1 : List RS := [.t 4]
theorem k_impl_order_lowerCovers_1 : fitsF Try.prog f_impl_order_lowerCovers_1 9 c_impl_order_lowerCovers_1 r_impl_order_lowerCovers_1 = true := by kernel_rfl

/- loop.example/g01078/impl.CoverPairs: [p=0, p=1, o=4, ok=5] -/
def c_impl_CoverPairs : ACode :=
  (.seq (.reg [⟨none, .box 1 (.t 0)⟩,
     ⟨none, .asg 2 (.c (.nilsl 2))⟩,
     ⟨none, .asg 3 (.c (.bool false))⟩])
  (.seq (.reg [⟨none, .ld 7 1 true (.t 1)⟩,
      ⟨none, .call 8 f_impl_orderOf [((.t 7), false)]⟩,
      ⟨none, .asg 6 (.t 8)⟩,
      ⟨none, .ext 9 (.t 6) 0⟩,
      ⟨none, .ext 10 (.t 6) 1⟩,
      ⟨none, .asg 4 (.t 9)⟩,
      ⟨none, .asg 5 (.t 10)⟩])
   (.drop [7, 8, 6, 9, 10] (.seq (.seq (.reg [⟨none, .mov 11 (.t 5)⟩,
        ⟨none, .un 12 .not (.t 11)⟩])
     (.drop [11] (.cond (.t 12) (.seq (.reg [⟨none, .bsl 13 2 []⟩,
          ⟨none, .asg 2 (.t 13)⟩,
          ⟨none, .asg 3 (.c (.bool false))⟩])
       (.drop [13] .ret))
      .skip)))
    (.drop [11, 12, 13] (.seq (.reg [⟨none, .mov 14 (.t 4)⟩,
        ⟨none, .call 15 f_impl_order_coverPairs [((.t 14), false)]⟩,
        ⟨none, .asg 2 (.t 15)⟩,
        ⟨none, .asg 3 (.c (.bool true))⟩])
     (.drop [14, 15] .ret)))))))
abbrev r_impl_CoverPairs : List RS := [.t 2, .t 3]
theorem k_impl_CoverPairs : fitsF Try.prog f_impl_CoverPairs 16 c_impl_CoverPairs r_impl_CoverPairs = true := by kernel_rfl

/- loop.example/g01078/impl.JoinOf: [p=0, x=1, y=2, p=3, x=4, y=5, l=8, ok=9] -/
def c_impl_JoinOf_k1 : ACode :=
  (.seq (.reg [⟨none, .mov 15 (.t 9)⟩,
        ⟨none, .un 16 .not (.t 15)⟩,
        ⟨none, .asg 17 (.t 16)⟩,
        ⟨some (17, false), .mov 18 (.t 8)⟩,
        ⟨some (17, false), .nck 19 (.t 18)⟩,
        ⟨some (17, false), .fadr 20 0 (.t 19)⟩,
        ⟨some (17, false), .ld 21 1 false (.t 20)⟩,
        ⟨some (17, false), .mov 22 (.t 1)⟩,
        ⟨some (17, false), .mov 23 (.t 2)⟩,
        ⟨some (17, false), .bsl 24 1 [(.t 22), (.t 23)]⟩,
        ⟨some (17, false), .call 25 f_impl_order_has [((.t 21), false), ((.t 24), false)]⟩,
        ⟨some (17, false), .un 26 .not (.t 25)⟩,
        ⟨none, .pick 27 (.t 17) (.c (.bool true)) (.t 26)⟩])
     (.drop [15, 16, 17, 18, 19, 20, 21, 22, 23, 24, 25, 26] (.cond (.t 27) (.seq (.reg [⟨none, .asg 6 (.c (.int .i64 0))⟩,
          ⟨none, .asg 7 (.c (.bool false))⟩])
       .ret)
      .skip)))
def c_impl_JoinOf : ACode :=
  (.seq (.reg [⟨none, .box 3 (.t 0)⟩,
     ⟨none, .asg 6 (.c (.int .i64 0))⟩,
     ⟨none, .asg 7 (.c (.bool false))⟩])
  (.seq (.reg [⟨none, .ld 11 1 true (.t 3)⟩,
      ⟨none, .call 12 f_impl_latticeOf [((.t 11), false)]⟩,
      ⟨none, .asg 10 (.t 12)⟩,
      ⟨none, .ext 13 (.t 10) 0⟩,
      ⟨none, .ext 14 (.t 10) 1⟩,
      ⟨none, .asg 8 (.t 13)⟩,
      ⟨none, .asg 9 (.t 14)⟩])
   (.drop [11, 12, 10, 13, 14] (.seq (.cut c_impl_JoinOf_k1)
    (.drop [15, 16, 17, 18, 19, 20, 21, 22, 23, 24, 25, 26, 27] (.seq (.reg [⟨none, .mov 28 (.t 8)⟩,
        ⟨none, .nck 29 (.t 28)⟩,
        ⟨none, .fadr 30 2 (.t 29)⟩,
        ⟨none, .ld 31 1 false (.t 30)⟩,
        ⟨none, .mov 32 (.t 1)⟩,
        ⟨none, .iad 33 1 (.t 31) (.t 32)⟩,
        ⟨none, .ld 34 1 false (.t 33)⟩,
        ⟨none, .mov 35 (.t 2)⟩,
        ⟨none, .iad 36 1 (.t 34) (.t 35)⟩,
        ⟨none, .ld 37 1 false (.t 36)⟩,
        ⟨none, .asg 6 (.t 37)⟩,
        ⟨none, .asg 7 (.c (.bool true))⟩])
     (.drop [28, 29, 30, 31, 32, 33, 34, 35, 36, 37] .ret)))))))
abbrev r_impl_JoinOf : List RS := [.t 6, .t 7]
theorem k_impl_JoinOf : fitsF Try.prog f_impl_JoinOf 38 c_impl_JoinOf r_impl_JoinOf = true := by kernel_rfl

/- loop.example/g01078/impl.MeetOf: [p=0, x=1, y=2, p=3, x=4, y=5, l=8, ok=9] -/
def c_impl_MeetOf_k1 : ACode :=
  (.seq (.reg [⟨none, .mov 15 (.t 9)⟩,
        ⟨none, .un 16 .not (.t 15)⟩,
        ⟨none, .asg 17 (.t 16)⟩,
        ⟨some (17, false), .mov 18 (.t 8)⟩,
        ⟨some (17, false), .nck 19 (.t 18)⟩,
        ⟨some (17, false), .fadr 20 0 (.t 19)⟩,
        ⟨some (17, false), .ld 21 1 false (.t 20)⟩,
        ⟨some (17, false), .mov 22 (.t 1)⟩,
        ⟨some (17, false), .mov 23 (.t 2)⟩,
        ⟨some (17, false), .bsl 24 1 [(.t 22), (.t 23)]⟩,
        ⟨some (17, false), .call 25 f_impl_order_has [((.t 21), false), ((.t 24), false)]⟩,
        ⟨some (17, false), .un 26 .not (.t 25)⟩,
        ⟨none, .pick 27 (.t 17) (.c (.bool true)) (.t 26)⟩])
     (.drop [15, 16, 17, 18, 19, 20, 21, 22, 23, 24, 25, 26] (.cond (.t 27) (.seq (.reg [⟨none, .asg 6 (.c (.int .i64 0))⟩,
          ⟨none, .asg 7 (.c (.bool false))⟩])
       .ret)
      .skip)))
def c_impl_MeetOf : ACode :=
  (.seq (.reg [⟨none, .box 3 (.t 0)⟩,
     ⟨none, .asg 6 (.c (.int .i64 0))⟩,
     ⟨none, .asg 7 (.c (.bool false))⟩])
  (.seq (.reg [⟨none, .ld 11 1 true (.t 3)⟩,
      ⟨none, .call 12 f_impl_latticeOf [((.t 11), false)]⟩,
      ⟨none, .asg 10 (.t 12)⟩,
      ⟨none, .ext 13 (.t 10) 0⟩,
      ⟨none, .ext 14 (.t 10) 1⟩,
      ⟨none, .asg 8 (.t 13)⟩,
      ⟨none, .asg 9 (.t 14)⟩])
   (.drop [11, 12, 10, 13, 14] (.seq (.cut c_impl_MeetOf_k1)
    (.drop [15, 16, 17, 18, 19, 20, 21, 22, 23, 24, 25, 26, 27] (.seq (.reg [⟨none, .mov 28 (.t 8)⟩,
        ⟨none, .nck 29 (.t 28)⟩,
        ⟨none, .fadr 30 1 (.t 29)⟩,
        ⟨none, .ld 31 1 false (.t 30)⟩,
        ⟨none, .mov 32 (.t 1)⟩,
        ⟨none, .iad 33 1 (.t 31) (.t 32)⟩,
        ⟨none, .ld 34 1 false (.t 33)⟩,
        ⟨none, .mov 35 (.t 2)⟩,
        ⟨none, .iad 36 1 (.t 34) (.t 35)⟩,
        ⟨none, .ld 37 1 false (.t 36)⟩,
        ⟨none, .asg 6 (.t 37)⟩,
        ⟨none, .asg 7 (.c (.bool true))⟩])
     (.drop [28, 29, 30, 31, 32, 33, 34, 35, 36, 37] .ret)))))))
abbrev r_impl_MeetOf : List RS := [.t 6, .t 7]
theorem k_impl_MeetOf : fitsF Try.prog f_impl_MeetOf 38 c_impl_MeetOf r_impl_MeetOf = true := by kernel_rfl

/- loop.example/g01078/impl.EndsOf: [p=0, p=1, l=5, ok=6] -/
def c_impl_EndsOf : ACode :=
  (.seq (.reg [⟨none, .box 1 (.t 0)⟩,
     ⟨none, .asg 2 (.c (.int .i64 0))⟩,
     ⟨none, .asg 3 (.c (.int .i64 0))⟩,
     ⟨none, .asg 4 (.c (.bool false))⟩])
  (.seq (.reg [⟨none, .ld 8 1 true (.t 1)⟩,
      ⟨none, .call 9 f_impl_latticeOf [((.t 8), false)]⟩,
      ⟨none, .asg 7 (.t 9)⟩,
      ⟨none, .ext 10 (.t 7) 0⟩,
      ⟨none, .ext 11 (.t 7) 1⟩,
      ⟨none, .asg 5 (.t 10)⟩,
      ⟨none, .asg 6 (.t 11)⟩])
   (.drop [8, 9, 7, 10, 11] (.seq (.seq (.reg [⟨none, .mov 12 (.t 6)⟩,
        ⟨none, .un 13 .not (.t 12)⟩])
     (.drop [12] (.cond (.t 13) (.seq (.reg [⟨none, .asg 2 (.c (.int .i64 0))⟩,
          ⟨none, .asg 3 (.c (.int .i64 0))⟩,
          ⟨none, .asg 4 (.c (.bool false))⟩])
       .ret)
      .skip)))
    (.drop [12, 13] (.seq (.reg [⟨none, .mov 14 (.t 5)⟩,
        ⟨none, .call 15 f_impl_lattice_bottom [((.t 14), false)]⟩,
        ⟨none, .mov 16 (.t 5)⟩,
        ⟨none, .call 17 f_impl_lattice_top [((.t 16), false)]⟩,
        ⟨none, .asg 2 (.t 15)⟩,
        ⟨none, .asg 3 (.t 17)⟩,
        ⟨none, .asg 4 (.c (.bool true))⟩])
     (.drop [14, 15, 16, 17] .ret)))))))
abbrev r_impl_EndsOf : List RS := [.t 2, .t 3, .t 4]
theorem k_impl_EndsOf : fitsF Try.prog f_impl_EndsOf 18 c_impl_EndsOf r_impl_EndsOf = true := by kernel_rfl

/- loop.example/g01078/laws.szAlgebra: [a=0, left=1, a=2, left=3] -/
def c_laws_szAlgebra : ACode :=
  (.seq (.reg [⟨none, .box 2 (.t 0)⟩,
     ⟨none, .asg 4 (.c (.int .i64 0))⟩])
  (.seq (.reg [⟨none, .fadr 5 1 (.t 2)⟩,
      ⟨none, .ld 6 1 false (.t 5)⟩,
      ⟨none, .mov 7 (.t 1)⟩,
      ⟨none, .call 8 f_laws_szOpS [((.t 6), false), ((.t 7), false)]⟩,
      ⟨none, .asg 1 (.t 8)⟩])
   (.drop [5, 6, 7, 8] (.seq (.seq (.reg [⟨none, .mov 9 (.t 1)⟩,
        ⟨none, .bin 10 .lss (.t 9) (.c (.int .i64 0))⟩])
     (.drop [9] (.cond (.t 10) (.seq (.reg [⟨none, .asg 4 (.c (.int .i64 (-1)))⟩])
       .ret)
      .skip)))
    (.drop [9, 10] (.seq (.reg [⟨none, .mov 11 (.t 1)⟩,
        ⟨none, .asg 4 (.t 11)⟩])
     (.drop [11] .ret)))))))
abbrev r_laws_szAlgebra : List RS := [.t 4]
theorem k_laws_szAlgebra : fitsF Try.prog f_laws_szAlgebra 12 c_laws_szAlgebra r_laws_szAlgebra = true := by kernel_rfl

/- loop.example/g01078/spec.RenameElements: [a=0, names=1, a=2, names=3] -/
def c_spec_RenameElements : ACode :=
  (.seq (.reg [⟨none, .box 2 (.t 0)⟩,
     ⟨none, .alc 4 (.agg [.int .i64 0, .nilsl 2])⟩,
     ⟨none, .asg 5 (.c (.bool false))⟩])
  (.seq (.seq (.reg [⟨none, .ld 6 2 true (.t 2)⟩,
       ⟨none, .call 7 f_spec_l2Good [((.t 6), false)]⟩,
       ⟨none, .un 8 .not (.t 7)⟩,
       ⟨none, .asg 9 (.t 8)⟩,
       ⟨some (9, false), .mov 10 (.t 1)⟩,
       ⟨some (9, false), .fadr 11 0 (.t 2)⟩,
       ⟨some (9, false), .ld 12 1 false (.t 11)⟩,
       ⟨some (9, false), .call 13 f_spec_l2Perm [((.t 10), false), ((.t 12), false)]⟩,
       ⟨some (9, false), .un 14 .not (.t 13)⟩,
       ⟨none, .pick 15 (.t 9) (.c (.bool true)) (.t 14)⟩])
    (.drop [6, 7, 8, 9, 10, 11, 12, 13, 14] (.cond (.t 15) (.seq (.reg [⟨none, .bld 16 [.int .i64 0, .nilsl 2] []⟩,
         ⟨none, .st 2 (.t 4) (.t 16)⟩,
         ⟨none, .asg 5 (.c (.bool false))⟩])
      (.drop [16] .ret))
     .skip)))
   (.drop [6, 7, 8, 9, 10, 11, 12, 13, 14, 15, 16] (.seq (.reg [⟨none, .ld 17 2 true (.t 2)⟩,
       ⟨none, .mov 18 (.t 1)⟩,
       ⟨none, .call 19 f_spec_l2Rename [((.t 17), false), ((.t 18), false)]⟩,
       ⟨none, .st 2 (.t 4) (.t 19)⟩,
       ⟨none, .asg 5 (.c (.bool true))⟩])
    (.drop [17, 18, 19] .ret)))))
abbrev r_spec_RenameElements : List RS := [.c 4 2 true, .t 5]
theorem k_spec_RenameElements : fitsF Try.prog f_spec_RenameElements 20 c_spec_RenameElements r_spec_RenameElements = true := by kernel_rfl

/- loop.example/g01078/laws.toAlgebra: [a=0, a=1, out=3] -/
def c_laws_toAlgebra : ACode :=
  (.seq (.reg [⟨none, .box 1 (.t 0)⟩,
     ⟨none, .alc 2 (.agg [.int .i64 0, .nilsl 2])⟩])
  (.seq (.reg [⟨none, .alc 3 (.agg [.int .i64 0, .nilsl 2])⟩])
   (.seq (.reg [⟨none, .fadr 4 0 (.t 1)⟩,
       ⟨none, .ld 5 1 false (.t 4)⟩,
       ⟨none, .fadr 6 0 (.t 3)⟩,
       ⟨none, .st 1 (.t 6) (.t 5)⟩])
    (.drop [4, 5, 6] (.seq (.reg [⟨none, .fadr 7 1 (.t 1)⟩,
        ⟨none, .ld 8 1 false (.t 7)⟩,
        ⟨none, .call 9 f_laws_toOpS [((.t 8), false)]⟩,
        ⟨none, .fadr 10 1 (.t 3)⟩,
        ⟨none, .st 1 (.t 10) (.t 9)⟩])
     (.drop [7, 8, 9, 10] (.seq (.reg [⟨none, .ld 11 2 true (.t 3)⟩,
         ⟨none, .st 2 (.t 2) (.t 11)⟩])
      (.drop [11] .ret))))))))
abbrev r_laws_toAlgebra : List RS := [.c 2 2 true]
theorem k_laws_toAlgebra : fitsF Try.prog f_laws_toAlgebra 12 c_laws_toAlgebra r_laws_toAlgebra = true := by kernel_rfl

/- loop.example/g01078/laws.eqAlgebra: [a=0, b=1, a=2, b=3] -/
def c_laws_eqAlgebra : ACode :=
  (.seq (.reg [⟨none, .box 2 (.t 0)⟩,
     ⟨none, .box 3 (.t 1)⟩,
     ⟨none, .asg 4 (.c (.bool false))⟩])
  (.seq (.seq (.reg [⟨none, .fadr 5 0 (.t 2)⟩,
       ⟨none, .ld 6 1 false (.t 5)⟩,
       ⟨none, .fadr 7 0 (.t 3)⟩,
       ⟨none, .ld 8 1 false (.t 7)⟩,
       ⟨none, .bin 9 .neq (.t 6) (.t 8)⟩])
    (.drop [5, 6, 7, 8] (.cond (.t 9) (.seq (.reg [⟨none, .asg 4 (.c (.bool false))⟩])
      .ret)
     .skip)))
   (.drop [5, 6, 7, 8, 9] (.seq (.seq (.reg [⟨none, .fadr 10 1 (.t 2)⟩,
        ⟨none, .ld 11 1 false (.t 10)⟩,
        ⟨none, .fadr 12 1 (.t 3)⟩,
        ⟨none, .ld 13 1 false (.t 12)⟩,
        ⟨none, .call 14 f_laws_eqOpS [((.t 11), false), ((.t 13), false)]⟩,
        ⟨none, .un 15 .not (.t 14)⟩])
     (.drop [10, 11, 12, 13, 14] (.cond (.t 15) (.seq (.reg [⟨none, .asg 4 (.c (.bool false))⟩])
       .ret)
      .skip)))
    (.drop [10, 11, 12, 13, 14, 15] (.seq (.reg [⟨none, .asg 4 (.c (.bool true))⟩])
     .ret))))))
abbrev r_laws_eqAlgebra : List RS := [.t 4]
theorem k_laws_eqAlgebra : fitsF Try.prog f_laws_eqAlgebra 16 c_laws_eqAlgebra r_laws_eqAlgebra = true := by kernel_rfl

/- loop.example/g01078/impl.JoinAll: [p=0, some=1, p=2, some=3, l=6, ok=7] -/
def c_impl_JoinAll : ACode :=
  (.seq (.reg [⟨none, .box 2 (.t 0)⟩,
     ⟨none, .asg 4 (.c (.int .i64 0))⟩,
     ⟨none, .asg 5 (.c (.bool false))⟩])
  (.seq (.reg [⟨none, .ld 9 1 true (.t 2)⟩,
      ⟨none, .call 10 f_impl_latticeOf [((.t 9), false)]⟩,
      ⟨none, .asg 8 (.t 10)⟩,
      ⟨none, .ext 11 (.t 8) 0⟩,
      ⟨none, .ext 12 (.t 8) 1⟩,
      ⟨none, .asg 6 (.t 11)⟩,
      ⟨none, .asg 7 (.t 12)⟩])
   (.drop [9, 10, 8, 11, 12] (.seq (.seq (.reg [⟨none, .mov 13 (.t 7)⟩,
        ⟨none, .un 14 .not (.t 13)⟩,
        ⟨none, .asg 15 (.t 14)⟩,
        ⟨some (15, false), .mov 16 (.t 1)⟩,
        ⟨some (15, false), .len 17 (.t 16)⟩,
        ⟨some (15, false), .bin 18 .gtr (.t 17) (.c (.int .i64 20))⟩,
        ⟨none, .pick 19 (.t 15) (.c (.bool true)) (.t 18)⟩,
        ⟨none, .asg 20 (.t 19)⟩,
        ⟨some (20, false), .mov 21 (.t 6)⟩,
        ⟨some (20, false), .nck 22 (.t 21)⟩,
        ⟨some (20, false), .fadr 23 0 (.t 22)⟩,
        ⟨some (20, false), .ld 24 1 false (.t 23)⟩,
        ⟨some (20, false), .mov 25 (.t 1)⟩,
        ⟨some (20, false), .call 26 f_impl_order_has [((.t 24), false), ((.t 25), false)]⟩,
        ⟨some (20, false), .un 27 .not (.t 26)⟩,
        ⟨none, .pick 28 (.t 20) (.c (.bool true)) (.t 27)⟩])
     (.drop [13, 14, 15, 16, 17, 18, 19, 20, 21, 22, 23, 24, 25, 26, 27] (.cond (.t 28) (.seq (.reg [⟨none, .asg 4 (.c (.int .i64 0))⟩,
          ⟨none, .asg 5 (.c (.bool false))⟩])
       .ret)
      .skip)))
    (.drop [13, 14, 15, 16, 17, 18, 19, 20, 21, 22, 23, 24, 25, 26, 27, 28] (.seq (.reg [⟨none, .mov 29 (.t 6)⟩,
        ⟨none, .mov 30 (.t 1)⟩,
        ⟨none, .call 31 f_impl_lattice_joinAll [((.t 29), false), ((.t 30), false)]⟩,
        ⟨none, .asg 4 (.t 31)⟩,
        ⟨none, .asg 5 (.c (.bool true))⟩])
     (.drop [29, 30, 31] .ret)))))))
abbrev r_impl_JoinAll : List RS := [.t 4, .t 5]
theorem k_impl_JoinAll : fitsF Try.prog f_impl_JoinAll 32 c_impl_JoinAll r_impl_JoinAll = true := by kernel_rfl

/- loop.example/g01078/impl.MeetAll: [p=0, some=1, p=2, some=3, l=6, ok=7] -/
def c_impl_MeetAll : ACode :=
  (.seq (.reg [⟨none, .box 2 (.t 0)⟩,
     ⟨none, .asg 4 (.c (.int .i64 0))⟩,
     ⟨none, .asg 5 (.c (.bool false))⟩])
  (.seq (.reg [⟨none, .ld 9 1 true (.t 2)⟩,
      ⟨none, .call 10 f_impl_latticeOf [((.t 9), false)]⟩,
      ⟨none, .asg 8 (.t 10)⟩,
      ⟨none, .ext 11 (.t 8) 0⟩,
      ⟨none, .ext 12 (.t 8) 1⟩,
      ⟨none, .asg 6 (.t 11)⟩,
      ⟨none, .asg 7 (.t 12)⟩])
   (.drop [9, 10, 8, 11, 12] (.seq (.seq (.reg [⟨none, .mov 13 (.t 7)⟩,
        ⟨none, .un 14 .not (.t 13)⟩,
        ⟨none, .asg 15 (.t 14)⟩,
        ⟨some (15, false), .mov 16 (.t 1)⟩,
        ⟨some (15, false), .len 17 (.t 16)⟩,
        ⟨some (15, false), .bin 18 .gtr (.t 17) (.c (.int .i64 20))⟩,
        ⟨none, .pick 19 (.t 15) (.c (.bool true)) (.t 18)⟩,
        ⟨none, .asg 20 (.t 19)⟩,
        ⟨some (20, false), .mov 21 (.t 6)⟩,
        ⟨some (20, false), .nck 22 (.t 21)⟩,
        ⟨some (20, false), .fadr 23 0 (.t 22)⟩,
        ⟨some (20, false), .ld 24 1 false (.t 23)⟩,
        ⟨some (20, false), .mov 25 (.t 1)⟩,
        ⟨some (20, false), .call 26 f_impl_order_has [((.t 24), false), ((.t 25), false)]⟩,
        ⟨some (20, false), .un 27 .not (.t 26)⟩,
        ⟨none, .pick 28 (.t 20) (.c (.bool true)) (.t 27)⟩])
     (.drop [13, 14, 15, 16, 17, 18, 19, 20, 21, 22, 23, 24, 25, 26, 27] (.cond (.t 28) (.seq (.reg [⟨none, .asg 4 (.c (.int .i64 0))⟩,
          ⟨none, .asg 5 (.c (.bool false))⟩])
       .ret)
      .skip)))
    (.drop [13, 14, 15, 16, 17, 18, 19, 20, 21, 22, 23, 24, 25, 26, 27, 28] (.seq (.reg [⟨none, .mov 29 (.t 6)⟩,
        ⟨none, .mov 30 (.t 1)⟩,
        ⟨none, .call 31 f_impl_lattice_meetAll [((.t 29), false), ((.t 30), false)]⟩,
        ⟨none, .asg 4 (.t 31)⟩,
        ⟨none, .asg 5 (.c (.bool true))⟩])
     (.drop [29, 30, 31] .ret)))))))
abbrev r_impl_MeetAll : List RS := [.t 4, .t 5]
theorem k_impl_MeetAll : fitsF Try.prog f_impl_MeetAll 32 c_impl_MeetAll r_impl_MeetAll = true := by kernel_rfl

/- loop.example/g01078/impl.IntervalOf: [p=0, x=1, y=2, p=3, x=4, y=5, l=8, ok=9] -/
def c_impl_IntervalOf_k1 : ACode :=
  (.seq (.reg [⟨none, .mov 15 (.t 9)⟩,
        ⟨none, .un 16 .not (.t 15)⟩,
        ⟨none, .asg 17 (.t 16)⟩,
        ⟨some (17, false), .mov 18 (.t 8)⟩,
        ⟨some (17, false), .nck 19 (.t 18)⟩,
        ⟨some (17, false), .fadr 20 0 (.t 19)⟩,
        ⟨some (17, false), .ld 21 1 false (.t 20)⟩,
        ⟨some (17, false), .mov 22 (.t 1)⟩,
        ⟨some (17, false), .mov 23 (.t 2)⟩,
        ⟨some (17, false), .bsl 24 1 [(.t 22), (.t 23)]⟩,
        ⟨some (17, false), .call 25 f_impl_order_has [((.t 21), false), ((.t 24), false)]⟩,
        ⟨some (17, false), .un 26 .not (.t 25)⟩,
        ⟨none, .pick 27 (.t 17) (.c (.bool true)) (.t 26)⟩,
        ⟨none, .asg 28 (.t 27)⟩,
        ⟨some (28, false), .mov 29 (.t 8)⟩,
        ⟨some (28, false), .nck 30 (.t 29)⟩,
        ⟨some (28, false), .fadr 31 0 (.t 30)⟩,
        ⟨some (28, false), .ld 32 1 false (.t 31)⟩,
        ⟨some (28, false), .mov 33 (.t 1)⟩,
        ⟨some (28, false), .iad 34 1 (.t 32) (.t 33)⟩,
        ⟨some (28, false), .ld 35 1 false (.t 34)⟩,
        ⟨some (28, false), .mov 36 (.t 2)⟩,
        ⟨some (28, false), .iad 37 1 (.t 35) (.t 36)⟩,
        ⟨some (28, false), .ld 38 1 false (.t 37)⟩,
        ⟨some (28, false), .un 39 .not (.t 38)⟩,
        ⟨none, .pick 40 (.t 28) (.c (.bool true)) (.t 39)⟩])
     (.drop [15, 16, 17, 18, 19, 20, 21, 22, 23, 24, 25, 26, 27, 28, 29, 30, 31, 32, 33, 34, 35, 36, 37, 38, 39] (.cond (.t 40) (.seq (.reg [⟨none, .bsl 41 1 []⟩,
          ⟨none, .asg 6 (.t 41)⟩,
          ⟨none, .asg 7 (.c (.bool false))⟩])
       (.drop [41] .ret))
      .skip)))
def c_impl_IntervalOf : ACode :=
  (.seq (.reg [⟨none, .box 3 (.t 0)⟩,
     ⟨none, .asg 6 (.c (.nilsl 1))⟩,
     ⟨none, .asg 7 (.c (.bool false))⟩])
  (.seq (.reg [⟨none, .ld 11 1 true (.t 3)⟩,
      ⟨none, .call 12 f_impl_latticeOf [((.t 11), false)]⟩,
      ⟨none, .asg 10 (.t 12)⟩,
      ⟨none, .ext 13 (.t 10) 0⟩,
      ⟨none, .ext 14 (.t 10) 1⟩,
      ⟨none, .asg 8 (.t 13)⟩,
      ⟨none, .asg 9 (.t 14)⟩])
   (.drop [11, 12, 10, 13, 14] (.seq (.cut c_impl_IntervalOf_k1)
    (.drop [15, 16, 17, 18, 19, 20, 21, 22, 23, 24, 25, 26, 27, 28, 29, 30, 31, 32, 33, 34, 35, 36, 37, 38, 39, 40, 41] (.seq (.reg [⟨none, .mov 42 (.t 8)⟩,
        ⟨none, .nck 43 (.t 42)⟩,
        ⟨none, .fadr 44 0 (.t 43)⟩,
        ⟨none, .ld 45 1 false (.t 44)⟩,
        ⟨none, .mov 46 (.t 1)⟩,
        ⟨none, .mov 47 (.t 2)⟩,
        ⟨none, .call 48 f_impl_order_interval [((.t 45), false), ((.t 46), false), ((.t 47), false)]⟩,
        ⟨none, .asg 6 (.t 48)⟩,
        ⟨none, .asg 7 (.c (.bool true))⟩])
     (.drop [42, 43, 44, 45, 46, 47, 48] .ret)))))))
abbrev r_impl_IntervalOf : List RS := [.t 6, .t 7]
theorem k_impl_IntervalOf : fitsF Try.prog f_impl_IntervalOf 49 c_impl_IntervalOf r_impl_IntervalOf = true := by kernel_rfl

/- loop.example/g01078/impl.FewestChains: [p=0, p=1, o=4, ok=5, next=6, x=7, few=8, led=9, x=10, found=11, y=12, chains=13, x=14, chain=15, y=16] -/
def c_impl_FewestChains_l1 : ACode :=
  (.seq (.reg [⟨none, .bin 31 .lss (.t 30) (.t 29)⟩])
  (.seq (.cond (.t 31) .skip
    (.exit 0))
   (.seq (.block 1 (.seq (.reg [⟨none, .mov 32 (.t 30)⟩,
         ⟨none, .asg 7 (.t 32)⟩])
      (.drop [32] (.reg [⟨none, .mov 33 (.t 6)⟩,
         ⟨none, .mov 34 (.t 7)⟩,
         ⟨none, .iad 35 1 (.t 33) (.t 34)⟩,
         ⟨none, .st 1 (.t 35) (.c (.int .i64 (-2)))⟩]))))
    (.drop [32, 7, 33, 34, 35] (.reg [⟨none, .bin 36 .add (.t 30) (.c (.int .i64 1))⟩,
       ⟨none, .asg 30 (.t 36)⟩])))))
def c_impl_FewestChains_k1 : ACode :=
  (.seq (.reg [⟨none, .mov 48 (.t 12)⟩,
      ⟨none, .mov 49 (.t 4)⟩,
      ⟨none, .len 50 (.t 49)⟩,
      ⟨none, .bin 51 .lss (.t 48) (.t 50)⟩,
      ⟨none, .asg 52 (.t 51)⟩,
      ⟨some (52, true), .mov 53 (.t 11)⟩,
      ⟨some (52, true), .bin 54 .lss (.t 53) (.c (.int .i64 0))⟩,
      ⟨none, .pick 55 (.t 52) (.t 54) (.c (.bool false))⟩])
   (.drop [48, 49, 50, 51, 52, 53, 54] (.cond (.t 55) .skip
    (.exit 4))))
def c_impl_FewestChains_k2 : ACode :=
  (.seq (.reg [⟨none, .mov 58 (.t 4)⟩,
         ⟨none, .mov 59 (.t 10)⟩,
         ⟨none, .mov 60 (.t 12)⟩,
         ⟨none, .call 61 f_impl_order_less [((.t 58), false), ((.t 59), false), ((.t 60), false)]⟩,
         ⟨none, .un 62 .not (.t 61)⟩,
         ⟨none, .asg 63 (.t 62)⟩,
         ⟨some (63, false), .mov 64 (.t 9)⟩,
         ⟨some (63, false), .mov 65 (.t 12)⟩,
         ⟨some (63, false), .iad 66 1 (.t 64) (.t 65)⟩,
         ⟨some (63, false), .ld 67 1 false (.t 66)⟩,
         ⟨none, .pick 68 (.t 63) (.c (.bool true)) (.t 67)⟩])
      (.drop [58, 59, 60, 61, 62, 63, 64, 65, 66, 67] (.cond (.t 68) (.exit 5)
       .skip)))
def c_impl_FewestChains_l2 : ACode :=
  (.seq (.cut c_impl_FewestChains_k1)
  (.drop [48, 49, 50, 51, 52, 53, 54, 55] (.seq (.block 5 (.seq (.cut c_impl_FewestChains_k2)
     (.drop [58, 59, 60, 61, 62, 63, 64, 65, 66, 67, 68] (.seq (.reg [⟨none, .mov 69 (.t 6)⟩,
         ⟨none, .mov 70 (.t 10)⟩,
         ⟨none, .mov 71 (.t 12)⟩,
         ⟨none, .iad 72 1 (.t 69) (.t 70)⟩,
         ⟨none, .st 1 (.t 72) (.t 71)⟩])
      (.drop [69, 70, 71, 72] (.seq (.reg [⟨none, .mov 73 (.t 4)⟩,
          ⟨none, .mov 74 (.t 6)⟩,
          ⟨none, .call 75 f_impl_order_fewest [((.t 73), false), ((.t 74), false)]⟩,
          ⟨none, .mov 76 (.t 8)⟩,
          ⟨none, .bin 77 .eql (.t 75) (.t 76)⟩])
       (.drop [73, 74, 75, 76] (.cond (.t 77) (.seq (.reg [⟨none, .mov 78 (.t 12)⟩,
            ⟨none, .asg 11 (.t 78)⟩])
         (.drop [78] (.reg [⟨none, .mov 79 (.t 9)⟩,
            ⟨none, .mov 80 (.t 12)⟩,
            ⟨none, .iad 81 1 (.t 79) (.t 80)⟩,
            ⟨none, .st 1 (.t 81) (.c (.bool true))⟩])))
        .skip))))))))
   (.drop [58, 59, 60, 61, 62, 63, 64, 65, 66, 67, 68, 69, 70, 71, 72, 73, 74, 75, 76, 77, 78, 79, 80, 81] (.reg [⟨none, .mov 56 (.t 12)⟩,
      ⟨none, .bin 57 .add (.t 56) (.c (.int .i64 1))⟩,
      ⟨none, .asg 12 (.t 57)⟩])))))
def c_impl_FewestChains_l3 : ACode :=
  (.seq (.reg [⟨none, .bin 46 .lss (.t 45) (.t 44)⟩])
  (.seq (.cond (.t 46) .skip
    (.exit 2))
   (.seq (.block 3 (.seq (.reg [⟨none, .mov 47 (.t 45)⟩,
         ⟨none, .asg 10 (.t 47)⟩])
      (.drop [47] (.seq (.reg [⟨none, .asg 11 (.c (.int .i64 (-1)))⟩])
       (.seq (.seq (.reg [⟨none, .asg 12 (.c (.int .i64 0))⟩])
         (.block 4 (.loop c_impl_FewestChains_l2)))
        (.drop [12, 48, 49, 50, 51, 52, 53, 54, 55, 58, 59, 60, 61, 62, 63, 64, 65, 66, 67, 68, 69, 70, 71, 72, 73, 74, 75, 76, 77, 78, 79, 80, 81, 56, 57] (.reg [⟨none, .mov 82 (.t 6)⟩,
           ⟨none, .mov 83 (.t 10)⟩,
           ⟨none, .mov 84 (.t 11)⟩,
           ⟨none, .iad 85 1 (.t 82) (.t 83)⟩,
           ⟨none, .st 1 (.t 85) (.t 84)⟩])))))))
    (.drop [47, 10, 11, 12, 48, 49, 50, 51, 52, 53, 54, 55, 58, 59, 60, 61, 62, 63, 64, 65, 66, 67, 68, 69, 70, 71, 72, 73, 74, 75, 76, 77, 78, 79, 80, 81, 56, 57, 82, 83, 84, 85] (.reg [⟨none, .bin 86 .add (.t 45) (.c (.int .i64 1))⟩,
       ⟨none, .asg 45 (.t 86)⟩])))))
def c_impl_FewestChains_l4 : ACode :=
  (.seq (.seq (.reg [⟨none, .mov 99 (.t 16)⟩,
      ⟨none, .bin 100 .geq (.t 99) (.c (.int .i64 0))⟩])
   (.drop [99] (.cond (.t 100) .skip
    (.exit 8))))
  (.drop [99, 100] (.seq (.block 9 (.reg [⟨none, .mov 105 (.t 15)⟩,
       ⟨none, .mov 106 (.t 16)⟩,
       ⟨none, .bsl 107 1 [(.t 106)]⟩,
       ⟨none, .app 108 1 (.t 105) (.t 107)⟩,
       ⟨none, .asg 15 (.t 108)⟩]))
   (.drop [105, 106, 107, 108] (.reg [⟨none, .mov 101 (.t 6)⟩,
      ⟨none, .mov 102 (.t 16)⟩,
      ⟨none, .iad 103 1 (.t 101) (.t 102)⟩,
      ⟨none, .ld 104 1 false (.t 103)⟩,
      ⟨none, .asg 16 (.t 104)⟩])))))
def c_impl_FewestChains_l5 : ACode :=
  (.seq (.reg [⟨none, .bin 91 .lss (.t 90) (.t 89)⟩])
  (.seq (.cond (.t 91) .skip
    (.exit 6))
   (.seq (.block 7 (.seq (.reg [⟨none, .mov 92 (.t 90)⟩,
         ⟨none, .asg 14 (.t 92)⟩])
      (.drop [92] (.seq (.seq (.reg [⟨none, .mov 93 (.t 9)⟩,
           ⟨none, .mov 94 (.t 14)⟩,
           ⟨none, .iad 95 1 (.t 93) (.t 94)⟩,
           ⟨none, .ld 96 1 false (.t 95)⟩])
        (.drop [93, 94, 95] (.cond (.t 96) (.exit 7)
         .skip)))
       (.drop [93, 94, 95, 96] (.seq (.reg [⟨none, .bsl 97 1 []⟩,
           ⟨none, .asg 15 (.t 97)⟩])
        (.drop [97] (.seq (.seq (.reg [⟨none, .mov 98 (.t 14)⟩,
             ⟨none, .asg 16 (.t 98)⟩])
          (.drop [98] (.block 8 (.loop c_impl_FewestChains_l4))))
         (.drop [98, 16, 99, 100, 105, 106, 107, 108, 101, 102, 103, 104] (.reg [⟨none, .mov 109 (.t 13)⟩,
            ⟨none, .mov 110 (.t 15)⟩,
            ⟨none, .bsl 111 1 [(.t 110)]⟩,
            ⟨none, .app 112 1 (.t 109) (.t 111)⟩,
            ⟨none, .asg 13 (.t 112)⟩]))))))))))
    (.drop [92, 14, 93, 94, 95, 96, 97, 15, 98, 16, 99, 100, 105, 106, 107, 108, 101, 102, 103, 104, 109, 110, 111, 112] (.reg [⟨none, .bin 113 .add (.t 90) (.c (.int .i64 1))⟩,
       ⟨none, .asg 90 (.t 113)⟩])))))
def c_impl_FewestChains : ACode :=
  (.seq (.reg [⟨none, .box 1 (.t 0)⟩,
     ⟨none, .asg 2 (.c (.nilsl 1))⟩,
     ⟨none, .asg 3 (.c (.bool false))⟩])
  (.seq (.reg [⟨none, .ld 18 1 true (.t 1)⟩,
      ⟨none, .call 19 f_impl_orderOf [((.t 18), false)]⟩,
      ⟨none, .asg 17 (.t 19)⟩,
      ⟨none, .ext 20 (.t 17) 0⟩,
      ⟨none, .ext 21 (.t 17) 1⟩,
      ⟨none, .asg 4 (.t 20)⟩,
      ⟨none, .asg 5 (.t 21)⟩])
   (.drop [18, 19, 17, 20, 21] (.seq (.seq (.reg [⟨none, .mov 22 (.t 5)⟩,
        ⟨none, .un 23 .not (.t 22)⟩])
     (.drop [22] (.cond (.t 23) (.seq (.reg [⟨none, .bsl 24 1 []⟩,
          ⟨none, .asg 2 (.t 24)⟩,
          ⟨none, .asg 3 (.c (.bool false))⟩])
       (.drop [24] .ret))
      .skip)))
    (.drop [22, 23, 24] (.seq (.reg [⟨none, .mov 25 (.t 4)⟩,
        ⟨none, .len 26 (.t 25)⟩,
        ⟨none, .mk 27 1 (.int .i64 0) (.t 26)⟩,
        ⟨none, .asg 6 (.t 27)⟩])
     (.drop [25, 26, 27] (.seq (.seq (.reg [⟨none, .mov 28 (.t 6)⟩,
          ⟨none, .len 29 (.t 28)⟩,
          ⟨none, .mov 30 (.c (.int .i64 0))⟩])
       (.drop [28] (.block 0 (.loop c_impl_FewestChains_l1))))
      (.drop [28, 29, 30, 31, 32, 7, 33, 34, 35, 36] (.seq (.reg [⟨none, .mov 37 (.t 4)⟩,
          ⟨none, .mov 38 (.t 6)⟩,
          ⟨none, .call 39 f_impl_order_fewest [((.t 37), false), ((.t 38), false)]⟩,
          ⟨none, .asg 8 (.t 39)⟩])
       (.drop [37, 38, 39] (.seq (.reg [⟨none, .mov 40 (.t 4)⟩,
           ⟨none, .len 41 (.t 40)⟩,
           ⟨none, .mk 42 1 (.bool false) (.t 41)⟩,
           ⟨none, .asg 9 (.t 42)⟩])
        (.drop [40, 41, 42] (.seq (.seq (.reg [⟨none, .mov 43 (.t 4)⟩,
             ⟨none, .len 44 (.t 43)⟩,
             ⟨none, .mov 45 (.c (.int .i64 0))⟩])
          (.drop [43] (.block 2 (.loop c_impl_FewestChains_l3))))
         (.drop [43, 44, 45, 46, 47, 10, 11, 12, 48, 49, 50, 51, 52, 53, 54, 55, 58, 59, 60, 61, 62, 63, 64, 65, 66, 67, 68, 69, 70, 71, 72, 73, 74, 75, 76, 77, 78, 79, 80, 81, 56, 57, 82, 83, 84, 85, 86] (.seq (.reg [⟨none, .bsl 87 1 []⟩,
             ⟨none, .asg 13 (.t 87)⟩])
          (.drop [87] (.seq (.seq (.reg [⟨none, .mov 88 (.t 4)⟩,
               ⟨none, .len 89 (.t 88)⟩,
               ⟨none, .mov 90 (.c (.int .i64 0))⟩])
            (.drop [88] (.block 6 (.loop c_impl_FewestChains_l5))))
           (.drop [88, 89, 90, 91, 92, 14, 93, 94, 95, 96, 97, 15, 98, 16, 99, 100, 105, 106, 107, 108, 101, 102, 103, 104, 109, 110, 111, 112, 113] (.seq (.reg [⟨none, .mov 114 (.t 13)⟩,
               ⟨none, .asg 2 (.t 114)⟩,
               ⟨none, .asg 3 (.c (.bool true))⟩])
            (.drop [114] .ret)))))))))))))))))))))
abbrev r_impl_FewestChains : List RS := [.t 2, .t 3]
theorem k_impl_FewestChains : fitsF Try.prog f_impl_FewestChains 115 c_impl_FewestChains r_impl_FewestChains = true := by kernel_rfl

/- loop.example/g01078/spec.l24Join: [p=0, x=1, y=2, p=3, x=4, y=5] -/
def c_spec_l24Join : ACode :=
  (.seq (.reg [⟨none, .box 3 (.t 0)⟩,
     ⟨none, .asg 6 (.c (.int .i64 0))⟩])
  (.seq (.reg [⟨none, .ld 7 1 true (.t 3)⟩,
      ⟨none, .call 8 f_spec_l23Dual [((.t 7), false)]⟩,
      ⟨none, .mov 9 (.t 1)⟩,
      ⟨none, .mov 10 (.t 2)⟩,
      ⟨none, .bsl 11 1 [(.t 9), (.t 10)]⟩,
      ⟨none, .call 12 f_spec_l24Bound [((.t 8), false), ((.t 11), false)]⟩,
      ⟨none, .asg 6 (.t 12)⟩])
   (.drop [7, 8, 9, 10, 11, 12] .ret)))
abbrev r_spec_l24Join : List RS := [.t 6]
theorem k_spec_l24Join : fitsF Try.prog f_spec_l24Join 13 c_spec_l24Join r_spec_l24Join = true := by kernel_rfl

/- loop.example/g01078/spec.l24Meet: [p=0, x=1, y=2, p=3, x=4, y=5] -/
def c_spec_l24Meet : ACode :=
  (.seq (.reg [⟨none, .box 3 (.t 0)⟩,
     ⟨none, .asg 6 (.c (.int .i64 0))⟩])
  (.seq (.reg [⟨none, .ld 7 1 true (.t 3)⟩,
      ⟨none, .mov 8 (.t 1)⟩,
      ⟨none, .mov 9 (.t 2)⟩,
      ⟨none, .bsl 10 1 [(.t 8), (.t 9)]⟩,
      ⟨none, .call 11 f_spec_l24Bound [((.t 7), false), ((.t 10), false)]⟩,
      ⟨none, .asg 6 (.t 11)⟩])
   (.drop [7, 8, 9, 10, 11] .ret)))
abbrev r_spec_l24Meet : List RS := [.t 6]
theorem k_spec_l24Meet : fitsF Try.prog f_spec_l24Meet 12 c_spec_l24Meet r_spec_l24Meet = true := by kernel_rfl

/- loop.example/g01078/spec.l23Largest: [p=0, p=1, best=3, bits=4, some=5] -/
def c_spec_l23Largest_l1 : ACode :=
  (.seq (.seq (.reg [⟨none, .mov 7 (.t 4)⟩,
      ⟨none, .fadr 8 0 (.t 1)⟩,
      ⟨none, .ld 9 1 false (.t 8)⟩,
      ⟨none, .len 10 (.t 9)⟩,
      ⟨none, .bin 11 .shl (.c (.int .i64 1)) (.t 10)⟩,
      ⟨none, .bin 12 .lss (.t 7) (.t 11)⟩])
   (.drop [7, 8, 9, 10, 11] (.cond (.t 12) .skip
    (.exit 0))))
  (.drop [7, 8, 9, 10, 11, 12] (.seq (.block 1 (.seq (.reg [⟨none, .mov 15 (.t 4)⟩,
        ⟨none, .call 16 f_spec_l5Bits [((.t 15), false)]⟩,
        ⟨none, .asg 5 (.t 16)⟩])
     (.drop [15, 16] (.seq (.reg [⟨none, .mov 17 (.t 5)⟩,
         ⟨none, .len 18 (.t 17)⟩,
         ⟨none, .mov 19 (.t 3)⟩,
         ⟨none, .len 20 (.t 19)⟩,
         ⟨none, .bin 21 .gtr (.t 18) (.t 20)⟩,
         ⟨none, .asg 22 (.t 21)⟩,
         ⟨some (22, false), .mov 23 (.t 5)⟩,
         ⟨some (22, false), .len 24 (.t 23)⟩,
         ⟨some (22, false), .mov 25 (.t 3)⟩,
         ⟨some (22, false), .len 26 (.t 25)⟩,
         ⟨some (22, false), .bin 27 .eql (.t 24) (.t 26)⟩,
         ⟨some (22, false), .asg 28 (.t 27)⟩,
         ⟨some (28, true), .mov 29 (.t 5)⟩,
         ⟨some (28, true), .mov 30 (.t 3)⟩,
         ⟨some (28, true), .call 31 f_spec_l5Less [((.t 29), false), ((.t 30), false)]⟩,
         ⟨some (22, false), .pick 32 (.t 28) (.t 31) (.c (.bool false))⟩,
         ⟨none, .pick 33 (.t 22) (.c (.bool true)) (.t 32)⟩,
         ⟨none, .asg 34 (.t 33)⟩,
         ⟨some (34, true), .ld 35 1 true (.t 1)⟩,
         ⟨some (34, true), .mov 36 (.t 5)⟩,
         ⟨some (34, true), .call 37 f_spec_l23Anti [((.t 35), false), ((.t 36), false)]⟩,
         ⟨none, .pick 38 (.t 34) (.t 37) (.c (.bool false))⟩])
      (.drop [17, 18, 19, 20, 21, 22, 23, 24, 25, 26, 27, 28, 29, 30, 31, 32, 33, 34, 35, 36, 37] (.cond (.t 38) (.reg [⟨none, .mov 39 (.t 5)⟩,
          ⟨none, .asg 3 (.t 39)⟩])
       .skip))))))
   (.drop [15, 16, 5, 17, 18, 19, 20, 21, 22, 23, 24, 25, 26, 27, 28, 29, 30, 31, 32, 33, 34, 35, 36, 37, 38, 39] (.reg [⟨none, .mov 13 (.t 4)⟩,
      ⟨none, .bin 14 .add (.t 13) (.c (.int .i64 1))⟩,
      ⟨none, .asg 4 (.t 14)⟩])))))
def c_spec_l23Largest : ACode :=
  (.seq (.reg [⟨none, .box 1 (.t 0)⟩,
     ⟨none, .asg 2 (.c (.nilsl 1))⟩])
  (.seq (.reg [⟨none, .bsl 6 1 []⟩,
      ⟨none, .asg 3 (.t 6)⟩])
   (.drop [6] (.seq (.seq (.reg [⟨none, .asg 4 (.c (.int .i64 0))⟩])
     (.block 0 (.loop c_spec_l23Largest_l1)))
    (.drop [4, 7, 8, 9, 10, 11, 12, 15, 16, 5, 17, 18, 19, 20, 21, 22, 23, 24, 25, 26, 27, 28, 29, 30, 31, 32, 33, 34, 35, 36, 37, 38, 39, 13, 14] (.seq (.reg [⟨none, .mov 40 (.t 3)⟩,
        ⟨none, .asg 2 (.t 40)⟩])
     (.drop [40] .ret)))))))
abbrev r_spec_l23Largest : List RS := [.t 2]
theorem k_spec_l23Largest : fitsF Try.prog f_spec_l23Largest 41 c_spec_l23Largest r_spec_l23Largest = true := by kernel_rfl

/- loop.example/g01078/spec.l24Good: [p=0, p=1, dual=3, x=4, y=5] -/
def c_spec_l24Good_k1 : ACode :=
  (.seq (.reg [⟨none, .ld 6 1 true (.t 1)⟩,
       ⟨none, .call 7 f_spec_l23Good [((.t 6), false)]⟩,
       ⟨none, .un 8 .not (.t 7)⟩,
       ⟨none, .asg 9 (.t 8)⟩,
       ⟨some (9, false), .fadr 10 0 (.t 1)⟩,
       ⟨some (9, false), .ld 11 1 false (.t 10)⟩,
       ⟨some (9, false), .len 12 (.t 11)⟩,
       ⟨some (9, false), .bin 13 .eql (.t 12) (.c (.int .i64 0))⟩,
       ⟨none, .pick 14 (.t 9) (.c (.bool true)) (.t 13)⟩])
    (.drop [6, 7, 8, 9, 10, 11, 12, 13] (.cond (.t 14) (.seq (.reg [⟨none, .asg 2 (.c (.bool false))⟩])
      .ret)
     .skip)))
def c_spec_l24Good_l1 : ACode :=
  (.seq (.seq (.reg [⟨none, .mov 24 (.t 5)⟩,
      ⟨none, .mov 25 (.t 4)⟩,
      ⟨none, .bin 26 .lss (.t 24) (.t 25)⟩])
   (.drop [24, 25] (.cond (.t 26) .skip
    (.exit 2))))
  (.drop [24, 25, 26] (.seq (.block 3 (.seq (.reg [⟨none, .ld 29 1 true (.t 1)⟩,
        ⟨none, .mov 30 (.t 4)⟩,
        ⟨none, .mov 31 (.t 5)⟩,
        ⟨none, .bsl 32 1 [(.t 30), (.t 31)]⟩,
        ⟨none, .call 33 f_spec_l24Bound [((.t 29), false), ((.t 32), false)]⟩,
        ⟨none, .bin 34 .lss (.t 33) (.c (.int .i64 0))⟩,
        ⟨none, .asg 35 (.t 34)⟩,
        ⟨some (35, false), .ld 36 1 true (.t 3)⟩,
        ⟨some (35, false), .mov 37 (.t 4)⟩,
        ⟨some (35, false), .mov 38 (.t 5)⟩,
        ⟨some (35, false), .bsl 39 1 [(.t 37), (.t 38)]⟩,
        ⟨some (35, false), .call 40 f_spec_l24Bound [((.t 36), false), ((.t 39), false)]⟩,
        ⟨some (35, false), .bin 41 .lss (.t 40) (.c (.int .i64 0))⟩,
        ⟨none, .pick 42 (.t 35) (.c (.bool true)) (.t 41)⟩])
     (.drop [29, 30, 31, 32, 33, 34, 35, 36, 37, 38, 39, 40, 41] (.cond (.t 42) (.seq (.reg [⟨none, .asg 2 (.c (.bool false))⟩])
       .ret)
      .skip))))
   (.drop [29, 30, 31, 32, 33, 34, 35, 36, 37, 38, 39, 40, 41, 42] (.reg [⟨none, .mov 27 (.t 5)⟩,
      ⟨none, .bin 28 .add (.t 27) (.c (.int .i64 1))⟩,
      ⟨none, .asg 5 (.t 28)⟩])))))
def c_spec_l24Good_l2 : ACode :=
  (.seq (.seq (.reg [⟨none, .mov 17 (.t 4)⟩,
      ⟨none, .fadr 18 0 (.t 1)⟩,
      ⟨none, .ld 19 1 false (.t 18)⟩,
      ⟨none, .len 20 (.t 19)⟩,
      ⟨none, .bin 21 .lss (.t 17) (.t 20)⟩])
   (.drop [17, 18, 19, 20] (.cond (.t 21) .skip
    (.exit 0))))
  (.drop [17, 18, 19, 20, 21] (.seq (.block 1 (.seq (.reg [⟨none, .asg 5 (.c (.int .i64 0))⟩])
     (.block 2 (.loop c_spec_l24Good_l1))))
   (.drop [5, 24, 25, 26, 29, 30, 31, 32, 33, 34, 35, 36, 37, 38, 39, 40, 41, 42, 27, 28] (.reg [⟨none, .mov 22 (.t 4)⟩,
      ⟨none, .bin 23 .add (.t 22) (.c (.int .i64 1))⟩,
      ⟨none, .asg 4 (.t 23)⟩])))))
def c_spec_l24Good : ACode :=
  (.seq (.reg [⟨none, .box 1 (.t 0)⟩,
     ⟨none, .asg 2 (.c (.bool false))⟩])
  (.seq (.cut c_spec_l24Good_k1)
   (.drop [6, 7, 8, 9, 10, 11, 12, 13, 14] (.seq (.reg [⟨none, .ld 15 1 true (.t 1)⟩,
       ⟨none, .call 16 f_spec_l23Dual [((.t 15), false)]⟩,
       ⟨none, .alc 3 (.agg [.nilsl 1])⟩,
       ⟨none, .st 1 (.t 3) (.t 16)⟩])
    (.drop [15, 16] (.seq (.seq (.reg [⟨none, .asg 4 (.c (.int .i64 0))⟩])
      (.block 0 (.loop c_spec_l24Good_l2)))
     (.drop [4, 17, 18, 19, 20, 21, 5, 24, 25, 26, 29, 30, 31, 32, 33, 34, 35, 36, 37, 38, 39, 40, 41, 42, 27, 28, 22, 23] (.seq (.reg [⟨none, .asg 2 (.c (.bool true))⟩])
      .ret))))))))
abbrev r_spec_l24Good : List RS := [.t 2]
theorem k_spec_l24Good : fitsF Try.prog f_spec_l24Good 43 c_spec_l24Good r_spec_l24Good = true := by kernel_rfl

/- loop.example/g01078/spec.l24Bottom: [p=0, p=1] -/
def c_spec_l24Bottom : ACode :=
  (.seq (.reg [⟨none, .box 1 (.t 0)⟩,
     ⟨none, .asg 2 (.c (.int .i64 0))⟩])
  (.seq (.reg [⟨none, .ld 3 1 true (.t 1)⟩,
      ⟨none, .call 4 f_spec_l23Dual [((.t 3), false)]⟩,
      ⟨none, .bsl 5 1 []⟩,
      ⟨none, .call 6 f_spec_l24Bound [((.t 4), false), ((.t 5), false)]⟩,
      ⟨none, .asg 2 (.t 6)⟩])
   (.drop [3, 4, 5, 6] .ret)))
abbrev r_spec_l24Bottom : List RS := [.t 2]
theorem k_spec_l24Bottom : fitsF Try.prog f_spec_l24Bottom 7 c_spec_l24Bottom r_spec_l24Bottom = true := by kernel_rfl

/- loop.example/g01078/spec.l24Top: [p=0, p=1] -/
def c_spec_l24Top : ACode :=
  (.seq (.reg [⟨none, .box 1 (.t 0)⟩,
     ⟨none, .asg 2 (.c (.int .i64 0))⟩])
  (.seq (.reg [⟨none, .ld 3 1 true (.t 1)⟩,
      ⟨none, .bsl 4 1 []⟩,
      ⟨none, .call 5 f_spec_l24Bound [((.t 3), false), ((.t 4), false)]⟩,
      ⟨none, .asg 2 (.t 5)⟩])
   (.drop [3, 4, 5] .ret)))
abbrev r_spec_l24Top : List RS := [.t 2]
theorem k_spec_l24Top : fitsF Try.prog f_spec_l24Top 6 c_spec_l24Top r_spec_l24Top = true := by kernel_rfl

/- loop.example/g01078/impl.rename: [a=0, names=1, a=2, names=3, b=5, k=6, f=7, i=8, v=9, args=10, j=11, x=12] -/
def c_impl_rename_l1 : ACode :=
  (.seq (.reg [⟨none, .bin 40 .lss (.t 39) (.t 38)⟩])
  (.seq (.cond (.t 40) .skip
    (.exit 4))
   (.seq (.block 5 (.seq (.reg [⟨none, .mov 41 (.t 39)⟩,
         ⟨none, .iad 42 1 (.t 37) (.t 39)⟩,
         ⟨none, .ld 43 1 false (.t 42)⟩,
         ⟨none, .asg 11 (.t 41)⟩,
         ⟨none, .asg 12 (.t 43)⟩])
      (.drop [41, 42, 43] (.reg [⟨none, .mov 44 (.t 10)⟩,
         ⟨none, .mov 45 (.t 11)⟩,
         ⟨none, .mov 46 (.t 1)⟩,
         ⟨none, .mov 47 (.t 12)⟩,
         ⟨none, .iad 48 1 (.t 46) (.t 47)⟩,
         ⟨none, .ld 49 1 false (.t 48)⟩,
         ⟨none, .iad 50 1 (.t 44) (.t 45)⟩,
         ⟨none, .st 1 (.t 50) (.t 49)⟩]))))
    (.drop [41, 42, 43, 11, 12, 44, 45, 46, 47, 48, 49, 50] (.reg [⟨none, .bin 51 .add (.t 39) (.c (.int .i64 1))⟩,
       ⟨none, .asg 39 (.t 51)⟩])))))
def c_impl_rename_l2 : ACode :=
  (.seq (.reg [⟨none, .bin 27 .lss (.t 26) (.t 25)⟩])
  (.seq (.cond (.t 27) .skip
    (.exit 2))
   (.seq (.block 3 (.seq (.reg [⟨none, .mov 28 (.t 26)⟩,
         ⟨none, .iad 29 1 (.t 24) (.t 26)⟩,
         ⟨none, .ld 30 1 false (.t 29)⟩,
         ⟨none, .asg 8 (.t 28)⟩,
         ⟨none, .asg 9 (.t 30)⟩])
      (.drop [28, 29, 30] (.seq (.reg [⟨none, .mov 31 (.t 8)⟩,
          ⟨none, .fadr 32 0 (.t 7)⟩,
          ⟨none, .ld 33 1 false (.t 32)⟩,
          ⟨none, .fadr 34 0 (.t 2)⟩,
          ⟨none, .ld 35 1 false (.t 34)⟩,
          ⟨none, .call 36 f_impl_argsAt [((.t 31), false), ((.t 33), false), ((.t 35), false)]⟩,
          ⟨none, .asg 10 (.t 36)⟩])
       (.drop [31, 32, 33, 34, 35, 36] (.seq (.seq (.reg [⟨none, .mov 37 (.t 10)⟩,
            ⟨none, .len 38 (.t 37)⟩,
            ⟨none, .mov 39 (.c (.int .i64 0))⟩])
         (.block 4 (.loop c_impl_rename_l1)))
        (.drop [37, 38, 39, 40, 41, 42, 43, 11, 12, 44, 45, 46, 47, 48, 49, 50, 51] (.dreg [(⟨none, .fadr 52 1 (.t 5)⟩, []),
           (⟨none, .ld 53 1 false (.t 52)⟩, []),
           (⟨none, .mov 54 (.t 6)⟩, [52, 53]),
           (⟨none, .iad 55 2 (.t 53) (.t 54)⟩, []),
           (⟨none, .fadr 56 1 (.t 55)⟩, []),
           (⟨none, .ld 57 1 false (.t 56)⟩, []),
           (⟨none, .mov 58 (.t 10)⟩, [52, 53, 54, 55, 56, 57]),
           (⟨none, .fadr 59 0 (.t 2)⟩, [52, 53, 54, 55, 56, 57, 58]),
           (⟨none, .ld 60 1 false (.t 59)⟩, [52, 53, 54, 55, 56, 57, 58]),
           (⟨none, .call 61 f_impl_indexOf [((.t 58), false), ((.t 60), false)]⟩, [52, 53, 54, 55, 56, 57]),
           (⟨none, .mov 62 (.t 1)⟩, [52, 53, 54, 55, 56, 57, 58, 59, 60, 61]),
           (⟨none, .mov 63 (.t 9)⟩, [52, 53, 54, 55, 56, 57, 58, 59, 60, 61, 62]),
           (⟨none, .iad 64 1 (.t 62) (.t 63)⟩, [52, 53, 54, 55, 56, 57, 58, 59, 60, 61]),
           (⟨none, .ld 65 1 false (.t 64)⟩, [52, 53, 54, 55, 56, 57, 58, 59, 60, 61])]
          [⟨none, .iad 66 1 (.t 57) (.t 61)⟩,
           ⟨none, .st 1 (.t 66) (.t 65)⟩]))))))))
    (.drop [28, 29, 30, 8, 9, 31, 32, 33, 34, 35, 36, 10, 37, 38, 39, 40, 41, 42, 43, 11, 12, 44, 45, 46, 47, 48, 49, 50, 51, 52, 53, 54, 55, 56, 57, 58, 59, 60, 61, 62, 63, 64, 65, 66] (.reg [⟨none, .bin 67 .add (.t 26) (.c (.int .i64 1))⟩,
       ⟨none, .asg 26 (.t 67)⟩])))))
def c_impl_rename_l3 : ACode :=
  (.seq (.reg [⟨none, .bin 19 .lss (.t 18) (.t 17)⟩])
  (.seq (.cond (.t 19) .skip
    (.exit 0))
   (.seq (.block 1 (.seq (.reg [⟨none, .mov 20 (.t 18)⟩,
         ⟨none, .iad 21 2 (.t 16) (.t 18)⟩,
         ⟨none, .ld 22 2 true (.t 21)⟩,
         ⟨none, .alc 7 (.agg [.int .i64 0, .nilsl 1])⟩,
         ⟨none, .asg 6 (.t 20)⟩,
         ⟨none, .st 2 (.t 7) (.t 22)⟩])
      (.drop [20, 21, 22] (.seq (.reg [⟨none, .fadr 23 1 (.t 7)⟩,
          ⟨none, .ld 24 1 false (.t 23)⟩,
          ⟨none, .len 25 (.t 24)⟩,
          ⟨none, .mov 26 (.c (.int .i64 0))⟩])
       (.drop [23] (.block 2 (.loop c_impl_rename_l2)))))))
    (.drop [20, 21, 22, 7, 6, 23, 24, 25, 26, 27, 28, 29, 30, 8, 9, 31, 32, 33, 34, 35, 36, 10, 37, 38, 39, 40, 41, 42, 43, 11, 12, 44, 45, 46, 47, 48, 49, 50, 51, 52, 53, 54, 55, 56, 57, 58, 59, 60, 61, 62, 63, 64, 65, 66, 67] (.reg [⟨none, .bin 68 .add (.t 18) (.c (.int .i64 1))⟩,
       ⟨none, .asg 18 (.t 68)⟩])))))
def c_impl_rename : ACode :=
  (.seq (.reg [⟨none, .box 2 (.t 0)⟩,
     ⟨none, .alc 4 (.agg [.int .i64 0, .nilsl 2])⟩])
  (.seq (.reg [⟨none, .ld 13 2 true (.t 2)⟩,
      ⟨none, .call 14 f_impl_cloneAlgebra [((.t 13), false)]⟩,
      ⟨none, .alc 5 (.agg [.int .i64 0, .nilsl 2])⟩,
      ⟨none, .st 2 (.t 5) (.t 14)⟩])
   (.drop [13, 14] (.seq (.seq (.reg [⟨none, .fadr 15 1 (.t 2)⟩,
        ⟨none, .ld 16 1 false (.t 15)⟩,
        ⟨none, .len 17 (.t 16)⟩,
        ⟨none, .mov 18 (.c (.int .i64 0))⟩])
     (.drop [15] (.block 0 (.loop c_impl_rename_l3))))
    (.drop [15, 16, 17, 18, 19, 20, 21, 22, 7, 6, 23, 24, 25, 26, 27, 28, 29, 30, 8, 9, 31, 32, 33, 34, 35, 36, 10, 37, 38, 39, 40, 41, 42, 43, 11, 12, 44, 45, 46, 47, 48, 49, 50, 51, 52, 53, 54, 55, 56, 57, 58, 59, 60, 61, 62, 63, 64, 65, 66, 67, 68] (.seq (.reg [⟨none, .ld 69 2 true (.t 5)⟩,
        ⟨none, .st 2 (.t 4) (.t 69)⟩])
     (.drop [69] .ret)))))))
abbrev r_impl_rename : List RS := [.c 4 2 true]
theorem k_impl_rename : fitsF Try.prog f_impl_rename 70 c_impl_rename r_impl_rename = true := by kernel_rfl

/- loop.example/g01078/impl.listOf: [p=0, list=1, p=2, list=3, l=6, ok=7] -/
def c_impl_listOf : ACode :=
  (.seq (.reg [⟨none, .box 2 (.t 0)⟩,
     ⟨none, .asg 4 (.c (.nilsl 1))⟩,
     ⟨none, .asg 5 (.c (.bool false))⟩])
  (.seq (.reg [⟨none, .ld 9 1 true (.t 2)⟩,
      ⟨none, .call 10 f_impl_latticeOf [((.t 9), false)]⟩,
      ⟨none, .asg 8 (.t 10)⟩,
      ⟨none, .ext 11 (.t 8) 0⟩,
      ⟨none, .ext 12 (.t 8) 1⟩,
      ⟨none, .asg 6 (.t 11)⟩,
      ⟨none, .asg 7 (.t 12)⟩])
   (.drop [9, 10, 8, 11, 12] (.seq (.seq (.reg [⟨none, .mov 13 (.t 7)⟩,
        ⟨none, .un 14 .not (.t 13)⟩])
     (.drop [13] (.cond (.t 14) (.seq (.reg [⟨none, .bsl 15 1 []⟩,
          ⟨none, .asg 4 (.t 15)⟩,
          ⟨none, .asg 5 (.c (.bool false))⟩])
       (.drop [15] .ret))
      .skip)))
    (.drop [13, 14, 15] (.seq (.reg [⟨none, .mov 16 (.t 1)⟩,
        ⟨none, .mov 17 (.t 6)⟩,
        ⟨none, .cally 18 (.t 16) [(.t 17)]⟩,
        ⟨none, .asg 4 (.t 18)⟩,
        ⟨none, .asg 5 (.c (.bool true))⟩])
     (.drop [16, 17, 18] .ret)))))))
abbrev r_impl_listOf : List RS := [.t 4, .t 5]
theorem k_impl_listOf : fitsF Try.prog f_impl_listOf 19 c_impl_listOf r_impl_listOf = true := by kernel_rfl

/- (loop.example/g01078/impl.order).upperCovers: [o=0, x=1, o=2, x=3] -/
def c_impl_order_upperCovers : ACode :=
  (.seq (.reg [⟨none, .box 2 (.t 0)⟩,
     ⟨none, .box 3 (.t 1)⟩,
     ⟨none, .asg 4 (.c (.nilsl 1))⟩])
  (.seq (.reg [⟨none, .ld 5 1 false (.t 2)⟩,
      ⟨none, .mkf 6 f_impl_order_upperCovers_1 [(.t 2), (.t 3)]⟩,
      ⟨none, .call 7 f_impl_order_those [((.t 5), false), ((.t 6), false)]⟩,
      ⟨none, .asg 4 (.t 7)⟩])
   (.drop [5, 6, 7] .ret)))
abbrev r_impl_order_upperCovers : List RS := [.t 4]
theorem k_impl_order_upperCovers : fitsF Try.prog f_impl_order_upperCovers 8 c_impl_order_upperCovers r_impl_order_upperCovers = true := by kernel_rfl

/- loop.example/g01078/spec.l23Covers: [p=0, x=1, y=2, p=3, x=4, y=5, z=7] -/
def c_spec_l23Covers_l1 : ACode :=
  (.seq (.seq (.reg [⟨none, .mov 13 (.t 7)⟩,
      ⟨none, .fadr 14 0 (.t 3)⟩,
      ⟨none, .ld 15 1 false (.t 14)⟩,
      ⟨none, .len 16 (.t 15)⟩,
      ⟨none, .bin 17 .lss (.t 13) (.t 16)⟩])
   (.drop [13, 14, 15, 16] (.cond (.t 17) .skip
    (.exit 0))))
  (.drop [13, 14, 15, 16, 17] (.seq (.block 1 (.seq (.reg [⟨none, .ld 20 1 true (.t 3)⟩,
        ⟨none, .mov 21 (.t 1)⟩,
        ⟨none, .mov 22 (.t 7)⟩,
        ⟨none, .call 23 f_spec_l23Less [((.t 20), false), ((.t 21), false), ((.t 22), false)]⟩,
        ⟨none, .asg 24 (.t 23)⟩,
        ⟨some (24, true), .ld 25 1 true (.t 3)⟩,
        ⟨some (24, true), .mov 26 (.t 7)⟩,
        ⟨some (24, true), .mov 27 (.t 2)⟩,
        ⟨some (24, true), .call 28 f_spec_l23Less [((.t 25), false), ((.t 26), false), ((.t 27), false)]⟩,
        ⟨none, .pick 29 (.t 24) (.t 28) (.c (.bool false))⟩])
     (.drop [20, 21, 22, 23, 24, 25, 26, 27, 28] (.cond (.t 29) (.seq (.reg [⟨none, .asg 6 (.c (.bool false))⟩])
       .ret)
      .skip))))
   (.drop [20, 21, 22, 23, 24, 25, 26, 27, 28, 29] (.reg [⟨none, .mov 18 (.t 7)⟩,
      ⟨none, .bin 19 .add (.t 18) (.c (.int .i64 1))⟩,
      ⟨none, .asg 7 (.t 19)⟩])))))
def c_spec_l23Covers : ACode :=
  (.seq (.reg [⟨none, .box 3 (.t 0)⟩,
     ⟨none, .asg 6 (.c (.bool false))⟩])
  (.seq (.seq (.reg [⟨none, .ld 8 1 true (.t 3)⟩,
       ⟨none, .mov 9 (.t 1)⟩,
       ⟨none, .mov 10 (.t 2)⟩,
       ⟨none, .call 11 f_spec_l23Less [((.t 8), false), ((.t 9), false), ((.t 10), false)]⟩,
       ⟨none, .un 12 .not (.t 11)⟩])
    (.drop [8, 9, 10, 11] (.cond (.t 12) (.seq (.reg [⟨none, .asg 6 (.c (.bool false))⟩])
      .ret)
     .skip)))
   (.drop [8, 9, 10, 11, 12] (.seq (.seq (.reg [⟨none, .asg 7 (.c (.int .i64 0))⟩])
     (.block 0 (.loop c_spec_l23Covers_l1)))
    (.drop [7, 13, 14, 15, 16, 17, 20, 21, 22, 23, 24, 25, 26, 27, 28, 29, 18, 19] (.seq (.reg [⟨none, .asg 6 (.c (.bool true))⟩])
     .ret))))))
abbrev r_spec_l23Covers : List RS := [.t 6]
theorem k_spec_l23Covers : fitsF Try.prog f_spec_l23Covers 30 c_spec_l23Covers r_spec_l23Covers = true := by kernel_rfl

/- loop.example/g01078/spec.l23Match: [p=0, x=1, taken=2, seen=3, owner=4, p=5, x=6, taken=7, seen=8, owner=9, y=11] -/
def c_spec_l23Match_k1 : ACode :=
  (.seq (.reg [⟨none, .ld 19 1 true (.t 5)⟩,
         ⟨none, .mov 20 (.t 1)⟩,
         ⟨none, .mov 21 (.t 11)⟩,
         ⟨none, .call 22 f_spec_l23Less [((.t 19), false), ((.t 20), false), ((.t 21), false)]⟩,
         ⟨none, .un 23 .not (.t 22)⟩,
         ⟨none, .asg 24 (.t 23)⟩,
         ⟨some (24, false), .mov 25 (.t 2)⟩,
         ⟨some (24, false), .mov 26 (.t 11)⟩,
         ⟨some (24, false), .iad 27 1 (.t 25) (.t 26)⟩,
         ⟨some (24, false), .ld 28 1 false (.t 27)⟩,
         ⟨none, .pick 29 (.t 24) (.c (.bool true)) (.t 28)⟩,
         ⟨none, .asg 30 (.t 29)⟩,
         ⟨some (30, false), .mov 31 (.t 3)⟩,
         ⟨some (30, false), .mov 32 (.t 11)⟩,
         ⟨some (30, false), .iad 33 1 (.t 31) (.t 32)⟩,
         ⟨some (30, false), .ld 34 1 false (.t 33)⟩,
         ⟨none, .pick 35 (.t 30) (.c (.bool true)) (.t 34)⟩])
      (.drop [19, 20, 21, 22, 23, 24, 25, 26, 27, 28, 29, 30, 31, 32, 33, 34] (.cond (.t 35) (.exit 1)
       .skip)))
def c_spec_l23Match_l1 : ACode :=
  (.seq (.seq (.reg [⟨none, .mov 12 (.t 11)⟩,
      ⟨none, .fadr 13 0 (.t 5)⟩,
      ⟨none, .ld 14 1 false (.t 13)⟩,
      ⟨none, .len 15 (.t 14)⟩,
      ⟨none, .bin 16 .lss (.t 12) (.t 15)⟩])
   (.drop [12, 13, 14, 15] (.cond (.t 16) .skip
    (.exit 0))))
  (.drop [12, 13, 14, 15, 16] (.seq (.block 1 (.seq (.cut c_spec_l23Match_k1)
     (.drop [19, 20, 21, 22, 23, 24, 25, 26, 27, 28, 29, 30, 31, 32, 33, 34, 35] (.seq (.reg [⟨none, .mov 36 (.t 3)⟩,
         ⟨none, .mov 37 (.t 11)⟩,
         ⟨none, .iad 38 1 (.t 36) (.t 37)⟩,
         ⟨none, .st 1 (.t 38) (.c (.bool true))⟩])
      (.drop [36, 37, 38] (.seq (.dreg [(⟨none, .mov 39 (.t 4)⟩, []),
          (⟨none, .mov 40 (.t 11)⟩, [39]),
          (⟨none, .iad 41 1 (.t 39) (.t 40)⟩, []),
          (⟨none, .ld 42 1 false (.t 41)⟩, []),
          (⟨none, .bin 43 .lss (.t 42) (.c (.int .i64 0))⟩, []),
          (⟨none, .asg 44 (.t 43)⟩, []),
          (⟨some (44, false), .ld 45 1 true (.t 5)⟩, []),
          (⟨some (44, false), .mov 46 (.t 4)⟩, [45]),
          (⟨some (44, false), .mov 47 (.t 11)⟩, [45, 46]),
          (⟨some (44, false), .iad 48 1 (.t 46) (.t 47)⟩, [45]),
          (⟨some (44, false), .ld 49 1 false (.t 48)⟩, [45]),
          (⟨some (44, false), .mov 50 (.t 2)⟩, [45, 46, 47, 48, 49]),
          (⟨some (44, false), .mov 51 (.t 3)⟩, [45, 46, 47, 48, 49, 50]),
          (⟨some (44, false), .mov 52 (.t 4)⟩, [45, 46, 47, 48, 49, 50, 51])]
         [⟨some (44, false), .call 53 f_spec_l23Match [((.t 45), false), ((.t 49), false), ((.t 50), true), ((.t 51), true), ((.t 52), false)]⟩,
          ⟨none, .pick 54 (.t 44) (.c (.bool true)) (.t 53)⟩])
       (.drop [39, 40, 41, 42, 43, 44, 45, 46, 47, 48, 49, 50, 51, 52, 53] (.cond (.t 54) (.seq (.reg [⟨none, .mov 55 (.t 4)⟩,
            ⟨none, .mov 56 (.t 11)⟩,
            ⟨none, .mov 57 (.t 1)⟩,
            ⟨none, .iad 58 1 (.t 55) (.t 56)⟩,
            ⟨none, .st 1 (.t 58) (.t 57)⟩])
         (.drop [55, 56, 57, 58] (.seq (.reg [⟨none, .asg 10 (.c (.bool true))⟩])
          .ret)))
        .skip))))))))
   (.drop [19, 20, 21, 22, 23, 24, 25, 26, 27, 28, 29, 30, 31, 32, 33, 34, 35, 36, 37, 38, 39, 40, 41, 42, 43, 44, 45, 46, 47, 48, 49, 50, 51, 52, 53, 54, 55, 56, 57, 58] (.reg [⟨none, .mov 17 (.t 11)⟩,
      ⟨none, .bin 18 .add (.t 17) (.c (.int .i64 1))⟩,
      ⟨none, .asg 11 (.t 18)⟩])))))
def c_spec_l23Match : ACode :=
  (.seq (.reg [⟨none, .box 5 (.t 0)⟩,
     ⟨none, .asg 10 (.c (.bool false))⟩])
  (.seq (.seq (.reg [⟨none, .asg 11 (.c (.int .i64 0))⟩])
    (.block 0 (.loop c_spec_l23Match_l1)))
   (.drop [11, 12, 13, 14, 15, 16, 19, 20, 21, 22, 23, 24, 25, 26, 27, 28, 29, 30, 31, 32, 33, 34, 35, 36, 37, 38, 39, 40, 41, 42, 43, 44, 45, 46, 47, 48, 49, 50, 51, 52, 53, 54, 55, 56, 57, 58, 17, 18] (.seq (.reg [⟨none, .asg 10 (.c (.bool false))⟩])
    .ret))))
abbrev r_spec_l23Match : List RS := [.t 10]
theorem k_spec_l23Match : fitsF Try.prog f_spec_l23Match 59 c_spec_l23Match r_spec_l23Match = true := by kernel_rfl

/- (loop.example/g01078/impl.order).lowerCovers: [o=0, x=1, o=2, x=3] -/
def c_impl_order_lowerCovers : ACode :=
  (.seq (.reg [⟨none, .box 2 (.t 0)⟩,
     ⟨none, .box 3 (.t 1)⟩,
     ⟨none, .asg 4 (.c (.nilsl 1))⟩])
  (.seq (.reg [⟨none, .ld 5 1 false (.t 2)⟩,
      ⟨none, .mkf 6 f_impl_order_lowerCovers_1 [(.t 2), (.t 3)]⟩,
      ⟨none, .call 7 f_impl_order_those [((.t 5), false), ((.t 6), false)]⟩,
      ⟨none, .asg 4 (.t 7)⟩])
   (.drop [5, 6, 7] .ret)))
abbrev r_impl_order_lowerCovers : List RS := [.t 4]
theorem k_impl_order_lowerCovers : fitsF Try.prog f_impl_order_lowerCovers 8 c_impl_order_lowerCovers r_impl_order_lowerCovers = true := by kernel_rfl

/- loop.example/g01078/spec.LargestAntichain: [p=0, p=1] -/
def c_spec_LargestAntichain : ACode :=
  (.seq (.reg [⟨none, .box 1 (.t 0)⟩,
     ⟨none, .asg 2 (.c (.nilsl 1))⟩,
     ⟨none, .asg 3 (.c (.bool false))⟩])
  (.seq (.seq (.reg [⟨none, .ld 4 1 true (.t 1)⟩,
       ⟨none, .call 5 f_spec_l23Good [((.t 4), false)]⟩,
       ⟨none, .un 6 .not (.t 5)⟩])
    (.drop [4, 5] (.cond (.t 6) (.seq (.reg [⟨none, .bsl 7 1 []⟩,
         ⟨none, .asg 2 (.t 7)⟩,
         ⟨none, .asg 3 (.c (.bool false))⟩])
      (.drop [7] .ret))
     .skip)))
   (.drop [4, 5, 6, 7] (.seq (.reg [⟨none, .ld 8 1 true (.t 1)⟩,
       ⟨none, .call 9 f_spec_l23Largest [((.t 8), false)]⟩,
       ⟨none, .asg 2 (.t 9)⟩,
       ⟨none, .asg 3 (.c (.bool true))⟩])
    (.drop [8, 9] .ret)))))
abbrev r_spec_LargestAntichain : List RS := [.t 2, .t 3]
theorem k_spec_LargestAntichain : fitsF Try.prog f_spec_LargestAntichain 10 c_spec_LargestAntichain r_spec_LargestAntichain = true := by kernel_rfl

/- loop.example/g01078/spec.EndsOf: [p=0, p=1] -/
def c_spec_EndsOf : ACode :=
  (.seq (.reg [⟨none, .box 1 (.t 0)⟩,
     ⟨none, .asg 2 (.c (.int .i64 0))⟩,
     ⟨none, .asg 3 (.c (.int .i64 0))⟩,
     ⟨none, .asg 4 (.c (.bool false))⟩])
  (.seq (.seq (.reg [⟨none, .ld 5 1 true (.t 1)⟩,
       ⟨none, .call 6 f_spec_l24Good [((.t 5), false)]⟩,
       ⟨none, .un 7 .not (.t 6)⟩])
    (.drop [5, 6] (.cond (.t 7) (.seq (.reg [⟨none, .asg 2 (.c (.int .i64 0))⟩,
         ⟨none, .asg 3 (.c (.int .i64 0))⟩,
         ⟨none, .asg 4 (.c (.bool false))⟩])
      .ret)
     .skip)))
   (.drop [5, 6, 7] (.seq (.dreg [(⟨none, .ld 8 1 true (.t 1)⟩, []),
       (⟨none, .call 9 f_spec_l24Bottom [((.t 8), false)]⟩, []),
       (⟨none, .ld 10 1 true (.t 1)⟩, [8, 9])]
      [⟨none, .call 11 f_spec_l24Top [((.t 10), false)]⟩,
       ⟨none, .asg 2 (.t 9)⟩,
       ⟨none, .asg 3 (.t 11)⟩,
       ⟨none, .asg 4 (.c (.bool true))⟩])
    (.drop [8, 9, 10, 11] .ret)))))
abbrev r_spec_EndsOf : List RS := [.t 2, .t 3, .t 4]
theorem k_spec_EndsOf : fitsF Try.prog f_spec_EndsOf 12 c_spec_EndsOf r_spec_EndsOf = true := by kernel_rfl

/- loop.example/g01078/impl.RenameElements: [a=0, names=1, a=2, names=3] -/
def c_impl_RenameElements : ACode :=
  (.seq (.reg [⟨none, .box 2 (.t 0)⟩,
     ⟨none, .alc 4 (.agg [.int .i64 0, .nilsl 2])⟩,
     ⟨none, .asg 5 (.c (.bool false))⟩])
  (.seq (.seq (.reg [⟨none, .ld 6 2 true (.t 2)⟩,
       ⟨none, .call 7 f_impl_IsAlgebra [((.t 6), false)]⟩,
       ⟨none, .un 8 .not (.t 7)⟩,
       ⟨none, .asg 9 (.t 8)⟩,
       ⟨some (9, false), .mov 10 (.t 1)⟩,
       ⟨some (9, false), .fadr 11 0 (.t 2)⟩,
       ⟨some (9, false), .ld 12 1 false (.t 11)⟩,
       ⟨some (9, false), .call 13 f_impl_isOrder [((.t 10), false), ((.t 12), false)]⟩,
       ⟨some (9, false), .un 14 .not (.t 13)⟩,
       ⟨none, .pick 15 (.t 9) (.c (.bool true)) (.t 14)⟩])
    (.drop [6, 7, 8, 9, 10, 11, 12, 13, 14] (.cond (.t 15) (.seq (.reg [⟨none, .bld 16 [.int .i64 0, .nilsl 2] []⟩,
         ⟨none, .st 2 (.t 4) (.t 16)⟩,
         ⟨none, .asg 5 (.c (.bool false))⟩])
      (.drop [16] .ret))
     .skip)))
   (.drop [6, 7, 8, 9, 10, 11, 12, 13, 14, 15, 16] (.seq (.reg [⟨none, .ld 17 2 true (.t 2)⟩,
       ⟨none, .mov 18 (.t 1)⟩,
       ⟨none, .call 19 f_impl_rename [((.t 17), false), ((.t 18), false)]⟩,
       ⟨none, .st 2 (.t 4) (.t 19)⟩,
       ⟨none, .asg 5 (.c (.bool true))⟩])
    (.drop [17, 18, 19] .ret)))))
abbrev r_impl_RenameElements : List RS := [.c 4 2 true, .t 5]
theorem k_impl_RenameElements : fitsF Try.prog f_impl_RenameElements 20 c_impl_RenameElements r_impl_RenameElements = true := by kernel_rfl

end Go.Proofs.Ythcnmahjhahafab.Ax
