/-
  The small code of the functions, written by program; that the program's code is this one, the kernel looks at.
-/
import Derived.Test.YthcnmahjhahafaaAx3
import Derived.Test.YthcnmahjhahafaaProg
import Derived.KernelRfl
import Derived.Test.YthcnmahjhahafaaNum
namespace Go.Proofs.Ythcnmahjhahafaa.Ax
open Go
set_option maxRecDepth 100000

/- loop.example/g01078/laws.eqIntS: [a=0, b=1, a=2, b=3, i=5] -/
def c_laws_eqIntS_l1 : ACode :=
  (.seq (.seq (.reg [⟨none, .mov 11 (.t 5)⟩,
      ⟨none, .mov 12 (.t 0)⟩,
      ⟨none, .len 13 (.t 12)⟩,
      ⟨none, .bin 14 .lss (.t 11) (.t 13)⟩])
   (.drop [11, 12, 13] (.cond (.t 14) .skip
    (.exit 0))))
  (.drop [11, 12, 13, 14] (.seq (.block 1 (.seq (.dreg [(⟨none, .mov 17 (.t 0)⟩, []),
        (⟨none, .mov 18 (.t 5)⟩, [17]),
        (⟨none, .iad 19 1 (.t 17) (.t 18)⟩, []),
        (⟨none, .ld 20 1 false (.t 19)⟩, []),
        (⟨none, .mov 21 (.t 1)⟩, [17, 18, 19, 20]),
        (⟨none, .mov 22 (.t 5)⟩, [17, 18, 19, 20, 21]),
        (⟨none, .iad 23 1 (.t 21) (.t 22)⟩, [17, 18, 19, 20]),
        (⟨none, .ld 24 1 false (.t 23)⟩, [17, 18, 19, 20])]
       [⟨none, .bin 25 .neq (.t 20) (.t 24)⟩])
     (.drop [17, 18, 19, 20, 21, 22, 23, 24] (.cond (.t 25) (.seq (.reg [⟨none, .asg 4 (.c (.bool false))⟩])
       .ret)
      .skip))))
   (.drop [17, 18, 19, 20, 21, 22, 23, 24, 25] (.reg [⟨none, .mov 15 (.t 5)⟩,
      ⟨none, .bin 16 .add (.t 15) (.c (.int .i64 1))⟩,
      ⟨none, .asg 5 (.t 16)⟩])))))
def c_laws_eqIntS : ACode :=
  (.seq (.reg [⟨none, .asg 4 (.c (.bool false))⟩])
  (.seq (.seq (.reg [⟨none, .mov 6 (.t 0)⟩,
       ⟨none, .len 7 (.t 6)⟩,
       ⟨none, .mov 8 (.t 1)⟩,
       ⟨none, .len 9 (.t 8)⟩,
       ⟨none, .bin 10 .neq (.t 7) (.t 9)⟩])
    (.drop [6, 7, 8, 9] (.cond (.t 10) (.seq (.reg [⟨none, .asg 4 (.c (.bool false))⟩])
      .ret)
     .skip)))
   (.drop [6, 7, 8, 9, 10] (.seq (.seq (.reg [⟨none, .asg 5 (.c (.int .i64 0))⟩])
     (.block 0 (.loop c_laws_eqIntS_l1)))
    (.drop [5, 11, 12, 13, 14, 17, 18, 19, 20, 21, 22, 23, 24, 25, 15, 16] (.seq (.reg [⟨none, .asg 4 (.c (.bool true))⟩])
     .ret))))))
abbrev r_laws_eqIntS : List RS := [.t 4]
theorem k_laws_eqIntS : fitsF Try.prog f_laws_eqIntS 26 c_laws_eqIntS r_laws_eqIntS = true := by kernel_rfl

/- loop.example/g01078/laws.markIntS: [a=0, k=1, a=2, k=3, i=5] -/
def c_laws_markIntS_l1 : ACode :=
  (.seq (.seq (.reg [⟨none, .mov 6 (.t 5)⟩,
      ⟨none, .mov 7 (.t 0)⟩,
      ⟨none, .len 8 (.t 7)⟩,
      ⟨none, .bin 9 .lss (.t 6) (.t 8)⟩])
   (.drop [6, 7, 8] (.cond (.t 9) .skip
    (.exit 0))))
  (.drop [6, 7, 8, 9] (.seq (.block 1 (.seq (.reg [⟨none, .mov 12 (.t 0)⟩,
        ⟨none, .mov 13 (.t 5)⟩,
        ⟨none, .mov 14 (.t 1)⟩,
        ⟨none, .iad 15 1 (.t 12) (.t 13)⟩,
        ⟨none, .st 1 (.t 15) (.t 14)⟩])
     (.drop [12, 13, 14, 15] (.reg [⟨none, .mov 16 (.t 1)⟩,
        ⟨none, .bin 17 .add (.t 16) (.c (.int .i64 1))⟩,
        ⟨none, .asg 1 (.t 17)⟩]))))
   (.drop [12, 13, 14, 15, 16, 17] (.reg [⟨none, .mov 10 (.t 5)⟩,
      ⟨none, .bin 11 .add (.t 10) (.c (.int .i64 1))⟩,
      ⟨none, .asg 5 (.t 11)⟩])))))
def c_laws_markIntS : ACode :=
  (.seq (.reg [⟨none, .asg 4 (.c (.int .i64 0))⟩])
  (.seq (.seq (.reg [⟨none, .asg 5 (.c (.int .i64 0))⟩])
    (.block 0 (.loop c_laws_markIntS_l1)))
   (.drop [5, 6, 7, 8, 9, 12, 13, 14, 15, 16, 17, 10, 11] (.seq (.reg [⟨none, .mov 18 (.t 1)⟩,
       ⟨none, .asg 4 (.t 18)⟩])
    (.drop [18] .ret)))))
abbrev r_laws_markIntS : List RS := [.t 4]
theorem k_laws_markIntS : fitsF Try.prog f_laws_markIntS 19 c_laws_markIntS r_laws_markIntS = true := by kernel_rfl

/- loop.example/g01078/laws.heldIntS: [a=0, k=1, a=2, k=3, i=5] -/
def c_laws_heldIntS_l1 : ACode :=
  (.seq (.seq (.reg [⟨none, .mov 6 (.t 5)⟩,
      ⟨none, .mov 7 (.t 0)⟩,
      ⟨none, .len 8 (.t 7)⟩,
      ⟨none, .bin 9 .lss (.t 6) (.t 8)⟩])
   (.drop [6, 7, 8] (.cond (.t 9) .skip
    (.exit 0))))
  (.drop [6, 7, 8, 9] (.seq (.block 1 (.seq (.seq (.reg [⟨none, .mov 12 (.t 0)⟩,
         ⟨none, .mov 13 (.t 5)⟩,
         ⟨none, .iad 14 1 (.t 12) (.t 13)⟩,
         ⟨none, .ld 15 1 false (.t 14)⟩,
         ⟨none, .mov 16 (.t 1)⟩,
         ⟨none, .bin 17 .neq (.t 15) (.t 16)⟩])
      (.drop [12, 13, 14, 15, 16] (.cond (.t 17) (.seq (.reg [⟨none, .asg 4 (.c (.int .i64 (-1)))⟩])
        .ret)
       .skip)))
     (.drop [12, 13, 14, 15, 16, 17] (.reg [⟨none, .mov 18 (.t 1)⟩,
        ⟨none, .bin 19 .add (.t 18) (.c (.int .i64 1))⟩,
        ⟨none, .asg 1 (.t 19)⟩]))))
   (.drop [12, 13, 14, 15, 16, 17, 18, 19] (.reg [⟨none, .mov 10 (.t 5)⟩,
      ⟨none, .bin 11 .add (.t 10) (.c (.int .i64 1))⟩,
      ⟨none, .asg 5 (.t 11)⟩])))))
def c_laws_heldIntS : ACode :=
  (.seq (.reg [⟨none, .asg 4 (.c (.int .i64 0))⟩])
  (.seq (.seq (.reg [⟨none, .asg 5 (.c (.int .i64 0))⟩])
    (.block 0 (.loop c_laws_heldIntS_l1)))
   (.drop [5, 6, 7, 8, 9, 12, 13, 14, 15, 16, 17, 18, 19, 10, 11] (.seq (.reg [⟨none, .mov 20 (.t 1)⟩,
       ⟨none, .asg 4 (.t 20)⟩])
    (.drop [20] .ret)))))
abbrev r_laws_heldIntS : List RS := [.t 4]
theorem k_laws_heldIntS : fitsF Try.prog f_laws_heldIntS 21 c_laws_heldIntS r_laws_heldIntS = true := by kernel_rfl

/- loop.example/g01078/laws.toIntS: [a=0, a=1, out=3, i=4] -/
def c_laws_toIntS_l1 : ACode :=
  (.seq (.seq (.reg [⟨none, .mov 8 (.t 4)⟩,
      ⟨none, .mov 9 (.t 0)⟩,
      ⟨none, .len 10 (.t 9)⟩,
      ⟨none, .bin 11 .lss (.t 8) (.t 10)⟩])
   (.drop [8, 9, 10] (.cond (.t 11) .skip
    (.exit 0))))
  (.drop [8, 9, 10, 11] (.seq (.block 1 (.reg [⟨none, .mov 14 (.t 3)⟩,
       ⟨none, .mov 15 (.t 4)⟩,
       ⟨none, .mov 16 (.t 0)⟩,
       ⟨none, .mov 17 (.t 4)⟩,
       ⟨none, .iad 18 1 (.t 16) (.t 17)⟩,
       ⟨none, .ld 19 1 false (.t 18)⟩,
       ⟨none, .iad 20 1 (.t 14) (.t 15)⟩,
       ⟨none, .st 1 (.t 20) (.t 19)⟩]))
   (.drop [14, 15, 16, 17, 18, 19, 20] (.reg [⟨none, .mov 12 (.t 4)⟩,
      ⟨none, .bin 13 .add (.t 12) (.c (.int .i64 1))⟩,
      ⟨none, .asg 4 (.t 13)⟩])))))
def c_laws_toIntS : ACode :=
  (.seq (.reg [⟨none, .asg 2 (.c (.nilsl 1))⟩])
  (.seq (.reg [⟨none, .mov 5 (.t 0)⟩,
      ⟨none, .len 6 (.t 5)⟩,
      ⟨none, .mk 7 1 (.int .i64 0) (.t 6)⟩,
      ⟨none, .asg 3 (.t 7)⟩])
   (.drop [5, 6, 7] (.seq (.seq (.reg [⟨none, .asg 4 (.c (.int .i64 0))⟩])
     (.block 0 (.loop c_laws_toIntS_l1)))
    (.drop [4, 8, 9, 10, 11, 14, 15, 16, 17, 18, 19, 20, 12, 13] (.seq (.reg [⟨none, .mov 21 (.t 3)⟩,
        ⟨none, .asg 2 (.t 21)⟩])
     (.drop [21] .ret)))))))
abbrev r_laws_toIntS : List RS := [.t 2]
theorem k_laws_toIntS : fitsF Try.prog f_laws_toIntS 22 c_laws_toIntS r_laws_toIntS = true := by kernel_rfl

/- loop.example/g01078/laws.szIntA2S: [a=0, left=1, a=2, left=3] -/
def c_laws_szIntA2S : ACode :=
  (.seq (.reg [⟨none, .asg 4 (.c (.int .i64 0))⟩])
  (.seq (.reg [⟨none, .mov 5 (.t 1)⟩,
      ⟨none, .mov 6 (.t 0)⟩,
      ⟨none, .len 7 (.t 6)⟩,
      ⟨none, .bin 8 .sub (.t 5) (.t 7)⟩,
      ⟨none, .asg 1 (.t 8)⟩])
   (.drop [5, 6, 7, 8] (.seq (.seq (.reg [⟨none, .mov 9 (.t 1)⟩,
        ⟨none, .bin 10 .lss (.t 9) (.c (.int .i64 0))⟩])
     (.drop [9] (.cond (.t 10) (.seq (.reg [⟨none, .asg 4 (.c (.int .i64 (-1)))⟩])
       .ret)
      .skip)))
    (.drop [9, 10] (.seq (.reg [⟨none, .mov 11 (.t 1)⟩,
        ⟨none, .asg 4 (.t 11)⟩])
     (.drop [11] .ret)))))))
abbrev r_laws_szIntA2S : List RS := [.t 4]
theorem k_laws_szIntA2S : fitsF Try.prog f_laws_szIntA2S 12 c_laws_szIntA2S r_laws_szIntA2S = true := by kernel_rfl

/- loop.example/g01078/laws.markIntA2S: [a=0, k=1, a=2, k=3, i=5, j=6] -/
def c_laws_markIntA2S_l1 : ACode :=
  (.seq (.seq (.reg [⟨none, .mov 13 (.t 6)⟩,
      ⟨none, .bin 14 .lss (.t 13) (.c (.int .i64 2))⟩])
   (.drop [13] (.cond (.t 14) .skip
    (.exit 2))))
  (.drop [13, 14] (.seq (.block 3 (.seq (.reg [⟨none, .mov 17 (.t 0)⟩,
        ⟨none, .mov 18 (.t 5)⟩,
        ⟨none, .mov 19 (.t 6)⟩,
        ⟨none, .mov 20 (.t 1)⟩,
        ⟨none, .iad 21 2 (.t 17) (.t 18)⟩,
        ⟨none, .aad 22 1 2 (.t 21) (.t 19)⟩,
        ⟨none, .st 1 (.t 22) (.t 20)⟩])
     (.drop [17, 18, 19, 20, 21, 22] (.reg [⟨none, .mov 23 (.t 1)⟩,
        ⟨none, .bin 24 .add (.t 23) (.c (.int .i64 1))⟩,
        ⟨none, .asg 1 (.t 24)⟩]))))
   (.drop [17, 18, 19, 20, 21, 22, 23, 24] (.reg [⟨none, .mov 15 (.t 6)⟩,
      ⟨none, .bin 16 .add (.t 15) (.c (.int .i64 1))⟩,
      ⟨none, .asg 6 (.t 16)⟩])))))
def c_laws_markIntA2S_l2 : ACode :=
  (.seq (.seq (.reg [⟨none, .mov 7 (.t 5)⟩,
      ⟨none, .mov 8 (.t 0)⟩,
      ⟨none, .len 9 (.t 8)⟩,
      ⟨none, .bin 10 .lss (.t 7) (.t 9)⟩])
   (.drop [7, 8, 9] (.cond (.t 10) .skip
    (.exit 0))))
  (.drop [7, 8, 9, 10] (.seq (.block 1 (.seq (.reg [⟨none, .asg 6 (.c (.int .i64 0))⟩])
     (.block 2 (.loop c_laws_markIntA2S_l1))))
   (.drop [6, 13, 14, 17, 18, 19, 20, 21, 22, 23, 24, 15, 16] (.reg [⟨none, .mov 11 (.t 5)⟩,
      ⟨none, .bin 12 .add (.t 11) (.c (.int .i64 1))⟩,
      ⟨none, .asg 5 (.t 12)⟩])))))
def c_laws_markIntA2S : ACode :=
  (.seq (.reg [⟨none, .asg 4 (.c (.int .i64 0))⟩])
  (.seq (.seq (.reg [⟨none, .asg 5 (.c (.int .i64 0))⟩])
    (.block 0 (.loop c_laws_markIntA2S_l2)))
   (.drop [5, 7, 8, 9, 10, 6, 13, 14, 17, 18, 19, 20, 21, 22, 23, 24, 15, 16, 11, 12] (.seq (.reg [⟨none, .mov 25 (.t 1)⟩,
       ⟨none, .asg 4 (.t 25)⟩])
    (.drop [25] .ret)))))
abbrev r_laws_markIntA2S : List RS := [.t 4]
theorem k_laws_markIntA2S : fitsF Try.prog f_laws_markIntA2S 26 c_laws_markIntA2S r_laws_markIntA2S = true := by kernel_rfl

/- (loop.example/g01078/impl.order).less: [o=0, x=1, y=2, o=3, x=4, y=5] -/
def c_impl_order_less : ACode :=
  (.seq (.reg [⟨none, .asg 6 (.c (.bool false))⟩])
  (.seq (.reg [⟨none, .mov 7 (.t 1)⟩,
      ⟨none, .mov 8 (.t 2)⟩,
      ⟨none, .bin 9 .neq (.t 7) (.t 8)⟩,
      ⟨none, .asg 10 (.t 9)⟩,
      ⟨some (10, true), .mov 11 (.t 0)⟩,
      ⟨some (10, true), .mov 12 (.t 1)⟩,
      ⟨some (10, true), .iad 13 1 (.t 11) (.t 12)⟩,
      ⟨some (10, true), .ld 14 1 false (.t 13)⟩,
      ⟨some (10, true), .mov 15 (.t 2)⟩,
      ⟨some (10, true), .iad 16 1 (.t 14) (.t 15)⟩,
      ⟨some (10, true), .ld 17 1 false (.t 16)⟩,
      ⟨none, .pick 18 (.t 10) (.t 17) (.c (.bool false))⟩,
      ⟨none, .asg 6 (.t 18)⟩])
   (.drop [7, 8, 9, 10, 11, 12, 13, 14, 15, 16, 17, 18] .ret)))
abbrev r_impl_order_less : List RS := [.t 6]
theorem k_impl_order_less : fitsF Try.prog f_impl_order_less 19 c_impl_order_less r_impl_order_less = true := by kernel_rfl

/- (loop.example/g01078/impl.order).those: [o=0, so=1, o=2, so=3, list=5, x=6] -/
def c_impl_order_those_l1 : ACode :=
  (.seq (.reg [⟨none, .bin 11 .lss (.t 10) (.t 9)⟩])
  (.seq (.cond (.t 11) .skip
    (.exit 0))
   (.seq (.block 1 (.seq (.reg [⟨none, .mov 12 (.t 10)⟩,
         ⟨none, .asg 6 (.t 12)⟩])
      (.drop [12] (.seq (.reg [⟨none, .mov 13 (.t 1)⟩,
          ⟨none, .mov 14 (.t 6)⟩,
          ⟨none, .cally 15 (.t 13) [(.t 14)]⟩])
       (.drop [13, 14] (.cond (.t 15) (.reg [⟨none, .mov 16 (.t 5)⟩,
           ⟨none, .mov 17 (.t 6)⟩,
           ⟨none, .bsl 18 1 [(.t 17)]⟩,
           ⟨none, .app 19 1 (.t 16) (.t 18)⟩,
           ⟨none, .asg 5 (.t 19)⟩])
        .skip))))))
    (.drop [12, 6, 13, 14, 15, 16, 17, 18, 19] (.reg [⟨none, .bin 20 .add (.t 10) (.c (.int .i64 1))⟩,
       ⟨none, .asg 10 (.t 20)⟩])))))
def c_impl_order_those : ACode :=
  (.seq (.reg [⟨none, .asg 4 (.c (.nilsl 1))⟩])
  (.seq (.reg [⟨none, .bsl 7 1 []⟩,
      ⟨none, .asg 5 (.t 7)⟩])
   (.drop [7] (.seq (.seq (.reg [⟨none, .mov 8 (.t 0)⟩,
        ⟨none, .len 9 (.t 8)⟩,
        ⟨none, .mov 10 (.c (.int .i64 0))⟩])
     (.drop [8] (.block 0 (.loop c_impl_order_those_l1))))
    (.drop [8, 9, 10, 11, 12, 6, 13, 14, 15, 16, 17, 18, 19, 20] (.seq (.reg [⟨none, .mov 21 (.t 5)⟩,
        ⟨none, .asg 4 (.t 21)⟩])
     (.drop [21] .ret)))))))
abbrev r_impl_order_those : List RS := [.t 4]
theorem k_impl_order_those : fitsF Try.prog f_impl_order_those 22 c_impl_order_those r_impl_order_those = true := by kernel_rfl

/- (loop.example/g01078/impl.order).poset: [o=0, o=1, p=3, x=4, list=5, y=6] -/
def c_impl_order_poset_l1 : ACode :=
  (.seq (.reg [⟨none, .bin 18 .lss (.t 17) (.t 16)⟩])
  (.seq (.cond (.t 18) .skip
    (.exit 2))
   (.seq (.block 3 (.seq (.reg [⟨none, .mov 19 (.t 17)⟩,
         ⟨none, .asg 6 (.t 19)⟩])
      (.drop [19] (.seq (.reg [⟨none, .mov 20 (.t 0)⟩,
          ⟨none, .mov 21 (.t 6)⟩,
          ⟨none, .iad 22 1 (.t 20) (.t 21)⟩,
          ⟨none, .ld 23 1 false (.t 22)⟩,
          ⟨none, .mov 24 (.t 4)⟩,
          ⟨none, .iad 25 1 (.t 23) (.t 24)⟩,
          ⟨none, .ld 26 1 false (.t 25)⟩])
       (.drop [20, 21, 22, 23, 24, 25] (.cond (.t 26) (.reg [⟨none, .mov 27 (.t 5)⟩,
           ⟨none, .mov 28 (.t 6)⟩,
           ⟨none, .bsl 29 1 [(.t 28)]⟩,
           ⟨none, .app 30 1 (.t 27) (.t 29)⟩,
           ⟨none, .asg 5 (.t 30)⟩])
        .skip))))))
    (.drop [19, 6, 20, 21, 22, 23, 24, 25, 26, 27, 28, 29, 30] (.reg [⟨none, .bin 31 .add (.t 17) (.c (.int .i64 1))⟩,
       ⟨none, .asg 17 (.t 31)⟩])))))
def c_impl_order_poset_l2 : ACode :=
  (.seq (.reg [⟨none, .bin 12 .lss (.t 11) (.t 10)⟩])
  (.seq (.cond (.t 12) .skip
    (.exit 0))
   (.seq (.block 1 (.seq (.reg [⟨none, .mov 13 (.t 11)⟩,
         ⟨none, .asg 4 (.t 13)⟩])
      (.drop [13] (.seq (.reg [⟨none, .bsl 14 1 []⟩,
          ⟨none, .asg 5 (.t 14)⟩])
       (.drop [14] (.seq (.seq (.reg [⟨none, .mov 15 (.t 0)⟩,
            ⟨none, .len 16 (.t 15)⟩,
            ⟨none, .mov 17 (.c (.int .i64 0))⟩])
         (.drop [15] (.block 2 (.loop c_impl_order_poset_l1))))
        (.drop [15, 16, 17, 18, 19, 6, 20, 21, 22, 23, 24, 25, 26, 27, 28, 29, 30, 31] (.reg [⟨none, .fadr 32 0 (.t 3)⟩,
           ⟨none, .ld 33 1 false (.t 32)⟩,
           ⟨none, .mov 34 (.t 5)⟩,
           ⟨none, .bsl 35 1 [(.t 34)]⟩,
           ⟨none, .app 36 1 (.t 33) (.t 35)⟩,
           ⟨none, .fadr 37 0 (.t 3)⟩,
           ⟨none, .st 1 (.t 37) (.t 36)⟩]))))))))
    (.drop [13, 4, 14, 5, 15, 16, 17, 18, 19, 6, 20, 21, 22, 23, 24, 25, 26, 27, 28, 29, 30, 31, 32, 33, 34, 35, 36, 37] (.reg [⟨none, .bin 38 .add (.t 11) (.c (.int .i64 1))⟩,
       ⟨none, .asg 11 (.t 38)⟩])))))
def c_impl_order_poset : ACode :=
  (.seq (.reg [⟨none, .alc 2 (.agg [.nilsl 1])⟩])
  (.seq (.reg [⟨none, .bsl 7 1 []⟩,
      ⟨none, .bld 8 [.nilsl 1] [(0, 1, (.t 7))]⟩,
      ⟨none, .alc 3 (.agg [.nilsl 1])⟩,
      ⟨none, .st 1 (.t 3) (.t 8)⟩])
   (.drop [7, 8] (.seq (.seq (.reg [⟨none, .mov 9 (.t 0)⟩,
        ⟨none, .len 10 (.t 9)⟩,
        ⟨none, .mov 11 (.c (.int .i64 0))⟩])
     (.drop [9] (.block 0 (.loop c_impl_order_poset_l2))))
    (.drop [9, 10, 11, 12, 13, 4, 14, 5, 15, 16, 17, 18, 19, 6, 20, 21, 22, 23, 24, 25, 26, 27, 28, 29, 30, 31, 32, 33, 34, 35, 36, 37, 38] (.seq (.reg [⟨none, .ld 39 1 true (.t 3)⟩,
        ⟨none, .st 1 (.t 2) (.t 39)⟩])
     (.drop [39] .ret)))))))
abbrev r_impl_order_poset : List RS := [.c 2 1 true]
theorem k_impl_order_poset : fitsF Try.prog f_impl_order_poset 40 c_impl_order_poset r_impl_order_poset = true := by kernel_rfl

/- loop.example/g01078/spec.l1In: [x=0, a=1, b=2, x=3, a=4, b=5] -/
def c_spec_l1In : ACode :=
  (.seq (.reg [⟨none, .asg 6 (.c (.bool false))⟩])
  (.seq (.reg [⟨none, .mov 7 (.t 0)⟩,
      ⟨none, .mov 8 (.t 1)⟩,
      ⟨none, .bin 9 .geq (.t 7) (.t 8)⟩,
      ⟨none, .asg 10 (.t 9)⟩,
      ⟨some (10, true), .mov 11 (.t 0)⟩,
      ⟨some (10, true), .mov 12 (.t 2)⟩,
      ⟨some (10, true), .bin 13 .leq (.t 11) (.t 12)⟩,
      ⟨none, .pick 14 (.t 10) (.t 13) (.c (.bool false))⟩,
      ⟨none, .asg 6 (.t 14)⟩])
   (.drop [7, 8, 9, 10, 11, 12, 13, 14] .ret)))
abbrev r_spec_l1In : List RS := [.t 6]
theorem k_spec_l1In : fitsF Try.prog f_spec_l1In 15 c_spec_l1In r_spec_l1In = true := by kernel_rfl

/- loop.example/g01078/spec.l23From: [n=0, pairs=1, n=2, pairs=3, leq=5, x=6, row=7, i=8, z=9, x=10, y=11, p=12, y=13, below=14, x=15] -/
def c_spec_l23From_l1 : ACode :=
  (.seq (.seq (.reg [⟨none, .mov 17 (.t 6)⟩,
      ⟨none, .mov 18 (.t 0)⟩,
      ⟨none, .bin 19 .lss (.t 17) (.t 18)⟩])
   (.drop [17, 18] (.cond (.t 19) .skip
    (.exit 0))))
  (.drop [17, 18, 19] (.seq (.block 1 (.seq (.reg [⟨none, .mov 22 (.t 0)⟩,
        ⟨none, .mk 23 1 (.bool false) (.t 22)⟩,
        ⟨none, .asg 7 (.t 23)⟩])
     (.drop [22, 23] (.seq (.reg [⟨none, .mov 24 (.t 7)⟩,
         ⟨none, .mov 25 (.t 6)⟩,
         ⟨none, .iad 26 1 (.t 24) (.t 25)⟩,
         ⟨none, .st 1 (.t 26) (.c (.bool true))⟩])
      (.drop [24, 25, 26] (.reg [⟨none, .mov 27 (.t 5)⟩,
         ⟨none, .mov 28 (.t 7)⟩,
         ⟨none, .bsl 29 1 [(.t 28)]⟩,
         ⟨none, .app 30 1 (.t 27) (.t 29)⟩,
         ⟨none, .asg 5 (.t 30)⟩]))))))
   (.drop [22, 23, 7, 24, 25, 26, 27, 28, 29, 30] (.reg [⟨none, .mov 20 (.t 6)⟩,
      ⟨none, .bin 21 .add (.t 20) (.c (.int .i64 1))⟩,
      ⟨none, .asg 6 (.t 21)⟩])))))
def c_spec_l23From_l2 : ACode :=
  (.seq (.seq (.reg [⟨none, .mov 31 (.t 8)⟩,
      ⟨none, .mov 32 (.t 1)⟩,
      ⟨none, .len 33 (.t 32)⟩,
      ⟨none, .bin 34 .lss (.t 31) (.t 33)⟩])
   (.drop [31, 32, 33] (.cond (.t 34) .skip
    (.exit 2))))
  (.drop [31, 32, 33, 34] (.seq (.block 3 (.dreg [(⟨none, .mov 37 (.t 5)⟩, []),
       (⟨none, .mov 38 (.t 1)⟩, [37]),
       (⟨none, .mov 39 (.t 8)⟩, [37, 38]),
       (⟨none, .iad 40 2 (.t 38) (.t 39)⟩, [37]),
       (⟨none, .aad 41 1 2 (.t 40) (.c (.int .i64 0))⟩, [37]),
       (⟨none, .ld 42 1 false (.t 41)⟩, [37]),
       (⟨none, .iad 43 1 (.t 37) (.t 42)⟩, []),
       (⟨none, .ld 44 1 false (.t 43)⟩, []),
       (⟨none, .mov 45 (.t 1)⟩, [37, 38, 39, 40, 41, 42, 43, 44]),
       (⟨none, .mov 46 (.t 8)⟩, [37, 38, 39, 40, 41, 42, 43, 44, 45]),
       (⟨none, .iad 47 2 (.t 45) (.t 46)⟩, [37, 38, 39, 40, 41, 42, 43, 44]),
       (⟨none, .aad 48 1 2 (.t 47) (.c (.int .i64 1))⟩, [37, 38, 39, 40, 41, 42, 43, 44]),
       (⟨none, .ld 49 1 false (.t 48)⟩, [37, 38, 39, 40, 41, 42, 43, 44])]
      [⟨none, .iad 50 1 (.t 44) (.t 49)⟩,
       ⟨none, .st 1 (.t 50) (.c (.bool true))⟩]))
   (.drop [37, 38, 39, 40, 41, 42, 43, 44, 45, 46, 47, 48, 49, 50] (.reg [⟨none, .mov 35 (.t 8)⟩,
      ⟨none, .bin 36 .add (.t 35) (.c (.int .i64 1))⟩,
      ⟨none, .asg 8 (.t 36)⟩])))))
def c_spec_l23From_l3 : ACode :=
  (.seq (.seq (.reg [⟨none, .mov 61 (.t 11)⟩,
      ⟨none, .mov 62 (.t 0)⟩,
      ⟨none, .bin 63 .lss (.t 61) (.t 62)⟩])
   (.drop [61, 62] (.cond (.t 63) .skip
    (.exit 8))))
  (.drop [61, 62, 63] (.seq (.block 9 (.dreg [(⟨none, .mov 66 (.t 5)⟩, []),
       (⟨none, .mov 67 (.t 10)⟩, [66]),
       (⟨none, .iad 68 1 (.t 66) (.t 67)⟩, []),
       (⟨none, .ld 69 1 false (.t 68)⟩, []),
       (⟨none, .mov 70 (.t 11)⟩, [66, 67, 68, 69]),
       (⟨none, .mov 71 (.t 5)⟩, [66, 67, 68, 69, 70]),
       (⟨none, .mov 72 (.t 10)⟩, [66, 67, 68, 69, 70, 71]),
       (⟨none, .iad 73 1 (.t 71) (.t 72)⟩, [66, 67, 68, 69, 70]),
       (⟨none, .ld 74 1 false (.t 73)⟩, [66, 67, 68, 69, 70]),
       (⟨none, .mov 75 (.t 11)⟩, [66, 67, 68, 69, 70, 71, 72, 73, 74]),
       (⟨none, .iad 76 1 (.t 74) (.t 75)⟩, [66, 67, 68, 69, 70]),
       (⟨none, .ld 77 1 false (.t 76)⟩, [66, 67, 68, 69, 70]),
       (⟨none, .asg 78 (.t 77)⟩, [66, 67, 68, 69, 70]),
       (⟨some (78, false), .mov 79 (.t 5)⟩, [66, 67, 68, 69, 70]),
       (⟨some (78, false), .mov 80 (.t 10)⟩, [66, 67, 68, 69, 70, 79]),
       (⟨some (78, false), .iad 81 1 (.t 79) (.t 80)⟩, [66, 67, 68, 69, 70]),
       (⟨some (78, false), .ld 82 1 false (.t 81)⟩, [66, 67, 68, 69, 70]),
       (⟨some (78, false), .mov 83 (.t 9)⟩, [66, 67, 68, 69, 70, 79, 80, 81, 82]),
       (⟨some (78, false), .iad 84 1 (.t 82) (.t 83)⟩, [66, 67, 68, 69, 70]),
       (⟨some (78, false), .ld 85 1 false (.t 84)⟩, [66, 67, 68, 69, 70]),
       (⟨some (78, false), .asg 86 (.t 85)⟩, [66, 67, 68, 69, 70]),
       (⟨some (86, true), .mov 87 (.t 5)⟩, [66, 67, 68, 69, 70]),
       (⟨some (86, true), .mov 88 (.t 9)⟩, [66, 67, 68, 69, 70, 87]),
       (⟨some (86, true), .iad 89 1 (.t 87) (.t 88)⟩, [66, 67, 68, 69, 70]),
       (⟨some (86, true), .ld 90 1 false (.t 89)⟩, [66, 67, 68, 69, 70]),
       (⟨some (86, true), .mov 91 (.t 11)⟩, [66, 67, 68, 69, 70, 87, 88, 89, 90]),
       (⟨some (86, true), .iad 92 1 (.t 90) (.t 91)⟩, [66, 67, 68, 69, 70]),
       (⟨some (86, true), .ld 93 1 false (.t 92)⟩, [66, 67, 68, 69, 70]),
       (⟨some (78, false), .pick 94 (.t 86) (.t 93) (.c (.bool false))⟩, [66, 67, 68, 69, 70]),
       (⟨none, .pick 95 (.t 78) (.c (.bool true)) (.t 94)⟩, [66, 67, 68, 69, 70])]
      [⟨none, .iad 96 1 (.t 69) (.t 70)⟩,
       ⟨none, .st 1 (.t 96) (.t 95)⟩]))
   (.drop [66, 67, 68, 69, 70, 71, 72, 73, 74, 75, 76, 77, 78, 79, 80, 81, 82, 83, 84, 85, 86, 87, 88, 89, 90, 91, 92, 93, 94, 95, 96] (.reg [⟨none, .mov 64 (.t 11)⟩,
      ⟨none, .bin 65 .add (.t 64) (.c (.int .i64 1))⟩,
      ⟨none, .asg 11 (.t 65)⟩])))))
def c_spec_l23From_l4 : ACode :=
  (.seq (.seq (.reg [⟨none, .mov 56 (.t 10)⟩,
      ⟨none, .mov 57 (.t 0)⟩,
      ⟨none, .bin 58 .lss (.t 56) (.t 57)⟩])
   (.drop [56, 57] (.cond (.t 58) .skip
    (.exit 6))))
  (.drop [56, 57, 58] (.seq (.block 7 (.seq (.reg [⟨none, .asg 11 (.c (.int .i64 0))⟩])
     (.block 8 (.loop c_spec_l23From_l3))))
   (.drop [11, 61, 62, 63, 66, 67, 68, 69, 70, 71, 72, 73, 74, 75, 76, 77, 78, 79, 80, 81, 82, 83, 84, 85, 86, 87, 88, 89, 90, 91, 92, 93, 94, 95, 96, 64, 65] (.reg [⟨none, .mov 59 (.t 10)⟩,
      ⟨none, .bin 60 .add (.t 59) (.c (.int .i64 1))⟩,
      ⟨none, .asg 10 (.t 60)⟩])))))
def c_spec_l23From_l5 : ACode :=
  (.seq (.seq (.reg [⟨none, .mov 51 (.t 9)⟩,
      ⟨none, .mov 52 (.t 0)⟩,
      ⟨none, .bin 53 .lss (.t 51) (.t 52)⟩])
   (.drop [51, 52] (.cond (.t 53) .skip
    (.exit 4))))
  (.drop [51, 52, 53] (.seq (.block 5 (.seq (.reg [⟨none, .asg 10 (.c (.int .i64 0))⟩])
     (.block 6 (.loop c_spec_l23From_l4))))
   (.drop [10, 56, 57, 58, 11, 61, 62, 63, 66, 67, 68, 69, 70, 71, 72, 73, 74, 75, 76, 77, 78, 79, 80, 81, 82, 83, 84, 85, 86, 87, 88, 89, 90, 91, 92, 93, 94, 95, 96, 64, 65, 59, 60] (.reg [⟨none, .mov 54 (.t 9)⟩,
      ⟨none, .bin 55 .add (.t 54) (.c (.int .i64 1))⟩,
      ⟨none, .asg 9 (.t 55)⟩])))))
def c_spec_l23From_l6 : ACode :=
  (.seq (.seq (.reg [⟨none, .mov 105 (.t 15)⟩,
      ⟨none, .mov 106 (.t 0)⟩,
      ⟨none, .bin 107 .lss (.t 105) (.t 106)⟩])
   (.drop [105, 106] (.cond (.t 107) .skip
    (.exit 12))))
  (.drop [105, 106, 107] (.seq (.block 13 (.seq (.reg [⟨none, .mov 110 (.t 5)⟩,
        ⟨none, .mov 111 (.t 15)⟩,
        ⟨none, .iad 112 1 (.t 110) (.t 111)⟩,
        ⟨none, .ld 113 1 false (.t 112)⟩,
        ⟨none, .mov 114 (.t 13)⟩,
        ⟨none, .iad 115 1 (.t 113) (.t 114)⟩,
        ⟨none, .ld 116 1 false (.t 115)⟩])
     (.drop [110, 111, 112, 113, 114, 115] (.cond (.t 116) (.reg [⟨none, .mov 117 (.t 14)⟩,
         ⟨none, .mov 118 (.t 15)⟩,
         ⟨none, .bsl 119 1 [(.t 118)]⟩,
         ⟨none, .app 120 1 (.t 117) (.t 119)⟩,
         ⟨none, .asg 14 (.t 120)⟩])
      .skip))))
   (.drop [110, 111, 112, 113, 114, 115, 116, 117, 118, 119, 120] (.reg [⟨none, .mov 108 (.t 15)⟩,
      ⟨none, .bin 109 .add (.t 108) (.c (.int .i64 1))⟩,
      ⟨none, .asg 15 (.t 109)⟩])))))
def c_spec_l23From_l7 : ACode :=
  (.seq (.seq (.reg [⟨none, .mov 99 (.t 13)⟩,
      ⟨none, .mov 100 (.t 0)⟩,
      ⟨none, .bin 101 .lss (.t 99) (.t 100)⟩])
   (.drop [99, 100] (.cond (.t 101) .skip
    (.exit 10))))
  (.drop [99, 100, 101] (.seq (.block 11 (.seq (.reg [⟨none, .bsl 104 1 []⟩,
        ⟨none, .asg 14 (.t 104)⟩])
     (.drop [104] (.seq (.seq (.reg [⟨none, .asg 15 (.c (.int .i64 0))⟩])
       (.block 12 (.loop c_spec_l23From_l6)))
      (.drop [15, 105, 106, 107, 110, 111, 112, 113, 114, 115, 116, 117, 118, 119, 120, 108, 109] (.reg [⟨none, .fadr 121 0 (.t 12)⟩,
         ⟨none, .ld 122 1 false (.t 121)⟩,
         ⟨none, .mov 123 (.t 14)⟩,
         ⟨none, .bsl 124 1 [(.t 123)]⟩,
         ⟨none, .app 125 1 (.t 122) (.t 124)⟩,
         ⟨none, .fadr 126 0 (.t 12)⟩,
         ⟨none, .st 1 (.t 126) (.t 125)⟩]))))))
   (.drop [104, 14, 15, 105, 106, 107, 110, 111, 112, 113, 114, 115, 116, 117, 118, 119, 120, 108, 109, 121, 122, 123, 124, 125, 126] (.reg [⟨none, .mov 102 (.t 13)⟩,
      ⟨none, .bin 103 .add (.t 102) (.c (.int .i64 1))⟩,
      ⟨none, .asg 13 (.t 103)⟩])))))
def c_spec_l23From : ACode :=
  (.seq (.reg [⟨none, .alc 4 (.agg [.nilsl 1])⟩])
  (.seq (.reg [⟨none, .bsl 16 1 []⟩,
      ⟨none, .asg 5 (.t 16)⟩])
   (.drop [16] (.seq (.seq (.reg [⟨none, .asg 6 (.c (.int .i64 0))⟩])
     (.block 0 (.loop c_spec_l23From_l1)))
    (.drop [6, 17, 18, 19, 22, 23, 7, 24, 25, 26, 27, 28, 29, 30, 20, 21] (.seq (.seq (.reg [⟨none, .asg 8 (.c (.int .i64 0))⟩])
      (.block 2 (.loop c_spec_l23From_l2)))
     (.drop [8, 31, 32, 33, 34, 37, 38, 39, 40, 41, 42, 43, 44, 45, 46, 47, 48, 49, 50, 35, 36] (.seq (.seq (.reg [⟨none, .asg 9 (.c (.int .i64 0))⟩])
       (.block 4 (.loop c_spec_l23From_l5)))
      (.drop [9, 51, 52, 53, 10, 56, 57, 58, 11, 61, 62, 63, 66, 67, 68, 69, 70, 71, 72, 73, 74, 75, 76, 77, 78, 79, 80, 81, 82, 83, 84, 85, 86, 87, 88, 89, 90, 91, 92, 93, 94, 95, 96, 64, 65, 59, 60, 54, 55] (.seq (.reg [⟨none, .bsl 97 1 []⟩,
          ⟨none, .bld 98 [.nilsl 1] [(0, 1, (.t 97))]⟩,
          ⟨none, .alc 12 (.agg [.nilsl 1])⟩,
          ⟨none, .st 1 (.t 12) (.t 98)⟩])
       (.drop [97, 98] (.seq (.seq (.reg [⟨none, .asg 13 (.c (.int .i64 0))⟩])
         (.block 10 (.loop c_spec_l23From_l7)))
        (.drop [13, 99, 100, 101, 104, 14, 15, 105, 106, 107, 110, 111, 112, 113, 114, 115, 116, 117, 118, 119, 120, 108, 109, 121, 122, 123, 124, 125, 126, 102, 103] (.seq (.reg [⟨none, .ld 127 1 true (.t 12)⟩,
            ⟨none, .st 1 (.t 4) (.t 127)⟩])
         (.drop [127] .ret)))))))))))))))
abbrev r_spec_l23From : List RS := [.c 4 1 true]
theorem k_spec_l23From : fitsF Try.prog f_spec_l23From 128 c_spec_l23From r_spec_l23From = true := by kernel_rfl

/- loop.example/g01078/laws.toIntA2: [a=0, a=1, out=3, i=4] -/
def c_laws_toIntA2_l1 : ACode :=
  (.seq (.seq (.reg [⟨none, .mov 5 (.t 4)⟩,
      ⟨none, .bin 6 .lss (.t 5) (.c (.int .i64 2))⟩])
   (.drop [5] (.cond (.t 6) .skip
    (.exit 0))))
  (.drop [5, 6] (.seq (.block 1 (.reg [⟨none, .mov 9 (.t 4)⟩,
       ⟨none, .mov 10 (.t 4)⟩,
       ⟨none, .aad 11 1 2 (.t 1) (.t 10)⟩,
       ⟨none, .ld 12 1 false (.t 11)⟩,
       ⟨none, .aad 13 1 2 (.t 3) (.t 9)⟩,
       ⟨none, .st 1 (.t 13) (.t 12)⟩]))
   (.drop [9, 10, 11, 12, 13] (.reg [⟨none, .mov 7 (.t 4)⟩,
      ⟨none, .bin 8 .add (.t 7) (.c (.int .i64 1))⟩,
      ⟨none, .asg 4 (.t 8)⟩])))))
def c_laws_toIntA2 : ACode :=
  (.seq (.reg [⟨none, .box 1 (.t 0)⟩,
     ⟨none, .alc 2 (.agg [.int .i64 0, .int .i64 0])⟩])
  (.seq (.reg [⟨none, .alc 3 (.agg [.int .i64 0, .int .i64 0])⟩])
   (.seq (.seq (.reg [⟨none, .asg 4 (.c (.int .i64 0))⟩])
     (.block 0 (.loop c_laws_toIntA2_l1)))
    (.drop [4, 5, 6, 9, 10, 11, 12, 13, 7, 8] (.seq (.reg [⟨none, .ld 14 2 true (.t 3)⟩,
        ⟨none, .st 2 (.t 2) (.t 14)⟩])
     (.drop [14] .ret))))))
abbrev r_laws_toIntA2 : List RS := [.c 2 2 true]
theorem k_laws_toIntA2 : fitsF Try.prog f_laws_toIntA2 15 c_laws_toIntA2 r_laws_toIntA2 = true := by kernel_rfl

/- loop.example/g01078/impl.newOrder: [n=0, n=1, o=3, x=4] -/
def c_impl_newOrder_l1 : ACode :=
  (.seq (.reg [⟨none, .bin 10 .lss (.t 9) (.t 8)⟩])
  (.seq (.cond (.t 10) .skip
    (.exit 0))
   (.seq (.block 1 (.seq (.reg [⟨none, .mov 11 (.t 9)⟩,
         ⟨none, .asg 4 (.t 11)⟩])
      (.drop [11] (.reg [⟨none, .mov 12 (.t 3)⟩,
         ⟨none, .mov 13 (.t 4)⟩,
         ⟨none, .mov 14 (.t 0)⟩,
         ⟨none, .mk 15 1 (.bool false) (.t 14)⟩,
         ⟨none, .iad 16 1 (.t 12) (.t 13)⟩,
         ⟨none, .st 1 (.t 16) (.t 15)⟩]))))
    (.drop [11, 4, 12, 13, 14, 15, 16] (.reg [⟨none, .bin 17 .add (.t 9) (.c (.int .i64 1))⟩,
       ⟨none, .asg 9 (.t 17)⟩])))))
def c_impl_newOrder : ACode :=
  (.seq (.reg [⟨none, .asg 2 (.c (.nilsl 1))⟩])
  (.seq (.reg [⟨none, .mov 5 (.t 0)⟩,
      ⟨none, .mk 6 1 (.nilsl 1) (.t 5)⟩,
      ⟨none, .asg 3 (.t 6)⟩])
   (.drop [5, 6] (.seq (.seq (.reg [⟨none, .mov 7 (.t 3)⟩,
        ⟨none, .len 8 (.t 7)⟩,
        ⟨none, .mov 9 (.c (.int .i64 0))⟩])
     (.drop [7] (.block 0 (.loop c_impl_newOrder_l1))))
    (.drop [7, 8, 9, 10, 11, 4, 12, 13, 14, 15, 16, 17] (.seq (.reg [⟨none, .mov 18 (.t 3)⟩,
        ⟨none, .asg 2 (.t 18)⟩])
     (.drop [18] .ret)))))))
abbrev r_impl_newOrder : List RS := [.t 2]
theorem k_impl_newOrder : fitsF Try.prog f_impl_newOrder 19 c_impl_newOrder r_impl_newOrder = true := by kernel_rfl

/- (loop.example/g01078/impl.order).isOrder: [o=0, o=1, x=3, y=4, z=5] -/
def c_impl_order_isOrder_k1 : ACode :=
  (.seq (.reg [⟨none, .mov 24 (.t 3)⟩,
           ⟨none, .mov 25 (.t 4)⟩,
           ⟨none, .bin 26 .neq (.t 24) (.t 25)⟩,
           ⟨none, .asg 27 (.t 26)⟩,
           ⟨some (27, true), .mov 28 (.t 0)⟩,
           ⟨some (27, true), .mov 29 (.t 3)⟩,
           ⟨some (27, true), .iad 30 1 (.t 28) (.t 29)⟩,
           ⟨some (27, true), .ld 31 1 false (.t 30)⟩,
           ⟨some (27, true), .mov 32 (.t 4)⟩,
           ⟨some (27, true), .iad 33 1 (.t 31) (.t 32)⟩,
           ⟨some (27, true), .ld 34 1 false (.t 33)⟩,
           ⟨none, .pick 35 (.t 27) (.t 34) (.c (.bool false))⟩,
           ⟨none, .asg 36 (.t 35)⟩,
           ⟨some (36, true), .mov 37 (.t 0)⟩,
           ⟨some (36, true), .mov 38 (.t 4)⟩,
           ⟨some (36, true), .iad 39 1 (.t 37) (.t 38)⟩,
           ⟨some (36, true), .ld 40 1 false (.t 39)⟩,
           ⟨some (36, true), .mov 41 (.t 3)⟩,
           ⟨some (36, true), .iad 42 1 (.t 40) (.t 41)⟩,
           ⟨some (36, true), .ld 43 1 false (.t 42)⟩,
           ⟨none, .pick 44 (.t 36) (.t 43) (.c (.bool false))⟩])
        (.drop [24, 25, 26, 27, 28, 29, 30, 31, 32, 33, 34, 35, 36, 37, 38, 39, 40, 41, 42, 43] (.cond (.t 44) (.seq (.reg [⟨none, .asg 2 (.c (.bool false))⟩])
          .ret)
         .skip)))
def c_impl_order_isOrder_l1 : ACode :=
  (.seq (.reg [⟨none, .bin 48 .lss (.t 47) (.t 46)⟩])
  (.seq (.cond (.t 48) .skip
    (.exit 4))
   (.seq (.block 5 (.seq (.reg [⟨none, .mov 49 (.t 47)⟩,
         ⟨none, .asg 5 (.t 49)⟩])
      (.drop [49] (.seq (.reg [⟨none, .mov 50 (.t 0)⟩,
          ⟨none, .mov 51 (.t 3)⟩,
          ⟨none, .iad 52 1 (.t 50) (.t 51)⟩,
          ⟨none, .ld 53 1 false (.t 52)⟩,
          ⟨none, .mov 54 (.t 4)⟩,
          ⟨none, .iad 55 1 (.t 53) (.t 54)⟩,
          ⟨none, .ld 56 1 false (.t 55)⟩,
          ⟨none, .asg 57 (.t 56)⟩,
          ⟨some (57, true), .mov 58 (.t 0)⟩,
          ⟨some (57, true), .mov 59 (.t 4)⟩,
          ⟨some (57, true), .iad 60 1 (.t 58) (.t 59)⟩,
          ⟨some (57, true), .ld 61 1 false (.t 60)⟩,
          ⟨some (57, true), .mov 62 (.t 5)⟩,
          ⟨some (57, true), .iad 63 1 (.t 61) (.t 62)⟩,
          ⟨some (57, true), .ld 64 1 false (.t 63)⟩,
          ⟨none, .pick 65 (.t 57) (.t 64) (.c (.bool false))⟩,
          ⟨none, .asg 66 (.t 65)⟩,
          ⟨some (66, true), .mov 67 (.t 0)⟩,
          ⟨some (66, true), .mov 68 (.t 3)⟩,
          ⟨some (66, true), .iad 69 1 (.t 67) (.t 68)⟩,
          ⟨some (66, true), .ld 70 1 false (.t 69)⟩,
          ⟨some (66, true), .mov 71 (.t 5)⟩,
          ⟨some (66, true), .iad 72 1 (.t 70) (.t 71)⟩,
          ⟨some (66, true), .ld 73 1 false (.t 72)⟩,
          ⟨some (66, true), .un 74 .not (.t 73)⟩,
          ⟨none, .pick 75 (.t 66) (.t 74) (.c (.bool false))⟩])
       (.drop [50, 51, 52, 53, 54, 55, 56, 57, 58, 59, 60, 61, 62, 63, 64, 65, 66, 67, 68, 69, 70, 71, 72, 73, 74] (.cond (.t 75) (.seq (.reg [⟨none, .asg 2 (.c (.bool false))⟩])
         .ret)
        .skip))))))
    (.drop [49, 5, 50, 51, 52, 53, 54, 55, 56, 57, 58, 59, 60, 61, 62, 63, 64, 65, 66, 67, 68, 69, 70, 71, 72, 73, 74, 75] (.reg [⟨none, .bin 76 .add (.t 47) (.c (.int .i64 1))⟩,
       ⟨none, .asg 47 (.t 76)⟩])))))
def c_impl_order_isOrder_l2 : ACode :=
  (.seq (.reg [⟨none, .bin 22 .lss (.t 21) (.t 20)⟩])
  (.seq (.cond (.t 22) .skip
    (.exit 2))
   (.seq (.block 3 (.seq (.reg [⟨none, .mov 23 (.t 21)⟩,
         ⟨none, .asg 4 (.t 23)⟩])
      (.drop [23] (.seq (.cut c_impl_order_isOrder_k1)
       (.drop [24, 25, 26, 27, 28, 29, 30, 31, 32, 33, 34, 35, 36, 37, 38, 39, 40, 41, 42, 43, 44] (.seq (.reg [⟨none, .mov 45 (.t 0)⟩,
           ⟨none, .len 46 (.t 45)⟩,
           ⟨none, .mov 47 (.c (.int .i64 0))⟩])
        (.drop [45] (.block 4 (.loop c_impl_order_isOrder_l1)))))))))
    (.drop [23, 4, 24, 25, 26, 27, 28, 29, 30, 31, 32, 33, 34, 35, 36, 37, 38, 39, 40, 41, 42, 43, 44, 45, 46, 47, 48, 49, 5, 50, 51, 52, 53, 54, 55, 56, 57, 58, 59, 60, 61, 62, 63, 64, 65, 66, 67, 68, 69, 70, 71, 72, 73, 74, 75, 76] (.reg [⟨none, .bin 77 .add (.t 21) (.c (.int .i64 1))⟩,
       ⟨none, .asg 21 (.t 77)⟩])))))
def c_impl_order_isOrder_l3 : ACode :=
  (.seq (.reg [⟨none, .bin 9 .lss (.t 8) (.t 7)⟩])
  (.seq (.cond (.t 9) .skip
    (.exit 0))
   (.seq (.block 1 (.seq (.reg [⟨none, .mov 10 (.t 8)⟩,
         ⟨none, .asg 3 (.t 10)⟩])
      (.drop [10] (.seq (.seq (.reg [⟨none, .mov 11 (.t 0)⟩,
           ⟨none, .mov 12 (.t 3)⟩,
           ⟨none, .iad 13 1 (.t 11) (.t 12)⟩,
           ⟨none, .ld 14 1 false (.t 13)⟩,
           ⟨none, .mov 15 (.t 3)⟩,
           ⟨none, .iad 16 1 (.t 14) (.t 15)⟩,
           ⟨none, .ld 17 1 false (.t 16)⟩,
           ⟨none, .un 18 .not (.t 17)⟩])
        (.drop [11, 12, 13, 14, 15, 16, 17] (.cond (.t 18) (.seq (.reg [⟨none, .asg 2 (.c (.bool false))⟩])
          .ret)
         .skip)))
       (.drop [11, 12, 13, 14, 15, 16, 17, 18] (.seq (.reg [⟨none, .mov 19 (.t 0)⟩,
           ⟨none, .len 20 (.t 19)⟩,
           ⟨none, .mov 21 (.c (.int .i64 0))⟩])
        (.drop [19] (.block 2 (.loop c_impl_order_isOrder_l2)))))))))
    (.drop [10, 3, 11, 12, 13, 14, 15, 16, 17, 18, 19, 20, 21, 22, 23, 4, 24, 25, 26, 27, 28, 29, 30, 31, 32, 33, 34, 35, 36, 37, 38, 39, 40, 41, 42, 43, 44, 45, 46, 47, 48, 49, 5, 50, 51, 52, 53, 54, 55, 56, 57, 58, 59, 60, 61, 62, 63, 64, 65, 66, 67, 68, 69, 70, 71, 72, 73, 74, 75, 76, 77] (.reg [⟨none, .bin 78 .add (.t 8) (.c (.int .i64 1))⟩,
       ⟨none, .asg 8 (.t 78)⟩])))))
def c_impl_order_isOrder : ACode :=
  (.seq (.reg [⟨none, .asg 2 (.c (.bool false))⟩])
  (.seq (.seq (.reg [⟨none, .mov 6 (.t 0)⟩,
       ⟨none, .len 7 (.t 6)⟩,
       ⟨none, .mov 8 (.c (.int .i64 0))⟩])
    (.drop [6] (.block 0 (.loop c_impl_order_isOrder_l3))))
   (.drop [6, 7, 8, 9, 10, 3, 11, 12, 13, 14, 15, 16, 17, 18, 19, 20, 21, 22, 23, 4, 24, 25, 26, 27, 28, 29, 30, 31, 32, 33, 34, 35, 36, 37, 38, 39, 40, 41, 42, 43, 44, 45, 46, 47, 48, 49, 5, 50, 51, 52, 53, 54, 55, 56, 57, 58, 59, 60, 61, 62, 63, 64, 65, 66, 67, 68, 69, 70, 71, 72, 73, 74, 75, 76, 77, 78] (.seq (.reg [⟨none, .asg 2 (.c (.bool true))⟩])
    .ret))))
abbrev r_impl_order_isOrder : List RS := [.t 2]
theorem k_impl_order_isOrder : fitsF Try.prog f_impl_order_isOrder 79 c_impl_order_isOrder r_impl_order_isOrder = true := by kernel_rfl

/- loop.example/g01078/laws.eqIntA2: [a=0, b=1, a=2, b=3, i=5] -/
def c_laws_eqIntA2_l1 : ACode :=
  (.seq (.seq (.reg [⟨none, .mov 6 (.t 5)⟩,
      ⟨none, .bin 7 .lss (.t 6) (.c (.int .i64 2))⟩])
   (.drop [6] (.cond (.t 7) .skip
    (.exit 0))))
  (.drop [6, 7] (.seq (.block 1 (.seq (.dreg [(⟨none, .mov 10 (.t 5)⟩, []),
        (⟨none, .aad 11 1 2 (.t 2) (.t 10)⟩, []),
        (⟨none, .ld 12 1 false (.t 11)⟩, []),
        (⟨none, .mov 13 (.t 5)⟩, [10, 11, 12]),
        (⟨none, .aad 14 1 2 (.t 3) (.t 13)⟩, [10, 11, 12]),
        (⟨none, .ld 15 1 false (.t 14)⟩, [10, 11, 12])]
       [⟨none, .bin 16 .neq (.t 12) (.t 15)⟩])
     (.drop [10, 11, 12, 13, 14, 15] (.cond (.t 16) (.seq (.reg [⟨none, .asg 4 (.c (.bool false))⟩])
       .ret)
      .skip))))
   (.drop [10, 11, 12, 13, 14, 15, 16] (.reg [⟨none, .mov 8 (.t 5)⟩,
      ⟨none, .bin 9 .add (.t 8) (.c (.int .i64 1))⟩,
      ⟨none, .asg 5 (.t 9)⟩])))))
def c_laws_eqIntA2 : ACode :=
  (.seq (.reg [⟨none, .box 2 (.t 0)⟩,
     ⟨none, .box 3 (.t 1)⟩,
     ⟨none, .asg 4 (.c (.bool false))⟩])
  (.seq (.seq (.reg [⟨none, .asg 5 (.c (.int .i64 0))⟩])
    (.block 0 (.loop c_laws_eqIntA2_l1)))
   (.drop [5, 6, 7, 10, 11, 12, 13, 14, 15, 16, 8, 9] (.seq (.reg [⟨none, .asg 4 (.c (.bool true))⟩])
    .ret))))
abbrev r_laws_eqIntA2 : List RS := [.t 4]
theorem k_laws_eqIntA2 : fitsF Try.prog f_laws_eqIntA2 17 c_laws_eqIntA2 r_laws_eqIntA2 = true := by kernel_rfl

/- loop.example/g01078/laws.szIntS: [a=0, left=1, a=2, left=3] -/
def c_laws_szIntS : ACode :=
  (.seq (.reg [⟨none, .asg 4 (.c (.int .i64 0))⟩])
  (.seq (.reg [⟨none, .mov 5 (.t 1)⟩,
      ⟨none, .mov 6 (.t 0)⟩,
      ⟨none, .len 7 (.t 6)⟩,
      ⟨none, .bin 8 .sub (.t 5) (.t 7)⟩,
      ⟨none, .asg 1 (.t 8)⟩])
   (.drop [5, 6, 7, 8] (.seq (.seq (.reg [⟨none, .mov 9 (.t 1)⟩,
        ⟨none, .bin 10 .lss (.t 9) (.c (.int .i64 0))⟩])
     (.drop [9] (.cond (.t 10) (.seq (.reg [⟨none, .asg 4 (.c (.int .i64 (-1)))⟩])
       .ret)
      .skip)))
    (.drop [9, 10] (.seq (.reg [⟨none, .mov 11 (.t 1)⟩,
        ⟨none, .asg 4 (.t 11)⟩])
     (.drop [11] .ret)))))))
abbrev r_laws_szIntS : List RS := [.t 4]
theorem k_laws_szIntS : fitsF Try.prog f_laws_szIntS 12 c_laws_szIntS r_laws_szIntS = true := by kernel_rfl

/- loop.example/g01078/spec.l1Has: [l=0, n=1, l=2, n=3, i=5] -/
def c_spec_l1Has_l1 : ACode :=
  (.seq (.seq (.reg [⟨none, .mov 6 (.t 5)⟩,
      ⟨none, .mov 7 (.t 0)⟩,
      ⟨none, .len 8 (.t 7)⟩,
      ⟨none, .bin 9 .lss (.t 6) (.t 8)⟩])
   (.drop [6, 7, 8] (.cond (.t 9) .skip
    (.exit 0))))
  (.drop [6, 7, 8, 9] (.seq (.block 1 (.seq (.reg [⟨none, .mov 12 (.t 0)⟩,
        ⟨none, .mov 13 (.t 5)⟩,
        ⟨none, .iad 14 1 (.t 12) (.t 13)⟩,
        ⟨none, .ld 15 1 false (.t 14)⟩,
        ⟨none, .mov 16 (.t 1)⟩,
        ⟨none, .bin 17 .eql (.t 15) (.t 16)⟩])
     (.drop [12, 13, 14, 15, 16] (.cond (.t 17) (.seq (.reg [⟨none, .asg 4 (.c (.bool true))⟩])
       .ret)
      .skip))))
   (.drop [12, 13, 14, 15, 16, 17] (.reg [⟨none, .mov 10 (.t 5)⟩,
      ⟨none, .bin 11 .add (.t 10) (.c (.int .i64 1))⟩,
      ⟨none, .asg 5 (.t 11)⟩])))))
def c_spec_l1Has : ACode :=
  (.seq (.reg [⟨none, .asg 4 (.c (.bool false))⟩])
  (.seq (.seq (.reg [⟨none, .asg 5 (.c (.int .i64 0))⟩])
    (.block 0 (.loop c_spec_l1Has_l1)))
   (.drop [5, 6, 7, 8, 9, 12, 13, 14, 15, 16, 17, 10, 11] (.seq (.reg [⟨none, .asg 4 (.c (.bool false))⟩])
    .ret))))
abbrev r_spec_l1Has : List RS := [.t 4]
theorem k_spec_l1Has : fitsF Try.prog f_spec_l1Has 18 c_spec_l1Has r_spec_l1Has = true := by kernel_rfl

/- loop.example/g01078/impl.rises: [list=0, list=1, i=3] -/
def c_impl_rises_l1 : ACode :=
  (.seq (.seq (.reg [⟨none, .mov 4 (.t 3)⟩,
      ⟨none, .mov 5 (.t 0)⟩,
      ⟨none, .len 6 (.t 5)⟩,
      ⟨none, .bin 7 .lss (.t 4) (.t 6)⟩])
   (.drop [4, 5, 6] (.cond (.t 7) .skip
    (.exit 0))))
  (.drop [4, 5, 6, 7] (.seq (.block 1 (.seq (.dreg [(⟨none, .mov 10 (.t 0)⟩, []),
        (⟨none, .mov 11 (.t 3)⟩, [10]),
        (⟨none, .bin 12 .sub (.t 11) (.c (.int .i64 1))⟩, [10]),
        (⟨none, .iad 13 1 (.t 10) (.t 12)⟩, []),
        (⟨none, .ld 14 1 false (.t 13)⟩, []),
        (⟨none, .mov 15 (.t 0)⟩, [10, 11, 12, 13, 14]),
        (⟨none, .mov 16 (.t 3)⟩, [10, 11, 12, 13, 14, 15]),
        (⟨none, .iad 17 1 (.t 15) (.t 16)⟩, [10, 11, 12, 13, 14]),
        (⟨none, .ld 18 1 false (.t 17)⟩, [10, 11, 12, 13, 14])]
       [⟨none, .bin 19 .geq (.t 14) (.t 18)⟩])
     (.drop [10, 11, 12, 13, 14, 15, 16, 17, 18] (.cond (.t 19) (.seq (.reg [⟨none, .asg 2 (.c (.bool false))⟩])
       .ret)
      .skip))))
   (.drop [10, 11, 12, 13, 14, 15, 16, 17, 18, 19] (.reg [⟨none, .mov 8 (.t 3)⟩,
      ⟨none, .bin 9 .add (.t 8) (.c (.int .i64 1))⟩,
      ⟨none, .asg 3 (.t 9)⟩])))))
def c_impl_rises : ACode :=
  (.seq (.reg [⟨none, .asg 2 (.c (.bool false))⟩])
  (.seq (.seq (.reg [⟨none, .asg 3 (.c (.int .i64 1))⟩])
    (.block 0 (.loop c_impl_rises_l1)))
   (.drop [3, 4, 5, 6, 7, 10, 11, 12, 13, 14, 15, 16, 17, 18, 19, 8, 9] (.seq (.reg [⟨none, .asg 2 (.c (.bool true))⟩])
    .ret))))
abbrev r_impl_rises : List RS := [.t 2]
theorem k_impl_rises : fitsF Try.prog f_impl_rises 20 c_impl_rises r_impl_rises = true := by kernel_rfl

/- loop.example/g01078/impl.inSize: [list=0, n=1, list=2, n=3, _=5, x=6] -/
def c_impl_inSize_l1 : ACode :=
  (.seq (.reg [⟨none, .bin 10 .lss (.t 9) (.t 8)⟩])
  (.seq (.cond (.t 10) .skip
    (.exit 0))
   (.seq (.block 1 (.seq (.reg [⟨none, .iad 11 1 (.t 7) (.t 9)⟩,
         ⟨none, .ld 12 1 false (.t 11)⟩,
         ⟨none, .asg 6 (.t 12)⟩])
      (.drop [11, 12] (.seq (.reg [⟨none, .mov 13 (.t 6)⟩,
          ⟨none, .bin 14 .lss (.t 13) (.c (.int .i64 0))⟩,
          ⟨none, .asg 15 (.t 14)⟩,
          ⟨some (15, false), .mov 16 (.t 6)⟩,
          ⟨some (15, false), .mov 17 (.t 1)⟩,
          ⟨some (15, false), .bin 18 .geq (.t 16) (.t 17)⟩,
          ⟨none, .pick 19 (.t 15) (.c (.bool true)) (.t 18)⟩])
       (.drop [13, 14, 15, 16, 17, 18] (.cond (.t 19) (.seq (.reg [⟨none, .asg 4 (.c (.bool false))⟩])
         .ret)
        .skip))))))
    (.drop [11, 12, 6, 13, 14, 15, 16, 17, 18, 19] (.reg [⟨none, .bin 20 .add (.t 9) (.c (.int .i64 1))⟩,
       ⟨none, .asg 9 (.t 20)⟩])))))
def c_impl_inSize : ACode :=
  (.seq (.reg [⟨none, .asg 4 (.c (.bool false))⟩])
  (.seq (.seq (.reg [⟨none, .mov 7 (.t 0)⟩,
       ⟨none, .len 8 (.t 7)⟩,
       ⟨none, .mov 9 (.c (.int .i64 0))⟩])
    (.block 0 (.loop c_impl_inSize_l1)))
   (.drop [7, 8, 9, 10, 11, 12, 6, 13, 14, 15, 16, 17, 18, 19, 20] (.seq (.reg [⟨none, .asg 4 (.c (.bool true))⟩])
    .ret))))
abbrev r_impl_inSize : List RS := [.t 4]
theorem k_impl_inSize : fitsF Try.prog f_impl_inSize 21 c_impl_inSize r_impl_inSize = true := by kernel_rfl

/- loop.example/g01078/laws.toIntA2S: [a=0, a=1, out=3, i=4] -/
def c_laws_toIntA2S_l1 : ACode :=
  (.seq (.seq (.reg [⟨none, .mov 8 (.t 4)⟩,
      ⟨none, .mov 9 (.t 0)⟩,
      ⟨none, .len 10 (.t 9)⟩,
      ⟨none, .bin 11 .lss (.t 8) (.t 10)⟩])
   (.drop [8, 9, 10] (.cond (.t 11) .skip
    (.exit 0))))
  (.drop [8, 9, 10, 11] (.seq (.block 1 (.reg [⟨none, .mov 14 (.t 3)⟩,
       ⟨none, .mov 15 (.t 4)⟩,
       ⟨none, .mov 16 (.t 0)⟩,
       ⟨none, .mov 17 (.t 4)⟩,
       ⟨none, .iad 18 2 (.t 16) (.t 17)⟩,
       ⟨none, .ld 19 2 true (.t 18)⟩,
       ⟨none, .call 20 f_laws_toIntA2 [((.t 19), false)]⟩,
       ⟨none, .iad 21 2 (.t 14) (.t 15)⟩,
       ⟨none, .st 2 (.t 21) (.t 20)⟩]))
   (.drop [14, 15, 16, 17, 18, 19, 20, 21] (.reg [⟨none, .mov 12 (.t 4)⟩,
      ⟨none, .bin 13 .add (.t 12) (.c (.int .i64 1))⟩,
      ⟨none, .asg 4 (.t 13)⟩])))))
def c_laws_toIntA2S : ACode :=
  (.seq (.reg [⟨none, .asg 2 (.c (.nilsl 2))⟩])
  (.seq (.reg [⟨none, .mov 5 (.t 0)⟩,
      ⟨none, .len 6 (.t 5)⟩,
      ⟨none, .mk 7 2 (.agg [.int .i64 0, .int .i64 0]) (.t 6)⟩,
      ⟨none, .asg 3 (.t 7)⟩])
   (.drop [5, 6, 7] (.seq (.seq (.reg [⟨none, .asg 4 (.c (.int .i64 0))⟩])
     (.block 0 (.loop c_laws_toIntA2S_l1)))
    (.drop [4, 8, 9, 10, 11, 14, 15, 16, 17, 18, 19, 20, 21, 12, 13] (.seq (.reg [⟨none, .mov 22 (.t 3)⟩,
        ⟨none, .asg 2 (.t 22)⟩])
     (.drop [22] .ret)))))))
abbrev r_laws_toIntA2S : List RS := [.t 2]
theorem k_laws_toIntA2S : fitsF Try.prog f_laws_toIntA2S 23 c_laws_toIntA2S r_laws_toIntA2S = true := by kernel_rfl

/- loop.example/g01078/laws.eqIntA2S: [a=0, b=1, a=2, b=3, i=5] -/
def c_laws_eqIntA2S_l1 : ACode :=
  (.seq (.seq (.reg [⟨none, .mov 11 (.t 5)⟩,
      ⟨none, .mov 12 (.t 0)⟩,
      ⟨none, .len 13 (.t 12)⟩,
      ⟨none, .bin 14 .lss (.t 11) (.t 13)⟩])
   (.drop [11, 12, 13] (.cond (.t 14) .skip
    (.exit 0))))
  (.drop [11, 12, 13, 14] (.seq (.block 1 (.seq (.dreg [(⟨none, .mov 17 (.t 0)⟩, []),
        (⟨none, .mov 18 (.t 5)⟩, [17]),
        (⟨none, .iad 19 2 (.t 17) (.t 18)⟩, []),
        (⟨none, .ld 20 2 true (.t 19)⟩, []),
        (⟨none, .mov 21 (.t 1)⟩, [17, 18, 19, 20]),
        (⟨none, .mov 22 (.t 5)⟩, [17, 18, 19, 20, 21]),
        (⟨none, .iad 23 2 (.t 21) (.t 22)⟩, [17, 18, 19, 20]),
        (⟨none, .ld 24 2 true (.t 23)⟩, [17, 18, 19, 20])]
       [⟨none, .call 25 f_laws_eqIntA2 [((.t 20), false), ((.t 24), false)]⟩,
        ⟨none, .un 26 .not (.t 25)⟩])
     (.drop [17, 18, 19, 20, 21, 22, 23, 24, 25] (.cond (.t 26) (.seq (.reg [⟨none, .asg 4 (.c (.bool false))⟩])
       .ret)
      .skip))))
   (.drop [17, 18, 19, 20, 21, 22, 23, 24, 25, 26] (.reg [⟨none, .mov 15 (.t 5)⟩,
      ⟨none, .bin 16 .add (.t 15) (.c (.int .i64 1))⟩,
      ⟨none, .asg 5 (.t 16)⟩])))))
def c_laws_eqIntA2S : ACode :=
  (.seq (.reg [⟨none, .asg 4 (.c (.bool false))⟩])
  (.seq (.seq (.reg [⟨none, .mov 6 (.t 0)⟩,
       ⟨none, .len 7 (.t 6)⟩,
       ⟨none, .mov 8 (.t 1)⟩,
       ⟨none, .len 9 (.t 8)⟩,
       ⟨none, .bin 10 .neq (.t 7) (.t 9)⟩])
    (.drop [6, 7, 8, 9] (.cond (.t 10) (.seq (.reg [⟨none, .asg 4 (.c (.bool false))⟩])
      .ret)
     .skip)))
   (.drop [6, 7, 8, 9, 10] (.seq (.seq (.reg [⟨none, .asg 5 (.c (.int .i64 0))⟩])
     (.block 0 (.loop c_laws_eqIntA2S_l1)))
    (.drop [5, 11, 12, 13, 14, 17, 18, 19, 20, 21, 22, 23, 24, 25, 26, 15, 16] (.seq (.reg [⟨none, .asg 4 (.c (.bool true))⟩])
     .ret))))))
abbrev r_laws_eqIntA2S : List RS := [.t 4]
theorem k_laws_eqIntA2S : fitsF Try.prog f_laws_eqIntA2S 27 c_laws_eqIntA2S r_laws_eqIntA2S = true := by kernel_rfl

/- loop.example/g01078/laws.szIntSS: [a=0, left=1, a=2, left=3, i=5] -/
def c_laws_szIntSS_l1 : ACode :=
  (.seq (.seq (.reg [⟨none, .mov 12 (.t 5)⟩,
      ⟨none, .mov 13 (.t 0)⟩,
      ⟨none, .len 14 (.t 13)⟩,
      ⟨none, .bin 15 .lss (.t 12) (.t 14)⟩])
   (.drop [12, 13, 14] (.cond (.t 15) .skip
    (.exit 0))))
  (.drop [12, 13, 14, 15] (.seq (.block 1 (.seq (.reg [⟨none, .mov 18 (.t 0)⟩,
        ⟨none, .mov 19 (.t 5)⟩,
        ⟨none, .iad 20 1 (.t 18) (.t 19)⟩,
        ⟨none, .ld 21 1 false (.t 20)⟩,
        ⟨none, .mov 22 (.t 1)⟩,
        ⟨none, .call 23 f_laws_szIntS [((.t 21), false), ((.t 22), false)]⟩,
        ⟨none, .asg 1 (.t 23)⟩])
     (.drop [18, 19, 20, 21, 22, 23] (.seq (.reg [⟨none, .mov 24 (.t 1)⟩,
         ⟨none, .bin 25 .lss (.t 24) (.c (.int .i64 0))⟩])
      (.drop [24] (.cond (.t 25) (.seq (.reg [⟨none, .asg 4 (.c (.int .i64 (-1)))⟩])
        .ret)
       .skip))))))
   (.drop [18, 19, 20, 21, 22, 23, 24, 25] (.reg [⟨none, .mov 16 (.t 5)⟩,
      ⟨none, .bin 17 .add (.t 16) (.c (.int .i64 1))⟩,
      ⟨none, .asg 5 (.t 17)⟩])))))
def c_laws_szIntSS : ACode :=
  (.seq (.reg [⟨none, .asg 4 (.c (.int .i64 0))⟩])
  (.seq (.reg [⟨none, .mov 6 (.t 1)⟩,
      ⟨none, .mov 7 (.t 0)⟩,
      ⟨none, .len 8 (.t 7)⟩,
      ⟨none, .bin 9 .sub (.t 6) (.t 8)⟩,
      ⟨none, .asg 1 (.t 9)⟩])
   (.drop [6, 7, 8, 9] (.seq (.seq (.reg [⟨none, .mov 10 (.t 1)⟩,
        ⟨none, .bin 11 .lss (.t 10) (.c (.int .i64 0))⟩])
     (.drop [10] (.cond (.t 11) (.seq (.reg [⟨none, .asg 4 (.c (.int .i64 (-1)))⟩])
       .ret)
      .skip)))
    (.drop [10, 11] (.seq (.seq (.reg [⟨none, .asg 5 (.c (.int .i64 0))⟩])
      (.block 0 (.loop c_laws_szIntSS_l1)))
     (.drop [5, 12, 13, 14, 15, 18, 19, 20, 21, 22, 23, 24, 25, 16, 17] (.seq (.reg [⟨none, .mov 26 (.t 1)⟩,
         ⟨none, .asg 4 (.t 26)⟩])
      (.drop [26] .ret)))))))))
abbrev r_laws_szIntSS : List RS := [.t 4]
theorem k_laws_szIntSS : fitsF Try.prog f_laws_szIntSS 27 c_laws_szIntSS r_laws_szIntSS = true := by kernel_rfl

/- loop.example/g01078/laws.toIntSS: [a=0, a=1, out=3, i=4] -/
def c_laws_toIntSS_l1 : ACode :=
  (.seq (.seq (.reg [⟨none, .mov 8 (.t 4)⟩,
      ⟨none, .mov 9 (.t 0)⟩,
      ⟨none, .len 10 (.t 9)⟩,
      ⟨none, .bin 11 .lss (.t 8) (.t 10)⟩])
   (.drop [8, 9, 10] (.cond (.t 11) .skip
    (.exit 0))))
  (.drop [8, 9, 10, 11] (.seq (.block 1 (.reg [⟨none, .mov 14 (.t 3)⟩,
       ⟨none, .mov 15 (.t 4)⟩,
       ⟨none, .mov 16 (.t 0)⟩,
       ⟨none, .mov 17 (.t 4)⟩,
       ⟨none, .iad 18 1 (.t 16) (.t 17)⟩,
       ⟨none, .ld 19 1 false (.t 18)⟩,
       ⟨none, .call 20 f_laws_toIntS [((.t 19), false)]⟩,
       ⟨none, .iad 21 1 (.t 14) (.t 15)⟩,
       ⟨none, .st 1 (.t 21) (.t 20)⟩]))
   (.drop [14, 15, 16, 17, 18, 19, 20, 21] (.reg [⟨none, .mov 12 (.t 4)⟩,
      ⟨none, .bin 13 .add (.t 12) (.c (.int .i64 1))⟩,
      ⟨none, .asg 4 (.t 13)⟩])))))
def c_laws_toIntSS : ACode :=
  (.seq (.reg [⟨none, .asg 2 (.c (.nilsl 1))⟩])
  (.seq (.reg [⟨none, .mov 5 (.t 0)⟩,
      ⟨none, .len 6 (.t 5)⟩,
      ⟨none, .mk 7 1 (.nilsl 1) (.t 6)⟩,
      ⟨none, .asg 3 (.t 7)⟩])
   (.drop [5, 6, 7] (.seq (.seq (.reg [⟨none, .asg 4 (.c (.int .i64 0))⟩])
     (.block 0 (.loop c_laws_toIntSS_l1)))
    (.drop [4, 8, 9, 10, 11, 14, 15, 16, 17, 18, 19, 20, 21, 12, 13] (.seq (.reg [⟨none, .mov 22 (.t 3)⟩,
        ⟨none, .asg 2 (.t 22)⟩])
     (.drop [22] .ret)))))))
abbrev r_laws_toIntSS : List RS := [.t 2]
theorem k_laws_toIntSS : fitsF Try.prog f_laws_toIntSS 23 c_laws_toIntSS r_laws_toIntSS = true := by kernel_rfl

/- loop.example/g01078/impl.orderOf: [p=0, p=1, n=4, o=5, x=6, list=7, _=8, y=9] -/
def c_impl_orderOf_k1 : ACode :=
  (.seq (.reg [⟨none, .mov 25 (.t 7)⟩,
           ⟨none, .call 26 f_impl_rises [((.t 25), false)]⟩,
           ⟨none, .un 27 .not (.t 26)⟩,
           ⟨none, .asg 28 (.t 27)⟩,
           ⟨some (28, false), .mov 29 (.t 7)⟩,
           ⟨some (28, false), .mov 30 (.t 4)⟩,
           ⟨some (28, false), .call 31 f_impl_inSize [((.t 29), false), ((.t 30), false)]⟩,
           ⟨some (28, false), .un 32 .not (.t 31)⟩,
           ⟨none, .pick 33 (.t 28) (.c (.bool true)) (.t 32)⟩])
        (.drop [25, 26, 27, 28, 29, 30, 31, 32] (.cond (.t 33) (.seq (.reg [⟨none, .asg 2 (.c (.nilsl 1))⟩,
             ⟨none, .asg 3 (.c (.bool false))⟩])
          .ret)
         .skip)))
def c_impl_orderOf_l1 : ACode :=
  (.seq (.reg [⟨none, .bin 37 .lss (.t 36) (.t 35)⟩])
  (.seq (.cond (.t 37) .skip
    (.exit 2))
   (.seq (.block 3 (.seq (.reg [⟨none, .iad 38 1 (.t 34) (.t 36)⟩,
         ⟨none, .ld 39 1 false (.t 38)⟩,
         ⟨none, .asg 9 (.t 39)⟩])
      (.drop [38, 39] (.reg [⟨none, .mov 40 (.t 5)⟩,
         ⟨none, .mov 41 (.t 9)⟩,
         ⟨none, .iad 42 1 (.t 40) (.t 41)⟩,
         ⟨none, .ld 43 1 false (.t 42)⟩,
         ⟨none, .mov 44 (.t 6)⟩,
         ⟨none, .iad 45 1 (.t 43) (.t 44)⟩,
         ⟨none, .st 1 (.t 45) (.c (.bool true))⟩]))))
    (.drop [38, 39, 9, 40, 41, 42, 43, 44, 45] (.reg [⟨none, .bin 46 .add (.t 36) (.c (.int .i64 1))⟩,
       ⟨none, .asg 36 (.t 46)⟩])))))
def c_impl_orderOf_l2 : ACode :=
  (.seq (.reg [⟨none, .bin 21 .lss (.t 20) (.t 19)⟩])
  (.seq (.cond (.t 21) .skip
    (.exit 0))
   (.seq (.block 1 (.seq (.reg [⟨none, .mov 22 (.t 20)⟩,
         ⟨none, .iad 23 1 (.t 18) (.t 20)⟩,
         ⟨none, .ld 24 1 false (.t 23)⟩,
         ⟨none, .asg 6 (.t 22)⟩,
         ⟨none, .asg 7 (.t 24)⟩])
      (.drop [22, 23, 24] (.seq (.cut c_impl_orderOf_k1)
       (.drop [25, 26, 27, 28, 29, 30, 31, 32, 33] (.seq (.reg [⟨none, .mov 34 (.t 7)⟩,
           ⟨none, .len 35 (.t 34)⟩,
           ⟨none, .mov 36 (.c (.int .i64 0))⟩])
        (.block 2 (.loop c_impl_orderOf_l1))))))))
    (.drop [22, 23, 24, 6, 7, 25, 26, 27, 28, 29, 30, 31, 32, 33, 34, 35, 36, 37, 38, 39, 9, 40, 41, 42, 43, 44, 45, 46] (.reg [⟨none, .bin 47 .add (.t 20) (.c (.int .i64 1))⟩,
       ⟨none, .asg 20 (.t 47)⟩])))))
def c_impl_orderOf : ACode :=
  (.seq (.reg [⟨none, .box 1 (.t 0)⟩,
     ⟨none, .asg 2 (.c (.nilsl 1))⟩,
     ⟨none, .asg 3 (.c (.bool false))⟩])
  (.seq (.reg [⟨none, .fadr 10 0 (.t 1)⟩,
      ⟨none, .ld 11 1 false (.t 10)⟩,
      ⟨none, .len 12 (.t 11)⟩,
      ⟨none, .asg 4 (.t 12)⟩])
   (.drop [10, 11, 12] (.seq (.seq (.reg [⟨none, .mov 13 (.t 4)⟩,
        ⟨none, .bin 14 .gtr (.t 13) (.c (.int .i64 10))⟩])
     (.drop [13] (.cond (.t 14) (.seq (.reg [⟨none, .asg 2 (.c (.nilsl 1))⟩,
          ⟨none, .asg 3 (.c (.bool false))⟩])
       .ret)
      .skip)))
    (.drop [13, 14] (.seq (.reg [⟨none, .mov 15 (.t 4)⟩,
        ⟨none, .call 16 f_impl_newOrder [((.t 15), false)]⟩,
        ⟨none, .asg 5 (.t 16)⟩])
     (.drop [15, 16] (.seq (.seq (.reg [⟨none, .fadr 17 0 (.t 1)⟩,
          ⟨none, .ld 18 1 false (.t 17)⟩,
          ⟨none, .len 19 (.t 18)⟩,
          ⟨none, .mov 20 (.c (.int .i64 0))⟩])
       (.drop [17] (.block 0 (.loop c_impl_orderOf_l2))))
      (.drop [17, 18, 19, 20, 21, 22, 23, 24, 6, 7, 25, 26, 27, 28, 29, 30, 31, 32, 33, 34, 35, 36, 37, 38, 39, 9, 40, 41, 42, 43, 44, 45, 46, 47] (.seq (.reg [⟨none, .mov 48 (.t 5)⟩,
          ⟨none, .mov 49 (.t 5)⟩,
          ⟨none, .call 50 f_impl_order_isOrder [((.t 49), false)]⟩,
          ⟨none, .asg 2 (.t 48)⟩,
          ⟨none, .asg 3 (.t 50)⟩])
       (.drop [48, 49, 50] .ret)))))))))))
abbrev r_impl_orderOf : List RS := [.t 2, .t 3]
theorem k_impl_orderOf : fitsF Try.prog f_impl_orderOf 51 c_impl_orderOf r_impl_orderOf = true := by kernel_rfl

/- loop.example/g01078/laws.eqIntSS: [a=0, b=1, a=2, b=3, i=5] -/
def c_laws_eqIntSS_l1 : ACode :=
  (.seq (.seq (.reg [⟨none, .mov 11 (.t 5)⟩,
      ⟨none, .mov 12 (.t 0)⟩,
      ⟨none, .len 13 (.t 12)⟩,
      ⟨none, .bin 14 .lss (.t 11) (.t 13)⟩])
   (.drop [11, 12, 13] (.cond (.t 14) .skip
    (.exit 0))))
  (.drop [11, 12, 13, 14] (.seq (.block 1 (.seq (.dreg [(⟨none, .mov 17 (.t 0)⟩, []),
        (⟨none, .mov 18 (.t 5)⟩, [17]),
        (⟨none, .iad 19 1 (.t 17) (.t 18)⟩, []),
        (⟨none, .ld 20 1 false (.t 19)⟩, []),
        (⟨none, .mov 21 (.t 1)⟩, [17, 18, 19, 20]),
        (⟨none, .mov 22 (.t 5)⟩, [17, 18, 19, 20, 21]),
        (⟨none, .iad 23 1 (.t 21) (.t 22)⟩, [17, 18, 19, 20]),
        (⟨none, .ld 24 1 false (.t 23)⟩, [17, 18, 19, 20])]
       [⟨none, .call 25 f_laws_eqIntS [((.t 20), false), ((.t 24), false)]⟩,
        ⟨none, .un 26 .not (.t 25)⟩])
     (.drop [17, 18, 19, 20, 21, 22, 23, 24, 25] (.cond (.t 26) (.seq (.reg [⟨none, .asg 4 (.c (.bool false))⟩])
       .ret)
      .skip))))
   (.drop [17, 18, 19, 20, 21, 22, 23, 24, 25, 26] (.reg [⟨none, .mov 15 (.t 5)⟩,
      ⟨none, .bin 16 .add (.t 15) (.c (.int .i64 1))⟩,
      ⟨none, .asg 5 (.t 16)⟩])))))
def c_laws_eqIntSS : ACode :=
  (.seq (.reg [⟨none, .asg 4 (.c (.bool false))⟩])
  (.seq (.seq (.reg [⟨none, .mov 6 (.t 0)⟩,
       ⟨none, .len 7 (.t 6)⟩,
       ⟨none, .mov 8 (.t 1)⟩,
       ⟨none, .len 9 (.t 8)⟩,
       ⟨none, .bin 10 .neq (.t 7) (.t 9)⟩])
    (.drop [6, 7, 8, 9] (.cond (.t 10) (.seq (.reg [⟨none, .asg 4 (.c (.bool false))⟩])
      .ret)
     .skip)))
   (.drop [6, 7, 8, 9, 10] (.seq (.seq (.reg [⟨none, .asg 5 (.c (.int .i64 0))⟩])
     (.block 0 (.loop c_laws_eqIntSS_l1)))
    (.drop [5, 11, 12, 13, 14, 17, 18, 19, 20, 21, 22, 23, 24, 25, 26, 15, 16] (.seq (.reg [⟨none, .asg 4 (.c (.bool true))⟩])
     .ret))))))
abbrev r_laws_eqIntSS : List RS := [.t 4]
theorem k_laws_eqIntSS : fitsF Try.prog f_laws_eqIntSS 27 c_laws_eqIntSS r_laws_eqIntSS = true := by kernel_rfl

/- (loop.example/g01078/impl.order).has: [o=0, list=1, o=2, list=3] -/
def c_impl_order_has : ACode :=
  (.seq (.reg [⟨none, .asg 4 (.c (.bool false))⟩])
  (.seq (.reg [⟨none, .mov 5 (.t 1)⟩,
      ⟨none, .mov 6 (.t 0)⟩,
      ⟨none, .len 7 (.t 6)⟩,
      ⟨none, .call 8 f_impl_inSize [((.t 5), false), ((.t 7), false)]⟩,
      ⟨none, .asg 4 (.t 8)⟩])
   (.drop [5, 6, 7, 8] .ret)))
abbrev r_impl_order_has : List RS := [.t 4]
theorem k_impl_order_has : fitsF Try.prog f_impl_order_has 9 c_impl_order_has r_impl_order_has = true := by kernel_rfl

/- (loop.example/g01078/impl.order).none: [o=0, so=1, o=2, so=3] -/
def c_impl_order_none : ACode :=
  (.seq (.reg [⟨none, .asg 4 (.c (.bool false))⟩])
  (.seq (.reg [⟨none, .mov 5 (.t 0)⟩,
      ⟨none, .mov 6 (.t 1)⟩,
      ⟨none, .call 7 f_impl_order_those [((.t 5), false), ((.t 6), false)]⟩,
      ⟨none, .len 8 (.t 7)⟩,
      ⟨none, .bin 9 .eql (.t 8) (.c (.int .i64 0))⟩,
      ⟨none, .asg 4 (.t 9)⟩])
   (.drop [5, 6, 7, 8, 9] .ret)))
abbrev r_impl_order_none : List RS := [.t 4]
theorem k_impl_order_none : fitsF Try.prog f_impl_order_none 10 c_impl_order_none r_impl_order_none = true := by kernel_rfl

/- loop.example/g01078/impl.CountExtensions$1: [y=0, y=4] -/
def c_impl_CountExtensions_1 : ACode :=
  (.seq (.reg [⟨none, .asg 5 (.c (.bool false))⟩])
  (.seq (.reg [⟨none, .ld 6 1 false (.t 1)⟩,
      ⟨none, .mov 7 (.t 0)⟩,
      ⟨none, .ld 8 1 false (.t 2)⟩,
      ⟨none, .call 9 f_impl_order_less [((.t 6), false), ((.t 7), false), ((.t 8), false)]⟩,
      ⟨none, .asg 10 (.t 9)⟩,
      ⟨some (10, true), .ld 11 1 false (.t 3)⟩,
      ⟨some (10, true), .mov 12 (.t 0)⟩,
      ⟨some (10, true), .bin 13 .shr (.t 11) (.t 12)⟩,
      ⟨some (10, true), .bin 14 .and (.t 13) (.c (.int .i64 1))⟩,
      ⟨some (10, true), .bin 15 .eql (.t 14) (.c (.int .i64 0))⟩,
      ⟨none, .pick 16 (.t 10) (.t 15) (.c (.bool false))⟩,
      ⟨none, .asg 5 (.t 16)⟩])
   (.drop [6, 7, 8, 9, 10, 11, 12, 13, 14, 15, 16] .ret)))
abbrev r_impl_CountExtensions_1 : List RS := [.t 5]
theorem k_impl_CountExtensions_1 : fitsF Try.prog f_impl_CountExtensions_1 17 c_impl_CountExtensions_1 r_impl_CountExtensions_1 = true := by kernel_rfl

/- loop.example/g01078/laws.markIntSS: [a=0, k=1, a=2, k=3, i=5] -/
def c_laws_markIntSS_l1 : ACode :=
  (.seq (.seq (.reg [⟨none, .mov 6 (.t 5)⟩,
      ⟨none, .mov 7 (.t 0)⟩,
      ⟨none, .len 8 (.t 7)⟩,
      ⟨none, .bin 9 .lss (.t 6) (.t 8)⟩])
   (.drop [6, 7, 8] (.cond (.t 9) .skip
    (.exit 0))))
  (.drop [6, 7, 8, 9] (.seq (.block 1 (.reg [⟨none, .mov 12 (.t 0)⟩,
       ⟨none, .mov 13 (.t 5)⟩,
       ⟨none, .iad 14 1 (.t 12) (.t 13)⟩,
       ⟨none, .ld 15 1 false (.t 14)⟩,
       ⟨none, .mov 16 (.t 1)⟩,
       ⟨none, .call 17 f_laws_markIntS [((.t 15), true), ((.t 16), false)]⟩,
       ⟨none, .asg 1 (.t 17)⟩]))
   (.drop [12, 13, 14, 15, 16, 17] (.reg [⟨none, .mov 10 (.t 5)⟩,
      ⟨none, .bin 11 .add (.t 10) (.c (.int .i64 1))⟩,
      ⟨none, .asg 5 (.t 11)⟩])))))
def c_laws_markIntSS : ACode :=
  (.seq (.reg [⟨none, .asg 4 (.c (.int .i64 0))⟩])
  (.seq (.seq (.reg [⟨none, .asg 5 (.c (.int .i64 0))⟩])
    (.block 0 (.loop c_laws_markIntSS_l1)))
   (.drop [5, 6, 7, 8, 9, 12, 13, 14, 15, 16, 17, 10, 11] (.seq (.reg [⟨none, .mov 18 (.t 1)⟩,
       ⟨none, .asg 4 (.t 18)⟩])
    (.drop [18] .ret)))))
abbrev r_laws_markIntSS : List RS := [.t 4]
theorem k_laws_markIntSS : fitsF Try.prog f_laws_markIntSS 19 c_laws_markIntSS r_laws_markIntSS = true := by kernel_rfl

/- loop.example/g01078/laws.heldIntSS: [a=0, k=1, a=2, k=3, i=5] -/
def c_laws_heldIntSS_l1 : ACode :=
  (.seq (.seq (.reg [⟨none, .mov 6 (.t 5)⟩,
      ⟨none, .mov 7 (.t 0)⟩,
      ⟨none, .len 8 (.t 7)⟩,
      ⟨none, .bin 9 .lss (.t 6) (.t 8)⟩])
   (.drop [6, 7, 8] (.cond (.t 9) .skip
    (.exit 0))))
  (.drop [6, 7, 8, 9] (.seq (.block 1 (.seq (.reg [⟨none, .mov 12 (.t 0)⟩,
        ⟨none, .mov 13 (.t 5)⟩,
        ⟨none, .iad 14 1 (.t 12) (.t 13)⟩,
        ⟨none, .ld 15 1 false (.t 14)⟩,
        ⟨none, .mov 16 (.t 1)⟩,
        ⟨none, .call 17 f_laws_heldIntS [((.t 15), false), ((.t 16), false)]⟩,
        ⟨none, .asg 1 (.t 17)⟩])
     (.drop [12, 13, 14, 15, 16, 17] (.seq (.reg [⟨none, .mov 18 (.t 1)⟩,
         ⟨none, .bin 19 .lss (.t 18) (.c (.int .i64 0))⟩])
      (.drop [18] (.cond (.t 19) (.seq (.reg [⟨none, .asg 4 (.c (.int .i64 (-1)))⟩])
        .ret)
       .skip))))))
   (.drop [12, 13, 14, 15, 16, 17, 18, 19] (.reg [⟨none, .mov 10 (.t 5)⟩,
      ⟨none, .bin 11 .add (.t 10) (.c (.int .i64 1))⟩,
      ⟨none, .asg 5 (.t 11)⟩])))))
def c_laws_heldIntSS : ACode :=
  (.seq (.reg [⟨none, .asg 4 (.c (.int .i64 0))⟩])
  (.seq (.seq (.reg [⟨none, .asg 5 (.c (.int .i64 0))⟩])
    (.block 0 (.loop c_laws_heldIntSS_l1)))
   (.drop [5, 6, 7, 8, 9, 12, 13, 14, 15, 16, 17, 18, 19, 10, 11] (.seq (.reg [⟨none, .mov 20 (.t 1)⟩,
       ⟨none, .asg 4 (.t 20)⟩])
    (.drop [20] .ret)))))
abbrev r_laws_heldIntSS : List RS := [.t 4]
theorem k_laws_heldIntSS : fitsF Try.prog f_laws_heldIntSS 21 c_laws_heldIntSS r_laws_heldIntSS = true := by kernel_rfl

/- loop.example/g01078/spec.l1Rising: [l=0, lo=1, hi=2, l=3, lo=4, hi=5, i=7] -/
def c_spec_l1Rising_l1 : ACode :=
  (.seq (.seq (.reg [⟨none, .mov 8 (.t 7)⟩,
      ⟨none, .mov 9 (.t 0)⟩,
      ⟨none, .len 10 (.t 9)⟩,
      ⟨none, .bin 11 .lss (.t 8) (.t 10)⟩])
   (.drop [8, 9, 10] (.cond (.t 11) .skip
    (.exit 0))))
  (.drop [8, 9, 10, 11] (.seq (.block 1 (.seq (.dreg [(⟨none, .mov 14 (.t 0)⟩, []),
        (⟨none, .mov 15 (.t 7)⟩, [14]),
        (⟨none, .iad 16 1 (.t 14) (.t 15)⟩, []),
        (⟨none, .ld 17 1 false (.t 16)⟩, []),
        (⟨none, .mov 18 (.t 1)⟩, [14, 15, 16, 17]),
        (⟨none, .mov 19 (.t 2)⟩, [14, 15, 16, 17, 18]),
        (⟨none, .call 20 f_spec_l1In [((.t 17), false), ((.t 18), false), ((.t 19), false)]⟩, []),
        (⟨none, .un 21 .not (.t 20)⟩, []),
        (⟨none, .asg 22 (.t 21)⟩, []),
        (⟨some (22, false), .mov 23 (.t 7)⟩, []),
        (⟨some (22, false), .bin 24 .gtr (.t 23) (.c (.int .i64 0))⟩, []),
        (⟨some (22, false), .asg 25 (.t 24)⟩, []),
        (⟨some (25, true), .mov 26 (.t 0)⟩, []),
        (⟨some (25, true), .mov 27 (.t 7)⟩, [26]),
        (⟨some (25, true), .bin 28 .sub (.t 27) (.c (.int .i64 1))⟩, [26]),
        (⟨some (25, true), .iad 29 1 (.t 26) (.t 28)⟩, []),
        (⟨some (25, true), .ld 30 1 false (.t 29)⟩, []),
        (⟨some (25, true), .mov 31 (.t 0)⟩, [26, 27, 28, 29, 30]),
        (⟨some (25, true), .mov 32 (.t 7)⟩, [26, 27, 28, 29, 30, 31]),
        (⟨some (25, true), .iad 33 1 (.t 31) (.t 32)⟩, [26, 27, 28, 29, 30]),
        (⟨some (25, true), .ld 34 1 false (.t 33)⟩, [26, 27, 28, 29, 30])]
       [⟨some (25, true), .bin 35 .geq (.t 30) (.t 34)⟩,
        ⟨some (22, false), .pick 36 (.t 25) (.t 35) (.c (.bool false))⟩,
        ⟨none, .pick 37 (.t 22) (.c (.bool true)) (.t 36)⟩])
     (.drop [14, 15, 16, 17, 18, 19, 20, 21, 22, 23, 24, 25, 26, 27, 28, 29, 30, 31, 32, 33, 34, 35, 36] (.cond (.t 37) (.seq (.reg [⟨none, .asg 6 (.c (.bool false))⟩])
       .ret)
      .skip))))
   (.drop [14, 15, 16, 17, 18, 19, 20, 21, 22, 23, 24, 25, 26, 27, 28, 29, 30, 31, 32, 33, 34, 35, 36, 37] (.reg [⟨none, .mov 12 (.t 7)⟩,
      ⟨none, .bin 13 .add (.t 12) (.c (.int .i64 1))⟩,
      ⟨none, .asg 7 (.t 13)⟩])))))
def c_spec_l1Rising : ACode :=
  (.seq (.reg [⟨none, .asg 6 (.c (.bool false))⟩])
  (.seq (.seq (.reg [⟨none, .asg 7 (.c (.int .i64 0))⟩])
    (.block 0 (.loop c_spec_l1Rising_l1)))
   (.drop [7, 8, 9, 10, 11, 14, 15, 16, 17, 18, 19, 20, 21, 22, 23, 24, 25, 26, 27, 28, 29, 30, 31, 32, 33, 34, 35, 36, 37, 12, 13] (.seq (.reg [⟨none, .asg 6 (.c (.bool true))⟩])
    .ret))))
abbrev r_spec_l1Rising : List RS := [.t 6]
theorem k_spec_l1Rising : fitsF Try.prog f_spec_l1Rising 38 c_spec_l1Rising r_spec_l1Rising = true := by kernel_rfl

/- loop.example/g01078/spec.l5Within: [x=0, y=1, x=2, y=3, i=5] -/
def c_spec_l5Within_l1 : ACode :=
  (.seq (.seq (.reg [⟨none, .mov 6 (.t 5)⟩,
      ⟨none, .mov 7 (.t 0)⟩,
      ⟨none, .len 8 (.t 7)⟩,
      ⟨none, .bin 9 .lss (.t 6) (.t 8)⟩])
   (.drop [6, 7, 8] (.cond (.t 9) .skip
    (.exit 0))))
  (.drop [6, 7, 8, 9] (.seq (.block 1 (.seq (.reg [⟨none, .mov 12 (.t 1)⟩,
        ⟨none, .mov 13 (.t 0)⟩,
        ⟨none, .mov 14 (.t 5)⟩,
        ⟨none, .iad 15 1 (.t 13) (.t 14)⟩,
        ⟨none, .ld 16 1 false (.t 15)⟩,
        ⟨none, .call 17 f_spec_l1Has [((.t 12), false), ((.t 16), false)]⟩,
        ⟨none, .un 18 .not (.t 17)⟩])
     (.drop [12, 13, 14, 15, 16, 17] (.cond (.t 18) (.seq (.reg [⟨none, .asg 4 (.c (.bool false))⟩])
       .ret)
      .skip))))
   (.drop [12, 13, 14, 15, 16, 17, 18] (.reg [⟨none, .mov 10 (.t 5)⟩,
      ⟨none, .bin 11 .add (.t 10) (.c (.int .i64 1))⟩,
      ⟨none, .asg 5 (.t 11)⟩])))))
def c_spec_l5Within : ACode :=
  (.seq (.reg [⟨none, .asg 4 (.c (.bool false))⟩])
  (.seq (.seq (.reg [⟨none, .asg 5 (.c (.int .i64 0))⟩])
    (.block 0 (.loop c_spec_l5Within_l1)))
   (.drop [5, 6, 7, 8, 9, 12, 13, 14, 15, 16, 17, 18, 10, 11] (.seq (.reg [⟨none, .asg 4 (.c (.bool true))⟩])
    .ret))))
abbrev r_spec_l5Within : List RS := [.t 4]
theorem k_spec_l5Within : fitsF Try.prog f_spec_l5Within 19 c_spec_l5Within r_spec_l5Within = true := by kernel_rfl

/- loop.example/g01078/laws.szPoset: [a=0, left=1, a=2, left=3] -/
def c_laws_szPoset : ACode :=
  (.seq (.reg [⟨none, .box 2 (.t 0)⟩,
     ⟨none, .asg 4 (.c (.int .i64 0))⟩])
  (.seq (.reg [⟨none, .fadr 5 0 (.t 2)⟩,
      ⟨none, .ld 6 1 false (.t 5)⟩,
      ⟨none, .mov 7 (.t 1)⟩,
      ⟨none, .call 8 f_laws_szIntSS [((.t 6), false), ((.t 7), false)]⟩,
      ⟨none, .asg 1 (.t 8)⟩])
   (.drop [5, 6, 7, 8] (.seq (.seq (.reg [⟨none, .mov 9 (.t 1)⟩,
        ⟨none, .bin 10 .lss (.t 9) (.c (.int .i64 0))⟩])
     (.drop [9] (.cond (.t 10) (.seq (.reg [⟨none, .asg 4 (.c (.int .i64 (-1)))⟩])
       .ret)
      .skip)))
    (.drop [9, 10] (.seq (.reg [⟨none, .mov 11 (.t 1)⟩,
        ⟨none, .asg 4 (.t 11)⟩])
     (.drop [11] .ret)))))))
abbrev r_laws_szPoset : List RS := [.t 4]
theorem k_laws_szPoset : fitsF Try.prog f_laws_szPoset 12 c_laws_szPoset r_laws_szPoset = true := by kernel_rfl

/- loop.example/g01078/laws.toPoset: [a=0, a=1, out=3] -/
def c_laws_toPoset : ACode :=
  (.seq (.reg [⟨none, .box 1 (.t 0)⟩,
     ⟨none, .alc 2 (.agg [.nilsl 1])⟩])
  (.seq (.reg [⟨none, .alc 3 (.agg [.nilsl 1])⟩])
   (.seq (.reg [⟨none, .fadr 4 0 (.t 1)⟩,
       ⟨none, .ld 5 1 false (.t 4)⟩,
       ⟨none, .call 6 f_laws_toIntSS [((.t 5), false)]⟩,
       ⟨none, .fadr 7 0 (.t 3)⟩,
       ⟨none, .st 1 (.t 7) (.t 6)⟩])
    (.drop [4, 5, 6, 7] (.seq (.reg [⟨none, .ld 8 1 true (.t 3)⟩,
        ⟨none, .st 1 (.t 2) (.t 8)⟩])
     (.drop [8] .ret))))))
abbrev r_laws_toPoset : List RS := [.c 2 1 true]
theorem k_laws_toPoset : fitsF Try.prog f_laws_toPoset 9 c_laws_toPoset r_laws_toPoset = true := by kernel_rfl

/- loop.example/g01078/laws.eqPoset: [a=0, b=1, a=2, b=3] -/
def c_laws_eqPoset : ACode :=
  (.seq (.reg [⟨none, .box 2 (.t 0)⟩,
     ⟨none, .box 3 (.t 1)⟩,
     ⟨none, .asg 4 (.c (.bool false))⟩])
  (.seq (.seq (.reg [⟨none, .fadr 5 0 (.t 2)⟩,
       ⟨none, .ld 6 1 false (.t 5)⟩,
       ⟨none, .fadr 7 0 (.t 3)⟩,
       ⟨none, .ld 8 1 false (.t 7)⟩,
       ⟨none, .call 9 f_laws_eqIntSS [((.t 6), false), ((.t 8), false)]⟩,
       ⟨none, .un 10 .not (.t 9)⟩])
    (.drop [5, 6, 7, 8, 9] (.cond (.t 10) (.seq (.reg [⟨none, .asg 4 (.c (.bool false))⟩])
      .ret)
     .skip)))
   (.drop [5, 6, 7, 8, 9, 10] (.seq (.reg [⟨none, .asg 4 (.c (.bool true))⟩])
    .ret))))
abbrev r_laws_eqPoset : List RS := [.t 4]
theorem k_laws_eqPoset : fitsF Try.prog f_laws_eqPoset 11 c_laws_eqPoset r_laws_eqPoset = true := by kernel_rfl

/- loop.example/g01078/impl.CountExtensions: [p=0, p=1, o=4, ok=5, ways=6, mask=7, many=8, x=9] -/
def c_impl_CountExtensions_k1 : ACode :=
  (.seq (.reg [⟨none, .ld 35 1 false (.t 7)⟩,
           ⟨none, .ld 36 1 false (.t 9)⟩,
           ⟨none, .bin 37 .shr (.t 35) (.t 36)⟩,
           ⟨none, .bin 38 .and (.t 37) (.c (.int .i64 1))⟩,
           ⟨none, .bin 39 .eql (.t 38) (.c (.int .i64 1))⟩,
           ⟨none, .asg 40 (.t 39)⟩,
           ⟨some (40, false), .mov 41 (.t 8)⟩,
           ⟨some (40, false), .bin 42 .eql (.t 41) (.c (.int .i64 0))⟩,
           ⟨none, .pick 43 (.t 40) (.c (.bool true)) (.t 42)⟩])
        (.drop [35, 36, 37, 38, 39, 40, 41, 42] (.cond (.t 43) (.exit 3)
         .skip)))
def c_impl_CountExtensions_l1 : ACode :=
  (.seq (.reg [⟨none, .bin 33 .lss (.t 32) (.t 31)⟩])
  (.seq (.cond (.t 33) .skip
    (.exit 2))
   (.seq (.block 3 (.seq (.reg [⟨none, .mov 34 (.t 32)⟩,
         ⟨none, .alc 9 (.int .i64 0)⟩,
         ⟨none, .st 1 (.t 9) (.t 34)⟩])
      (.drop [34] (.seq (.cut c_impl_CountExtensions_k1)
       (.drop [35, 36, 37, 38, 39, 40, 41, 42, 43] (.seq (.reg [⟨none, .ld 44 1 false (.t 4)⟩,
           ⟨none, .mkf 45 f_impl_CountExtensions_1 [(.t 4), (.t 9), (.t 7)]⟩,
           ⟨none, .call 46 f_impl_order_none [((.t 44), false), ((.t 45), false)]⟩])
        (.drop [44, 45] (.cond (.t 46) (.dreg [(⟨none, .mov 47 (.t 6)⟩, []),
            (⟨none, .ld 48 1 false (.t 7)⟩, [47]),
            (⟨none, .ld 49 1 false (.t 9)⟩, [47, 48]),
            (⟨none, .bin 50 .shl (.c (.int .i64 1)) (.t 49)⟩, [47, 48]),
            (⟨none, .bin 51 .or (.t 48) (.t 50)⟩, [47]),
            (⟨none, .iad 52 1 (.t 47) (.t 51)⟩, []),
            (⟨none, .ld 53 1 false (.t 52)⟩, []),
            (⟨none, .mov 54 (.t 6)⟩, [47, 48, 49, 50, 51, 52, 53]),
            (⟨none, .ld 55 1 false (.t 7)⟩, [47, 48, 49, 50, 51, 52, 53, 54]),
            (⟨none, .iad 56 1 (.t 54) (.t 55)⟩, [47, 48, 49, 50, 51, 52, 53]),
            (⟨none, .ld 57 1 false (.t 56)⟩, [47, 48, 49, 50, 51, 52, 53])]
           [⟨none, .bin 58 .add (.t 53) (.t 57)⟩,
            ⟨none, .iad 59 1 (.t 47) (.t 51)⟩,
            ⟨none, .st 1 (.t 59) (.t 58)⟩])
         .skip))))))))
    (.drop [34, 9, 35, 36, 37, 38, 39, 40, 41, 42, 43, 44, 45, 46, 47, 48, 49, 50, 51, 52, 53, 54, 55, 56, 57, 58, 59] (.reg [⟨none, .bin 60 .add (.t 32) (.c (.int .i64 1))⟩,
       ⟨none, .asg 32 (.t 60)⟩])))))
def c_impl_CountExtensions_l2 : ACode :=
  (.seq (.reg [⟨none, .bin 26 .lss (.t 25) (.t 24)⟩])
  (.seq (.cond (.t 26) .skip
    (.exit 0))
   (.seq (.block 1 (.seq (.reg [⟨none, .mov 27 (.t 25)⟩,
         ⟨none, .iad 28 1 (.t 23) (.t 25)⟩,
         ⟨none, .ld 29 1 false (.t 28)⟩,
         ⟨none, .alc 7 (.int .i64 0)⟩,
         ⟨none, .st 1 (.t 7) (.t 27)⟩,
         ⟨none, .asg 8 (.t 29)⟩])
      (.drop [27, 28, 29] (.seq (.reg [⟨none, .ld 30 1 false (.t 4)⟩,
          ⟨none, .len 31 (.t 30)⟩,
          ⟨none, .mov 32 (.c (.int .i64 0))⟩])
       (.drop [30] (.block 2 (.loop c_impl_CountExtensions_l1)))))))
    (.drop [27, 28, 29, 7, 8, 30, 31, 32, 33, 34, 9, 35, 36, 37, 38, 39, 40, 41, 42, 43, 44, 45, 46, 47, 48, 49, 50, 51, 52, 53, 54, 55, 56, 57, 58, 59, 60] (.reg [⟨none, .bin 61 .add (.t 25) (.c (.int .i64 1))⟩,
       ⟨none, .asg 25 (.t 61)⟩])))))
def c_impl_CountExtensions : ACode :=
  (.seq (.reg [⟨none, .box 1 (.t 0)⟩,
     ⟨none, .asg 2 (.c (.int .i64 0))⟩,
     ⟨none, .asg 3 (.c (.bool false))⟩])
  (.seq (.reg [⟨none, .ld 11 1 true (.t 1)⟩,
      ⟨none, .call 12 f_impl_orderOf [((.t 11), false)]⟩,
      ⟨none, .asg 10 (.t 12)⟩,
      ⟨none, .ext 13 (.t 10) 0⟩,
      ⟨none, .ext 14 (.t 10) 1⟩,
      ⟨none, .alc 4 (.nilsl 1)⟩,
      ⟨none, .st 1 (.t 4) (.t 13)⟩,
      ⟨none, .asg 5 (.t 14)⟩])
   (.drop [11, 12, 10, 13, 14] (.seq (.seq (.reg [⟨none, .mov 15 (.t 5)⟩,
        ⟨none, .un 16 .not (.t 15)⟩])
     (.drop [15] (.cond (.t 16) (.seq (.reg [⟨none, .asg 2 (.c (.int .i64 0))⟩,
          ⟨none, .asg 3 (.c (.bool false))⟩])
       .ret)
      .skip)))
    (.drop [15, 16] (.seq (.reg [⟨none, .ld 17 1 false (.t 4)⟩,
        ⟨none, .len 18 (.t 17)⟩,
        ⟨none, .bin 19 .shl (.c (.int .i64 1)) (.t 18)⟩,
        ⟨none, .mk 20 1 (.int .i64 0) (.t 19)⟩,
        ⟨none, .asg 6 (.t 20)⟩])
     (.drop [17, 18, 19, 20] (.seq (.reg [⟨none, .mov 21 (.t 6)⟩,
         ⟨none, .iad 22 1 (.t 21) (.c (.int .i64 0))⟩,
         ⟨none, .st 1 (.t 22) (.c (.int .i64 1))⟩])
      (.drop [21, 22] (.seq (.seq (.reg [⟨none, .mov 23 (.t 6)⟩,
           ⟨none, .len 24 (.t 23)⟩,
           ⟨none, .mov 25 (.c (.int .i64 0))⟩])
        (.block 0 (.loop c_impl_CountExtensions_l2)))
       (.drop [23, 24, 25, 26, 27, 28, 29, 7, 8, 30, 31, 32, 33, 34, 9, 35, 36, 37, 38, 39, 40, 41, 42, 43, 44, 45, 46, 47, 48, 49, 50, 51, 52, 53, 54, 55, 56, 57, 58, 59, 60, 61] (.seq (.reg [⟨none, .mov 62 (.t 6)⟩,
           ⟨none, .mov 63 (.t 6)⟩,
           ⟨none, .len 64 (.t 63)⟩,
           ⟨none, .bin 65 .sub (.t 64) (.c (.int .i64 1))⟩,
           ⟨none, .iad 66 1 (.t 62) (.t 65)⟩,
           ⟨none, .ld 67 1 false (.t 66)⟩,
           ⟨none, .asg 2 (.t 67)⟩,
           ⟨none, .asg 3 (.c (.bool true))⟩])
        (.drop [62, 63, 64, 65, 66, 67] .ret)))))))))))))
abbrev r_impl_CountExtensions : List RS := [.t 2, .t 3]
theorem k_impl_CountExtensions : fitsF Try.prog f_impl_CountExtensions 68 c_impl_CountExtensions r_impl_CountExtensions = true := by kernel_rfl

/- loop.example/g01078/laws.markPoset: [a=0, k=1, a=2, k=3] -/
def c_laws_markPoset : ACode :=
  (.seq (.reg [⟨none, .box 2 (.t 0)⟩,
     ⟨none, .asg 4 (.c (.int .i64 0))⟩])
  (.seq (.reg [⟨none, .fadr 5 0 (.t 2)⟩,
      ⟨none, .ld 6 1 false (.t 5)⟩,
      ⟨none, .mov 7 (.t 1)⟩,
      ⟨none, .call 8 f_laws_markIntSS [((.t 6), true), ((.t 7), false)]⟩,
      ⟨none, .asg 1 (.t 8)⟩])
   (.drop [5, 6, 7, 8] (.seq (.reg [⟨none, .mov 9 (.t 1)⟩,
       ⟨none, .asg 4 (.t 9)⟩])
    (.drop [9] .ret)))))
abbrev r_laws_markPoset : List RS := [.t 4]
theorem k_laws_markPoset : fitsF Try.prog f_laws_markPoset 10 c_laws_markPoset r_laws_markPoset = true := by kernel_rfl

/- loop.example/g01078/laws.heldPoset: [a=0, k=1, a=2, k=3] -/
def c_laws_heldPoset : ACode :=
  (.seq (.reg [⟨none, .box 2 (.t 0)⟩,
     ⟨none, .asg 4 (.c (.int .i64 0))⟩])
  (.seq (.reg [⟨none, .fadr 5 0 (.t 2)⟩,
      ⟨none, .ld 6 1 false (.t 5)⟩,
      ⟨none, .mov 7 (.t 1)⟩,
      ⟨none, .call 8 f_laws_heldIntSS [((.t 6), false), ((.t 7), false)]⟩,
      ⟨none, .asg 1 (.t 8)⟩])
   (.drop [5, 6, 7, 8] (.seq (.seq (.reg [⟨none, .mov 9 (.t 1)⟩,
        ⟨none, .bin 10 .lss (.t 9) (.c (.int .i64 0))⟩])
     (.drop [9] (.cond (.t 10) (.seq (.reg [⟨none, .asg 4 (.c (.int .i64 (-1)))⟩])
       .ret)
      .skip)))
    (.drop [9, 10] (.seq (.reg [⟨none, .mov 11 (.t 1)⟩,
        ⟨none, .asg 4 (.t 11)⟩])
     (.drop [11] .ret)))))))
abbrev r_laws_heldPoset : List RS := [.t 4]
theorem k_laws_heldPoset : fitsF Try.prog f_laws_heldPoset 12 c_laws_heldPoset r_laws_heldPoset = true := by kernel_rfl

/- loop.example/g01078/impl.FromCovers: [n=0, pairs=1, n=2, pairs=3, o=6, x=7, _=8, pair=9, z=10, x=11, y=12] -/
def c_impl_FromCovers_k1 : ACode :=
  (.seq (.reg [⟨none, .mov 13 (.t 0)⟩,
       ⟨none, .bin 14 .lss (.t 13) (.c (.int .i64 0))⟩,
       ⟨none, .asg 15 (.t 14)⟩,
       ⟨some (15, false), .mov 16 (.t 0)⟩,
       ⟨some (15, false), .bin 17 .gtr (.t 16) (.c (.int .i64 10))⟩,
       ⟨none, .pick 18 (.t 15) (.c (.bool true)) (.t 17)⟩,
       ⟨none, .asg 19 (.t 18)⟩,
       ⟨some (19, false), .mov 20 (.t 1)⟩,
       ⟨some (19, false), .len 21 (.t 20)⟩,
       ⟨some (19, false), .bin 22 .gtr (.t 21) (.c (.int .i64 60))⟩,
       ⟨none, .pick 23 (.t 19) (.c (.bool true)) (.t 22)⟩])
    (.drop [13, 14, 15, 16, 17, 18, 19, 20, 21, 22] (.cond (.t 23) (.seq (.reg [⟨none, .bld 24 [.nilsl 1] []⟩,
         ⟨none, .st 1 (.t 4) (.t 24)⟩,
         ⟨none, .asg 5 (.c (.bool false))⟩])
      (.drop [24] .ret))
     .skip)))
def c_impl_FromCovers_l1 : ACode :=
  (.seq (.reg [⟨none, .bin 30 .lss (.t 29) (.t 28)⟩])
  (.seq (.cond (.t 30) .skip
    (.exit 0))
   (.seq (.block 1 (.seq (.reg [⟨none, .mov 31 (.t 29)⟩,
         ⟨none, .asg 7 (.t 31)⟩])
      (.drop [31] (.reg [⟨none, .mov 32 (.t 6)⟩,
         ⟨none, .mov 33 (.t 7)⟩,
         ⟨none, .iad 34 1 (.t 32) (.t 33)⟩,
         ⟨none, .ld 35 1 false (.t 34)⟩,
         ⟨none, .mov 36 (.t 7)⟩,
         ⟨none, .iad 37 1 (.t 35) (.t 36)⟩,
         ⟨none, .st 1 (.t 37) (.c (.bool true))⟩]))))
    (.drop [31, 7, 32, 33, 34, 35, 36, 37] (.reg [⟨none, .bin 38 .add (.t 29) (.c (.int .i64 1))⟩,
       ⟨none, .asg 29 (.t 38)⟩])))))
def c_impl_FromCovers_k2 : ACode :=
  (.seq (.reg [⟨none, .mov 45 (.t 6)⟩,
           ⟨none, .aad 46 1 2 (.t 9) (.c (.int .i64 0))⟩,
           ⟨none, .ld 47 1 false (.t 46)⟩,
           ⟨none, .aad 48 1 2 (.t 9) (.c (.int .i64 1))⟩,
           ⟨none, .ld 49 1 false (.t 48)⟩,
           ⟨none, .bsl 50 1 [(.t 47), (.t 49)]⟩,
           ⟨none, .call 51 f_impl_order_has [((.t 45), false), ((.t 50), false)]⟩,
           ⟨none, .un 52 .not (.t 51)⟩,
           ⟨none, .asg 53 (.t 52)⟩,
           ⟨some (53, false), .aad 54 1 2 (.t 9) (.c (.int .i64 0))⟩,
           ⟨some (53, false), .ld 55 1 false (.t 54)⟩,
           ⟨some (53, false), .aad 56 1 2 (.t 9) (.c (.int .i64 1))⟩,
           ⟨some (53, false), .ld 57 1 false (.t 56)⟩,
           ⟨some (53, false), .bin 58 .eql (.t 55) (.t 57)⟩,
           ⟨none, .pick 59 (.t 53) (.c (.bool true)) (.t 58)⟩])
        (.drop [45, 46, 47, 48, 49, 50, 51, 52, 53, 54, 55, 56, 57, 58] (.cond (.t 59) (.seq (.reg [⟨none, .bld 60 [.nilsl 1] []⟩,
             ⟨none, .st 1 (.t 4) (.t 60)⟩,
             ⟨none, .asg 5 (.c (.bool false))⟩])
          (.drop [60] .ret))
         .skip)))
def c_impl_FromCovers_l2 : ACode :=
  (.seq (.reg [⟨none, .bin 42 .lss (.t 41) (.t 40)⟩])
  (.seq (.cond (.t 42) .skip
    (.exit 2))
   (.seq (.block 3 (.seq (.reg [⟨none, .iad 43 2 (.t 39) (.t 41)⟩,
         ⟨none, .ld 44 2 true (.t 43)⟩,
         ⟨none, .alc 9 (.agg [.int .i64 0, .int .i64 0])⟩,
         ⟨none, .st 2 (.t 9) (.t 44)⟩])
      (.drop [43, 44] (.seq (.cut c_impl_FromCovers_k2)
       (.drop [45, 46, 47, 48, 49, 50, 51, 52, 53, 54, 55, 56, 57, 58, 59, 60] (.dreg [(⟨none, .mov 61 (.t 6)⟩, []),
          (⟨none, .aad 62 1 2 (.t 9) (.c (.int .i64 0))⟩, [61]),
          (⟨none, .ld 63 1 false (.t 62)⟩, [61]),
          (⟨none, .iad 64 1 (.t 61) (.t 63)⟩, []),
          (⟨none, .ld 65 1 false (.t 64)⟩, []),
          (⟨none, .aad 66 1 2 (.t 9) (.c (.int .i64 1))⟩, [61, 62, 63, 64, 65]),
          (⟨none, .ld 67 1 false (.t 66)⟩, [61, 62, 63, 64, 65])]
         [⟨none, .iad 68 1 (.t 65) (.t 67)⟩,
          ⟨none, .st 1 (.t 68) (.c (.bool true))⟩]))))))
    (.drop [43, 44, 9, 45, 46, 47, 48, 49, 50, 51, 52, 53, 54, 55, 56, 57, 58, 59, 60, 61, 62, 63, 64, 65, 66, 67, 68] (.reg [⟨none, .bin 69 .add (.t 41) (.c (.int .i64 1))⟩,
       ⟨none, .asg 41 (.t 69)⟩])))))
def c_impl_FromCovers_l3 : ACode :=
  (.seq (.reg [⟨none, .bin 83 .lss (.t 82) (.t 81)⟩])
  (.seq (.cond (.t 83) .skip
    (.exit 8))
   (.seq (.block 9 (.seq (.reg [⟨none, .mov 84 (.t 82)⟩,
         ⟨none, .asg 12 (.t 84)⟩])
      (.drop [84] (.dreg [(⟨none, .mov 85 (.t 6)⟩, []),
         (⟨none, .mov 86 (.t 11)⟩, [85]),
         (⟨none, .iad 87 1 (.t 85) (.t 86)⟩, []),
         (⟨none, .ld 88 1 false (.t 87)⟩, []),
         (⟨none, .mov 89 (.t 12)⟩, [85, 86, 87, 88]),
         (⟨none, .mov 90 (.t 6)⟩, [85, 86, 87, 88, 89]),
         (⟨none, .mov 91 (.t 11)⟩, [85, 86, 87, 88, 89, 90]),
         (⟨none, .iad 92 1 (.t 90) (.t 91)⟩, [85, 86, 87, 88, 89]),
         (⟨none, .ld 93 1 false (.t 92)⟩, [85, 86, 87, 88, 89]),
         (⟨none, .mov 94 (.t 12)⟩, [85, 86, 87, 88, 89, 90, 91, 92, 93]),
         (⟨none, .iad 95 1 (.t 93) (.t 94)⟩, [85, 86, 87, 88, 89]),
         (⟨none, .ld 96 1 false (.t 95)⟩, [85, 86, 87, 88, 89]),
         (⟨none, .asg 97 (.t 96)⟩, [85, 86, 87, 88, 89]),
         (⟨some (97, false), .mov 98 (.t 6)⟩, [85, 86, 87, 88, 89]),
         (⟨some (97, false), .mov 99 (.t 11)⟩, [85, 86, 87, 88, 89, 98]),
         (⟨some (97, false), .iad 100 1 (.t 98) (.t 99)⟩, [85, 86, 87, 88, 89]),
         (⟨some (97, false), .ld 101 1 false (.t 100)⟩, [85, 86, 87, 88, 89]),
         (⟨some (97, false), .mov 102 (.t 10)⟩, [85, 86, 87, 88, 89, 98, 99, 100, 101]),
         (⟨some (97, false), .iad 103 1 (.t 101) (.t 102)⟩, [85, 86, 87, 88, 89]),
         (⟨some (97, false), .ld 104 1 false (.t 103)⟩, [85, 86, 87, 88, 89]),
         (⟨some (97, false), .asg 105 (.t 104)⟩, [85, 86, 87, 88, 89]),
         (⟨some (105, true), .mov 106 (.t 6)⟩, [85, 86, 87, 88, 89]),
         (⟨some (105, true), .mov 107 (.t 10)⟩, [85, 86, 87, 88, 89, 106]),
         (⟨some (105, true), .iad 108 1 (.t 106) (.t 107)⟩, [85, 86, 87, 88, 89]),
         (⟨some (105, true), .ld 109 1 false (.t 108)⟩, [85, 86, 87, 88, 89]),
         (⟨some (105, true), .mov 110 (.t 12)⟩, [85, 86, 87, 88, 89, 106, 107, 108, 109]),
         (⟨some (105, true), .iad 111 1 (.t 109) (.t 110)⟩, [85, 86, 87, 88, 89]),
         (⟨some (105, true), .ld 112 1 false (.t 111)⟩, [85, 86, 87, 88, 89]),
         (⟨some (97, false), .pick 113 (.t 105) (.t 112) (.c (.bool false))⟩, [85, 86, 87, 88, 89]),
         (⟨none, .pick 114 (.t 97) (.c (.bool true)) (.t 113)⟩, [85, 86, 87, 88, 89])]
        [⟨none, .iad 115 1 (.t 88) (.t 89)⟩,
         ⟨none, .st 1 (.t 115) (.t 114)⟩]))))
    (.drop [84, 12, 85, 86, 87, 88, 89, 90, 91, 92, 93, 94, 95, 96, 97, 98, 99, 100, 101, 102, 103, 104, 105, 106, 107, 108, 109, 110, 111, 112, 113, 114, 115] (.reg [⟨none, .bin 116 .add (.t 82) (.c (.int .i64 1))⟩,
       ⟨none, .asg 82 (.t 116)⟩])))))
def c_impl_FromCovers_l4 : ACode :=
  (.seq (.reg [⟨none, .bin 78 .lss (.t 77) (.t 76)⟩])
  (.seq (.cond (.t 78) .skip
    (.exit 6))
   (.seq (.block 7 (.seq (.reg [⟨none, .mov 79 (.t 77)⟩,
         ⟨none, .asg 11 (.t 79)⟩])
      (.drop [79] (.seq (.reg [⟨none, .mov 80 (.t 6)⟩,
          ⟨none, .len 81 (.t 80)⟩,
          ⟨none, .mov 82 (.c (.int .i64 0))⟩])
       (.drop [80] (.block 8 (.loop c_impl_FromCovers_l3)))))))
    (.drop [79, 11, 80, 81, 82, 83, 84, 12, 85, 86, 87, 88, 89, 90, 91, 92, 93, 94, 95, 96, 97, 98, 99, 100, 101, 102, 103, 104, 105, 106, 107, 108, 109, 110, 111, 112, 113, 114, 115, 116] (.reg [⟨none, .bin 117 .add (.t 77) (.c (.int .i64 1))⟩,
       ⟨none, .asg 77 (.t 117)⟩])))))
def c_impl_FromCovers_l5 : ACode :=
  (.seq (.reg [⟨none, .bin 73 .lss (.t 72) (.t 71)⟩])
  (.seq (.cond (.t 73) .skip
    (.exit 4))
   (.seq (.block 5 (.seq (.reg [⟨none, .mov 74 (.t 72)⟩,
         ⟨none, .asg 10 (.t 74)⟩])
      (.drop [74] (.seq (.reg [⟨none, .mov 75 (.t 6)⟩,
          ⟨none, .len 76 (.t 75)⟩,
          ⟨none, .mov 77 (.c (.int .i64 0))⟩])
       (.drop [75] (.block 6 (.loop c_impl_FromCovers_l4)))))))
    (.drop [74, 10, 75, 76, 77, 78, 79, 11, 80, 81, 82, 83, 84, 12, 85, 86, 87, 88, 89, 90, 91, 92, 93, 94, 95, 96, 97, 98, 99, 100, 101, 102, 103, 104, 105, 106, 107, 108, 109, 110, 111, 112, 113, 114, 115, 116, 117] (.reg [⟨none, .bin 118 .add (.t 72) (.c (.int .i64 1))⟩,
       ⟨none, .asg 72 (.t 118)⟩])))))
def c_impl_FromCovers : ACode :=
  (.seq (.reg [⟨none, .alc 4 (.agg [.nilsl 1])⟩,
     ⟨none, .asg 5 (.c (.bool false))⟩])
  (.seq (.cut c_impl_FromCovers_k1)
   (.drop [13, 14, 15, 16, 17, 18, 19, 20, 21, 22, 23, 24] (.seq (.reg [⟨none, .mov 25 (.t 0)⟩,
       ⟨none, .call 26 f_impl_newOrder [((.t 25), false)]⟩,
       ⟨none, .asg 6 (.t 26)⟩])
    (.drop [25, 26] (.seq (.seq (.reg [⟨none, .mov 27 (.t 6)⟩,
         ⟨none, .len 28 (.t 27)⟩,
         ⟨none, .mov 29 (.c (.int .i64 0))⟩])
      (.drop [27] (.block 0 (.loop c_impl_FromCovers_l1))))
     (.drop [27, 28, 29, 30, 31, 7, 32, 33, 34, 35, 36, 37, 38] (.seq (.seq (.reg [⟨none, .mov 39 (.t 1)⟩,
          ⟨none, .len 40 (.t 39)⟩,
          ⟨none, .mov 41 (.c (.int .i64 0))⟩])
       (.block 2 (.loop c_impl_FromCovers_l2)))
      (.drop [39, 40, 41, 42, 43, 44, 9, 45, 46, 47, 48, 49, 50, 51, 52, 53, 54, 55, 56, 57, 58, 59, 60, 61, 62, 63, 64, 65, 66, 67, 68, 69] (.seq (.seq (.reg [⟨none, .mov 70 (.t 6)⟩,
           ⟨none, .len 71 (.t 70)⟩,
           ⟨none, .mov 72 (.c (.int .i64 0))⟩])
        (.drop [70] (.block 4 (.loop c_impl_FromCovers_l5))))
       (.drop [70, 71, 72, 73, 74, 10, 75, 76, 77, 78, 79, 11, 80, 81, 82, 83, 84, 12, 85, 86, 87, 88, 89, 90, 91, 92, 93, 94, 95, 96, 97, 98, 99, 100, 101, 102, 103, 104, 105, 106, 107, 108, 109, 110, 111, 112, 113, 114, 115, 116, 117, 118] (.seq (.seq (.reg [⟨none, .mov 119 (.t 6)⟩,
            ⟨none, .call 120 f_impl_order_isOrder [((.t 119), false)]⟩,
            ⟨none, .un 121 .not (.t 120)⟩])
         (.drop [119, 120] (.cond (.t 121) (.seq (.reg [⟨none, .bld 122 [.nilsl 1] []⟩,
              ⟨none, .st 1 (.t 4) (.t 122)⟩,
              ⟨none, .asg 5 (.c (.bool false))⟩])
           (.drop [122] .ret))
          .skip)))
        (.drop [119, 120, 121, 122] (.seq (.reg [⟨none, .mov 123 (.t 6)⟩,
            ⟨none, .call 124 f_impl_order_poset [((.t 123), false)]⟩,
            ⟨none, .st 1 (.t 4) (.t 124)⟩,
            ⟨none, .asg 5 (.c (.bool true))⟩])
         (.drop [123, 124] .ret)))))))))))))))
abbrev r_impl_FromCovers : List RS := [.c 4 1 true, .t 5]
theorem k_impl_FromCovers : fitsF Try.prog f_impl_FromCovers 125 c_impl_FromCovers r_impl_FromCovers = true := by kernel_rfl

/- loop.example/g01078/spec.l23Good: [p=0, p=1, n=3, x=4, x=5, i=6, y=7] -/
def c_spec_l23Good_l1 : ACode :=
  (.seq (.seq (.reg [⟨none, .mov 13 (.t 4)⟩,
      ⟨none, .mov 14 (.t 3)⟩,
      ⟨none, .bin 15 .lss (.t 13) (.t 14)⟩])
   (.drop [13, 14] (.cond (.t 15) .skip
    (.exit 0))))
  (.drop [13, 14, 15] (.seq (.block 1 (.seq (.reg [⟨none, .fadr 18 0 (.t 1)⟩,
        ⟨none, .ld 19 1 false (.t 18)⟩,
        ⟨none, .mov 20 (.t 4)⟩,
        ⟨none, .iad 21 1 (.t 19) (.t 20)⟩,
        ⟨none, .ld 22 1 false (.t 21)⟩,
        ⟨none, .mov 23 (.t 3)⟩,
        ⟨none, .bin 24 .sub (.t 23) (.c (.int .i64 1))⟩,
        ⟨none, .call 25 f_spec_l1Rising [((.t 22), false), ((.c (.int .i64 0)), false), ((.t 24), false)]⟩,
        ⟨none, .un 26 .not (.t 25)⟩,
        ⟨none, .asg 27 (.t 26)⟩,
        ⟨some (27, false), .fadr 28 0 (.t 1)⟩,
        ⟨some (27, false), .ld 29 1 false (.t 28)⟩,
        ⟨some (27, false), .mov 30 (.t 4)⟩,
        ⟨some (27, false), .iad 31 1 (.t 29) (.t 30)⟩,
        ⟨some (27, false), .ld 32 1 false (.t 31)⟩,
        ⟨some (27, false), .mov 33 (.t 4)⟩,
        ⟨some (27, false), .call 34 f_spec_l1Has [((.t 32), false), ((.t 33), false)]⟩,
        ⟨some (27, false), .un 35 .not (.t 34)⟩,
        ⟨none, .pick 36 (.t 27) (.c (.bool true)) (.t 35)⟩])
     (.drop [18, 19, 20, 21, 22, 23, 24, 25, 26, 27, 28, 29, 30, 31, 32, 33, 34, 35] (.cond (.t 36) (.seq (.reg [⟨none, .asg 2 (.c (.bool false))⟩])
       .ret)
      .skip))))
   (.drop [18, 19, 20, 21, 22, 23, 24, 25, 26, 27, 28, 29, 30, 31, 32, 33, 34, 35, 36] (.reg [⟨none, .mov 16 (.t 4)⟩,
      ⟨none, .bin 17 .add (.t 16) (.c (.int .i64 1))⟩,
      ⟨none, .asg 4 (.t 17)⟩])))))
def c_spec_l23Good_l2 : ACode :=
  (.seq (.seq (.reg [⟨none, .mov 42 (.t 6)⟩,
      ⟨none, .fadr 43 0 (.t 1)⟩,
      ⟨none, .ld 44 1 false (.t 43)⟩,
      ⟨none, .mov 45 (.t 5)⟩,
      ⟨none, .iad 46 1 (.t 44) (.t 45)⟩,
      ⟨none, .ld 47 1 false (.t 46)⟩,
      ⟨none, .len 48 (.t 47)⟩,
      ⟨none, .bin 49 .lss (.t 42) (.t 48)⟩])
   (.drop [42, 43, 44, 45, 46, 47, 48] (.cond (.t 49) .skip
    (.exit 4))))
  (.drop [42, 43, 44, 45, 46, 47, 48, 49] (.seq (.block 5 (.seq (.reg [⟨none, .fadr 52 0 (.t 1)⟩,
        ⟨none, .ld 53 1 false (.t 52)⟩,
        ⟨none, .mov 54 (.t 5)⟩,
        ⟨none, .iad 55 1 (.t 53) (.t 54)⟩,
        ⟨none, .ld 56 1 false (.t 55)⟩,
        ⟨none, .mov 57 (.t 6)⟩,
        ⟨none, .iad 58 1 (.t 56) (.t 57)⟩,
        ⟨none, .ld 59 1 false (.t 58)⟩,
        ⟨none, .asg 7 (.t 59)⟩])
     (.drop [52, 53, 54, 55, 56, 57, 58, 59] (.seq (.dreg [(⟨none, .mov 60 (.t 7)⟩, []),
         (⟨none, .mov 61 (.t 5)⟩, [60]),
         (⟨none, .bin 62 .neq (.t 60) (.t 61)⟩, []),
         (⟨none, .asg 63 (.t 62)⟩, []),
         (⟨some (63, true), .fadr 64 0 (.t 1)⟩, []),
         (⟨some (63, true), .ld 65 1 false (.t 64)⟩, []),
         (⟨some (63, true), .mov 66 (.t 7)⟩, [64, 65]),
         (⟨some (63, true), .iad 67 1 (.t 65) (.t 66)⟩, []),
         (⟨some (63, true), .ld 68 1 false (.t 67)⟩, []),
         (⟨some (63, true), .mov 69 (.t 5)⟩, [64, 65, 66, 67, 68]),
         (⟨some (63, true), .call 70 f_spec_l1Has [((.t 68), false), ((.t 69), false)]⟩, []),
         (⟨none, .pick 71 (.t 63) (.t 70) (.c (.bool false))⟩, []),
         (⟨none, .asg 72 (.t 71)⟩, []),
         (⟨some (72, false), .fadr 73 0 (.t 1)⟩, []),
         (⟨some (72, false), .ld 74 1 false (.t 73)⟩, []),
         (⟨some (72, false), .mov 75 (.t 7)⟩, [73, 74]),
         (⟨some (72, false), .iad 76 1 (.t 74) (.t 75)⟩, []),
         (⟨some (72, false), .ld 77 1 false (.t 76)⟩, []),
         (⟨some (72, false), .fadr 78 0 (.t 1)⟩, [73, 74, 75, 76, 77]),
         (⟨some (72, false), .ld 79 1 false (.t 78)⟩, [73, 74, 75, 76, 77]),
         (⟨some (72, false), .mov 80 (.t 5)⟩, [73, 74, 75, 76, 77, 78, 79]),
         (⟨some (72, false), .iad 81 1 (.t 79) (.t 80)⟩, [73, 74, 75, 76, 77]),
         (⟨some (72, false), .ld 82 1 false (.t 81)⟩, [73, 74, 75, 76, 77])]
        [⟨some (72, false), .call 83 f_spec_l5Within [((.t 77), false), ((.t 82), false)]⟩,
         ⟨some (72, false), .un 84 .not (.t 83)⟩,
         ⟨none, .pick 85 (.t 72) (.c (.bool true)) (.t 84)⟩])
      (.drop [60, 61, 62, 63, 64, 65, 66, 67, 68, 69, 70, 71, 72, 73, 74, 75, 76, 77, 78, 79, 80, 81, 82, 83, 84] (.cond (.t 85) (.seq (.reg [⟨none, .asg 2 (.c (.bool false))⟩])
        .ret)
       .skip))))))
   (.drop [52, 53, 54, 55, 56, 57, 58, 59, 7, 60, 61, 62, 63, 64, 65, 66, 67, 68, 69, 70, 71, 72, 73, 74, 75, 76, 77, 78, 79, 80, 81, 82, 83, 84, 85] (.reg [⟨none, .mov 50 (.t 6)⟩,
      ⟨none, .bin 51 .add (.t 50) (.c (.int .i64 1))⟩,
      ⟨none, .asg 6 (.t 51)⟩])))))
def c_spec_l23Good_l3 : ACode :=
  (.seq (.seq (.reg [⟨none, .mov 37 (.t 5)⟩,
      ⟨none, .mov 38 (.t 3)⟩,
      ⟨none, .bin 39 .lss (.t 37) (.t 38)⟩])
   (.drop [37, 38] (.cond (.t 39) .skip
    (.exit 2))))
  (.drop [37, 38, 39] (.seq (.block 3 (.seq (.reg [⟨none, .asg 6 (.c (.int .i64 0))⟩])
     (.block 4 (.loop c_spec_l23Good_l2))))
   (.drop [6, 42, 43, 44, 45, 46, 47, 48, 49, 52, 53, 54, 55, 56, 57, 58, 59, 7, 60, 61, 62, 63, 64, 65, 66, 67, 68, 69, 70, 71, 72, 73, 74, 75, 76, 77, 78, 79, 80, 81, 82, 83, 84, 85, 50, 51] (.reg [⟨none, .mov 40 (.t 5)⟩,
      ⟨none, .bin 41 .add (.t 40) (.c (.int .i64 1))⟩,
      ⟨none, .asg 5 (.t 41)⟩])))))
def c_spec_l23Good : ACode :=
  (.seq (.reg [⟨none, .box 1 (.t 0)⟩,
     ⟨none, .asg 2 (.c (.bool false))⟩])
  (.seq (.reg [⟨none, .fadr 8 0 (.t 1)⟩,
      ⟨none, .ld 9 1 false (.t 8)⟩,
      ⟨none, .len 10 (.t 9)⟩,
      ⟨none, .asg 3 (.t 10)⟩])
   (.drop [8, 9, 10] (.seq (.seq (.reg [⟨none, .mov 11 (.t 3)⟩,
        ⟨none, .bin 12 .gtr (.t 11) (.c (.int .i64 10))⟩])
     (.drop [11] (.cond (.t 12) (.seq (.reg [⟨none, .asg 2 (.c (.bool false))⟩])
       .ret)
      .skip)))
    (.drop [11, 12] (.seq (.seq (.reg [⟨none, .asg 4 (.c (.int .i64 0))⟩])
      (.block 0 (.loop c_spec_l23Good_l1)))
     (.drop [4, 13, 14, 15, 18, 19, 20, 21, 22, 23, 24, 25, 26, 27, 28, 29, 30, 31, 32, 33, 34, 35, 36, 16, 17] (.seq (.seq (.reg [⟨none, .asg 5 (.c (.int .i64 0))⟩])
       (.block 2 (.loop c_spec_l23Good_l3)))
      (.drop [5, 37, 38, 39, 6, 42, 43, 44, 45, 46, 47, 48, 49, 52, 53, 54, 55, 56, 57, 58, 59, 7, 60, 61, 62, 63, 64, 65, 66, 67, 68, 69, 70, 71, 72, 73, 74, 75, 76, 77, 78, 79, 80, 81, 82, 83, 84, 85, 50, 51, 40, 41] (.seq (.reg [⟨none, .asg 2 (.c (.bool true))⟩])
       .ret))))))))))
abbrev r_spec_l23Good : List RS := [.t 2]
theorem k_spec_l23Good : fitsF Try.prog f_spec_l23Good 86 c_spec_l23Good r_spec_l23Good = true := by kernel_rfl

/- loop.example/g01078/spec.CountExtensions: [p=0, p=1, n=4, ways=5, bits=6, x=7, free=8, k=9] -/
def c_spec_CountExtensions_k1 : ACode :=
  (.seq (.reg [⟨none, .mov 27 (.t 7)⟩,
      ⟨none, .mov 28 (.t 4)⟩,
      ⟨none, .bin 29 .lss (.t 27) (.t 28)⟩,
      ⟨none, .asg 30 (.t 29)⟩,
      ⟨some (30, true), .mov 31 (.t 5)⟩,
      ⟨some (30, true), .mov 32 (.t 6)⟩,
      ⟨some (30, true), .iad 33 1 (.t 31) (.t 32)⟩,
      ⟨some (30, true), .ld 34 1 false (.t 33)⟩,
      ⟨some (30, true), .bin 35 .gtr (.t 34) (.c (.int .i64 0))⟩,
      ⟨none, .pick 36 (.t 30) (.t 35) (.c (.bool false))⟩])
   (.drop [27, 28, 29, 30, 31, 32, 33, 34, 35] (.cond (.t 36) .skip
    (.exit 2))))
def c_spec_CountExtensions_k2 : ACode :=
  (.seq (.reg [⟨none, .mov 44 (.t 9)⟩,
      ⟨none, .fadr 45 0 (.t 1)⟩,
      ⟨none, .ld 46 1 false (.t 45)⟩,
      ⟨none, .mov 47 (.t 7)⟩,
      ⟨none, .iad 48 1 (.t 46) (.t 47)⟩,
      ⟨none, .ld 49 1 false (.t 48)⟩,
      ⟨none, .len 50 (.t 49)⟩,
      ⟨none, .bin 51 .lss (.t 44) (.t 50)⟩,
      ⟨none, .asg 52 (.t 51)⟩,
      ⟨some (52, true), .mov 53 (.t 8)⟩,
      ⟨none, .pick 54 (.t 52) (.t 53) (.c (.bool false))⟩])
   (.drop [44, 45, 46, 47, 48, 49, 50, 51, 52, 53] (.cond (.t 54) .skip
    (.exit 4))))
def c_spec_CountExtensions_l1 : ACode :=
  (.seq (.cut c_spec_CountExtensions_k2)
  (.drop [44, 45, 46, 47, 48, 49, 50, 51, 52, 53, 54] (.seq (.block 5 (.reg [⟨none, .fadr 57 0 (.t 1)⟩,
       ⟨none, .ld 58 1 false (.t 57)⟩,
       ⟨none, .mov 59 (.t 7)⟩,
       ⟨none, .iad 60 1 (.t 58) (.t 59)⟩,
       ⟨none, .ld 61 1 false (.t 60)⟩,
       ⟨none, .mov 62 (.t 9)⟩,
       ⟨none, .iad 63 1 (.t 61) (.t 62)⟩,
       ⟨none, .ld 64 1 false (.t 63)⟩,
       ⟨none, .mov 65 (.t 7)⟩,
       ⟨none, .bin 66 .eql (.t 64) (.t 65)⟩,
       ⟨none, .asg 67 (.t 66)⟩,
       ⟨some (67, false), .mov 68 (.t 6)⟩,
       ⟨some (67, false), .fadr 69 0 (.t 1)⟩,
       ⟨some (67, false), .ld 70 1 false (.t 69)⟩,
       ⟨some (67, false), .mov 71 (.t 7)⟩,
       ⟨some (67, false), .iad 72 1 (.t 70) (.t 71)⟩,
       ⟨some (67, false), .ld 73 1 false (.t 72)⟩,
       ⟨some (67, false), .mov 74 (.t 9)⟩,
       ⟨some (67, false), .iad 75 1 (.t 73) (.t 74)⟩,
       ⟨some (67, false), .ld 76 1 false (.t 75)⟩,
       ⟨some (67, false), .bin 77 .shr (.t 68) (.t 76)⟩,
       ⟨some (67, false), .bin 78 .and (.t 77) (.c (.int .i64 1))⟩,
       ⟨some (67, false), .bin 79 .eql (.t 78) (.c (.int .i64 1))⟩,
       ⟨none, .pick 80 (.t 67) (.c (.bool true)) (.t 79)⟩,
       ⟨none, .asg 8 (.t 80)⟩]))
   (.drop [57, 58, 59, 60, 61, 62, 63, 64, 65, 66, 67, 68, 69, 70, 71, 72, 73, 74, 75, 76, 77, 78, 79, 80] (.reg [⟨none, .mov 55 (.t 9)⟩,
      ⟨none, .bin 56 .add (.t 55) (.c (.int .i64 1))⟩,
      ⟨none, .asg 9 (.t 56)⟩])))))
def c_spec_CountExtensions_l2 : ACode :=
  (.seq (.cut c_spec_CountExtensions_k1)
  (.drop [27, 28, 29, 30, 31, 32, 33, 34, 35, 36] (.seq (.block 3 (.seq (.reg [⟨none, .mov 39 (.t 6)⟩,
        ⟨none, .mov 40 (.t 7)⟩,
        ⟨none, .bin 41 .shr (.t 39) (.t 40)⟩,
        ⟨none, .bin 42 .and (.t 41) (.c (.int .i64 1))⟩,
        ⟨none, .bin 43 .eql (.t 42) (.c (.int .i64 0))⟩,
        ⟨none, .asg 8 (.t 43)⟩])
     (.drop [39, 40, 41, 42, 43] (.seq (.seq (.reg [⟨none, .asg 9 (.c (.int .i64 0))⟩])
       (.block 4 (.loop c_spec_CountExtensions_l1)))
      (.drop [9, 44, 45, 46, 47, 48, 49, 50, 51, 52, 53, 54, 57, 58, 59, 60, 61, 62, 63, 64, 65, 66, 67, 68, 69, 70, 71, 72, 73, 74, 75, 76, 77, 78, 79, 80, 55, 56] (.seq (.reg [⟨none, .mov 81 (.t 8)⟩])
       (.cond (.t 81) (.dreg [(⟨none, .mov 82 (.t 5)⟩, []),
           (⟨none, .mov 83 (.t 6)⟩, [82]),
           (⟨none, .mov 84 (.t 7)⟩, [82, 83]),
           (⟨none, .bin 85 .shl (.c (.int .i64 1)) (.t 84)⟩, [82, 83]),
           (⟨none, .bin 86 .or (.t 83) (.t 85)⟩, [82]),
           (⟨none, .mov 87 (.t 5)⟩, [82, 83, 84, 85, 86]),
           (⟨none, .mov 88 (.t 6)⟩, [82, 83, 84, 85, 86, 87]),
           (⟨none, .mov 89 (.t 7)⟩, [82, 83, 84, 85, 86, 87, 88]),
           (⟨none, .bin 90 .shl (.c (.int .i64 1)) (.t 89)⟩, [82, 83, 84, 85, 86, 87, 88]),
           (⟨none, .bin 91 .or (.t 88) (.t 90)⟩, [82, 83, 84, 85, 86, 87]),
           (⟨none, .iad 92 1 (.t 87) (.t 91)⟩, [82, 83, 84, 85, 86]),
           (⟨none, .ld 93 1 false (.t 92)⟩, [82, 83, 84, 85, 86]),
           (⟨none, .mov 94 (.t 5)⟩, [82, 83, 84, 85, 86, 87, 88, 89, 90, 91, 92, 93]),
           (⟨none, .mov 95 (.t 6)⟩, [82, 83, 84, 85, 86, 87, 88, 89, 90, 91, 92, 93, 94]),
           (⟨none, .iad 96 1 (.t 94) (.t 95)⟩, [82, 83, 84, 85, 86, 87, 88, 89, 90, 91, 92, 93]),
           (⟨none, .ld 97 1 false (.t 96)⟩, [82, 83, 84, 85, 86, 87, 88, 89, 90, 91, 92, 93]),
           (⟨none, .bin 98 .add (.t 93) (.t 97)⟩, [82, 83, 84, 85, 86])]
          [⟨none, .iad 99 1 (.t 82) (.t 86)⟩,
           ⟨none, .st 1 (.t 99) (.t 98)⟩])
        .skip)))))))
   (.drop [39, 40, 41, 42, 43, 8, 9, 44, 45, 46, 47, 48, 49, 50, 51, 52, 53, 54, 57, 58, 59, 60, 61, 62, 63, 64, 65, 66, 67, 68, 69, 70, 71, 72, 73, 74, 75, 76, 77, 78, 79, 80, 55, 56, 81, 82, 83, 84, 85, 86, 87, 88, 89, 90, 91, 92, 93, 94, 95, 96, 97, 98, 99] (.reg [⟨none, .mov 37 (.t 7)⟩,
      ⟨none, .bin 38 .add (.t 37) (.c (.int .i64 1))⟩,
      ⟨none, .asg 7 (.t 38)⟩])))))
def c_spec_CountExtensions_l3 : ACode :=
  (.seq (.seq (.reg [⟨none, .mov 21 (.t 6)⟩,
      ⟨none, .mov 22 (.t 4)⟩,
      ⟨none, .bin 23 .shl (.c (.int .i64 1)) (.t 22)⟩,
      ⟨none, .bin 24 .lss (.t 21) (.t 23)⟩])
   (.drop [21, 22, 23] (.cond (.t 24) .skip
    (.exit 0))))
  (.drop [21, 22, 23, 24] (.seq (.block 1 (.seq (.reg [⟨none, .asg 7 (.c (.int .i64 0))⟩])
     (.block 2 (.loop c_spec_CountExtensions_l2))))
   (.drop [7, 27, 28, 29, 30, 31, 32, 33, 34, 35, 36, 39, 40, 41, 42, 43, 8, 9, 44, 45, 46, 47, 48, 49, 50, 51, 52, 53, 54, 57, 58, 59, 60, 61, 62, 63, 64, 65, 66, 67, 68, 69, 70, 71, 72, 73, 74, 75, 76, 77, 78, 79, 80, 55, 56, 81, 82, 83, 84, 85, 86, 87, 88, 89, 90, 91, 92, 93, 94, 95, 96, 97, 98, 99, 37, 38] (.reg [⟨none, .mov 25 (.t 6)⟩,
      ⟨none, .bin 26 .add (.t 25) (.c (.int .i64 1))⟩,
      ⟨none, .asg 6 (.t 26)⟩])))))
def c_spec_CountExtensions : ACode :=
  (.seq (.reg [⟨none, .box 1 (.t 0)⟩,
     ⟨none, .asg 2 (.c (.int .i64 0))⟩,
     ⟨none, .asg 3 (.c (.bool false))⟩])
  (.seq (.seq (.reg [⟨none, .ld 10 1 true (.t 1)⟩,
       ⟨none, .call 11 f_spec_l23Good [((.t 10), false)]⟩,
       ⟨none, .un 12 .not (.t 11)⟩])
    (.drop [10, 11] (.cond (.t 12) (.seq (.reg [⟨none, .asg 2 (.c (.int .i64 0))⟩,
         ⟨none, .asg 3 (.c (.bool false))⟩])
      .ret)
     .skip)))
   (.drop [10, 11, 12] (.seq (.reg [⟨none, .fadr 13 0 (.t 1)⟩,
       ⟨none, .ld 14 1 false (.t 13)⟩,
       ⟨none, .len 15 (.t 14)⟩,
       ⟨none, .asg 4 (.t 15)⟩])
    (.drop [13, 14, 15] (.seq (.reg [⟨none, .mov 16 (.t 4)⟩,
        ⟨none, .bin 17 .shl (.c (.int .i64 1)) (.t 16)⟩,
        ⟨none, .mk 18 1 (.int .i64 0) (.t 17)⟩,
        ⟨none, .asg 5 (.t 18)⟩])
     (.drop [16, 17, 18] (.seq (.reg [⟨none, .mov 19 (.t 5)⟩,
         ⟨none, .iad 20 1 (.t 19) (.c (.int .i64 0))⟩,
         ⟨none, .st 1 (.t 20) (.c (.int .i64 1))⟩])
      (.drop [19, 20] (.seq (.seq (.reg [⟨none, .asg 6 (.c (.int .i64 0))⟩])
        (.block 0 (.loop c_spec_CountExtensions_l3)))
       (.drop [6, 21, 22, 23, 24, 7, 27, 28, 29, 30, 31, 32, 33, 34, 35, 36, 39, 40, 41, 42, 43, 8, 9, 44, 45, 46, 47, 48, 49, 50, 51, 52, 53, 54, 57, 58, 59, 60, 61, 62, 63, 64, 65, 66, 67, 68, 69, 70, 71, 72, 73, 74, 75, 76, 77, 78, 79, 80, 55, 56, 81, 82, 83, 84, 85, 86, 87, 88, 89, 90, 91, 92, 93, 94, 95, 96, 97, 98, 99, 37, 38, 25, 26] (.seq (.reg [⟨none, .mov 100 (.t 5)⟩,
           ⟨none, .mov 101 (.t 4)⟩,
           ⟨none, .bin 102 .shl (.c (.int .i64 1)) (.t 101)⟩,
           ⟨none, .bin 103 .sub (.t 102) (.c (.int .i64 1))⟩,
           ⟨none, .iad 104 1 (.t 100) (.t 103)⟩,
           ⟨none, .ld 105 1 false (.t 104)⟩,
           ⟨none, .asg 2 (.t 105)⟩,
           ⟨none, .asg 3 (.c (.bool true))⟩])
        (.drop [100, 101, 102, 103, 104, 105] .ret)))))))))))))
abbrev r_spec_CountExtensions : List RS := [.t 2, .t 3]
theorem k_spec_CountExtensions : fitsF Try.prog f_spec_CountExtensions 106 c_spec_CountExtensions r_spec_CountExtensions = true := by kernel_rfl

/- loop.example/g01078/spec.FromCovers: [n=0, pairs=1, n=2, pairs=3, i=6, p=7] -/
def c_spec_FromCovers_k1 : ACode :=
  (.seq (.reg [⟨none, .mov 8 (.t 0)⟩,
       ⟨none, .call 9 f_spec_l1In [((.t 8), false), ((.c (.int .i64 0)), false), ((.c (.int .i64 10)), false)]⟩,
       ⟨none, .un 10 .not (.t 9)⟩,
       ⟨none, .asg 11 (.t 10)⟩,
       ⟨some (11, false), .mov 12 (.t 1)⟩,
       ⟨some (11, false), .len 13 (.t 12)⟩,
       ⟨some (11, false), .bin 14 .gtr (.t 13) (.c (.int .i64 60))⟩,
       ⟨none, .pick 15 (.t 11) (.c (.bool true)) (.t 14)⟩])
    (.drop [8, 9, 10, 11, 12, 13, 14] (.cond (.t 15) (.seq (.reg [⟨none, .bld 16 [.nilsl 1] []⟩,
         ⟨none, .st 1 (.t 4) (.t 16)⟩,
         ⟨none, .asg 5 (.c (.bool false))⟩])
      (.drop [16] .ret))
     .skip)))
def c_spec_FromCovers_l1 : ACode :=
  (.seq (.seq (.reg [⟨none, .mov 17 (.t 6)⟩,
      ⟨none, .mov 18 (.t 1)⟩,
      ⟨none, .len 19 (.t 18)⟩,
      ⟨none, .bin 20 .lss (.t 17) (.t 19)⟩])
   (.drop [17, 18, 19] (.cond (.t 20) .skip
    (.exit 0))))
  (.drop [17, 18, 19, 20] (.seq (.block 1 (.seq (.dreg [(⟨none, .mov 23 (.t 1)⟩, []),
        (⟨none, .mov 24 (.t 6)⟩, [23]),
        (⟨none, .iad 25 2 (.t 23) (.t 24)⟩, []),
        (⟨none, .aad 26 1 2 (.t 25) (.c (.int .i64 0))⟩, []),
        (⟨none, .ld 27 1 false (.t 26)⟩, []),
        (⟨none, .mov 28 (.t 0)⟩, [23, 24, 25, 26, 27]),
        (⟨none, .bin 29 .sub (.t 28) (.c (.int .i64 1))⟩, [23, 24, 25, 26, 27]),
        (⟨none, .call 30 f_spec_l1In [((.t 27), false), ((.c (.int .i64 0)), false), ((.t 29), false)]⟩, []),
        (⟨none, .un 31 .not (.t 30)⟩, []),
        (⟨none, .asg 32 (.t 31)⟩, []),
        (⟨some (32, false), .mov 33 (.t 1)⟩, []),
        (⟨some (32, false), .mov 34 (.t 6)⟩, [33]),
        (⟨some (32, false), .iad 35 2 (.t 33) (.t 34)⟩, []),
        (⟨some (32, false), .aad 36 1 2 (.t 35) (.c (.int .i64 1))⟩, []),
        (⟨some (32, false), .ld 37 1 false (.t 36)⟩, []),
        (⟨some (32, false), .mov 38 (.t 0)⟩, [33, 34, 35, 36, 37]),
        (⟨some (32, false), .bin 39 .sub (.t 38) (.c (.int .i64 1))⟩, [33, 34, 35, 36, 37]),
        (⟨some (32, false), .call 40 f_spec_l1In [((.t 37), false), ((.c (.int .i64 0)), false), ((.t 39), false)]⟩, []),
        (⟨some (32, false), .un 41 .not (.t 40)⟩, []),
        (⟨none, .pick 42 (.t 32) (.c (.bool true)) (.t 41)⟩, []),
        (⟨none, .asg 43 (.t 42)⟩, []),
        (⟨some (43, false), .mov 44 (.t 1)⟩, []),
        (⟨some (43, false), .mov 45 (.t 6)⟩, [44]),
        (⟨some (43, false), .iad 46 2 (.t 44) (.t 45)⟩, []),
        (⟨some (43, false), .aad 47 1 2 (.t 46) (.c (.int .i64 0))⟩, []),
        (⟨some (43, false), .ld 48 1 false (.t 47)⟩, []),
        (⟨some (43, false), .mov 49 (.t 1)⟩, [44, 45, 46, 47, 48]),
        (⟨some (43, false), .mov 50 (.t 6)⟩, [44, 45, 46, 47, 48, 49]),
        (⟨some (43, false), .iad 51 2 (.t 49) (.t 50)⟩, [44, 45, 46, 47, 48]),
        (⟨some (43, false), .aad 52 1 2 (.t 51) (.c (.int .i64 1))⟩, [44, 45, 46, 47, 48]),
        (⟨some (43, false), .ld 53 1 false (.t 52)⟩, [44, 45, 46, 47, 48])]
       [⟨some (43, false), .bin 54 .eql (.t 48) (.t 53)⟩,
        ⟨none, .pick 55 (.t 43) (.c (.bool true)) (.t 54)⟩])
     (.drop [23, 24, 25, 26, 27, 28, 29, 30, 31, 32, 33, 34, 35, 36, 37, 38, 39, 40, 41, 42, 43, 44, 45, 46, 47, 48, 49, 50, 51, 52, 53, 54] (.cond (.t 55) (.seq (.reg [⟨none, .bld 56 [.nilsl 1] []⟩,
          ⟨none, .st 1 (.t 4) (.t 56)⟩,
          ⟨none, .asg 5 (.c (.bool false))⟩])
       (.drop [56] .ret))
      .skip))))
   (.drop [23, 24, 25, 26, 27, 28, 29, 30, 31, 32, 33, 34, 35, 36, 37, 38, 39, 40, 41, 42, 43, 44, 45, 46, 47, 48, 49, 50, 51, 52, 53, 54, 55, 56] (.reg [⟨none, .mov 21 (.t 6)⟩,
      ⟨none, .bin 22 .add (.t 21) (.c (.int .i64 1))⟩,
      ⟨none, .asg 6 (.t 22)⟩])))))
def c_spec_FromCovers : ACode :=
  (.seq (.reg [⟨none, .alc 4 (.agg [.nilsl 1])⟩,
     ⟨none, .asg 5 (.c (.bool false))⟩])
  (.seq (.cut c_spec_FromCovers_k1)
   (.drop [8, 9, 10, 11, 12, 13, 14, 15, 16] (.seq (.seq (.reg [⟨none, .asg 6 (.c (.int .i64 0))⟩])
     (.block 0 (.loop c_spec_FromCovers_l1)))
    (.drop [6, 17, 18, 19, 20, 23, 24, 25, 26, 27, 28, 29, 30, 31, 32, 33, 34, 35, 36, 37, 38, 39, 40, 41, 42, 43, 44, 45, 46, 47, 48, 49, 50, 51, 52, 53, 54, 55, 56, 21, 22] (.seq (.reg [⟨none, .mov 57 (.t 0)⟩,
        ⟨none, .mov 58 (.t 1)⟩,
        ⟨none, .call 59 f_spec_l23From [((.t 57), false), ((.t 58), false)]⟩,
        ⟨none, .alc 7 (.agg [.nilsl 1])⟩,
        ⟨none, .st 1 (.t 7) (.t 59)⟩])
     (.drop [57, 58, 59] (.seq (.seq (.reg [⟨none, .ld 60 1 true (.t 7)⟩,
          ⟨none, .call 61 f_spec_l23Good [((.t 60), false)]⟩,
          ⟨none, .un 62 .not (.t 61)⟩])
       (.drop [60, 61] (.cond (.t 62) (.seq (.reg [⟨none, .bld 63 [.nilsl 1] []⟩,
            ⟨none, .st 1 (.t 4) (.t 63)⟩,
            ⟨none, .asg 5 (.c (.bool false))⟩])
         (.drop [63] .ret))
        .skip)))
      (.drop [60, 61, 62, 63] (.seq (.reg [⟨none, .ld 64 1 true (.t 7)⟩,
          ⟨none, .st 1 (.t 4) (.t 64)⟩,
          ⟨none, .asg 5 (.c (.bool true))⟩])
       (.drop [64] .ret)))))))))))
abbrev r_spec_FromCovers : List RS := [.c 4 1 true, .t 5]
theorem k_spec_FromCovers : fitsF Try.prog f_spec_FromCovers 65 c_spec_FromCovers r_spec_FromCovers = true := by kernel_rfl

/- loop.example/g01078/laws.FnExactCountExtensions: [aP=0, aP=1, left=3, w0=4, w1=5, x0=6, g0=7, g1=8] -/
def c_laws_FnExactCountExtensions : ACode :=
  (.seq (.reg [⟨none, .box 1 (.t 0)⟩,
     ⟨none, .asg 2 (.c (.bool false))⟩])
  (.seq (.reg [⟨none, .asg 3 (.c (.int .i64 1048576))⟩])
   (.seq (.reg [⟨none, .ld 9 1 true (.t 1)⟩,
       ⟨none, .mov 10 (.t 3)⟩,
       ⟨none, .call 11 f_laws_szPoset [((.t 9), false), ((.t 10), false)]⟩,
       ⟨none, .asg 3 (.t 11)⟩])
    (.drop [9, 10, 11] (.seq (.seq (.reg [⟨none, .mov 12 (.t 3)⟩,
         ⟨none, .bin 13 .lss (.t 12) (.c (.int .i64 0))⟩])
      (.drop [12] (.cond (.t 13) (.seq (.reg [⟨none, .asg 2 (.c (.bool true))⟩])
        .ret)
       .skip)))
     (.drop [12, 13] (.seq (.reg [⟨none, .ld 15 1 true (.t 1)⟩,
         ⟨none, .call 16 f_laws_toPoset [((.t 15), false)]⟩,
         ⟨none, .call 17 f_spec_CountExtensions [((.t 16), false)]⟩,
         ⟨none, .asg 14 (.t 17)⟩,
         ⟨none, .ext 18 (.t 14) 0⟩,
         ⟨none, .ext 19 (.t 14) 1⟩,
         ⟨none, .asg 4 (.t 18)⟩,
         ⟨none, .asg 5 (.t 19)⟩])
      (.drop [15, 16, 17, 14, 18, 19] (.seq (.reg [⟨none, .ld 20 1 true (.t 1)⟩,
          ⟨none, .call 21 f_laws_toPoset [((.t 20), false)]⟩,
          ⟨none, .alc 6 (.agg [.nilsl 1])⟩,
          ⟨none, .st 1 (.t 6) (.t 21)⟩])
       (.drop [20, 21] (.seq (.reg [⟨none, .ld 23 1 true (.t 6)⟩,
           ⟨none, .call 24 f_impl_CountExtensions [((.t 23), false)]⟩,
           ⟨none, .asg 22 (.t 24)⟩,
           ⟨none, .ext 25 (.t 22) 0⟩,
           ⟨none, .ext 26 (.t 22) 1⟩,
           ⟨none, .asg 7 (.t 25)⟩,
           ⟨none, .asg 8 (.t 26)⟩])
        (.drop [23, 24, 22, 25, 26] (.seq (.seq (.reg [⟨none, .mov 27 (.t 7)⟩,
             ⟨none, .mov 28 (.t 4)⟩,
             ⟨none, .bin 29 .neq (.t 27) (.t 28)⟩,
             ⟨none, .asg 30 (.t 29)⟩,
             ⟨some (30, false), .mov 31 (.t 8)⟩,
             ⟨some (30, false), .mov 32 (.t 5)⟩,
             ⟨some (30, false), .binb 33 .neq (.t 31) (.t 32)⟩,
             ⟨none, .pick 34 (.t 30) (.c (.bool true)) (.t 33)⟩])
          (.drop [27, 28, 29, 30, 31, 32, 33] (.cond (.t 34) (.seq (.reg [⟨none, .asg 2 (.c (.bool false))⟩])
            .ret)
           .skip)))
         (.drop [27, 28, 29, 30, 31, 32, 33, 34] (.seq (.seq (.dreg [(⟨none, .ld 35 1 true (.t 6)⟩, []),
              (⟨none, .ld 36 1 true (.t 1)⟩, [35]),
              (⟨none, .call 37 f_laws_toPoset [((.t 36), false)]⟩, [35])]
             [⟨none, .call 38 f_laws_eqPoset [((.t 35), false), ((.t 37), false)]⟩,
              ⟨none, .un 39 .not (.t 38)⟩])
           (.drop [35, 36, 37, 38] (.cond (.t 39) (.seq (.reg [⟨none, .asg 2 (.c (.bool false))⟩])
             .ret)
            .skip)))
          (.drop [35, 36, 37, 38, 39] (.seq (.reg [⟨none, .asg 2 (.c (.bool true))⟩])
           .ret)))))))))))))))))
abbrev r_laws_FnExactCountExtensions : List RS := [.t 2]
theorem k_laws_FnExactCountExtensions : fitsF Try.prog f_laws_FnExactCountExtensions 40 c_laws_FnExactCountExtensions r_laws_FnExactCountExtensions = true := by kernel_rfl

end Go.Proofs.Ythcnmahjhahafaa.Ax
