/-
  The small code of the functions, written by program; that the program's code is this one, the kernel looks at.
-/
import Derived.Test.YthcnmahjhahafaaAx3
import Derived.Test.YthcnmahjhahafaaProg
import Derived.KernelRfl
import Derived.Test.YthcnmahjhahafaaNum
namespace Go.Proofs.Ythcnmahjhahafaa.Ax
open Go
set_option maxRecDepth 100000

/- loop.example/g01078/laws.eqIntS: [a=0, b=1, a=2, b=3, i=5] -/
def c_laws_eqIntS_l1 : ACode :=
  (.seq (.seq (.reg [⟨none, .mov 11 (.t 5)⟩,
      ⟨none, .mov 12 (.t 0)⟩,
      ⟨none, .len 13 (.t 12)⟩,
      ⟨none, .bin 14 .lss (.t 11) (.t 13)⟩])
   (.drop [11, 12, 13] (.cond (.t 14) .skip
    (.exit 0))))
  (.drop [11, 12, 13, 14] (.seq (.block 1 (.seq (.dreg [(⟨none, .mov 17 (.t 0)⟩, []),
        (⟨none, .mov 18 (.t 5)⟩, [17]),
        (⟨none, .iad 19 1 (.t 17) (.t 18)⟩, []),
        (⟨none, .ld 20 1 false (.t 19)⟩, []),
        (⟨none, .mov 21 (.t 1)⟩, [17, 18, 19, 20]),
        (⟨none, .mov 22 (.t 5)⟩, [17, 18, 19, 20, 21]),
        (⟨none, .iad 23 1 (.t 21) (.t 22)⟩, [17, 18, 19, 20]),
        (⟨none, .ld 24 1 false (.t 23)⟩, [17, 18, 19, 20])]
       [⟨none, .bin 25 .neq (.t 20) (.t 24)⟩])
     (.drop [17, 18, 19, 20, 21, 22, 23, 24] (.cond (.t 25) (.seq (.reg [⟨none, .asg 4 (.c (.bool false))⟩])
       .ret)
      .skip))))
   (.drop [17, 18, 19, 20, 21, 22, 23, 24, 25] (.reg [⟨none, .mov 15 (.t 5)⟩,
      ⟨none, .bin 16 .add (.t 15) (.c (.int .i64 1))⟩,
      ⟨none, .asg 5 (.t 16)⟩])))))
def c_laws_eqIntS : ACode :=
  (.seq (.reg [⟨none, .asg 4 (.c (.bool false))⟩])
  (.seq (.seq (.reg [⟨none, .mov 6 (.t 0)⟩,
       ⟨none, .len 7 (.t 6)⟩,
       ⟨none, .mov 8 (.t 1)⟩,
       ⟨none, .len 9 (.t 8)⟩,
       ⟨none, .bin 10 .neq (.t 7) (.t 9)⟩])
    (.drop [6, 7, 8, 9] (.cond (.t 10) (.seq (.reg [⟨none, .asg 4 (.c (.bool false))⟩])
      .ret)
     .skip)))
   (.drop [6, 7, 8, 9, 10] (.seq (.seq (.reg [⟨none, .asg 5 (.c (.int .i64 0))⟩])
     (.block 0 (.loop c_laws_eqIntS_l1)))
    (.drop [5, 11, 12, 13, 14, 17, 18, 19, 20, 21, 22, 23, 24, 25, 15, 16] (.seq (.reg [⟨none, .asg 4 (.c (.bool true))⟩])
     .ret))))))
abbrev r_laws_eqIntS : List RS := [.t 4]
theorem k_laws_eqIntS : fitsF Try.prog f_laws_eqIntS 26 c_laws_eqIntS r_laws_eqIntS = true := by kernel_rfl

/- loop.example/g01078/laws.markIntS: [a=0, k=1, a=2, k=3, i=5] -/
def c_laws_markIntS_l1 : ACode :=
  (.seq (.seq (.reg [⟨none, .mov 6 (.t 5)⟩,
      ⟨none, .mov 7 (.t 0)⟩,
      ⟨none, .len 8 (.t 7)⟩,
      ⟨none, .bin 9 .lss (.t 6) (.t 8)⟩])
   (.drop [6, 7, 8] (.cond (.t 9) .skip
    (.exit 0))))
  (.drop [6, 7, 8, 9] (.seq (.block 1 (.seq (.reg [⟨none, .mov 12 (.t 0)⟩,
        ⟨none, .mov 13 (.t 5)⟩,
        ⟨none, .mov 14 (.t 1)⟩,
        ⟨none, .iad 15 1 (.t 12) (.t 13)⟩,
        ⟨none, .st 1 (.t 15) (.t 14)⟩])
     (.drop [12, 13, 14, 15] (.reg [⟨none, .mov 16 (.t 1)⟩,
        ⟨none, .bin 17 .add (.t 16) (.c (.int .i64 1))⟩,
        ⟨none, .asg 1 (.t 17)⟩]))))
   (.drop [12, 13, 14, 15, 16, 17] (.reg [⟨none, .mov 10 (.t 5)⟩,
      ⟨none, .bin 11 .add (.t 10) (.c (.int .i64 1))⟩,
      ⟨none, .asg 5 (.t 11)⟩])))))
def c_laws_markIntS : ACode :=
  (.seq (.reg [⟨none, .asg 4 (.c (.int .i64 0))⟩])
  (.seq (.seq (.reg [⟨none, .asg 5 (.c (.int .i64 0))⟩])
    (.block 0 (.loop c_laws_markIntS_l1)))
   (.drop [5, 6, 7, 8, 9, 12, 13, 14, 15, 16, 17, 10, 11] (.seq (.reg [⟨none, .mov 18 (.t 1)⟩,
       ⟨none, .asg 4 (.t 18)⟩])
    (.drop [18] .ret)))))
abbrev r_laws_markIntS : List RS := [.t 4]
theorem k_laws_markIntS : fitsF Try.prog f_laws_markIntS 19 c_laws_markIntS r_laws_markIntS = true := by kernel_rfl

/- loop.example/g01078/laws.heldIntS: [a=0, k=1, a=2, k=3, i=5] -/
def c_laws_heldIntS_l1 : ACode :=
  (.seq (.seq (.reg [⟨none, .mov 6 (.t 5)⟩,
      ⟨none, .mov 7 (.t 0)⟩,
      ⟨none, .len 8 (.t 7)⟩,
      ⟨none, .bin 9 .lss (.t 6) (.t 8)⟩])
   (.drop [6, 7, 8] (.cond (.t 9) .skip
    (.exit 0))))
  (.drop [6, 7, 8, 9] (.seq (.block 1 (.seq (.seq (.reg [⟨none, .mov 12 (.t 0)⟩,
         ⟨none, .mov 13 (.t 5)⟩,
         ⟨none, .iad 14 1 (.t 12) (.t 13)⟩,
         ⟨none, .ld 15 1 false (.t 14)⟩,
         ⟨none, .mov 16 (.t 1)⟩,
         ⟨none, .bin 17 .neq (.t 15) (.t 16)⟩])
      (.drop [12, 13, 14, 15, 16] (.cond (.t 17) (.seq (.reg [⟨none, .asg 4 (.c (.int .i64 (-1)))⟩])
        .ret)
       .skip)))
     (.drop [12, 13, 14, 15, 16, 17] (.reg [⟨none, .mov 18 (.t 1)⟩,
        ⟨none, .bin 19 .add (.t 18) (.c (.int .i64 1))⟩,
        ⟨none, .asg 1 (.t 19)⟩]))))
   (.drop [12, 13, 14, 15, 16, 17, 18, 19] (.reg [⟨none, .mov 10 (.t 5)⟩,
      ⟨none, .bin 11 .add (.t 10) (.c (.int .i64 1))⟩,
      ⟨none, .asg 5 (.t 11)⟩])))))
def c_laws_heldIntS : ACode :=
  (.seq (.reg [⟨none, .asg 4 (.c (.int .i64 0))⟩])
  (.seq (.seq (.reg [⟨none, .asg 5 (.c (.int .i64 0))⟩])
    (.block 0 (.loop c_laws_heldIntS_l1)))
   (.drop [5, 6, 7, 8, 9, 12, 13, 14, 15, 16, 17, 18, 19, 10, 11] (.seq (.reg [⟨none, .mov 20 (.t 1)⟩,
       ⟨none, .asg 4 (.t 20)⟩])
    (.drop [20] .ret)))))
abbrev r_laws_heldIntS : List RS := [.t 4]
theorem k_laws_heldIntS : fitsF Try.prog f_laws_heldIntS 21 c_laws_heldIntS r_laws_heldIntS = true := by kernel_rfl

/- loop.example/g01078/laws.toIntS: [a=0, a=1, out=3, i=4] -/
def c_laws_toIntS_l1 : ACode :=
  (.seq (.seq (.reg [⟨none, .mov 8 (.t 4)⟩,
      ⟨none, .mov 9 (.t 0)⟩,
      ⟨none, .len 10 (.t 9)⟩,
      ⟨none, .bin 11 .lss (.t 8) (.t 10)⟩])
   (.drop [8, 9, 10] (.cond (.t 11) .skip
    (.exit 0))))
  (.drop [8, 9, 10, 11] (.seq (.block 1 (.reg [⟨none, .mov 14 (.t 3)⟩,
       ⟨none, .mov 15 (.t 4)⟩,
       ⟨none, .mov 16 (.t 0)⟩,
       ⟨none, .mov 17 (.t 4)⟩,
       ⟨none, .iad 18 1 (.t 16) (.t 17)⟩,
       ⟨none, .ld 19 1 false (.t 18)⟩,
       ⟨none, .iad 20 1 (.t 14) (.t 15)⟩,
       ⟨none, .st 1 (.t 20) (.t 19)⟩]))
   (.drop [14, 15, 16, 17, 18, 19, 20] (.reg [⟨none, .mov 12 (.t 4)⟩,
      ⟨none, .bin 13 .add (.t 12) (.c (.int .i64 1))⟩,
      ⟨none, .asg 4 (.t 13)⟩])))))
def c_laws_toIntS : ACode :=
  (.seq (.reg [⟨none, .asg 2 (.c (.nilsl 1))⟩])
  (.seq (.reg [⟨none, .mov 5 (.t 0)⟩,
      ⟨none, .len 6 (.t 5)⟩,
      ⟨none, .mk 7 1 (.int .i64 0) (.t 6)⟩,
      ⟨none, .asg 3 (.t 7)⟩])
   (.drop [5, 6, 7] (.seq (.seq (.reg [⟨none, .asg 4 (.c (.int .i64 0))⟩])
     (.block 0 (.loop c_laws_toIntS_l1)))
    (.drop [4, 8, 9, 10, 11, 14, 15, 16, 17, 18, 19, 20, 12, 13] (.seq (.reg [⟨none, .mov 21 (.t 3)⟩,
        ⟨none, .asg 2 (.t 21)⟩])
     (.drop [21] .ret)))))))
abbrev r_laws_toIntS : List RS := [.t 2]
theorem k_laws_toIntS : fitsF Try.prog f_laws_toIntS 22 c_laws_toIntS r_laws_toIntS = true := by kernel_rfl

/- loop.example/g01078/laws.szIntA2S: [a=0, left=1, a=2, left=3] -/
def c_laws_szIntA2S : ACode :=
  (.seq (.reg [⟨none, .asg 4 (.c (.int .i64 0))⟩])
  (.seq (.reg [⟨none, .mov 5 (.t 1)⟩,
      ⟨none, .mov 6 (.t 0)⟩,
      ⟨none, .len 7 (.t 6)⟩,
      ⟨none, .bin 8 .sub (.t 5) (.t 7)⟩,
      ⟨none, .asg 1 (.t 8)⟩])
   (.drop [5, 6, 7, 8] (.seq (.seq (.reg [⟨none, .mov 9 (.t 1)⟩,
        ⟨none, .bin 10 .lss (.t 9) (.c (.int .i64 0))⟩])
     (.drop [9] (.cond (.t 10) (.seq (.reg [⟨none, .asg 4 (.c (.int .i64 (-1)))⟩])
       .ret)
      .skip)))
    (.drop [9, 10] (.seq (.reg [⟨none, .mov 11 (.t 1)⟩,
        ⟨none, .asg 4 (.t 11)⟩])
     (.drop [11] .ret)))))))
abbrev r_laws_szIntA2S : List RS := [.t 4]
theorem k_laws_szIntA2S : fitsF Try.prog f_laws_szIntA2S 12 c_laws_szIntA2S r_laws_szIntA2S = true := by kernel_rfl

/- loop.example/g01078/laws.markIntA2S: [a=0, k=1, a=2, k=3, i=5, j=6] -/
def c_laws_markIntA2S_l1 : ACode :=
  (.seq (.seq (.reg [⟨none, .mov 13 (.t 6)⟩,
      ⟨none, .bin 14 .lss (.t 13) (.c (.int .i64 2))⟩])
   (.drop [13] (.cond (.t 14) .skip
    (.exit 2))))
  (.drop [13, 14] (.seq (.block 3 (.seq (.reg [⟨none, .mov 17 (.t 0)⟩,
        ⟨none, .mov 18 (.t 5)⟩,
        ⟨none, .mov 19 (.t 6)⟩,
        ⟨none, .mov 20 (.t 1)⟩,
        ⟨none, .iad 21 2 (.t 17) (.t 18)⟩,
        ⟨none, .aad 22 1 2 (.t 21) (.t 19)⟩,
        ⟨none, .st 1 (.t 22) (.t 20)⟩])
     (.drop [17, 18, 19, 20, 21, 22] (.reg [⟨none, .mov 23 (.t 1)⟩,
        ⟨none, .bin 24 .add (.t 23) (.c (.int .i64 1))⟩,
        ⟨none, .asg 1 (.t 24)⟩]))))
   (.drop [17, 18, 19, 20, 21, 22, 23, 24] (.reg [⟨none, .mov 15 (.t 6)⟩,
      ⟨none, .bin 16 .add (.t 15) (.c (.int .i64 1))⟩,
      ⟨none, .asg 6 (.t 16)⟩])))))
def c_laws_markIntA2S_l2 : ACode :=
  (.seq (.seq (.reg [⟨none, .mov 7 (.t 5)⟩,
      ⟨none, .mov 8 (.t 0)⟩,
      ⟨none, .len 9 (.t 8)⟩,
      ⟨none, .bin 10 .lss (.t 7) (.t 9)⟩])
   (.drop [7, 8, 9] (.cond (.t 10) .skip
    (.exit 0))))
  (.drop [7, 8, 9, 10] (.seq (.block 1 (.seq (.reg [⟨none, .asg 6 (.c (.int .i64 0))⟩])
     (.block 2 (.loop c_laws_markIntA2S_l1))))
   (.drop [6, 13, 14, 17, 18, 19, 20, 21, 22, 23, 24, 15, 16] (.reg [⟨none, .mov 11 (.t 5)⟩,
      ⟨none, .bin 12 .add (.t 11) (.c (.int .i64 1))⟩,
      ⟨none, .asg 5 (.t 12)⟩])))))
def c_laws_markIntA2S : ACode :=
  (.seq (.reg [⟨none, .asg 4 (.c (.int .i64 0))⟩])
  (.seq (.seq (.reg [⟨none, .asg 5 (.c (.int .i64 0))⟩])
    (.block 0 (.loop c_laws_markIntA2S_l2)))
   (.drop [5, 7, 8, 9, 10, 6, 13, 14, 17, 18, 19, 20, 21, 22, 23, 24, 15, 16, 11, 12] (.seq (.reg [⟨none, .mov 25 (.t 1)⟩,
       ⟨none, .asg 4 (.t 25)⟩])
    (.drop [25] .ret)))))
abbrev r_laws_markIntA2S : List RS := [.t 4]
theorem k_laws_markIntA2S : fitsF Try.prog f_laws_markIntA2S 26 c_laws_markIntA2S r_laws_markIntA2S = true := by kernel_rfl

/- loop.example/g01078/spec.l23Is: [p=0, x=1, p=2, x=3] -/
def c_spec_l23Is : ACode :=
  (.seq (.reg [⟨none, .box 2 (.t 0)⟩,
     ⟨none, .asg 4 (.c (.bool false))⟩])
  (.seq (.reg [⟨none, .mov 5 (.t 1)⟩,
      ⟨none, .bin 6 .geq (.t 5) (.c (.int .i64 0))⟩,
      ⟨none, .asg 7 (.t 6)⟩,
      ⟨some (7, true), .mov 8 (.t 1)⟩,
      ⟨some (7, true), .fadr 9 0 (.t 2)⟩,
      ⟨some (7, true), .ld 10 1 false (.t 9)⟩,
      ⟨some (7, true), .len 11 (.t 10)⟩,
      ⟨some (7, true), .bin 12 .lss (.t 8) (.t 11)⟩,
      ⟨none, .pick 13 (.t 7) (.t 12) (.c (.bool false))⟩,
      ⟨none, .asg 4 (.t 13)⟩])
   (.drop [5, 6, 7, 8, 9, 10, 11, 12, 13] .ret)))
abbrev r_spec_l23Is : List RS := [.t 4]
theorem k_spec_l23Is : fitsF Try.prog f_spec_l23Is 14 c_spec_l23Is r_spec_l23Is = true := by kernel_rfl

/- (loop.example/g01078/impl.order).less: [o=0, x=1, y=2, o=3, x=4, y=5] -/
def c_impl_order_less : ACode :=
  (.seq (.reg [⟨none, .asg 6 (.c (.bool false))⟩])
  (.seq (.reg [⟨none, .mov 7 (.t 1)⟩,
      ⟨none, .mov 8 (.t 2)⟩,
      ⟨none, .bin 9 .neq (.t 7) (.t 8)⟩,
      ⟨none, .asg 10 (.t 9)⟩,
      ⟨some (10, true), .mov 11 (.t 0)⟩,
      ⟨some (10, true), .mov 12 (.t 1)⟩,
      ⟨some (10, true), .iad 13 1 (.t 11) (.t 12)⟩,
      ⟨some (10, true), .ld 14 1 false (.t 13)⟩,
      ⟨some (10, true), .mov 15 (.t 2)⟩,
      ⟨some (10, true), .iad 16 1 (.t 14) (.t 15)⟩,
      ⟨some (10, true), .ld 17 1 false (.t 16)⟩,
      ⟨none, .pick 18 (.t 10) (.t 17) (.c (.bool false))⟩,
      ⟨none, .asg 6 (.t 18)⟩])
   (.drop [7, 8, 9, 10, 11, 12, 13, 14, 15, 16, 17, 18] .ret)))
abbrev r_impl_order_less : List RS := [.t 6]
theorem k_impl_order_less : fitsF Try.prog f_impl_order_less 19 c_impl_order_less r_impl_order_less = true := by kernel_rfl

/- loop.example/g01078/spec.l23Least: [p=0, p=1, out=3, x=4] -/
def c_spec_l23Least_l1 : ACode :=
  (.seq (.seq (.reg [⟨none, .mov 6 (.t 4)⟩,
      ⟨none, .fadr 7 0 (.t 1)⟩,
      ⟨none, .ld 8 1 false (.t 7)⟩,
      ⟨none, .len 9 (.t 8)⟩,
      ⟨none, .bin 10 .lss (.t 6) (.t 9)⟩])
   (.drop [6, 7, 8, 9] (.cond (.t 10) .skip
    (.exit 0))))
  (.drop [6, 7, 8, 9, 10] (.seq (.block 1 (.seq (.reg [⟨none, .fadr 13 0 (.t 1)⟩,
        ⟨none, .ld 14 1 false (.t 13)⟩,
        ⟨none, .mov 15 (.t 4)⟩,
        ⟨none, .iad 16 1 (.t 14) (.t 15)⟩,
        ⟨none, .ld 17 1 false (.t 16)⟩,
        ⟨none, .len 18 (.t 17)⟩,
        ⟨none, .bin 19 .eql (.t 18) (.c (.int .i64 1))⟩])
     (.drop [13, 14, 15, 16, 17, 18] (.cond (.t 19) (.reg [⟨none, .mov 20 (.t 3)⟩,
         ⟨none, .mov 21 (.t 4)⟩,
         ⟨none, .bsl 22 1 [(.t 21)]⟩,
         ⟨none, .app 23 1 (.t 20) (.t 22)⟩,
         ⟨none, .asg 3 (.t 23)⟩])
      .skip))))
   (.drop [13, 14, 15, 16, 17, 18, 19, 20, 21, 22, 23] (.reg [⟨none, .mov 11 (.t 4)⟩,
      ⟨none, .bin 12 .add (.t 11) (.c (.int .i64 1))⟩,
      ⟨none, .asg 4 (.t 12)⟩])))))
def c_spec_l23Least : ACode :=
  (.seq (.reg [⟨none, .box 1 (.t 0)⟩,
     ⟨none, .asg 2 (.c (.nilsl 1))⟩])
  (.seq (.reg [⟨none, .bsl 5 1 []⟩,
      ⟨none, .asg 3 (.t 5)⟩])
   (.drop [5] (.seq (.seq (.reg [⟨none, .asg 4 (.c (.int .i64 0))⟩])
     (.block 0 (.loop c_spec_l23Least_l1)))
    (.drop [4, 6, 7, 8, 9, 10, 13, 14, 15, 16, 17, 18, 19, 20, 21, 22, 23, 11, 12] (.seq (.reg [⟨none, .mov 24 (.t 3)⟩,
        ⟨none, .asg 2 (.t 24)⟩])
     (.drop [24] .ret)))))))
abbrev r_spec_l23Least : List RS := [.t 2]
theorem k_spec_l23Least : fitsF Try.prog f_spec_l23Least 25 c_spec_l23Least r_spec_l23Least = true := by kernel_rfl

/- (loop.example/g01078/impl.order).those: [o=0, so=1, o=2, so=3, list=5, x=6] -/
def c_impl_order_those_l1 : ACode :=
  (.seq (.reg [⟨none, .bin 11 .lss (.t 10) (.t 9)⟩])
  (.seq (.cond (.t 11) .skip
    (.exit 0))
   (.seq (.block 1 (.seq (.reg [⟨none, .mov 12 (.t 10)⟩,
         ⟨none, .asg 6 (.t 12)⟩])
      (.drop [12] (.seq (.reg [⟨none, .mov 13 (.t 1)⟩,
          ⟨none, .mov 14 (.t 6)⟩,
          ⟨none, .cally 15 (.t 13) [(.t 14)]⟩])
       (.drop [13, 14] (.cond (.t 15) (.reg [⟨none, .mov 16 (.t 5)⟩,
           ⟨none, .mov 17 (.t 6)⟩,
           ⟨none, .bsl 18 1 [(.t 17)]⟩,
           ⟨none, .app 19 1 (.t 16) (.t 18)⟩,
           ⟨none, .asg 5 (.t 19)⟩])
        .skip))))))
    (.drop [12, 6, 13, 14, 15, 16, 17, 18, 19] (.reg [⟨none, .bin 20 .add (.t 10) (.c (.int .i64 1))⟩,
       ⟨none, .asg 10 (.t 20)⟩])))))
def c_impl_order_those : ACode :=
  (.seq (.reg [⟨none, .asg 4 (.c (.nilsl 1))⟩])
  (.seq (.reg [⟨none, .bsl 7 1 []⟩,
      ⟨none, .asg 5 (.t 7)⟩])
   (.drop [7] (.seq (.seq (.reg [⟨none, .mov 8 (.t 0)⟩,
        ⟨none, .len 9 (.t 8)⟩,
        ⟨none, .mov 10 (.c (.int .i64 0))⟩])
     (.drop [8] (.block 0 (.loop c_impl_order_those_l1))))
    (.drop [8, 9, 10, 11, 12, 6, 13, 14, 15, 16, 17, 18, 19, 20] (.seq (.reg [⟨none, .mov 21 (.t 5)⟩,
        ⟨none, .asg 4 (.t 21)⟩])
     (.drop [21] .ret)))))))
abbrev r_impl_order_those : List RS := [.t 4]
theorem k_impl_order_those : fitsF Try.prog f_impl_order_those 22 c_impl_order_those r_impl_order_those = true := by kernel_rfl

/- loop.example/g01078/impl.hasNot: [list=0, x=1, list=2, x=3, _=5, y=6] -/
def c_impl_hasNot_l1 : ACode :=
  (.seq (.reg [⟨none, .bin 10 .lss (.t 9) (.t 8)⟩])
  (.seq (.cond (.t 10) .skip
    (.exit 0))
   (.seq (.block 1 (.seq (.reg [⟨none, .iad 11 1 (.t 7) (.t 9)⟩,
         ⟨none, .ld 12 1 false (.t 11)⟩,
         ⟨none, .asg 6 (.t 12)⟩])
      (.drop [11, 12] (.seq (.reg [⟨none, .mov 13 (.t 1)⟩,
          ⟨none, .mov 14 (.t 6)⟩,
          ⟨none, .bin 15 .eql (.t 13) (.t 14)⟩])
       (.drop [13, 14] (.cond (.t 15) (.seq (.reg [⟨none, .asg 4 (.c (.bool false))⟩])
         .ret)
        .skip))))))
    (.drop [11, 12, 6, 13, 14, 15] (.reg [⟨none, .bin 16 .add (.t 9) (.c (.int .i64 1))⟩,
       ⟨none, .asg 9 (.t 16)⟩])))))
def c_impl_hasNot : ACode :=
  (.seq (.reg [⟨none, .asg 4 (.c (.bool false))⟩])
  (.seq (.seq (.reg [⟨none, .mov 7 (.t 0)⟩,
       ⟨none, .len 8 (.t 7)⟩,
       ⟨none, .mov 9 (.c (.int .i64 0))⟩])
    (.block 0 (.loop c_impl_hasNot_l1)))
   (.drop [7, 8, 9, 10, 11, 12, 6, 13, 14, 15, 16] (.seq (.reg [⟨none, .asg 4 (.c (.bool true))⟩])
    .ret))))
abbrev r_impl_hasNot : List RS := [.t 4]
theorem k_impl_hasNot : fitsF Try.prog f_impl_hasNot 17 c_impl_hasNot r_impl_hasNot = true := by kernel_rfl

/- loop.example/g01078/impl.DownsetOf$1: [y=0, y=3, _=5, x=6] -/
def c_impl_DownsetOf_1_l1 : ACode :=
  (.seq (.reg [⟨none, .bin 10 .lss (.t 9) (.t 8)⟩])
  (.seq (.cond (.t 10) .skip
    (.exit 0))
   (.seq (.block 1 (.seq (.reg [⟨none, .iad 11 1 (.t 7) (.t 9)⟩,
         ⟨none, .ld 12 1 false (.t 11)⟩,
         ⟨none, .asg 6 (.t 12)⟩])
      (.drop [11, 12] (.seq (.reg [⟨none, .ld 13 1 false (.t 2)⟩,
          ⟨none, .mov 14 (.t 0)⟩,
          ⟨none, .iad 15 1 (.t 13) (.t 14)⟩,
          ⟨none, .ld 16 1 false (.t 15)⟩,
          ⟨none, .mov 17 (.t 6)⟩,
          ⟨none, .iad 18 1 (.t 16) (.t 17)⟩,
          ⟨none, .ld 19 1 false (.t 18)⟩])
       (.drop [13, 14, 15, 16, 17, 18] (.cond (.t 19) (.seq (.reg [⟨none, .asg 4 (.c (.bool true))⟩])
         .ret)
        .skip))))))
    (.drop [11, 12, 6, 13, 14, 15, 16, 17, 18, 19] (.reg [⟨none, .bin 20 .add (.t 9) (.c (.int .i64 1))⟩,
       ⟨none, .asg 9 (.t 20)⟩])))))
def c_impl_DownsetOf_1 : ACode :=
  (.seq (.reg [⟨none, .asg 4 (.c (.bool false))⟩])
  (.seq (.seq (.reg [⟨none, .ld 7 1 false (.t 1)⟩,
       ⟨none, .len 8 (.t 7)⟩,
       ⟨none, .mov 9 (.c (.int .i64 0))⟩])
    (.block 0 (.loop c_impl_DownsetOf_1_l1)))
   (.drop [7, 8, 9, 10, 11, 12, 6, 13, 14, 15, 16, 17, 18, 19, 20] (.seq (.reg [⟨none, .asg 4 (.c (.bool false))⟩])
    .ret))))
abbrev r_impl_DownsetOf_1 : List RS := [.t 4]
theorem k_impl_DownsetOf_1 : fitsF Try.prog f_impl_DownsetOf_1 21 c_impl_DownsetOf_1 r_impl_DownsetOf_1 = true := by kernel_rfl

/- (loop.example/g01078/impl.order).poset: [o=0, o=1, p=3, x=4, list=5, y=6] -/
def c_impl_order_poset_l1 : ACode :=
  (.seq (.reg [⟨none, .bin 18 .lss (.t 17) (.t 16)⟩])
  (.seq (.cond (.t 18) .skip
    (.exit 2))
   (.seq (.block 3 (.seq (.reg [⟨none, .mov 19 (.t 17)⟩,
         ⟨none, .asg 6 (.t 19)⟩])
      (.drop [19] (.seq (.reg [⟨none, .mov 20 (.t 0)⟩,
          ⟨none, .mov 21 (.t 6)⟩,
          ⟨none, .iad 22 1 (.t 20) (.t 21)⟩,
          ⟨none, .ld 23 1 false (.t 22)⟩,
          ⟨none, .mov 24 (.t 4)⟩,
          ⟨none, .iad 25 1 (.t 23) (.t 24)⟩,
          ⟨none, .ld 26 1 false (.t 25)⟩])
       (.drop [20, 21, 22, 23, 24, 25] (.cond (.t 26) (.reg [⟨none, .mov 27 (.t 5)⟩,
           ⟨none, .mov 28 (.t 6)⟩,
           ⟨none, .bsl 29 1 [(.t 28)]⟩,
           ⟨none, .app 30 1 (.t 27) (.t 29)⟩,
           ⟨none, .asg 5 (.t 30)⟩])
        .skip))))))
    (.drop [19, 6, 20, 21, 22, 23, 24, 25, 26, 27, 28, 29, 30] (.reg [⟨none, .bin 31 .add (.t 17) (.c (.int .i64 1))⟩,
       ⟨none, .asg 17 (.t 31)⟩])))))
def c_impl_order_poset_l2 : ACode :=
  (.seq (.reg [⟨none, .bin 12 .lss (.t 11) (.t 10)⟩])
  (.seq (.cond (.t 12) .skip
    (.exit 0))
   (.seq (.block 1 (.seq (.reg [⟨none, .mov 13 (.t 11)⟩,
         ⟨none, .asg 4 (.t 13)⟩])
      (.drop [13] (.seq (.reg [⟨none, .bsl 14 1 []⟩,
          ⟨none, .asg 5 (.t 14)⟩])
       (.drop [14] (.seq (.seq (.reg [⟨none, .mov 15 (.t 0)⟩,
            ⟨none, .len 16 (.t 15)⟩,
            ⟨none, .mov 17 (.c (.int .i64 0))⟩])
         (.drop [15] (.block 2 (.loop c_impl_order_poset_l1))))
        (.drop [15, 16, 17, 18, 19, 6, 20, 21, 22, 23, 24, 25, 26, 27, 28, 29, 30, 31] (.reg [⟨none, .fadr 32 0 (.t 3)⟩,
           ⟨none, .ld 33 1 false (.t 32)⟩,
           ⟨none, .mov 34 (.t 5)⟩,
           ⟨none, .bsl 35 1 [(.t 34)]⟩,
           ⟨none, .app 36 1 (.t 33) (.t 35)⟩,
           ⟨none, .fadr 37 0 (.t 3)⟩,
           ⟨none, .st 1 (.t 37) (.t 36)⟩]))))))))
    (.drop [13, 4, 14, 5, 15, 16, 17, 18, 19, 6, 20, 21, 22, 23, 24, 25, 26, 27, 28, 29, 30, 31, 32, 33, 34, 35, 36, 37] (.reg [⟨none, .bin 38 .add (.t 11) (.c (.int .i64 1))⟩,
       ⟨none, .asg 11 (.t 38)⟩])))))
def c_impl_order_poset : ACode :=
  (.seq (.reg [⟨none, .alc 2 (.agg [.nilsl 1])⟩])
  (.seq (.reg [⟨none, .bsl 7 1 []⟩,
      ⟨none, .bld 8 [.nilsl 1] [(0, 1, (.t 7))]⟩,
      ⟨none, .alc 3 (.agg [.nilsl 1])⟩,
      ⟨none, .st 1 (.t 3) (.t 8)⟩])
   (.drop [7, 8] (.seq (.seq (.reg [⟨none, .mov 9 (.t 0)⟩,
        ⟨none, .len 10 (.t 9)⟩,
        ⟨none, .mov 11 (.c (.int .i64 0))⟩])
     (.drop [9] (.block 0 (.loop c_impl_order_poset_l2))))
    (.drop [9, 10, 11, 12, 13, 4, 14, 5, 15, 16, 17, 18, 19, 6, 20, 21, 22, 23, 24, 25, 26, 27, 28, 29, 30, 31, 32, 33, 34, 35, 36, 37, 38] (.seq (.reg [⟨none, .ld 39 1 true (.t 3)⟩,
        ⟨none, .st 1 (.t 2) (.t 39)⟩])
     (.drop [39] .ret)))))))
abbrev r_impl_order_poset : List RS := [.c 2 1 true]
theorem k_impl_order_poset : fitsF Try.prog f_impl_order_poset 40 c_impl_order_poset r_impl_order_poset = true := by kernel_rfl

/- loop.example/g01078/spec.l1In: [x=0, a=1, b=2, x=3, a=4, b=5] -/
def c_spec_l1In : ACode :=
  (.seq (.reg [⟨none, .asg 6 (.c (.bool false))⟩])
  (.seq (.reg [⟨none, .mov 7 (.t 0)⟩,
      ⟨none, .mov 8 (.t 1)⟩,
      ⟨none, .bin 9 .geq (.t 7) (.t 8)⟩,
      ⟨none, .asg 10 (.t 9)⟩,
      ⟨some (10, true), .mov 11 (.t 0)⟩,
      ⟨some (10, true), .mov 12 (.t 2)⟩,
      ⟨some (10, true), .bin 13 .leq (.t 11) (.t 12)⟩,
      ⟨none, .pick 14 (.t 10) (.t 13) (.c (.bool false))⟩,
      ⟨none, .asg 6 (.t 14)⟩])
   (.drop [7, 8, 9, 10, 11, 12, 13, 14] .ret)))
abbrev r_spec_l1In : List RS := [.t 6]
theorem k_spec_l1In : fitsF Try.prog f_spec_l1In 15 c_spec_l1In r_spec_l1In = true := by kernel_rfl

/- loop.example/g01078/spec.l23From: [n=0, pairs=1, n=2, pairs=3, leq=5, x=6, row=7, i=8, z=9, x=10, y=11, p=12, y=13, below=14, x=15] -/
def c_spec_l23From_l1 : ACode :=
  (.seq (.seq (.reg [⟨none, .mov 17 (.t 6)⟩,
      ⟨none, .mov 18 (.t 0)⟩,
      ⟨none, .bin 19 .lss (.t 17) (.t 18)⟩])
   (.drop [17, 18] (.cond (.t 19) .skip
    (.exit 0))))
  (.drop [17, 18, 19] (.seq (.block 1 (.seq (.reg [⟨none, .mov 22 (.t 0)⟩,
        ⟨none, .mk 23 1 (.bool false) (.t 22)⟩,
        ⟨none, .asg 7 (.t 23)⟩])
     (.drop [22, 23] (.seq (.reg [⟨none, .mov 24 (.t 7)⟩,
         ⟨none, .mov 25 (.t 6)⟩,
         ⟨none, .iad 26 1 (.t 24) (.t 25)⟩,
         ⟨none, .st 1 (.t 26) (.c (.bool true))⟩])
      (.drop [24, 25, 26] (.reg [⟨none, .mov 27 (.t 5)⟩,
         ⟨none, .mov 28 (.t 7)⟩,
         ⟨none, .bsl 29 1 [(.t 28)]⟩,
         ⟨none, .app 30 1 (.t 27) (.t 29)⟩,
         ⟨none, .asg 5 (.t 30)⟩]))))))
   (.drop [22, 23, 7, 24, 25, 26, 27, 28, 29, 30] (.reg [⟨none, .mov 20 (.t 6)⟩,
      ⟨none, .bin 21 .add (.t 20) (.c (.int .i64 1))⟩,
      ⟨none, .asg 6 (.t 21)⟩])))))
def c_spec_l23From_l2 : ACode :=
  (.seq (.seq (.reg [⟨none, .mov 31 (.t 8)⟩,
      ⟨none, .mov 32 (.t 1)⟩,
      ⟨none, .len 33 (.t 32)⟩,
      ⟨none, .bin 34 .lss (.t 31) (.t 33)⟩])
   (.drop [31, 32, 33] (.cond (.t 34) .skip
    (.exit 2))))
  (.drop [31, 32, 33, 34] (.seq (.block 3 (.dreg [(⟨none, .mov 37 (.t 5)⟩, []),
       (⟨none, .mov 38 (.t 1)⟩, [37]),
       (⟨none, .mov 39 (.t 8)⟩, [37, 38]),
       (⟨none, .iad 40 2 (.t 38) (.t 39)⟩, [37]),
       (⟨none, .aad 41 1 2 (.t 40) (.c (.int .i64 0))⟩, [37]),
       (⟨none, .ld 42 1 false (.t 41)⟩, [37]),
       (⟨none, .iad 43 1 (.t 37) (.t 42)⟩, []),
       (⟨none, .ld 44 1 false (.t 43)⟩, []),
       (⟨none, .mov 45 (.t 1)⟩, [37, 38, 39, 40, 41, 42, 43, 44]),
       (⟨none, .mov 46 (.t 8)⟩, [37, 38, 39, 40, 41, 42, 43, 44, 45]),
       (⟨none, .iad 47 2 (.t 45) (.t 46)⟩, [37, 38, 39, 40, 41, 42, 43, 44]),
       (⟨none, .aad 48 1 2 (.t 47) (.c (.int .i64 1))⟩, [37, 38, 39, 40, 41, 42, 43, 44]),
       (⟨none, .ld 49 1 false (.t 48)⟩, [37, 38, 39, 40, 41, 42, 43, 44])]
      [⟨none, .iad 50 1 (.t 44) (.t 49)⟩,
       ⟨none, .st 1 (.t 50) (.c (.bool true))⟩]))
   (.drop [37, 38, 39, 40, 41, 42, 43, 44, 45, 46, 47, 48, 49, 50] (.reg [⟨none, .mov 35 (.t 8)⟩,
      ⟨none, .bin 36 .add (.t 35) (.c (.int .i64 1))⟩,
      ⟨none, .asg 8 (.t 36)⟩])))))
def c_spec_l23From_l3 : ACode :=
  (.seq (.seq (.reg [⟨none, .mov 61 (.t 11)⟩,
      ⟨none, .mov 62 (.t 0)⟩,
      ⟨none, .bin 63 .lss (.t 61) (.t 62)⟩])
   (.drop [61, 62] (.cond (.t 63) .skip
    (.exit 8))))
  (.drop [61, 62, 63] (.seq (.block 9 (.dreg [(⟨none, .mov 66 (.t 5)⟩, []),
       (⟨none, .mov 67 (.t 10)⟩, [66]),
       (⟨none, .iad 68 1 (.t 66) (.t 67)⟩, []),
       (⟨none, .ld 69 1 false (.t 68)⟩, []),
       (⟨none, .mov 70 (.t 11)⟩, [66, 67, 68, 69]),
       (⟨none, .mov 71 (.t 5)⟩, [66, 67, 68, 69, 70]),
       (⟨none, .mov 72 (.t 10)⟩, [66, 67, 68, 69, 70, 71]),
       (⟨none, .iad 73 1 (.t 71) (.t 72)⟩, [66, 67, 68, 69, 70]),
       (⟨none, .ld 74 1 false (.t 73)⟩, [66, 67, 68, 69, 70]),
       (⟨none, .mov 75 (.t 11)⟩, [66, 67, 68, 69, 70, 71, 72, 73, 74]),
       (⟨none, .iad 76 1 (.t 74) (.t 75)⟩, [66, 67, 68, 69, 70]),
       (⟨none, .ld 77 1 false (.t 76)⟩, [66, 67, 68, 69, 70]),
       (⟨none, .asg 78 (.t 77)⟩, [66, 67, 68, 69, 70]),
       (⟨some (78, false), .mov 79 (.t 5)⟩, [66, 67, 68, 69, 70]),
       (⟨some (78, false), .mov 80 (.t 10)⟩, [66, 67, 68, 69, 70, 79]),
       (⟨some (78, false), .iad 81 1 (.t 79) (.t 80)⟩, [66, 67, 68, 69, 70]),
       (⟨some (78, false), .ld 82 1 false (.t 81)⟩, [66, 67, 68, 69, 70]),
       (⟨some (78, false), .mov 83 (.t 9)⟩, [66, 67, 68, 69, 70, 79, 80, 81, 82]),
       (⟨some (78, false), .iad 84 1 (.t 82) (.t 83)⟩, [66, 67, 68, 69, 70]),
       (⟨some (78, false), .ld 85 1 false (.t 84)⟩, [66, 67, 68, 69, 70]),
       (⟨some (78, false), .asg 86 (.t 85)⟩, [66, 67, 68, 69, 70]),
       (⟨some (86, true), .mov 87 (.t 5)⟩, [66, 67, 68, 69, 70]),
       (⟨some (86, true), .mov 88 (.t 9)⟩, [66, 67, 68, 69, 70, 87]),
       (⟨some (86, true), .iad 89 1 (.t 87) (.t 88)⟩, [66, 67, 68, 69, 70]),
       (⟨some (86, true), .ld 90 1 false (.t 89)⟩, [66, 67, 68, 69, 70]),
       (⟨some (86, true), .mov 91 (.t 11)⟩, [66, 67, 68, 69, 70, 87, 88, 89, 90]),
       (⟨some (86, true), .iad 92 1 (.t 90) (.t 91)⟩, [66, 67, 68, 69, 70]),
       (⟨some (86, true), .ld 93 1 false (.t 92)⟩, [66, 67, 68, 69, 70]),
       (⟨some (78, false), .pick 94 (.t 86) (.t 93) (.c (.bool false))⟩, [66, 67, 68, 69, 70]),
       (⟨none, .pick 95 (.t 78) (.c (.bool true)) (.t 94)⟩, [66, 67, 68, 69, 70])]
      [⟨none, .iad 96 1 (.t 69) (.t 70)⟩,
       ⟨none, .st 1 (.t 96) (.t 95)⟩]))
   (.drop [66, 67, 68, 69, 70, 71, 72, 73, 74, 75, 76, 77, 78, 79, 80, 81, 82, 83, 84, 85, 86, 87, 88, 89, 90, 91, 92, 93, 94, 95, 96] (.reg [⟨none, .mov 64 (.t 11)⟩,
      ⟨none, .bin 65 .add (.t 64) (.c (.int .i64 1))⟩,
      ⟨none, .asg 11 (.t 65)⟩])))))
def c_spec_l23From_l4 : ACode :=
  (.seq (.seq (.reg [⟨none, .mov 56 (.t 10)⟩,
      ⟨none, .mov 57 (.t 0)⟩,
      ⟨none, .bin 58 .lss (.t 56) (.t 57)⟩])
   (.drop [56, 57] (.cond (.t 58) .skip
    (.exit 6))))
  (.drop [56, 57, 58] (.seq (.block 7 (.seq (.reg [⟨none, .asg 11 (.c (.int .i64 0))⟩])
     (.block 8 (.loop c_spec_l23From_l3))))
   (.drop [11, 61, 62, 63, 66, 67, 68, 69, 70, 71, 72, 73, 74, 75, 76, 77, 78, 79, 80, 81, 82, 83, 84, 85, 86, 87, 88, 89, 90, 91, 92, 93, 94, 95, 96, 64, 65] (.reg [⟨none, .mov 59 (.t 10)⟩,
      ⟨none, .bin 60 .add (.t 59) (.c (.int .i64 1))⟩,
      ⟨none, .asg 10 (.t 60)⟩])))))
def c_spec_l23From_l5 : ACode :=
  (.seq (.seq (.reg [⟨none, .mov 51 (.t 9)⟩,
      ⟨none, .mov 52 (.t 0)⟩,
      ⟨none, .bin 53 .lss (.t 51) (.t 52)⟩])
   (.drop [51, 52] (.cond (.t 53) .skip
    (.exit 4))))
  (.drop [51, 52, 53] (.seq (.block 5 (.seq (.reg [⟨none, .asg 10 (.c (.int .i64 0))⟩])
     (.block 6 (.loop c_spec_l23From_l4))))
   (.drop [10, 56, 57, 58, 11, 61, 62, 63, 66, 67, 68, 69, 70, 71, 72, 73, 74, 75, 76, 77, 78, 79, 80, 81, 82, 83, 84, 85, 86, 87, 88, 89, 90, 91, 92, 93, 94, 95, 96, 64, 65, 59, 60] (.reg [⟨none, .mov 54 (.t 9)⟩,
      ⟨none, .bin 55 .add (.t 54) (.c (.int .i64 1))⟩,
      ⟨none, .asg 9 (.t 55)⟩])))))
def c_spec_l23From_l6 : ACode :=
  (.seq (.seq (.reg [⟨none, .mov 105 (.t 15)⟩,
      ⟨none, .mov 106 (.t 0)⟩,
      ⟨none, .bin 107 .lss (.t 105) (.t 106)⟩])
   (.drop [105, 106] (.cond (.t 107) .skip
    (.exit 12))))
  (.drop [105, 106, 107] (.seq (.block 13 (.seq (.reg [⟨none, .mov 110 (.t 5)⟩,
        ⟨none, .mov 111 (.t 15)⟩,
        ⟨none, .iad 112 1 (.t 110) (.t 111)⟩,
        ⟨none, .ld 113 1 false (.t 112)⟩,
        ⟨none, .mov 114 (.t 13)⟩,
        ⟨none, .iad 115 1 (.t 113) (.t 114)⟩,
        ⟨none, .ld 116 1 false (.t 115)⟩])
     (.drop [110, 111, 112, 113, 114, 115] (.cond (.t 116) (.reg [⟨none, .mov 117 (.t 14)⟩,
         ⟨none, .mov 118 (.t 15)⟩,
         ⟨none, .bsl 119 1 [(.t 118)]⟩,
         ⟨none, .app 120 1 (.t 117) (.t 119)⟩,
         ⟨none, .asg 14 (.t 120)⟩])
      .skip))))
   (.drop [110, 111, 112, 113, 114, 115, 116, 117, 118, 119, 120] (.reg [⟨none, .mov 108 (.t 15)⟩,
      ⟨none, .bin 109 .add (.t 108) (.c (.int .i64 1))⟩,
      ⟨none, .asg 15 (.t 109)⟩])))))
def c_spec_l23From_l7 : ACode :=
  (.seq (.seq (.reg [⟨none, .mov 99 (.t 13)⟩,
      ⟨none, .mov 100 (.t 0)⟩,
      ⟨none, .bin 101 .lss (.t 99) (.t 100)⟩])
   (.drop [99, 100] (.cond (.t 101) .skip
    (.exit 10))))
  (.drop [99, 100, 101] (.seq (.block 11 (.seq (.reg [⟨none, .bsl 104 1 []⟩,
        ⟨none, .asg 14 (.t 104)⟩])
     (.drop [104] (.seq (.seq (.reg [⟨none, .asg 15 (.c (.int .i64 0))⟩])
       (.block 12 (.loop c_spec_l23From_l6)))
      (.drop [15, 105, 106, 107, 110, 111, 112, 113, 114, 115, 116, 117, 118, 119, 120, 108, 109] (.reg [⟨none, .fadr 121 0 (.t 12)⟩,
         ⟨none, .ld 122 1 false (.t 121)⟩,
         ⟨none, .mov 123 (.t 14)⟩,
         ⟨none, .bsl 124 1 [(.t 123)]⟩,
         ⟨none, .app 125 1 (.t 122) (.t 124)⟩,
         ⟨none, .fadr 126 0 (.t 12)⟩,
         ⟨none, .st 1 (.t 126) (.t 125)⟩]))))))
   (.drop [104, 14, 15, 105, 106, 107, 110, 111, 112, 113, 114, 115, 116, 117, 118, 119, 120, 108, 109, 121, 122, 123, 124, 125, 126] (.reg [⟨none, .mov 102 (.t 13)⟩,
      ⟨none, .bin 103 .add (.t 102) (.c (.int .i64 1))⟩,
      ⟨none, .asg 13 (.t 103)⟩])))))
def c_spec_l23From : ACode :=
  (.seq (.reg [⟨none, .alc 4 (.agg [.nilsl 1])⟩])
  (.seq (.reg [⟨none, .bsl 16 1 []⟩,
      ⟨none, .asg 5 (.t 16)⟩])
   (.drop [16] (.seq (.seq (.reg [⟨none, .asg 6 (.c (.int .i64 0))⟩])
     (.block 0 (.loop c_spec_l23From_l1)))
    (.drop [6, 17, 18, 19, 22, 23, 7, 24, 25, 26, 27, 28, 29, 30, 20, 21] (.seq (.seq (.reg [⟨none, .asg 8 (.c (.int .i64 0))⟩])
      (.block 2 (.loop c_spec_l23From_l2)))
     (.drop [8, 31, 32, 33, 34, 37, 38, 39, 40, 41, 42, 43, 44, 45, 46, 47, 48, 49, 50, 35, 36] (.seq (.seq (.reg [⟨none, .asg 9 (.c (.int .i64 0))⟩])
       (.block 4 (.loop c_spec_l23From_l5)))
      (.drop [9, 51, 52, 53, 10, 56, 57, 58, 11, 61, 62, 63, 66, 67, 68, 69, 70, 71, 72, 73, 74, 75, 76, 77, 78, 79, 80, 81, 82, 83, 84, 85, 86, 87, 88, 89, 90, 91, 92, 93, 94, 95, 96, 64, 65, 59, 60, 54, 55] (.seq (.reg [⟨none, .bsl 97 1 []⟩,
          ⟨none, .bld 98 [.nilsl 1] [(0, 1, (.t 97))]⟩,
          ⟨none, .alc 12 (.agg [.nilsl 1])⟩,
          ⟨none, .st 1 (.t 12) (.t 98)⟩])
       (.drop [97, 98] (.seq (.seq (.reg [⟨none, .asg 13 (.c (.int .i64 0))⟩])
         (.block 10 (.loop c_spec_l23From_l7)))
        (.drop [13, 99, 100, 101, 104, 14, 15, 105, 106, 107, 110, 111, 112, 113, 114, 115, 116, 117, 118, 119, 120, 108, 109, 121, 122, 123, 124, 125, 126, 102, 103] (.seq (.reg [⟨none, .ld 127 1 true (.t 12)⟩,
            ⟨none, .st 1 (.t 4) (.t 127)⟩])
         (.drop [127] .ret)))))))))))))))
abbrev r_spec_l23From : List RS := [.c 4 1 true]
theorem k_spec_l23From : fitsF Try.prog f_spec_l23From 128 c_spec_l23From r_spec_l23From = true := by kernel_rfl

/- loop.example/g01078/laws.toIntA2: [a=0, a=1, out=3, i=4] -/
def c_laws_toIntA2_l1 : ACode :=
  (.seq (.seq (.reg [⟨none, .mov 5 (.t 4)⟩,
      ⟨none, .bin 6 .lss (.t 5) (.c (.int .i64 2))⟩])
   (.drop [5] (.cond (.t 6) .skip
    (.exit 0))))
  (.drop [5, 6] (.seq (.block 1 (.reg [⟨none, .mov 9 (.t 4)⟩,
       ⟨none, .mov 10 (.t 4)⟩,
       ⟨none, .aad 11 1 2 (.t 1) (.t 10)⟩,
       ⟨none, .ld 12 1 false (.t 11)⟩,
       ⟨none, .aad 13 1 2 (.t 3) (.t 9)⟩,
       ⟨none, .st 1 (.t 13) (.t 12)⟩]))
   (.drop [9, 10, 11, 12, 13] (.reg [⟨none, .mov 7 (.t 4)⟩,
      ⟨none, .bin 8 .add (.t 7) (.c (.int .i64 1))⟩,
      ⟨none, .asg 4 (.t 8)⟩])))))
def c_laws_toIntA2 : ACode :=
  (.seq (.reg [⟨none, .box 1 (.t 0)⟩,
     ⟨none, .alc 2 (.agg [.int .i64 0, .int .i64 0])⟩])
  (.seq (.reg [⟨none, .alc 3 (.agg [.int .i64 0, .int .i64 0])⟩])
   (.seq (.seq (.reg [⟨none, .asg 4 (.c (.int .i64 0))⟩])
     (.block 0 (.loop c_laws_toIntA2_l1)))
    (.drop [4, 5, 6, 9, 10, 11, 12, 13, 7, 8] (.seq (.reg [⟨none, .ld 14 2 true (.t 3)⟩,
        ⟨none, .st 2 (.t 2) (.t 14)⟩])
     (.drop [14] .ret))))))
abbrev r_laws_toIntA2 : List RS := [.c 2 2 true]
theorem k_laws_toIntA2 : fitsF Try.prog f_laws_toIntA2 15 c_laws_toIntA2 r_laws_toIntA2 = true := by kernel_rfl

/- loop.example/g01078/impl.newOrder: [n=0, n=1, o=3, x=4] -/
def c_impl_newOrder_l1 : ACode :=
  (.seq (.reg [⟨none, .bin 10 .lss (.t 9) (.t 8)⟩])
  (.seq (.cond (.t 10) .skip
    (.exit 0))
   (.seq (.block 1 (.seq (.reg [⟨none, .mov 11 (.t 9)⟩,
         ⟨none, .asg 4 (.t 11)⟩])
      (.drop [11] (.reg [⟨none, .mov 12 (.t 3)⟩,
         ⟨none, .mov 13 (.t 4)⟩,
         ⟨none, .mov 14 (.t 0)⟩,
         ⟨none, .mk 15 1 (.bool false) (.t 14)⟩,
         ⟨none, .iad 16 1 (.t 12) (.t 13)⟩,
         ⟨none, .st 1 (.t 16) (.t 15)⟩]))))
    (.drop [11, 4, 12, 13, 14, 15, 16] (.reg [⟨none, .bin 17 .add (.t 9) (.c (.int .i64 1))⟩,
       ⟨none, .asg 9 (.t 17)⟩])))))
def c_impl_newOrder : ACode :=
  (.seq (.reg [⟨none, .asg 2 (.c (.nilsl 1))⟩])
  (.seq (.reg [⟨none, .mov 5 (.t 0)⟩,
      ⟨none, .mk 6 1 (.nilsl 1) (.t 5)⟩,
      ⟨none, .asg 3 (.t 6)⟩])
   (.drop [5, 6] (.seq (.seq (.reg [⟨none, .mov 7 (.t 3)⟩,
        ⟨none, .len 8 (.t 7)⟩,
        ⟨none, .mov 9 (.c (.int .i64 0))⟩])
     (.drop [7] (.block 0 (.loop c_impl_newOrder_l1))))
    (.drop [7, 8, 9, 10, 11, 4, 12, 13, 14, 15, 16, 17] (.seq (.reg [⟨none, .mov 18 (.t 3)⟩,
        ⟨none, .asg 2 (.t 18)⟩])
     (.drop [18] .ret)))))))
abbrev r_impl_newOrder : List RS := [.t 2]
theorem k_impl_newOrder : fitsF Try.prog f_impl_newOrder 19 c_impl_newOrder r_impl_newOrder = true := by kernel_rfl

/- (loop.example/g01078/impl.order).isOrder: [o=0, o=1, x=3, y=4, z=5] -/
def c_impl_order_isOrder_k1 : ACode :=
  (.seq (.reg [⟨none, .mov 24 (.t 3)⟩,
           ⟨none, .mov 25 (.t 4)⟩,
           ⟨none, .bin 26 .neq (.t 24) (.t 25)⟩,
           ⟨none, .asg 27 (.t 26)⟩,
           ⟨some (27, true), .mov 28 (.t 0)⟩,
           ⟨some (27, true), .mov 29 (.t 3)⟩,
           ⟨some (27, true), .iad 30 1 (.t 28) (.t 29)⟩,
           ⟨some (27, true), .ld 31 1 false (.t 30)⟩,
           ⟨some (27, true), .mov 32 (.t 4)⟩,
           ⟨some (27, true), .iad 33 1 (.t 31) (.t 32)⟩,
           ⟨some (27, true), .ld 34 1 false (.t 33)⟩,
           ⟨none, .pick 35 (.t 27) (.t 34) (.c (.bool false))⟩,
           ⟨none, .asg 36 (.t 35)⟩,
           ⟨some (36, true), .mov 37 (.t 0)⟩,
           ⟨some (36, true), .mov 38 (.t 4)⟩,
           ⟨some (36, true), .iad 39 1 (.t 37) (.t 38)⟩,
           ⟨some (36, true), .ld 40 1 false (.t 39)⟩,
           ⟨some (36, true), .mov 41 (.t 3)⟩,
           ⟨some (36, true), .iad 42 1 (.t 40) (.t 41)⟩,
           ⟨some (36, true), .ld 43 1 false (.t 42)⟩,
           ⟨none, .pick 44 (.t 36) (.t 43) (.c (.bool false))⟩])
        (.drop [24, 25, 26, 27, 28, 29, 30, 31, 32, 33, 34, 35, 36, 37, 38, 39, 40, 41, 42, 43] (.cond (.t 44) (.seq (.reg [⟨none, .asg 2 (.c (.bool false))⟩])
          .ret)
         .skip)))
def c_impl_order_isOrder_l1 : ACode :=
  (.seq (.reg [⟨none, .bin 48 .lss (.t 47) (.t 46)⟩])
  (.seq (.cond (.t 48) .skip
    (.exit 4))
   (.seq (.block 5 (.seq (.reg [⟨none, .mov 49 (.t 47)⟩,
         ⟨none, .asg 5 (.t 49)⟩])
      (.drop [49] (.seq (.reg [⟨none, .mov 50 (.t 0)⟩,
          ⟨none, .mov 51 (.t 3)⟩,
          ⟨none, .iad 52 1 (.t 50) (.t 51)⟩,
          ⟨none, .ld 53 1 false (.t 52)⟩,
          ⟨none, .mov 54 (.t 4)⟩,
          ⟨none, .iad 55 1 (.t 53) (.t 54)⟩,
          ⟨none, .ld 56 1 false (.t 55)⟩,
          ⟨none, .asg 57 (.t 56)⟩,
          ⟨some (57, true), .mov 58 (.t 0)⟩,
          ⟨some (57, true), .mov 59 (.t 4)⟩,
          ⟨some (57, true), .iad 60 1 (.t 58) (.t 59)⟩,
          ⟨some (57, true), .ld 61 1 false (.t 60)⟩,
          ⟨some (57, true), .mov 62 (.t 5)⟩,
          ⟨some (57, true), .iad 63 1 (.t 61) (.t 62)⟩,
          ⟨some (57, true), .ld 64 1 false (.t 63)⟩,
          ⟨none, .pick 65 (.t 57) (.t 64) (.c (.bool false))⟩,
          ⟨none, .asg 66 (.t 65)⟩,
          ⟨some (66, true), .mov 67 (.t 0)⟩,
          ⟨some (66, true), .mov 68 (.t 3)⟩,
          ⟨some (66, true), .iad 69 1 (.t 67) (.t 68)⟩,
          ⟨some (66, true), .ld 70 1 false (.t 69)⟩,
          ⟨some (66, true), .mov 71 (.t 5)⟩,
          ⟨some (66, true), .iad 72 1 (.t 70) (.t 71)⟩,
          ⟨some (66, true), .ld 73 1 false (.t 72)⟩,
          ⟨some (66, true), .un 74 .not (.t 73)⟩,
          ⟨none, .pick 75 (.t 66) (.t 74) (.c (.bool false))⟩])
       (.drop [50, 51, 52, 53, 54, 55, 56, 57, 58, 59, 60, 61, 62, 63, 64, 65, 66, 67, 68, 69, 70, 71, 72, 73, 74] (.cond (.t 75) (.seq (.reg [⟨none, .asg 2 (.c (.bool false))⟩])
         .ret)
        .skip))))))
    (.drop [49, 5, 50, 51, 52, 53, 54, 55, 56, 57, 58, 59, 60, 61, 62, 63, 64, 65, 66, 67, 68, 69, 70, 71, 72, 73, 74, 75] (.reg [⟨none, .bin 76 .add (.t 47) (.c (.int .i64 1))⟩,
       ⟨none, .asg 47 (.t 76)⟩])))))
def c_impl_order_isOrder_l2 : ACode :=
  (.seq (.reg [⟨none, .bin 22 .lss (.t 21) (.t 20)⟩])
  (.seq (.cond (.t 22) .skip
    (.exit 2))
   (.seq (.block 3 (.seq (.reg [⟨none, .mov 23 (.t 21)⟩,
         ⟨none, .asg 4 (.t 23)⟩])
      (.drop [23] (.seq (.cut c_impl_order_isOrder_k1)
       (.drop [24, 25, 26, 27, 28, 29, 30, 31, 32, 33, 34, 35, 36, 37, 38, 39, 40, 41, 42, 43, 44] (.seq (.reg [⟨none, .mov 45 (.t 0)⟩,
           ⟨none, .len 46 (.t 45)⟩,
           ⟨none, .mov 47 (.c (.int .i64 0))⟩])
        (.drop [45] (.block 4 (.loop c_impl_order_isOrder_l1)))))))))
    (.drop [23, 4, 24, 25, 26, 27, 28, 29, 30, 31, 32, 33, 34, 35, 36, 37, 38, 39, 40, 41, 42, 43, 44, 45, 46, 47, 48, 49, 5, 50, 51, 52, 53, 54, 55, 56, 57, 58, 59, 60, 61, 62, 63, 64, 65, 66, 67, 68, 69, 70, 71, 72, 73, 74, 75, 76] (.reg [⟨none, .bin 77 .add (.t 21) (.c (.int .i64 1))⟩,
       ⟨none, .asg 21 (.t 77)⟩])))))
def c_impl_order_isOrder_l3 : ACode :=
  (.seq (.reg [⟨none, .bin 9 .lss (.t 8) (.t 7)⟩])
  (.seq (.cond (.t 9) .skip
    (.exit 0))
   (.seq (.block 1 (.seq (.reg [⟨none, .mov 10 (.t 8)⟩,
         ⟨none, .asg 3 (.t 10)⟩])
      (.drop [10] (.seq (.seq (.reg [⟨none, .mov 11 (.t 0)⟩,
           ⟨none, .mov 12 (.t 3)⟩,
           ⟨none, .iad 13 1 (.t 11) (.t 12)⟩,
           ⟨none, .ld 14 1 false (.t 13)⟩,
           ⟨none, .mov 15 (.t 3)⟩,
           ⟨none, .iad 16 1 (.t 14) (.t 15)⟩,
           ⟨none, .ld 17 1 false (.t 16)⟩,
           ⟨none, .un 18 .not (.t 17)⟩])
        (.drop [11, 12, 13, 14, 15, 16, 17] (.cond (.t 18) (.seq (.reg [⟨none, .asg 2 (.c (.bool false))⟩])
          .ret)
         .skip)))
       (.drop [11, 12, 13, 14, 15, 16, 17, 18] (.seq (.reg [⟨none, .mov 19 (.t 0)⟩,
           ⟨none, .len 20 (.t 19)⟩,
           ⟨none, .mov 21 (.c (.int .i64 0))⟩])
        (.drop [19] (.block 2 (.loop c_impl_order_isOrder_l2)))))))))
    (.drop [10, 3, 11, 12, 13, 14, 15, 16, 17, 18, 19, 20, 21, 22, 23, 4, 24, 25, 26, 27, 28, 29, 30, 31, 32, 33, 34, 35, 36, 37, 38, 39, 40, 41, 42, 43, 44, 45, 46, 47, 48, 49, 5, 50, 51, 52, 53, 54, 55, 56, 57, 58, 59, 60, 61, 62, 63, 64, 65, 66, 67, 68, 69, 70, 71, 72, 73, 74, 75, 76, 77] (.reg [⟨none, .bin 78 .add (.t 8) (.c (.int .i64 1))⟩,
       ⟨none, .asg 8 (.t 78)⟩])))))
def c_impl_order_isOrder : ACode :=
  (.seq (.reg [⟨none, .asg 2 (.c (.bool false))⟩])
  (.seq (.seq (.reg [⟨none, .mov 6 (.t 0)⟩,
       ⟨none, .len 7 (.t 6)⟩,
       ⟨none, .mov 8 (.c (.int .i64 0))⟩])
    (.drop [6] (.block 0 (.loop c_impl_order_isOrder_l3))))
   (.drop [6, 7, 8, 9, 10, 3, 11, 12, 13, 14, 15, 16, 17, 18, 19, 20, 21, 22, 23, 4, 24, 25, 26, 27, 28, 29, 30, 31, 32, 33, 34, 35, 36, 37, 38, 39, 40, 41, 42, 43, 44, 45, 46, 47, 48, 49, 5, 50, 51, 52, 53, 54, 55, 56, 57, 58, 59, 60, 61, 62, 63, 64, 65, 66, 67, 68, 69, 70, 71, 72, 73, 74, 75, 76, 77, 78] (.seq (.reg [⟨none, .asg 2 (.c (.bool true))⟩])
    .ret))))
abbrev r_impl_order_isOrder : List RS := [.t 2]
theorem k_impl_order_isOrder : fitsF Try.prog f_impl_order_isOrder 79 c_impl_order_isOrder r_impl_order_isOrder = true := by kernel_rfl

/- loop.example/g01078/laws.eqIntA2: [a=0, b=1, a=2, b=3, i=5] -/
def c_laws_eqIntA2_l1 : ACode :=
  (.seq (.seq (.reg [⟨none, .mov 6 (.t 5)⟩,
      ⟨none, .bin 7 .lss (.t 6) (.c (.int .i64 2))⟩])
   (.drop [6] (.cond (.t 7) .skip
    (.exit 0))))
  (.drop [6, 7] (.seq (.block 1 (.seq (.dreg [(⟨none, .mov 10 (.t 5)⟩, []),
        (⟨none, .aad 11 1 2 (.t 2) (.t 10)⟩, []),
        (⟨none, .ld 12 1 false (.t 11)⟩, []),
        (⟨none, .mov 13 (.t 5)⟩, [10, 11, 12]),
        (⟨none, .aad 14 1 2 (.t 3) (.t 13)⟩, [10, 11, 12]),
        (⟨none, .ld 15 1 false (.t 14)⟩, [10, 11, 12])]
       [⟨none, .bin 16 .neq (.t 12) (.t 15)⟩])
     (.drop [10, 11, 12, 13, 14, 15] (.cond (.t 16) (.seq (.reg [⟨none, .asg 4 (.c (.bool false))⟩])
       .ret)
      .skip))))
   (.drop [10, 11, 12, 13, 14, 15, 16] (.reg [⟨none, .mov 8 (.t 5)⟩,
      ⟨none, .bin 9 .add (.t 8) (.c (.int .i64 1))⟩,
      ⟨none, .asg 5 (.t 9)⟩])))))
def c_laws_eqIntA2 : ACode :=
  (.seq (.reg [⟨none, .box 2 (.t 0)⟩,
     ⟨none, .box 3 (.t 1)⟩,
     ⟨none, .asg 4 (.c (.bool false))⟩])
  (.seq (.seq (.reg [⟨none, .asg 5 (.c (.int .i64 0))⟩])
    (.block 0 (.loop c_laws_eqIntA2_l1)))
   (.drop [5, 6, 7, 10, 11, 12, 13, 14, 15, 16, 8, 9] (.seq (.reg [⟨none, .asg 4 (.c (.bool true))⟩])
    .ret))))
abbrev r_laws_eqIntA2 : List RS := [.t 4]
theorem k_laws_eqIntA2 : fitsF Try.prog f_laws_eqIntA2 17 c_laws_eqIntA2 r_laws_eqIntA2 = true := by kernel_rfl

/- loop.example/g01078/spec.l1Most: [a=0, b=1, a=2, b=3] -/
def c_spec_l1Most : ACode :=
  (.seq (.reg [⟨none, .asg 4 (.c (.int .i64 0))⟩])
  (.seq (.seq (.reg [⟨none, .mov 5 (.t 0)⟩,
       ⟨none, .mov 6 (.t 1)⟩,
       ⟨none, .bin 7 .gtr (.t 5) (.t 6)⟩])
    (.drop [5, 6] (.cond (.t 7) (.seq (.reg [⟨none, .mov 8 (.t 0)⟩,
         ⟨none, .asg 4 (.t 8)⟩])
      (.drop [8] .ret))
     .skip)))
   (.drop [5, 6, 7, 8] (.seq (.reg [⟨none, .mov 9 (.t 1)⟩,
       ⟨none, .asg 4 (.t 9)⟩])
    (.drop [9] .ret)))))
abbrev r_spec_l1Most : List RS := [.t 4]
theorem k_spec_l1Most : fitsF Try.prog f_spec_l1Most 10 c_spec_l1Most r_spec_l1Most = true := by kernel_rfl

/- loop.example/g01078/laws.szIntS: [a=0, left=1, a=2, left=3] -/
def c_laws_szIntS : ACode :=
  (.seq (.reg [⟨none, .asg 4 (.c (.int .i64 0))⟩])
  (.seq (.reg [⟨none, .mov 5 (.t 1)⟩,
      ⟨none, .mov 6 (.t 0)⟩,
      ⟨none, .len 7 (.t 6)⟩,
      ⟨none, .bin 8 .sub (.t 5) (.t 7)⟩,
      ⟨none, .asg 1 (.t 8)⟩])
   (.drop [5, 6, 7, 8] (.seq (.seq (.reg [⟨none, .mov 9 (.t 1)⟩,
        ⟨none, .bin 10 .lss (.t 9) (.c (.int .i64 0))⟩])
     (.drop [9] (.cond (.t 10) (.seq (.reg [⟨none, .asg 4 (.c (.int .i64 (-1)))⟩])
       .ret)
      .skip)))
    (.drop [9, 10] (.seq (.reg [⟨none, .mov 11 (.t 1)⟩,
        ⟨none, .asg 4 (.t 11)⟩])
     (.drop [11] .ret)))))))
abbrev r_laws_szIntS : List RS := [.t 4]
theorem k_laws_szIntS : fitsF Try.prog f_laws_szIntS 12 c_laws_szIntS r_laws_szIntS = true := by kernel_rfl

/- loop.example/g01078/spec.l1Has: [l=0, n=1, l=2, n=3, i=5] -/
def c_spec_l1Has_l1 : ACode :=
  (.seq (.seq (.reg [⟨none, .mov 6 (.t 5)⟩,
      ⟨none, .mov 7 (.t 0)⟩,
      ⟨none, .len 8 (.t 7)⟩,
      ⟨none, .bin 9 .lss (.t 6) (.t 8)⟩])
   (.drop [6, 7, 8] (.cond (.t 9) .skip
    (.exit 0))))
  (.drop [6, 7, 8, 9] (.seq (.block 1 (.seq (.reg [⟨none, .mov 12 (.t 0)⟩,
        ⟨none, .mov 13 (.t 5)⟩,
        ⟨none, .iad 14 1 (.t 12) (.t 13)⟩,
        ⟨none, .ld 15 1 false (.t 14)⟩,
        ⟨none, .mov 16 (.t 1)⟩,
        ⟨none, .bin 17 .eql (.t 15) (.t 16)⟩])
     (.drop [12, 13, 14, 15, 16] (.cond (.t 17) (.seq (.reg [⟨none, .asg 4 (.c (.bool true))⟩])
       .ret)
      .skip))))
   (.drop [12, 13, 14, 15, 16, 17] (.reg [⟨none, .mov 10 (.t 5)⟩,
      ⟨none, .bin 11 .add (.t 10) (.c (.int .i64 1))⟩,
      ⟨none, .asg 5 (.t 11)⟩])))))
def c_spec_l1Has : ACode :=
  (.seq (.reg [⟨none, .asg 4 (.c (.bool false))⟩])
  (.seq (.seq (.reg [⟨none, .asg 5 (.c (.int .i64 0))⟩])
    (.block 0 (.loop c_spec_l1Has_l1)))
   (.drop [5, 6, 7, 8, 9, 12, 13, 14, 15, 16, 17, 10, 11] (.seq (.reg [⟨none, .asg 4 (.c (.bool false))⟩])
    .ret))))
abbrev r_spec_l1Has : List RS := [.t 4]
theorem k_spec_l1Has : fitsF Try.prog f_spec_l1Has 18 c_spec_l1Has r_spec_l1Has = true := by kernel_rfl

/- loop.example/g01078/impl.rises: [list=0, list=1, i=3] -/
def c_impl_rises_l1 : ACode :=
  (.seq (.seq (.reg [⟨none, .mov 4 (.t 3)⟩,
      ⟨none, .mov 5 (.t 0)⟩,
      ⟨none, .len 6 (.t 5)⟩,
      ⟨none, .bin 7 .lss (.t 4) (.t 6)⟩])
   (.drop [4, 5, 6] (.cond (.t 7) .skip
    (.exit 0))))
  (.drop [4, 5, 6, 7] (.seq (.block 1 (.seq (.dreg [(⟨none, .mov 10 (.t 0)⟩, []),
        (⟨none, .mov 11 (.t 3)⟩, [10]),
        (⟨none, .bin 12 .sub (.t 11) (.c (.int .i64 1))⟩, [10]),
        (⟨none, .iad 13 1 (.t 10) (.t 12)⟩, []),
        (⟨none, .ld 14 1 false (.t 13)⟩, []),
        (⟨none, .mov 15 (.t 0)⟩, [10, 11, 12, 13, 14]),
        (⟨none, .mov 16 (.t 3)⟩, [10, 11, 12, 13, 14, 15]),
        (⟨none, .iad 17 1 (.t 15) (.t 16)⟩, [10, 11, 12, 13, 14]),
        (⟨none, .ld 18 1 false (.t 17)⟩, [10, 11, 12, 13, 14])]
       [⟨none, .bin 19 .geq (.t 14) (.t 18)⟩])
     (.drop [10, 11, 12, 13, 14, 15, 16, 17, 18] (.cond (.t 19) (.seq (.reg [⟨none, .asg 2 (.c (.bool false))⟩])
       .ret)
      .skip))))
   (.drop [10, 11, 12, 13, 14, 15, 16, 17, 18, 19] (.reg [⟨none, .mov 8 (.t 3)⟩,
      ⟨none, .bin 9 .add (.t 8) (.c (.int .i64 1))⟩,
      ⟨none, .asg 3 (.t 9)⟩])))))
def c_impl_rises : ACode :=
  (.seq (.reg [⟨none, .asg 2 (.c (.bool false))⟩])
  (.seq (.seq (.reg [⟨none, .asg 3 (.c (.int .i64 1))⟩])
    (.block 0 (.loop c_impl_rises_l1)))
   (.drop [3, 4, 5, 6, 7, 10, 11, 12, 13, 14, 15, 16, 17, 18, 19, 8, 9] (.seq (.reg [⟨none, .asg 2 (.c (.bool true))⟩])
    .ret))))
abbrev r_impl_rises : List RS := [.t 2]
theorem k_impl_rises : fitsF Try.prog f_impl_rises 20 c_impl_rises r_impl_rises = true := by kernel_rfl

/- loop.example/g01078/impl.inSize: [list=0, n=1, list=2, n=3, _=5, x=6] -/
def c_impl_inSize_l1 : ACode :=
  (.seq (.reg [⟨none, .bin 10 .lss (.t 9) (.t 8)⟩])
  (.seq (.cond (.t 10) .skip
    (.exit 0))
   (.seq (.block 1 (.seq (.reg [⟨none, .iad 11 1 (.t 7) (.t 9)⟩,
         ⟨none, .ld 12 1 false (.t 11)⟩,
         ⟨none, .asg 6 (.t 12)⟩])
      (.drop [11, 12] (.seq (.reg [⟨none, .mov 13 (.t 6)⟩,
          ⟨none, .bin 14 .lss (.t 13) (.c (.int .i64 0))⟩,
          ⟨none, .asg 15 (.t 14)⟩,
          ⟨some (15, false), .mov 16 (.t 6)⟩,
          ⟨some (15, false), .mov 17 (.t 1)⟩,
          ⟨some (15, false), .bin 18 .geq (.t 16) (.t 17)⟩,
          ⟨none, .pick 19 (.t 15) (.c (.bool true)) (.t 18)⟩])
       (.drop [13, 14, 15, 16, 17, 18] (.cond (.t 19) (.seq (.reg [⟨none, .asg 4 (.c (.bool false))⟩])
         .ret)
        .skip))))))
    (.drop [11, 12, 6, 13, 14, 15, 16, 17, 18, 19] (.reg [⟨none, .bin 20 .add (.t 9) (.c (.int .i64 1))⟩,
       ⟨none, .asg 9 (.t 20)⟩])))))
def c_impl_inSize : ACode :=
  (.seq (.reg [⟨none, .asg 4 (.c (.bool false))⟩])
  (.seq (.seq (.reg [⟨none, .mov 7 (.t 0)⟩,
       ⟨none, .len 8 (.t 7)⟩,
       ⟨none, .mov 9 (.c (.int .i64 0))⟩])
    (.block 0 (.loop c_impl_inSize_l1)))
   (.drop [7, 8, 9, 10, 11, 12, 6, 13, 14, 15, 16, 17, 18, 19, 20] (.seq (.reg [⟨none, .asg 4 (.c (.bool true))⟩])
    .ret))))
abbrev r_impl_inSize : List RS := [.t 4]
theorem k_impl_inSize : fitsF Try.prog f_impl_inSize 21 c_impl_inSize r_impl_inSize = true := by kernel_rfl

/- loop.example/g01078/spec.l1Own: [l=0, l=1] -/
def c_spec_l1Own : ACode :=
  (.seq (.reg [⟨none, .asg 2 (.c (.nilsl 1))⟩])
  (.seq (.reg [⟨none, .bsl 3 1 []⟩,
      ⟨none, .mov 4 (.t 0)⟩,
      ⟨none, .app 5 1 (.t 3) (.t 4)⟩,
      ⟨none, .asg 2 (.t 5)⟩])
   (.drop [3, 4, 5] .ret)))
abbrev r_spec_l1Own : List RS := [.t 2]
theorem k_spec_l1Own : fitsF Try.prog f_spec_l1Own 6 c_spec_l1Own r_spec_l1Own = true := by kernel_rfl

/- loop.example/g01078/spec.l5List: [in=0, in=1, out=3, x=4] -/
def c_spec_l5List_l1 : ACode :=
  (.seq (.seq (.reg [⟨none, .mov 6 (.t 4)⟩,
      ⟨none, .mov 7 (.t 0)⟩,
      ⟨none, .len 8 (.t 7)⟩,
      ⟨none, .bin 9 .lss (.t 6) (.t 8)⟩])
   (.drop [6, 7, 8] (.cond (.t 9) .skip
    (.exit 0))))
  (.drop [6, 7, 8, 9] (.seq (.block 1 (.seq (.reg [⟨none, .mov 12 (.t 0)⟩,
        ⟨none, .mov 13 (.t 4)⟩,
        ⟨none, .iad 14 1 (.t 12) (.t 13)⟩,
        ⟨none, .ld 15 1 false (.t 14)⟩])
     (.drop [12, 13, 14] (.cond (.t 15) (.reg [⟨none, .mov 16 (.t 3)⟩,
         ⟨none, .mov 17 (.t 4)⟩,
         ⟨none, .bsl 18 1 [(.t 17)]⟩,
         ⟨none, .app 19 1 (.t 16) (.t 18)⟩,
         ⟨none, .asg 3 (.t 19)⟩])
      .skip))))
   (.drop [12, 13, 14, 15, 16, 17, 18, 19] (.reg [⟨none, .mov 10 (.t 4)⟩,
      ⟨none, .bin 11 .add (.t 10) (.c (.int .i64 1))⟩,
      ⟨none, .asg 4 (.t 11)⟩])))))
def c_spec_l5List : ACode :=
  (.seq (.reg [⟨none, .asg 2 (.c (.nilsl 1))⟩])
  (.seq (.reg [⟨none, .bsl 5 1 []⟩,
      ⟨none, .asg 3 (.t 5)⟩])
   (.drop [5] (.seq (.seq (.reg [⟨none, .asg 4 (.c (.int .i64 0))⟩])
     (.block 0 (.loop c_spec_l5List_l1)))
    (.drop [4, 6, 7, 8, 9, 12, 13, 14, 15, 16, 17, 18, 19, 10, 11] (.seq (.reg [⟨none, .mov 20 (.t 3)⟩,
        ⟨none, .asg 2 (.t 20)⟩])
     (.drop [20] .ret)))))))
abbrev r_spec_l5List : List RS := [.t 2]
theorem k_spec_l5List : fitsF Try.prog f_spec_l5List 21 c_spec_l5List r_spec_l5List = true := by kernel_rfl

/- (loop.example/g01078/impl.order).greatest: [o=0, list=1, o=2, list=3, _=5, x=6, top=7, _=8, y=9] -/
def c_impl_order_greatest_l1 : ACode :=
  (.seq (.reg [⟨none, .bin 19 .lss (.t 18) (.t 17)⟩])
  (.seq (.cond (.t 19) .skip
    (.exit 2))
   (.seq (.block 3 (.seq (.reg [⟨none, .iad 20 1 (.t 16) (.t 18)⟩,
         ⟨none, .ld 21 1 false (.t 20)⟩,
         ⟨none, .asg 9 (.t 21)⟩])
      (.drop [20, 21] (.reg [⟨none, .mov 22 (.t 7)⟩,
         ⟨none, .asg 23 (.t 22)⟩,
         ⟨some (23, true), .mov 24 (.t 0)⟩,
         ⟨some (23, true), .mov 25 (.t 9)⟩,
         ⟨some (23, true), .iad 26 1 (.t 24) (.t 25)⟩,
         ⟨some (23, true), .ld 27 1 false (.t 26)⟩,
         ⟨some (23, true), .mov 28 (.t 6)⟩,
         ⟨some (23, true), .iad 29 1 (.t 27) (.t 28)⟩,
         ⟨some (23, true), .ld 30 1 false (.t 29)⟩,
         ⟨none, .pick 31 (.t 23) (.t 30) (.c (.bool false))⟩,
         ⟨none, .asg 7 (.t 31)⟩]))))
    (.drop [20, 21, 9, 22, 23, 24, 25, 26, 27, 28, 29, 30, 31] (.reg [⟨none, .bin 32 .add (.t 18) (.c (.int .i64 1))⟩,
       ⟨none, .asg 18 (.t 32)⟩])))))
def c_impl_order_greatest_l2 : ACode :=
  (.seq (.reg [⟨none, .bin 13 .lss (.t 12) (.t 11)⟩])
  (.seq (.cond (.t 13) .skip
    (.exit 0))
   (.seq (.block 1 (.seq (.reg [⟨none, .iad 14 1 (.t 10) (.t 12)⟩,
         ⟨none, .ld 15 1 false (.t 14)⟩,
         ⟨none, .asg 6 (.t 15)⟩])
      (.drop [14, 15] (.seq (.reg [⟨none, .asg 7 (.c (.bool true))⟩])
       (.seq (.seq (.reg [⟨none, .mov 16 (.t 1)⟩,
            ⟨none, .len 17 (.t 16)⟩,
            ⟨none, .mov 18 (.c (.int .i64 0))⟩])
         (.block 2 (.loop c_impl_order_greatest_l1)))
        (.drop [16, 17, 18, 19, 20, 21, 9, 22, 23, 24, 25, 26, 27, 28, 29, 30, 31, 32] (.seq (.reg [⟨none, .mov 33 (.t 7)⟩])
         (.cond (.t 33) (.seq (.reg [⟨none, .mov 34 (.t 6)⟩,
              ⟨none, .asg 4 (.t 34)⟩])
           (.drop [34] .ret))
          .skip))))))))
    (.drop [14, 15, 6, 7, 16, 17, 18, 19, 20, 21, 9, 22, 23, 24, 25, 26, 27, 28, 29, 30, 31, 32, 33, 34] (.reg [⟨none, .bin 35 .add (.t 12) (.c (.int .i64 1))⟩,
       ⟨none, .asg 12 (.t 35)⟩])))))
def c_impl_order_greatest : ACode :=
  (.seq (.reg [⟨none, .asg 4 (.c (.int .i64 0))⟩])
  (.seq (.seq (.reg [⟨none, .mov 10 (.t 1)⟩,
       ⟨none, .len 11 (.t 10)⟩,
       ⟨none, .mov 12 (.c (.int .i64 0))⟩])
    (.block 0 (.loop c_impl_order_greatest_l2)))
   (.drop [10, 11, 12, 13, 14, 15, 6, 7, 16, 17, 18, 19, 20, 21, 9, 22, 23, 24, 25, 26, 27, 28, 29, 30, 31, 32, 33, 34, 35] (.seq (.reg [⟨none, .asg 4 (.c (.int .i64 (-1)))⟩])
    .ret))))
abbrev r_impl_order_greatest : List RS := [.t 4]
theorem k_impl_order_greatest : fitsF Try.prog f_impl_order_greatest 36 c_impl_order_greatest r_impl_order_greatest = true := by kernel_rfl

/- (loop.example/g01078/impl.order).meetTable$1: [z=0, z=4] -/
def c_impl_order_meetTable_1 : ACode :=
  (.seq (.reg [⟨none, .asg 5 (.c (.bool false))⟩])
  (.seq (.dreg [(⟨none, .ld 6 1 false (.t 1)⟩, []),
      (⟨none, .mov 7 (.t 0)⟩, [6]),
      (⟨none, .iad 8 1 (.t 6) (.t 7)⟩, []),
      (⟨none, .ld 9 1 false (.t 8)⟩, []),
      (⟨none, .ld 10 1 false (.t 2)⟩, [6, 7, 8, 9]),
      (⟨none, .iad 11 1 (.t 9) (.t 10)⟩, []),
      (⟨none, .ld 12 1 false (.t 11)⟩, []),
      (⟨none, .asg 13 (.t 12)⟩, []),
      (⟨some (13, true), .ld 14 1 false (.t 1)⟩, []),
      (⟨some (13, true), .mov 15 (.t 0)⟩, [14]),
      (⟨some (13, true), .iad 16 1 (.t 14) (.t 15)⟩, []),
      (⟨some (13, true), .ld 17 1 false (.t 16)⟩, []),
      (⟨some (13, true), .ld 18 1 false (.t 3)⟩, [14, 15, 16, 17])]
     [⟨some (13, true), .iad 19 1 (.t 17) (.t 18)⟩,
      ⟨some (13, true), .ld 20 1 false (.t 19)⟩,
      ⟨none, .pick 21 (.t 13) (.t 20) (.c (.bool false))⟩,
      ⟨none, .asg 5 (.t 21)⟩])
   (.drop [6, 7, 8, 9, 10, 11, 12, 13, 14, 15, 16, 17, 18, 19, 20, 21] .ret)))
abbrev r_impl_order_meetTable_1 : List RS := [.t 5]
theorem k_impl_order_meetTable_1 : fitsF Try.prog f_impl_order_meetTable_1 22 c_impl_order_meetTable_1 r_impl_order_meetTable_1 = true := by kernel_rfl

/- loop.example/g01078/laws.toIntA2S: [a=0, a=1, out=3, i=4] -/
def c_laws_toIntA2S_l1 : ACode :=
  (.seq (.seq (.reg [⟨none, .mov 8 (.t 4)⟩,
      ⟨none, .mov 9 (.t 0)⟩,
      ⟨none, .len 10 (.t 9)⟩,
      ⟨none, .bin 11 .lss (.t 8) (.t 10)⟩])
   (.drop [8, 9, 10] (.cond (.t 11) .skip
    (.exit 0))))
  (.drop [8, 9, 10, 11] (.seq (.block 1 (.reg [⟨none, .mov 14 (.t 3)⟩,
       ⟨none, .mov 15 (.t 4)⟩,
       ⟨none, .mov 16 (.t 0)⟩,
       ⟨none, .mov 17 (.t 4)⟩,
       ⟨none, .iad 18 2 (.t 16) (.t 17)⟩,
       ⟨none, .ld 19 2 true (.t 18)⟩,
       ⟨none, .call 20 f_laws_toIntA2 [((.t 19), false)]⟩,
       ⟨none, .iad 21 2 (.t 14) (.t 15)⟩,
       ⟨none, .st 2 (.t 21) (.t 20)⟩]))
   (.drop [14, 15, 16, 17, 18, 19, 20, 21] (.reg [⟨none, .mov 12 (.t 4)⟩,
      ⟨none, .bin 13 .add (.t 12) (.c (.int .i64 1))⟩,
      ⟨none, .asg 4 (.t 13)⟩])))))
def c_laws_toIntA2S : ACode :=
  (.seq (.reg [⟨none, .asg 2 (.c (.nilsl 2))⟩])
  (.seq (.reg [⟨none, .mov 5 (.t 0)⟩,
      ⟨none, .len 6 (.t 5)⟩,
      ⟨none, .mk 7 2 (.agg [.int .i64 0, .int .i64 0]) (.t 6)⟩,
      ⟨none, .asg 3 (.t 7)⟩])
   (.drop [5, 6, 7] (.seq (.seq (.reg [⟨none, .asg 4 (.c (.int .i64 0))⟩])
     (.block 0 (.loop c_laws_toIntA2S_l1)))
    (.drop [4, 8, 9, 10, 11, 14, 15, 16, 17, 18, 19, 20, 21, 12, 13] (.seq (.reg [⟨none, .mov 22 (.t 3)⟩,
        ⟨none, .asg 2 (.t 22)⟩])
     (.drop [22] .ret)))))))
abbrev r_laws_toIntA2S : List RS := [.t 2]
theorem k_laws_toIntA2S : fitsF Try.prog f_laws_toIntA2S 23 c_laws_toIntA2S r_laws_toIntA2S = true := by kernel_rfl

/- loop.example/g01078/laws.eqIntA2S: [a=0, b=1, a=2, b=3, i=5] -/
def c_laws_eqIntA2S_l1 : ACode :=
  (.seq (.seq (.reg [⟨none, .mov 11 (.t 5)⟩,
      ⟨none, .mov 12 (.t 0)⟩,
      ⟨none, .len 13 (.t 12)⟩,
      ⟨none, .bin 14 .lss (.t 11) (.t 13)⟩])
   (.drop [11, 12, 13] (.cond (.t 14) .skip
    (.exit 0))))
  (.drop [11, 12, 13, 14] (.seq (.block 1 (.seq (.dreg [(⟨none, .mov 17 (.t 0)⟩, []),
        (⟨none, .mov 18 (.t 5)⟩, [17]),
        (⟨none, .iad 19 2 (.t 17) (.t 18)⟩, []),
        (⟨none, .ld 20 2 true (.t 19)⟩, []),
        (⟨none, .mov 21 (.t 1)⟩, [17, 18, 19, 20]),
        (⟨none, .mov 22 (.t 5)⟩, [17, 18, 19, 20, 21]),
        (⟨none, .iad 23 2 (.t 21) (.t 22)⟩, [17, 18, 19, 20]),
        (⟨none, .ld 24 2 true (.t 23)⟩, [17, 18, 19, 20])]
       [⟨none, .call 25 f_laws_eqIntA2 [((.t 20), false), ((.t 24), false)]⟩,
        ⟨none, .un 26 .not (.t 25)⟩])
     (.drop [17, 18, 19, 20, 21, 22, 23, 24, 25] (.cond (.t 26) (.seq (.reg [⟨none, .asg 4 (.c (.bool false))⟩])
       .ret)
      .skip))))
   (.drop [17, 18, 19, 20, 21, 22, 23, 24, 25, 26] (.reg [⟨none, .mov 15 (.t 5)⟩,
      ⟨none, .bin 16 .add (.t 15) (.c (.int .i64 1))⟩,
      ⟨none, .asg 5 (.t 16)⟩])))))
def c_laws_eqIntA2S : ACode :=
  (.seq (.reg [⟨none, .asg 4 (.c (.bool false))⟩])
  (.seq (.seq (.reg [⟨none, .mov 6 (.t 0)⟩,
       ⟨none, .len 7 (.t 6)⟩,
       ⟨none, .mov 8 (.t 1)⟩,
       ⟨none, .len 9 (.t 8)⟩,
       ⟨none, .bin 10 .neq (.t 7) (.t 9)⟩])
    (.drop [6, 7, 8, 9] (.cond (.t 10) (.seq (.reg [⟨none, .asg 4 (.c (.bool false))⟩])
      .ret)
     .skip)))
   (.drop [6, 7, 8, 9, 10] (.seq (.seq (.reg [⟨none, .asg 5 (.c (.int .i64 0))⟩])
     (.block 0 (.loop c_laws_eqIntA2S_l1)))
    (.drop [5, 11, 12, 13, 14, 17, 18, 19, 20, 21, 22, 23, 24, 25, 26, 15, 16] (.seq (.reg [⟨none, .asg 4 (.c (.bool true))⟩])
     .ret))))))
abbrev r_laws_eqIntA2S : List RS := [.t 4]
theorem k_laws_eqIntA2S : fitsF Try.prog f_laws_eqIntA2S 27 c_laws_eqIntA2S r_laws_eqIntA2S = true := by kernel_rfl

/- loop.example/g01078/laws.szIntSS: [a=0, left=1, a=2, left=3, i=5] -/
def c_laws_szIntSS_l1 : ACode :=
  (.seq (.seq (.reg [⟨none, .mov 12 (.t 5)⟩,
      ⟨none, .mov 13 (.t 0)⟩,
      ⟨none, .len 14 (.t 13)⟩,
      ⟨none, .bin 15 .lss (.t 12) (.t 14)⟩])
   (.drop [12, 13, 14] (.cond (.t 15) .skip
    (.exit 0))))
  (.drop [12, 13, 14, 15] (.seq (.block 1 (.seq (.reg [⟨none, .mov 18 (.t 0)⟩,
        ⟨none, .mov 19 (.t 5)⟩,
        ⟨none, .iad 20 1 (.t 18) (.t 19)⟩,
        ⟨none, .ld 21 1 false (.t 20)⟩,
        ⟨none, .mov 22 (.t 1)⟩,
        ⟨none, .call 23 f_laws_szIntS [((.t 21), false), ((.t 22), false)]⟩,
        ⟨none, .asg 1 (.t 23)⟩])
     (.drop [18, 19, 20, 21, 22, 23] (.seq (.reg [⟨none, .mov 24 (.t 1)⟩,
         ⟨none, .bin 25 .lss (.t 24) (.c (.int .i64 0))⟩])
      (.drop [24] (.cond (.t 25) (.seq (.reg [⟨none, .asg 4 (.c (.int .i64 (-1)))⟩])
        .ret)
       .skip))))))
   (.drop [18, 19, 20, 21, 22, 23, 24, 25] (.reg [⟨none, .mov 16 (.t 5)⟩,
      ⟨none, .bin 17 .add (.t 16) (.c (.int .i64 1))⟩,
      ⟨none, .asg 5 (.t 17)⟩])))))
def c_laws_szIntSS : ACode :=
  (.seq (.reg [⟨none, .asg 4 (.c (.int .i64 0))⟩])
  (.seq (.reg [⟨none, .mov 6 (.t 1)⟩,
      ⟨none, .mov 7 (.t 0)⟩,
      ⟨none, .len 8 (.t 7)⟩,
      ⟨none, .bin 9 .sub (.t 6) (.t 8)⟩,
      ⟨none, .asg 1 (.t 9)⟩])
   (.drop [6, 7, 8, 9] (.seq (.seq (.reg [⟨none, .mov 10 (.t 1)⟩,
        ⟨none, .bin 11 .lss (.t 10) (.c (.int .i64 0))⟩])
     (.drop [10] (.cond (.t 11) (.seq (.reg [⟨none, .asg 4 (.c (.int .i64 (-1)))⟩])
       .ret)
      .skip)))
    (.drop [10, 11] (.seq (.seq (.reg [⟨none, .asg 5 (.c (.int .i64 0))⟩])
      (.block 0 (.loop c_laws_szIntSS_l1)))
     (.drop [5, 12, 13, 14, 15, 18, 19, 20, 21, 22, 23, 24, 25, 16, 17] (.seq (.reg [⟨none, .mov 26 (.t 1)⟩,
         ⟨none, .asg 4 (.t 26)⟩])
      (.drop [26] .ret)))))))))
abbrev r_laws_szIntSS : List RS := [.t 4]
theorem k_laws_szIntSS : fitsF Try.prog f_laws_szIntSS 27 c_laws_szIntSS r_laws_szIntSS = true := by kernel_rfl

/- loop.example/g01078/laws.toIntSS: [a=0, a=1, out=3, i=4] -/
def c_laws_toIntSS_l1 : ACode :=
  (.seq (.seq (.reg [⟨none, .mov 8 (.t 4)⟩,
      ⟨none, .mov 9 (.t 0)⟩,
      ⟨none, .len 10 (.t 9)⟩,
      ⟨none, .bin 11 .lss (.t 8) (.t 10)⟩])
   (.drop [8, 9, 10] (.cond (.t 11) .skip
    (.exit 0))))
  (.drop [8, 9, 10, 11] (.seq (.block 1 (.reg [⟨none, .mov 14 (.t 3)⟩,
       ⟨none, .mov 15 (.t 4)⟩,
       ⟨none, .mov 16 (.t 0)⟩,
       ⟨none, .mov 17 (.t 4)⟩,
       ⟨none, .iad 18 1 (.t 16) (.t 17)⟩,
       ⟨none, .ld 19 1 false (.t 18)⟩,
       ⟨none, .call 20 f_laws_toIntS [((.t 19), false)]⟩,
       ⟨none, .iad 21 1 (.t 14) (.t 15)⟩,
       ⟨none, .st 1 (.t 21) (.t 20)⟩]))
   (.drop [14, 15, 16, 17, 18, 19, 20, 21] (.reg [⟨none, .mov 12 (.t 4)⟩,
      ⟨none, .bin 13 .add (.t 12) (.c (.int .i64 1))⟩,
      ⟨none, .asg 4 (.t 13)⟩])))))
def c_laws_toIntSS : ACode :=
  (.seq (.reg [⟨none, .asg 2 (.c (.nilsl 1))⟩])
  (.seq (.reg [⟨none, .mov 5 (.t 0)⟩,
      ⟨none, .len 6 (.t 5)⟩,
      ⟨none, .mk 7 1 (.nilsl 1) (.t 6)⟩,
      ⟨none, .asg 3 (.t 7)⟩])
   (.drop [5, 6, 7] (.seq (.seq (.reg [⟨none, .asg 4 (.c (.int .i64 0))⟩])
     (.block 0 (.loop c_laws_toIntSS_l1)))
    (.drop [4, 8, 9, 10, 11, 14, 15, 16, 17, 18, 19, 20, 21, 12, 13] (.seq (.reg [⟨none, .mov 22 (.t 3)⟩,
        ⟨none, .asg 2 (.t 22)⟩])
     (.drop [22] .ret)))))))
abbrev r_laws_toIntSS : List RS := [.t 2]
theorem k_laws_toIntSS : fitsF Try.prog f_laws_toIntSS 23 c_laws_toIntSS r_laws_toIntSS = true := by kernel_rfl

/- loop.example/g01078/impl.orderOf: [p=0, p=1, n=4, o=5, x=6, list=7, _=8, y=9] -/
def c_impl_orderOf_k1 : ACode :=
  (.seq (.reg [⟨none, .mov 25 (.t 7)⟩,
           ⟨none, .call 26 f_impl_rises [((.t 25), false)]⟩,
           ⟨none, .un 27 .not (.t 26)⟩,
           ⟨none, .asg 28 (.t 27)⟩,
           ⟨some (28, false), .mov 29 (.t 7)⟩,
           ⟨some (28, false), .mov 30 (.t 4)⟩,
           ⟨some (28, false), .call 31 f_impl_inSize [((.t 29), false), ((.t 30), false)]⟩,
           ⟨some (28, false), .un 32 .not (.t 31)⟩,
           ⟨none, .pick 33 (.t 28) (.c (.bool true)) (.t 32)⟩])
        (.drop [25, 26, 27, 28, 29, 30, 31, 32] (.cond (.t 33) (.seq (.reg [⟨none, .asg 2 (.c (.nilsl 1))⟩,
             ⟨none, .asg 3 (.c (.bool false))⟩])
          .ret)
         .skip)))
def c_impl_orderOf_l1 : ACode :=
  (.seq (.reg [⟨none, .bin 37 .lss (.t 36) (.t 35)⟩])
  (.seq (.cond (.t 37) .skip
    (.exit 2))
   (.seq (.block 3 (.seq (.reg [⟨none, .iad 38 1 (.t 34) (.t 36)⟩,
         ⟨none, .ld 39 1 false (.t 38)⟩,
         ⟨none, .asg 9 (.t 39)⟩])
      (.drop [38, 39] (.reg [⟨none, .mov 40 (.t 5)⟩,
         ⟨none, .mov 41 (.t 9)⟩,
         ⟨none, .iad 42 1 (.t 40) (.t 41)⟩,
         ⟨none, .ld 43 1 false (.t 42)⟩,
         ⟨none, .mov 44 (.t 6)⟩,
         ⟨none, .iad 45 1 (.t 43) (.t 44)⟩,
         ⟨none, .st 1 (.t 45) (.c (.bool true))⟩]))))
    (.drop [38, 39, 9, 40, 41, 42, 43, 44, 45] (.reg [⟨none, .bin 46 .add (.t 36) (.c (.int .i64 1))⟩,
       ⟨none, .asg 36 (.t 46)⟩])))))
def c_impl_orderOf_l2 : ACode :=
  (.seq (.reg [⟨none, .bin 21 .lss (.t 20) (.t 19)⟩])
  (.seq (.cond (.t 21) .skip
    (.exit 0))
   (.seq (.block 1 (.seq (.reg [⟨none, .mov 22 (.t 20)⟩,
         ⟨none, .iad 23 1 (.t 18) (.t 20)⟩,
         ⟨none, .ld 24 1 false (.t 23)⟩,
         ⟨none, .asg 6 (.t 22)⟩,
         ⟨none, .asg 7 (.t 24)⟩])
      (.drop [22, 23, 24] (.seq (.cut c_impl_orderOf_k1)
       (.drop [25, 26, 27, 28, 29, 30, 31, 32, 33] (.seq (.reg [⟨none, .mov 34 (.t 7)⟩,
           ⟨none, .len 35 (.t 34)⟩,
           ⟨none, .mov 36 (.c (.int .i64 0))⟩])
        (.block 2 (.loop c_impl_orderOf_l1))))))))
    (.drop [22, 23, 24, 6, 7, 25, 26, 27, 28, 29, 30, 31, 32, 33, 34, 35, 36, 37, 38, 39, 9, 40, 41, 42, 43, 44, 45, 46] (.reg [⟨none, .bin 47 .add (.t 20) (.c (.int .i64 1))⟩,
       ⟨none, .asg 20 (.t 47)⟩])))))
def c_impl_orderOf : ACode :=
  (.seq (.reg [⟨none, .box 1 (.t 0)⟩,
     ⟨none, .asg 2 (.c (.nilsl 1))⟩,
     ⟨none, .asg 3 (.c (.bool false))⟩])
  (.seq (.reg [⟨none, .fadr 10 0 (.t 1)⟩,
      ⟨none, .ld 11 1 false (.t 10)⟩,
      ⟨none, .len 12 (.t 11)⟩,
      ⟨none, .asg 4 (.t 12)⟩])
   (.drop [10, 11, 12] (.seq (.seq (.reg [⟨none, .mov 13 (.t 4)⟩,
        ⟨none, .bin 14 .gtr (.t 13) (.c (.int .i64 10))⟩])
     (.drop [13] (.cond (.t 14) (.seq (.reg [⟨none, .asg 2 (.c (.nilsl 1))⟩,
          ⟨none, .asg 3 (.c (.bool false))⟩])
       .ret)
      .skip)))
    (.drop [13, 14] (.seq (.reg [⟨none, .mov 15 (.t 4)⟩,
        ⟨none, .call 16 f_impl_newOrder [((.t 15), false)]⟩,
        ⟨none, .asg 5 (.t 16)⟩])
     (.drop [15, 16] (.seq (.seq (.reg [⟨none, .fadr 17 0 (.t 1)⟩,
          ⟨none, .ld 18 1 false (.t 17)⟩,
          ⟨none, .len 19 (.t 18)⟩,
          ⟨none, .mov 20 (.c (.int .i64 0))⟩])
       (.drop [17] (.block 0 (.loop c_impl_orderOf_l2))))
      (.drop [17, 18, 19, 20, 21, 22, 23, 24, 6, 7, 25, 26, 27, 28, 29, 30, 31, 32, 33, 34, 35, 36, 37, 38, 39, 9, 40, 41, 42, 43, 44, 45, 46, 47] (.seq (.reg [⟨none, .mov 48 (.t 5)⟩,
          ⟨none, .mov 49 (.t 5)⟩,
          ⟨none, .call 50 f_impl_order_isOrder [((.t 49), false)]⟩,
          ⟨none, .asg 2 (.t 48)⟩,
          ⟨none, .asg 3 (.t 50)⟩])
       (.drop [48, 49, 50] .ret)))))))))))
abbrev r_impl_orderOf : List RS := [.t 2, .t 3]
theorem k_impl_orderOf : fitsF Try.prog f_impl_orderOf 51 c_impl_orderOf r_impl_orderOf = true := by kernel_rfl

/- loop.example/g01078/laws.eqIntSS: [a=0, b=1, a=2, b=3, i=5] -/
def c_laws_eqIntSS_l1 : ACode :=
  (.seq (.seq (.reg [⟨none, .mov 11 (.t 5)⟩,
      ⟨none, .mov 12 (.t 0)⟩,
      ⟨none, .len 13 (.t 12)⟩,
      ⟨none, .bin 14 .lss (.t 11) (.t 13)⟩])
   (.drop [11, 12, 13] (.cond (.t 14) .skip
    (.exit 0))))
  (.drop [11, 12, 13, 14] (.seq (.block 1 (.seq (.dreg [(⟨none, .mov 17 (.t 0)⟩, []),
        (⟨none, .mov 18 (.t 5)⟩, [17]),
        (⟨none, .iad 19 1 (.t 17) (.t 18)⟩, []),
        (⟨none, .ld 20 1 false (.t 19)⟩, []),
        (⟨none, .mov 21 (.t 1)⟩, [17, 18, 19, 20]),
        (⟨none, .mov 22 (.t 5)⟩, [17, 18, 19, 20, 21]),
        (⟨none, .iad 23 1 (.t 21) (.t 22)⟩, [17, 18, 19, 20]),
        (⟨none, .ld 24 1 false (.t 23)⟩, [17, 18, 19, 20])]
       [⟨none, .call 25 f_laws_eqIntS [((.t 20), false), ((.t 24), false)]⟩,
        ⟨none, .un 26 .not (.t 25)⟩])
     (.drop [17, 18, 19, 20, 21, 22, 23, 24, 25] (.cond (.t 26) (.seq (.reg [⟨none, .asg 4 (.c (.bool false))⟩])
       .ret)
      .skip))))
   (.drop [17, 18, 19, 20, 21, 22, 23, 24, 25, 26] (.reg [⟨none, .mov 15 (.t 5)⟩,
      ⟨none, .bin 16 .add (.t 15) (.c (.int .i64 1))⟩,
      ⟨none, .asg 5 (.t 16)⟩])))))
def c_laws_eqIntSS : ACode :=
  (.seq (.reg [⟨none, .asg 4 (.c (.bool false))⟩])
  (.seq (.seq (.reg [⟨none, .mov 6 (.t 0)⟩,
       ⟨none, .len 7 (.t 6)⟩,
       ⟨none, .mov 8 (.t 1)⟩,
       ⟨none, .len 9 (.t 8)⟩,
       ⟨none, .bin 10 .neq (.t 7) (.t 9)⟩])
    (.drop [6, 7, 8, 9] (.cond (.t 10) (.seq (.reg [⟨none, .asg 4 (.c (.bool false))⟩])
      .ret)
     .skip)))
   (.drop [6, 7, 8, 9, 10] (.seq (.seq (.reg [⟨none, .asg 5 (.c (.int .i64 0))⟩])
     (.block 0 (.loop c_laws_eqIntSS_l1)))
    (.drop [5, 11, 12, 13, 14, 17, 18, 19, 20, 21, 22, 23, 24, 25, 26, 15, 16] (.seq (.reg [⟨none, .asg 4 (.c (.bool true))⟩])
     .ret))))))
abbrev r_laws_eqIntSS : List RS := [.t 4]
theorem k_laws_eqIntSS : fitsF Try.prog f_laws_eqIntSS 27 c_laws_eqIntSS r_laws_eqIntSS = true := by kernel_rfl

/- loop.example/g01078/spec.l23Leq: [p=0, x=1, y=2, p=3, x=4, y=5] -/
def c_spec_l23Leq : ACode :=
  (.seq (.reg [⟨none, .box 3 (.t 0)⟩,
     ⟨none, .asg 6 (.c (.bool false))⟩])
  (.seq (.reg [⟨none, .fadr 7 0 (.t 3)⟩,
      ⟨none, .ld 8 1 false (.t 7)⟩,
      ⟨none, .mov 9 (.t 2)⟩,
      ⟨none, .iad 10 1 (.t 8) (.t 9)⟩,
      ⟨none, .ld 11 1 false (.t 10)⟩,
      ⟨none, .mov 12 (.t 1)⟩,
      ⟨none, .call 13 f_spec_l1Has [((.t 11), false), ((.t 12), false)]⟩,
      ⟨none, .asg 6 (.t 13)⟩])
   (.drop [7, 8, 9, 10, 11, 12, 13] .ret)))
abbrev r_spec_l23Leq : List RS := [.t 6]
theorem k_spec_l23Leq : fitsF Try.prog f_spec_l23Leq 14 c_spec_l23Leq r_spec_l23Leq = true := by kernel_rfl

/- (loop.example/g01078/impl.order).has: [o=0, list=1, o=2, list=3] -/
def c_impl_order_has : ACode :=
  (.seq (.reg [⟨none, .asg 4 (.c (.bool false))⟩])
  (.seq (.reg [⟨none, .mov 5 (.t 1)⟩,
      ⟨none, .mov 6 (.t 0)⟩,
      ⟨none, .len 7 (.t 6)⟩,
      ⟨none, .call 8 f_impl_inSize [((.t 5), false), ((.t 7), false)]⟩,
      ⟨none, .asg 4 (.t 8)⟩])
   (.drop [5, 6, 7, 8] .ret)))
abbrev r_impl_order_has : List RS := [.t 4]
theorem k_impl_order_has : fitsF Try.prog f_impl_order_has 9 c_impl_order_has r_impl_order_has = true := by kernel_rfl

/- (loop.example/g01078/impl.order).none: [o=0, so=1, o=2, so=3] -/
def c_impl_order_none : ACode :=
  (.seq (.reg [⟨none, .asg 4 (.c (.bool false))⟩])
  (.seq (.reg [⟨none, .mov 5 (.t 0)⟩,
      ⟨none, .mov 6 (.t 1)⟩,
      ⟨none, .call 7 f_impl_order_those [((.t 5), false), ((.t 6), false)]⟩,
      ⟨none, .len 8 (.t 7)⟩,
      ⟨none, .bin 9 .eql (.t 8) (.c (.int .i64 0))⟩,
      ⟨none, .asg 4 (.t 9)⟩])
   (.drop [5, 6, 7, 8, 9] .ret)))
abbrev r_impl_order_none : List RS := [.t 4]
theorem k_impl_order_none : fitsF Try.prog f_impl_order_none 10 c_impl_order_none r_impl_order_none = true := by kernel_rfl

/- loop.example/g01078/impl.CountExtensions$1: [y=0, y=4] -/
def c_impl_CountExtensions_1 : ACode :=
  (.seq (.reg [⟨none, .asg 5 (.c (.bool false))⟩])
  (.seq (.reg [⟨none, .ld 6 1 false (.t 1)⟩,
      ⟨none, .mov 7 (.t 0)⟩,
      ⟨none, .ld 8 1 false (.t 2)⟩,
      ⟨none, .call 9 f_impl_order_less [((.t 6), false), ((.t 7), false), ((.t 8), false)]⟩,
      ⟨none, .asg 10 (.t 9)⟩,
      ⟨some (10, true), .ld 11 1 false (.t 3)⟩,
      ⟨some (10, true), .mov 12 (.t 0)⟩,
      ⟨some (10, true), .bin 13 .shr (.t 11) (.t 12)⟩,
      ⟨some (10, true), .bin 14 .and (.t 13) (.c (.int .i64 1))⟩,
      ⟨some (10, true), .bin 15 .eql (.t 14) (.c (.int .i64 0))⟩,
      ⟨none, .pick 16 (.t 10) (.t 15) (.c (.bool false))⟩,
      ⟨none, .asg 5 (.t 16)⟩])
   (.drop [6, 7, 8, 9, 10, 11, 12, 13, 14, 15, 16] .ret)))
abbrev r_impl_CountExtensions_1 : List RS := [.t 5]
theorem k_impl_CountExtensions_1 : fitsF Try.prog f_impl_CountExtensions_1 17 c_impl_CountExtensions_1 r_impl_CountExtensions_1 = true := by kernel_rfl

/- loop.example/g01078/impl.MinimalElements$1$1: [y=0, y=3] -/
def c_impl_MinimalElements_1_1 : ACode :=
  (.seq (.reg [⟨none, .asg 4 (.c (.bool false))⟩])
  (.seq (.reg [⟨none, .ld 5 1 false (.t 1)⟩,
      ⟨none, .mov 6 (.t 0)⟩,
      ⟨none, .ld 7 1 false (.t 2)⟩,
      ⟨none, .call 8 f_impl_order_less [((.t 5), false), ((.t 6), false), ((.t 7), false)]⟩,
      ⟨none, .asg 4 (.t 8)⟩])
   (.drop [5, 6, 7, 8] .ret)))
abbrev r_impl_MinimalElements_1_1 : List RS := [.t 4]
theorem k_impl_MinimalElements_1_1 : fitsF Try.prog f_impl_MinimalElements_1_1 9 c_impl_MinimalElements_1_1 r_impl_MinimalElements_1_1 = true := by kernel_rfl

/- loop.example/g01078/laws.markIntSS: [a=0, k=1, a=2, k=3, i=5] -/
def c_laws_markIntSS_l1 : ACode :=
  (.seq (.seq (.reg [⟨none, .mov 6 (.t 5)⟩,
      ⟨none, .mov 7 (.t 0)⟩,
      ⟨none, .len 8 (.t 7)⟩,
      ⟨none, .bin 9 .lss (.t 6) (.t 8)⟩])
   (.drop [6, 7, 8] (.cond (.t 9) .skip
    (.exit 0))))
  (.drop [6, 7, 8, 9] (.seq (.block 1 (.reg [⟨none, .mov 12 (.t 0)⟩,
       ⟨none, .mov 13 (.t 5)⟩,
       ⟨none, .iad 14 1 (.t 12) (.t 13)⟩,
       ⟨none, .ld 15 1 false (.t 14)⟩,
       ⟨none, .mov 16 (.t 1)⟩,
       ⟨none, .call 17 f_laws_markIntS [((.t 15), true), ((.t 16), false)]⟩,
       ⟨none, .asg 1 (.t 17)⟩]))
   (.drop [12, 13, 14, 15, 16, 17] (.reg [⟨none, .mov 10 (.t 5)⟩,
      ⟨none, .bin 11 .add (.t 10) (.c (.int .i64 1))⟩,
      ⟨none, .asg 5 (.t 11)⟩])))))
def c_laws_markIntSS : ACode :=
  (.seq (.reg [⟨none, .asg 4 (.c (.int .i64 0))⟩])
  (.seq (.seq (.reg [⟨none, .asg 5 (.c (.int .i64 0))⟩])
    (.block 0 (.loop c_laws_markIntSS_l1)))
   (.drop [5, 6, 7, 8, 9, 12, 13, 14, 15, 16, 17, 10, 11] (.seq (.reg [⟨none, .mov 18 (.t 1)⟩,
       ⟨none, .asg 4 (.t 18)⟩])
    (.drop [18] .ret)))))
abbrev r_laws_markIntSS : List RS := [.t 4]
theorem k_laws_markIntSS : fitsF Try.prog f_laws_markIntSS 19 c_laws_markIntSS r_laws_markIntSS = true := by kernel_rfl

/- loop.example/g01078/impl.MaximalElements$1$1: [y=0, y=3] -/
def c_impl_MaximalElements_1_1 : ACode :=
  (.seq (.reg [⟨none, .asg 4 (.c (.bool false))⟩])
  (.seq (.reg [⟨none, .ld 5 1 false (.t 1)⟩,
      ⟨none, .ld 6 1 false (.t 2)⟩,
      ⟨none, .mov 7 (.t 0)⟩,
      ⟨none, .call 8 f_impl_order_less [((.t 5), false), ((.t 6), false), ((.t 7), false)]⟩,
      ⟨none, .asg 4 (.t 8)⟩])
   (.drop [5, 6, 7, 8] .ret)))
abbrev r_impl_MaximalElements_1_1 : List RS := [.t 4]
theorem k_impl_MaximalElements_1_1 : fitsF Try.prog f_impl_MaximalElements_1_1 9 c_impl_MaximalElements_1_1 r_impl_MaximalElements_1_1 = true := by kernel_rfl

/- loop.example/g01078/spec.l23Height: [p=0, x=1, p=2, x=3, out=5, i=6, y=7] -/
def c_spec_l23Height_l1 : ACode :=
  (.seq (.seq (.reg [⟨none, .mov 8 (.t 6)⟩,
      ⟨none, .fadr 9 0 (.t 2)⟩,
      ⟨none, .ld 10 1 false (.t 9)⟩,
      ⟨none, .mov 11 (.t 1)⟩,
      ⟨none, .iad 12 1 (.t 10) (.t 11)⟩,
      ⟨none, .ld 13 1 false (.t 12)⟩,
      ⟨none, .len 14 (.t 13)⟩,
      ⟨none, .bin 15 .lss (.t 8) (.t 14)⟩])
   (.drop [8, 9, 10, 11, 12, 13, 14] (.cond (.t 15) .skip
    (.exit 0))))
  (.drop [8, 9, 10, 11, 12, 13, 14, 15] (.seq (.block 1 (.seq (.reg [⟨none, .fadr 18 0 (.t 2)⟩,
        ⟨none, .ld 19 1 false (.t 18)⟩,
        ⟨none, .mov 20 (.t 1)⟩,
        ⟨none, .iad 21 1 (.t 19) (.t 20)⟩,
        ⟨none, .ld 22 1 false (.t 21)⟩,
        ⟨none, .mov 23 (.t 6)⟩,
        ⟨none, .iad 24 1 (.t 22) (.t 23)⟩,
        ⟨none, .ld 25 1 false (.t 24)⟩,
        ⟨none, .asg 7 (.t 25)⟩])
     (.drop [18, 19, 20, 21, 22, 23, 24, 25] (.seq (.reg [⟨none, .mov 26 (.t 7)⟩,
         ⟨none, .mov 27 (.t 1)⟩,
         ⟨none, .bin 28 .neq (.t 26) (.t 27)⟩])
      (.drop [26, 27] (.cond (.t 28) (.reg [⟨none, .mov 29 (.t 5)⟩,
          ⟨none, .ld 30 1 true (.t 2)⟩,
          ⟨none, .mov 31 (.t 7)⟩,
          ⟨none, .call 32 f_spec_l23Height [((.t 30), false), ((.t 31), false)]⟩,
          ⟨none, .bin 33 .add (.t 32) (.c (.int .i64 1))⟩,
          ⟨none, .call 34 f_spec_l1Most [((.t 29), false), ((.t 33), false)]⟩,
          ⟨none, .asg 5 (.t 34)⟩])
       .skip))))))
   (.drop [18, 19, 20, 21, 22, 23, 24, 25, 7, 26, 27, 28, 29, 30, 31, 32, 33, 34] (.reg [⟨none, .mov 16 (.t 6)⟩,
      ⟨none, .bin 17 .add (.t 16) (.c (.int .i64 1))⟩,
      ⟨none, .asg 6 (.t 17)⟩])))))
def c_spec_l23Height : ACode :=
  (.seq (.reg [⟨none, .box 2 (.t 0)⟩,
     ⟨none, .asg 4 (.c (.int .i64 0))⟩])
  (.seq (.reg [⟨none, .asg 5 (.c (.int .i64 0))⟩])
   (.seq (.seq (.reg [⟨none, .asg 6 (.c (.int .i64 0))⟩])
     (.block 0 (.loop c_spec_l23Height_l1)))
    (.drop [6, 8, 9, 10, 11, 12, 13, 14, 15, 18, 19, 20, 21, 22, 23, 24, 25, 7, 26, 27, 28, 29, 30, 31, 32, 33, 34, 16, 17] (.seq (.reg [⟨none, .mov 35 (.t 5)⟩,
        ⟨none, .asg 4 (.t 35)⟩])
     (.drop [35] .ret))))))
abbrev r_spec_l23Height : List RS := [.t 4]
theorem k_spec_l23Height : fitsF Try.prog f_spec_l23Height 36 c_spec_l23Height r_spec_l23Height = true := by kernel_rfl

/- (loop.example/g01078/impl.order).lengths: [o=0, down=1, o=2, down=3, list=5, changed=6, x=7, y=8] -/
def c_impl_order_lengths_k1 : ACode :=
  (.dreg [(⟨none, .mov 23 (.t 1)⟩, []),
          (⟨none, .un 24 .not (.t 23)⟩, []),
          (⟨none, .asg 25 (.t 24)⟩, []),
          (⟨some (25, true), .mov 26 (.t 0)⟩, []),
          (⟨some (25, true), .mov 27 (.t 7)⟩, [26]),
          (⟨some (25, true), .mov 28 (.t 8)⟩, [26, 27]),
          (⟨some (25, true), .call 29 f_impl_order_less [((.t 26), false), ((.t 27), false), ((.t 28), false)]⟩, []),
          (⟨none, .pick 30 (.t 25) (.t 29) (.c (.bool false))⟩, []),
          (⟨none, .asg 31 (.t 30)⟩, []),
          (⟨some (31, false), .mov 32 (.t 1)⟩, []),
          (⟨some (31, false), .asg 33 (.t 32)⟩, []),
          (⟨some (33, true), .mov 34 (.t 0)⟩, []),
          (⟨some (33, true), .mov 35 (.t 8)⟩, [34]),
          (⟨some (33, true), .mov 36 (.t 7)⟩, [34, 35]),
          (⟨some (33, true), .call 37 f_impl_order_less [((.t 34), false), ((.t 35), false), ((.t 36), false)]⟩, []),
          (⟨some (31, false), .pick 38 (.t 33) (.t 37) (.c (.bool false))⟩, []),
          (⟨none, .pick 39 (.t 31) (.c (.bool true)) (.t 38)⟩, []),
          (⟨none, .asg 40 (.t 39)⟩, []),
          (⟨some (40, true), .mov 41 (.t 5)⟩, []),
          (⟨some (40, true), .mov 42 (.t 7)⟩, [41]),
          (⟨some (40, true), .iad 43 1 (.t 41) (.t 42)⟩, []),
          (⟨some (40, true), .ld 44 1 false (.t 43)⟩, []),
          (⟨some (40, true), .mov 45 (.t 5)⟩, [41, 42, 43, 44]),
          (⟨some (40, true), .mov 46 (.t 8)⟩, [41, 42, 43, 44, 45]),
          (⟨some (40, true), .iad 47 1 (.t 45) (.t 46)⟩, [41, 42, 43, 44]),
          (⟨some (40, true), .ld 48 1 false (.t 47)⟩, [41, 42, 43, 44])]
         [⟨some (40, true), .bin 49 .leq (.t 44) (.t 48)⟩,
          ⟨none, .pick 50 (.t 40) (.t 49) (.c (.bool false))⟩])
def c_impl_order_lengths_l1 : ACode :=
  (.seq (.reg [⟨none, .bin 21 .lss (.t 20) (.t 19)⟩])
  (.seq (.cond (.t 21) .skip
    (.exit 4))
   (.seq (.block 5 (.seq (.reg [⟨none, .mov 22 (.t 20)⟩,
         ⟨none, .asg 8 (.t 22)⟩])
      (.drop [22] (.seq (.cut c_impl_order_lengths_k1)
       (.drop [23, 24, 25, 26, 27, 28, 29, 30, 31, 32, 33, 34, 35, 36, 37, 38, 39, 40, 41, 42, 43, 44, 45, 46, 47, 48, 49] (.cond (.t 50) (.seq (.reg [⟨none, .mov 51 (.t 5)⟩,
            ⟨none, .mov 52 (.t 7)⟩,
            ⟨none, .mov 53 (.t 5)⟩,
            ⟨none, .mov 54 (.t 8)⟩,
            ⟨none, .iad 55 1 (.t 53) (.t 54)⟩,
            ⟨none, .ld 56 1 false (.t 55)⟩,
            ⟨none, .bin 57 .add (.t 56) (.c (.int .i64 1))⟩,
            ⟨none, .iad 58 1 (.t 51) (.t 52)⟩,
            ⟨none, .st 1 (.t 58) (.t 57)⟩])
         (.drop [51, 52, 53, 54, 55, 56, 57, 58] (.reg [⟨none, .asg 6 (.c (.bool true))⟩])))
        .skip))))))
    (.drop [22, 8, 23, 24, 25, 26, 27, 28, 29, 30, 31, 32, 33, 34, 35, 36, 37, 38, 39, 40, 41, 42, 43, 44, 45, 46, 47, 48, 49, 50, 51, 52, 53, 54, 55, 56, 57, 58] (.reg [⟨none, .bin 59 .add (.t 20) (.c (.int .i64 1))⟩,
       ⟨none, .asg 20 (.t 59)⟩])))))
def c_impl_order_lengths_l2 : ACode :=
  (.seq (.reg [⟨none, .bin 16 .lss (.t 15) (.t 14)⟩])
  (.seq (.cond (.t 16) .skip
    (.exit 2))
   (.seq (.block 3 (.seq (.reg [⟨none, .mov 17 (.t 15)⟩,
         ⟨none, .asg 7 (.t 17)⟩])
      (.drop [17] (.seq (.reg [⟨none, .mov 18 (.t 0)⟩,
          ⟨none, .len 19 (.t 18)⟩,
          ⟨none, .mov 20 (.c (.int .i64 0))⟩])
       (.drop [18] (.block 4 (.loop c_impl_order_lengths_l1)))))))
    (.drop [17, 7, 18, 19, 20, 21, 22, 8, 23, 24, 25, 26, 27, 28, 29, 30, 31, 32, 33, 34, 35, 36, 37, 38, 39, 40, 41, 42, 43, 44, 45, 46, 47, 48, 49, 50, 51, 52, 53, 54, 55, 56, 57, 58, 59] (.reg [⟨none, .bin 60 .add (.t 15) (.c (.int .i64 1))⟩,
       ⟨none, .asg 15 (.t 60)⟩])))))
def c_impl_order_lengths_l3 : ACode :=
  (.seq (.seq (.reg [⟨none, .mov 12 (.t 6)⟩])
   (.cond (.t 12) .skip
    (.exit 0)))
  (.drop [12] (.block 1 (.seq (.reg [⟨none, .asg 6 (.c (.bool false))⟩])
    (.seq (.reg [⟨none, .mov 13 (.t 0)⟩,
        ⟨none, .len 14 (.t 13)⟩,
        ⟨none, .mov 15 (.c (.int .i64 0))⟩])
     (.drop [13] (.block 2 (.loop c_impl_order_lengths_l2))))))))
def c_impl_order_lengths : ACode :=
  (.seq (.reg [⟨none, .asg 4 (.c (.nilsl 1))⟩])
  (.seq (.reg [⟨none, .mov 9 (.t 0)⟩,
      ⟨none, .len 10 (.t 9)⟩,
      ⟨none, .mk 11 1 (.int .i64 0) (.t 10)⟩,
      ⟨none, .asg 5 (.t 11)⟩])
   (.drop [9, 10, 11] (.seq (.seq (.reg [⟨none, .asg 6 (.c (.bool true))⟩])
     (.block 0 (.loop c_impl_order_lengths_l3)))
    (.drop [6, 12, 13, 14, 15, 16, 17, 7, 18, 19, 20, 21, 22, 8, 23, 24, 25, 26, 27, 28, 29, 30, 31, 32, 33, 34, 35, 36, 37, 38, 39, 40, 41, 42, 43, 44, 45, 46, 47, 48, 49, 50, 51, 52, 53, 54, 55, 56, 57, 58, 59, 60] (.seq (.reg [⟨none, .mov 61 (.t 5)⟩,
        ⟨none, .asg 4 (.t 61)⟩])
     (.drop [61] .ret)))))))
abbrev r_impl_order_lengths : List RS := [.t 4]
theorem k_impl_order_lengths : fitsF Try.prog f_impl_order_lengths 62 c_impl_order_lengths r_impl_order_lengths = true := by kernel_rfl

/- loop.example/g01078/impl.FirstExtension$1: [y=0, y=4] -/
def c_impl_FirstExtension_1 : ACode :=
  (.seq (.reg [⟨none, .asg 5 (.c (.bool false))⟩])
  (.seq (.reg [⟨none, .ld 6 1 false (.t 1)⟩,
      ⟨none, .mov 7 (.t 0)⟩,
      ⟨none, .ld 8 1 false (.t 2)⟩,
      ⟨none, .call 9 f_impl_order_less [((.t 6), false), ((.t 7), false), ((.t 8), false)]⟩,
      ⟨none, .asg 10 (.t 9)⟩,
      ⟨some (10, true), .ld 11 1 false (.t 3)⟩,
      ⟨some (10, true), .mov 12 (.t 0)⟩,
      ⟨some (10, true), .call 13 f_impl_hasNot [((.t 11), false), ((.t 12), false)]⟩,
      ⟨none, .pick 14 (.t 10) (.t 13) (.c (.bool false))⟩,
      ⟨none, .asg 5 (.t 14)⟩])
   (.drop [6, 7, 8, 9, 10, 11, 12, 13, 14] .ret)))
abbrev r_impl_FirstExtension_1 : List RS := [.t 5]
theorem k_impl_FirstExtension_1 : fitsF Try.prog f_impl_FirstExtension_1 15 c_impl_FirstExtension_1 r_impl_FirstExtension_1 = true := by kernel_rfl

/- loop.example/g01078/spec.l2Elements: [n=0, list=1, n=2, list=3, i=5] -/
def c_spec_l2Elements_l1 : ACode :=
  (.seq (.seq (.reg [⟨none, .mov 6 (.t 5)⟩,
      ⟨none, .mov 7 (.t 1)⟩,
      ⟨none, .len 8 (.t 7)⟩,
      ⟨none, .bin 9 .lss (.t 6) (.t 8)⟩])
   (.drop [6, 7, 8] (.cond (.t 9) .skip
    (.exit 0))))
  (.drop [6, 7, 8, 9] (.seq (.block 1 (.seq (.reg [⟨none, .mov 12 (.t 1)⟩,
        ⟨none, .mov 13 (.t 5)⟩,
        ⟨none, .iad 14 1 (.t 12) (.t 13)⟩,
        ⟨none, .ld 15 1 false (.t 14)⟩,
        ⟨none, .mov 16 (.t 0)⟩,
        ⟨none, .bin 17 .sub (.t 16) (.c (.int .i64 1))⟩,
        ⟨none, .call 18 f_spec_l1In [((.t 15), false), ((.c (.int .i64 0)), false), ((.t 17), false)]⟩,
        ⟨none, .un 19 .not (.t 18)⟩])
     (.drop [12, 13, 14, 15, 16, 17, 18] (.cond (.t 19) (.seq (.reg [⟨none, .asg 4 (.c (.bool false))⟩])
       .ret)
      .skip))))
   (.drop [12, 13, 14, 15, 16, 17, 18, 19] (.reg [⟨none, .mov 10 (.t 5)⟩,
      ⟨none, .bin 11 .add (.t 10) (.c (.int .i64 1))⟩,
      ⟨none, .asg 5 (.t 11)⟩])))))
def c_spec_l2Elements : ACode :=
  (.seq (.reg [⟨none, .asg 4 (.c (.bool false))⟩])
  (.seq (.seq (.reg [⟨none, .asg 5 (.c (.int .i64 0))⟩])
    (.block 0 (.loop c_spec_l2Elements_l1)))
   (.drop [5, 6, 7, 8, 9, 12, 13, 14, 15, 16, 17, 18, 19, 10, 11] (.seq (.reg [⟨none, .asg 4 (.c (.bool true))⟩])
    .ret))))
abbrev r_spec_l2Elements : List RS := [.t 4]
theorem k_spec_l2Elements : fitsF Try.prog f_spec_l2Elements 20 c_spec_l2Elements r_spec_l2Elements = true := by kernel_rfl

/- loop.example/g01078/spec.l23Down: [p=0, some=1, p=2, some=3, in=5, i=6, k=7] -/
def c_spec_l23Down_l1 : ACode :=
  (.seq (.seq (.dreg [(⟨none, .mov 18 (.t 7)⟩, []),
      (⟨none, .fadr 19 0 (.t 2)⟩, [18]),
      (⟨none, .ld 20 1 false (.t 19)⟩, [18]),
      (⟨none, .mov 21 (.t 1)⟩, [18, 19, 20]),
      (⟨none, .mov 22 (.t 6)⟩, [18, 19, 20, 21]),
      (⟨none, .iad 23 1 (.t 21) (.t 22)⟩, [18, 19, 20]),
      (⟨none, .ld 24 1 false (.t 23)⟩, [18, 19, 20]),
      (⟨none, .iad 25 1 (.t 20) (.t 24)⟩, [18]),
      (⟨none, .ld 26 1 false (.t 25)⟩, [18]),
      (⟨none, .len 27 (.t 26)⟩, [18])]
     [⟨none, .bin 28 .lss (.t 18) (.t 27)⟩])
   (.drop [18, 19, 20, 21, 22, 23, 24, 25, 26, 27] (.cond (.t 28) .skip
    (.exit 2))))
  (.drop [18, 19, 20, 21, 22, 23, 24, 25, 26, 27, 28] (.seq (.block 3 (.dreg [(⟨none, .mov 31 (.t 5)⟩, []),
       (⟨none, .fadr 32 0 (.t 2)⟩, [31]),
       (⟨none, .ld 33 1 false (.t 32)⟩, [31]),
       (⟨none, .mov 34 (.t 1)⟩, [31, 32, 33]),
       (⟨none, .mov 35 (.t 6)⟩, [31, 32, 33, 34]),
       (⟨none, .iad 36 1 (.t 34) (.t 35)⟩, [31, 32, 33]),
       (⟨none, .ld 37 1 false (.t 36)⟩, [31, 32, 33]),
       (⟨none, .iad 38 1 (.t 33) (.t 37)⟩, [31]),
       (⟨none, .ld 39 1 false (.t 38)⟩, [31]),
       (⟨none, .mov 40 (.t 7)⟩, [31, 32, 33, 34, 35, 36, 37, 38, 39]),
       (⟨none, .iad 41 1 (.t 39) (.t 40)⟩, [31]),
       (⟨none, .ld 42 1 false (.t 41)⟩, [31])]
      [⟨none, .iad 43 1 (.t 31) (.t 42)⟩,
       ⟨none, .st 1 (.t 43) (.c (.bool true))⟩]))
   (.drop [31, 32, 33, 34, 35, 36, 37, 38, 39, 40, 41, 42, 43] (.reg [⟨none, .mov 29 (.t 7)⟩,
      ⟨none, .bin 30 .add (.t 29) (.c (.int .i64 1))⟩,
      ⟨none, .asg 7 (.t 30)⟩])))))
def c_spec_l23Down_l2 : ACode :=
  (.seq (.seq (.reg [⟨none, .mov 12 (.t 6)⟩,
      ⟨none, .mov 13 (.t 1)⟩,
      ⟨none, .len 14 (.t 13)⟩,
      ⟨none, .bin 15 .lss (.t 12) (.t 14)⟩])
   (.drop [12, 13, 14] (.cond (.t 15) .skip
    (.exit 0))))
  (.drop [12, 13, 14, 15] (.seq (.block 1 (.seq (.reg [⟨none, .asg 7 (.c (.int .i64 0))⟩])
     (.block 2 (.loop c_spec_l23Down_l1))))
   (.drop [7, 18, 19, 20, 21, 22, 23, 24, 25, 26, 27, 28, 31, 32, 33, 34, 35, 36, 37, 38, 39, 40, 41, 42, 43, 29, 30] (.reg [⟨none, .mov 16 (.t 6)⟩,
      ⟨none, .bin 17 .add (.t 16) (.c (.int .i64 1))⟩,
      ⟨none, .asg 6 (.t 17)⟩])))))
def c_spec_l23Down : ACode :=
  (.seq (.reg [⟨none, .box 2 (.t 0)⟩,
     ⟨none, .asg 4 (.c (.nilsl 1))⟩])
  (.seq (.reg [⟨none, .fadr 8 0 (.t 2)⟩,
      ⟨none, .ld 9 1 false (.t 8)⟩,
      ⟨none, .len 10 (.t 9)⟩,
      ⟨none, .mk 11 1 (.bool false) (.t 10)⟩,
      ⟨none, .asg 5 (.t 11)⟩])
   (.drop [8, 9, 10, 11] (.seq (.seq (.reg [⟨none, .asg 6 (.c (.int .i64 0))⟩])
     (.block 0 (.loop c_spec_l23Down_l2)))
    (.drop [6, 12, 13, 14, 15, 7, 18, 19, 20, 21, 22, 23, 24, 25, 26, 27, 28, 31, 32, 33, 34, 35, 36, 37, 38, 39, 40, 41, 42, 43, 29, 30, 16, 17] (.seq (.reg [⟨none, .mov 44 (.t 5)⟩,
        ⟨none, .call 45 f_spec_l5List [((.t 44), false)]⟩,
        ⟨none, .asg 4 (.t 45)⟩])
     (.drop [44, 45] .ret)))))))
abbrev r_spec_l23Down : List RS := [.t 4]
theorem k_spec_l23Down : fitsF Try.prog f_spec_l23Down 46 c_spec_l23Down r_spec_l23Down = true := by kernel_rfl

/- (loop.example/g01078/impl.order).dual: [o=0, o=1, d=3, x=4, y=5] -/
def c_impl_order_dual_l1 : ACode :=
  (.seq (.reg [⟨none, .bin 17 .lss (.t 16) (.t 15)⟩])
  (.seq (.cond (.t 17) .skip
    (.exit 2))
   (.seq (.block 3 (.seq (.reg [⟨none, .mov 18 (.t 16)⟩,
         ⟨none, .asg 5 (.t 18)⟩])
      (.drop [18] (.dreg [(⟨none, .mov 19 (.t 3)⟩, []),
         (⟨none, .mov 20 (.t 4)⟩, [19]),
         (⟨none, .iad 21 1 (.t 19) (.t 20)⟩, []),
         (⟨none, .ld 22 1 false (.t 21)⟩, []),
         (⟨none, .mov 23 (.t 5)⟩, [19, 20, 21, 22]),
         (⟨none, .mov 24 (.t 0)⟩, [19, 20, 21, 22, 23]),
         (⟨none, .mov 25 (.t 5)⟩, [19, 20, 21, 22, 23, 24]),
         (⟨none, .iad 26 1 (.t 24) (.t 25)⟩, [19, 20, 21, 22, 23]),
         (⟨none, .ld 27 1 false (.t 26)⟩, [19, 20, 21, 22, 23]),
         (⟨none, .mov 28 (.t 4)⟩, [19, 20, 21, 22, 23, 24, 25, 26, 27]),
         (⟨none, .iad 29 1 (.t 27) (.t 28)⟩, [19, 20, 21, 22, 23]),
         (⟨none, .ld 30 1 false (.t 29)⟩, [19, 20, 21, 22, 23])]
        [⟨none, .iad 31 1 (.t 22) (.t 23)⟩,
         ⟨none, .st 1 (.t 31) (.t 30)⟩]))))
    (.drop [18, 5, 19, 20, 21, 22, 23, 24, 25, 26, 27, 28, 29, 30, 31] (.reg [⟨none, .bin 32 .add (.t 16) (.c (.int .i64 1))⟩,
       ⟨none, .asg 16 (.t 32)⟩])))))
def c_impl_order_dual_l2 : ACode :=
  (.seq (.reg [⟨none, .bin 12 .lss (.t 11) (.t 10)⟩])
  (.seq (.cond (.t 12) .skip
    (.exit 0))
   (.seq (.block 1 (.seq (.reg [⟨none, .mov 13 (.t 11)⟩,
         ⟨none, .asg 4 (.t 13)⟩])
      (.drop [13] (.seq (.reg [⟨none, .mov 14 (.t 0)⟩,
          ⟨none, .len 15 (.t 14)⟩,
          ⟨none, .mov 16 (.c (.int .i64 0))⟩])
       (.drop [14] (.block 2 (.loop c_impl_order_dual_l1)))))))
    (.drop [13, 4, 14, 15, 16, 17, 18, 5, 19, 20, 21, 22, 23, 24, 25, 26, 27, 28, 29, 30, 31, 32] (.reg [⟨none, .bin 33 .add (.t 11) (.c (.int .i64 1))⟩,
       ⟨none, .asg 11 (.t 33)⟩])))))
def c_impl_order_dual : ACode :=
  (.seq (.reg [⟨none, .asg 2 (.c (.nilsl 1))⟩])
  (.seq (.reg [⟨none, .mov 6 (.t 0)⟩,
      ⟨none, .len 7 (.t 6)⟩,
      ⟨none, .call 8 f_impl_newOrder [((.t 7), false)]⟩,
      ⟨none, .asg 3 (.t 8)⟩])
   (.drop [6, 7, 8] (.seq (.seq (.reg [⟨none, .mov 9 (.t 0)⟩,
        ⟨none, .len 10 (.t 9)⟩,
        ⟨none, .mov 11 (.c (.int .i64 0))⟩])
     (.drop [9] (.block 0 (.loop c_impl_order_dual_l2))))
    (.drop [9, 10, 11, 12, 13, 4, 14, 15, 16, 17, 18, 5, 19, 20, 21, 22, 23, 24, 25, 26, 27, 28, 29, 30, 31, 32, 33] (.seq (.reg [⟨none, .mov 34 (.t 3)⟩,
        ⟨none, .asg 2 (.t 34)⟩])
     (.drop [34] .ret)))))))
abbrev r_impl_order_dual : List RS := [.t 2]
theorem k_impl_order_dual : fitsF Try.prog f_impl_order_dual 35 c_impl_order_dual r_impl_order_dual = true := by kernel_rfl

/- loop.example/g01078/laws.heldIntSS: [a=0, k=1, a=2, k=3, i=5] -/
def c_laws_heldIntSS_l1 : ACode :=
  (.seq (.seq (.reg [⟨none, .mov 6 (.t 5)⟩,
      ⟨none, .mov 7 (.t 0)⟩,
      ⟨none, .len 8 (.t 7)⟩,
      ⟨none, .bin 9 .lss (.t 6) (.t 8)⟩])
   (.drop [6, 7, 8] (.cond (.t 9) .skip
    (.exit 0))))
  (.drop [6, 7, 8, 9] (.seq (.block 1 (.seq (.reg [⟨none, .mov 12 (.t 0)⟩,
        ⟨none, .mov 13 (.t 5)⟩,
        ⟨none, .iad 14 1 (.t 12) (.t 13)⟩,
        ⟨none, .ld 15 1 false (.t 14)⟩,
        ⟨none, .mov 16 (.t 1)⟩,
        ⟨none, .call 17 f_laws_heldIntS [((.t 15), false), ((.t 16), false)]⟩,
        ⟨none, .asg 1 (.t 17)⟩])
     (.drop [12, 13, 14, 15, 16, 17] (.seq (.reg [⟨none, .mov 18 (.t 1)⟩,
         ⟨none, .bin 19 .lss (.t 18) (.c (.int .i64 0))⟩])
      (.drop [18] (.cond (.t 19) (.seq (.reg [⟨none, .asg 4 (.c (.int .i64 (-1)))⟩])
        .ret)
       .skip))))))
   (.drop [12, 13, 14, 15, 16, 17, 18, 19] (.reg [⟨none, .mov 10 (.t 5)⟩,
      ⟨none, .bin 11 .add (.t 10) (.c (.int .i64 1))⟩,
      ⟨none, .asg 5 (.t 11)⟩])))))
def c_laws_heldIntSS : ACode :=
  (.seq (.reg [⟨none, .asg 4 (.c (.int .i64 0))⟩])
  (.seq (.seq (.reg [⟨none, .asg 5 (.c (.int .i64 0))⟩])
    (.block 0 (.loop c_laws_heldIntSS_l1)))
   (.drop [5, 6, 7, 8, 9, 12, 13, 14, 15, 16, 17, 18, 19, 10, 11] (.seq (.reg [⟨none, .mov 20 (.t 1)⟩,
       ⟨none, .asg 4 (.t 20)⟩])
    (.drop [20] .ret)))))
abbrev r_laws_heldIntSS : List RS := [.t 4]
theorem k_laws_heldIntSS : fitsF Try.prog f_laws_heldIntSS 21 c_laws_heldIntSS r_laws_heldIntSS = true := by kernel_rfl

/- loop.example/g01078/spec.l1Rising: [l=0, lo=1, hi=2, l=3, lo=4, hi=5, i=7] -/
def c_spec_l1Rising_l1 : ACode :=
  (.seq (.seq (.reg [⟨none, .mov 8 (.t 7)⟩,
      ⟨none, .mov 9 (.t 0)⟩,
      ⟨none, .len 10 (.t 9)⟩,
      ⟨none, .bin 11 .lss (.t 8) (.t 10)⟩])
   (.drop [8, 9, 10] (.cond (.t 11) .skip
    (.exit 0))))
  (.drop [8, 9, 10, 11] (.seq (.block 1 (.seq (.dreg [(⟨none, .mov 14 (.t 0)⟩, []),
        (⟨none, .mov 15 (.t 7)⟩, [14]),
        (⟨none, .iad 16 1 (.t 14) (.t 15)⟩, []),
        (⟨none, .ld 17 1 false (.t 16)⟩, []),
        (⟨none, .mov 18 (.t 1)⟩, [14, 15, 16, 17]),
        (⟨none, .mov 19 (.t 2)⟩, [14, 15, 16, 17, 18]),
        (⟨none, .call 20 f_spec_l1In [((.t 17), false), ((.t 18), false), ((.t 19), false)]⟩, []),
        (⟨none, .un 21 .not (.t 20)⟩, []),
        (⟨none, .asg 22 (.t 21)⟩, []),
        (⟨some (22, false), .mov 23 (.t 7)⟩, []),
        (⟨some (22, false), .bin 24 .gtr (.t 23) (.c (.int .i64 0))⟩, []),
        (⟨some (22, false), .asg 25 (.t 24)⟩, []),
        (⟨some (25, true), .mov 26 (.t 0)⟩, []),
        (⟨some (25, true), .mov 27 (.t 7)⟩, [26]),
        (⟨some (25, true), .bin 28 .sub (.t 27) (.c (.int .i64 1))⟩, [26]),
        (⟨some (25, true), .iad 29 1 (.t 26) (.t 28)⟩, []),
        (⟨some (25, true), .ld 30 1 false (.t 29)⟩, []),
        (⟨some (25, true), .mov 31 (.t 0)⟩, [26, 27, 28, 29, 30]),
        (⟨some (25, true), .mov 32 (.t 7)⟩, [26, 27, 28, 29, 30, 31]),
        (⟨some (25, true), .iad 33 1 (.t 31) (.t 32)⟩, [26, 27, 28, 29, 30]),
        (⟨some (25, true), .ld 34 1 false (.t 33)⟩, [26, 27, 28, 29, 30])]
       [⟨some (25, true), .bin 35 .geq (.t 30) (.t 34)⟩,
        ⟨some (22, false), .pick 36 (.t 25) (.t 35) (.c (.bool false))⟩,
        ⟨none, .pick 37 (.t 22) (.c (.bool true)) (.t 36)⟩])
     (.drop [14, 15, 16, 17, 18, 19, 20, 21, 22, 23, 24, 25, 26, 27, 28, 29, 30, 31, 32, 33, 34, 35, 36] (.cond (.t 37) (.seq (.reg [⟨none, .asg 6 (.c (.bool false))⟩])
       .ret)
      .skip))))
   (.drop [14, 15, 16, 17, 18, 19, 20, 21, 22, 23, 24, 25, 26, 27, 28, 29, 30, 31, 32, 33, 34, 35, 36, 37] (.reg [⟨none, .mov 12 (.t 7)⟩,
      ⟨none, .bin 13 .add (.t 12) (.c (.int .i64 1))⟩,
      ⟨none, .asg 7 (.t 13)⟩])))))
def c_spec_l1Rising : ACode :=
  (.seq (.reg [⟨none, .asg 6 (.c (.bool false))⟩])
  (.seq (.seq (.reg [⟨none, .asg 7 (.c (.int .i64 0))⟩])
    (.block 0 (.loop c_spec_l1Rising_l1)))
   (.drop [7, 8, 9, 10, 11, 14, 15, 16, 17, 18, 19, 20, 21, 22, 23, 24, 25, 26, 27, 28, 29, 30, 31, 32, 33, 34, 35, 36, 37, 12, 13] (.seq (.reg [⟨none, .asg 6 (.c (.bool true))⟩])
    .ret))))
abbrev r_spec_l1Rising : List RS := [.t 6]
theorem k_spec_l1Rising : fitsF Try.prog f_spec_l1Rising 38 c_spec_l1Rising r_spec_l1Rising = true := by kernel_rfl

/- loop.example/g01078/spec.l5Within: [x=0, y=1, x=2, y=3, i=5] -/
def c_spec_l5Within_l1 : ACode :=
  (.seq (.seq (.reg [⟨none, .mov 6 (.t 5)⟩,
      ⟨none, .mov 7 (.t 0)⟩,
      ⟨none, .len 8 (.t 7)⟩,
      ⟨none, .bin 9 .lss (.t 6) (.t 8)⟩])
   (.drop [6, 7, 8] (.cond (.t 9) .skip
    (.exit 0))))
  (.drop [6, 7, 8, 9] (.seq (.block 1 (.seq (.reg [⟨none, .mov 12 (.t 1)⟩,
        ⟨none, .mov 13 (.t 0)⟩,
        ⟨none, .mov 14 (.t 5)⟩,
        ⟨none, .iad 15 1 (.t 13) (.t 14)⟩,
        ⟨none, .ld 16 1 false (.t 15)⟩,
        ⟨none, .call 17 f_spec_l1Has [((.t 12), false), ((.t 16), false)]⟩,
        ⟨none, .un 18 .not (.t 17)⟩])
     (.drop [12, 13, 14, 15, 16, 17] (.cond (.t 18) (.seq (.reg [⟨none, .asg 4 (.c (.bool false))⟩])
       .ret)
      .skip))))
   (.drop [12, 13, 14, 15, 16, 17, 18] (.reg [⟨none, .mov 10 (.t 5)⟩,
      ⟨none, .bin 11 .add (.t 10) (.c (.int .i64 1))⟩,
      ⟨none, .asg 5 (.t 11)⟩])))))
def c_spec_l5Within : ACode :=
  (.seq (.reg [⟨none, .asg 4 (.c (.bool false))⟩])
  (.seq (.seq (.reg [⟨none, .asg 5 (.c (.int .i64 0))⟩])
    (.block 0 (.loop c_spec_l5Within_l1)))
   (.drop [5, 6, 7, 8, 9, 12, 13, 14, 15, 16, 17, 18, 10, 11] (.seq (.reg [⟨none, .asg 4 (.c (.bool true))⟩])
    .ret))))
abbrev r_spec_l5Within : List RS := [.t 4]
theorem k_spec_l5Within : fitsF Try.prog f_spec_l5Within 19 c_spec_l5Within r_spec_l5Within = true := by kernel_rfl

/- (loop.example/g01078/impl.order).meetTable: [o=0, o=1, table=4, x=5, row=6, y=7, m=8] -/
def c_impl_order_meetTable_l1 : ACode :=
  (.seq (.reg [⟨none, .bin 19 .lss (.t 18) (.t 17)⟩])
  (.seq (.cond (.t 19) .skip
    (.exit 2))
   (.seq (.block 3 (.seq (.reg [⟨none, .mov 20 (.t 18)⟩,
         ⟨none, .alc 7 (.int .i64 0)⟩,
         ⟨none, .st 1 (.t 7) (.t 20)⟩])
      (.drop [20] (.seq (.dreg [(⟨none, .ld 21 1 false (.t 1)⟩, []),
          (⟨none, .ld 22 1 false (.t 1)⟩, [21]),
          (⟨none, .mkf 23 f_impl_order_meetTable_1 [(.t 1), (.t 5), (.t 7)]⟩, [21, 22]),
          (⟨none, .call 24 f_impl_order_those [((.t 22), false), ((.t 23), false)]⟩, [21])]
         [⟨none, .call 25 f_impl_order_greatest [((.t 21), false), ((.t 24), false)]⟩,
          ⟨none, .asg 8 (.t 25)⟩])
       (.drop [21, 22, 23, 24, 25] (.seq (.seq (.reg [⟨none, .mov 26 (.t 8)⟩,
            ⟨none, .bin 27 .lss (.t 26) (.c (.int .i64 0))⟩])
         (.drop [26] (.cond (.t 27) (.seq (.reg [⟨none, .asg 2 (.c (.nilsl 1))⟩,
              ⟨none, .asg 3 (.c (.bool false))⟩])
           .ret)
          .skip)))
        (.drop [26, 27] (.reg [⟨none, .mov 28 (.t 6)⟩,
           ⟨none, .mov 29 (.t 8)⟩,
           ⟨none, .bsl 30 1 [(.t 29)]⟩,
           ⟨none, .app 31 1 (.t 28) (.t 30)⟩,
           ⟨none, .asg 6 (.t 31)⟩]))))))))
    (.drop [20, 7, 21, 22, 23, 24, 25, 8, 26, 27, 28, 29, 30, 31] (.reg [⟨none, .bin 32 .add (.t 18) (.c (.int .i64 1))⟩,
       ⟨none, .asg 18 (.t 32)⟩])))))
def c_impl_order_meetTable_l2 : ACode :=
  (.seq (.reg [⟨none, .bin 13 .lss (.t 12) (.t 11)⟩])
  (.seq (.cond (.t 13) .skip
    (.exit 0))
   (.seq (.block 1 (.seq (.reg [⟨none, .mov 14 (.t 12)⟩,
         ⟨none, .alc 5 (.int .i64 0)⟩,
         ⟨none, .st 1 (.t 5) (.t 14)⟩])
      (.drop [14] (.seq (.reg [⟨none, .bsl 15 1 []⟩,
          ⟨none, .asg 6 (.t 15)⟩])
       (.drop [15] (.seq (.seq (.reg [⟨none, .ld 16 1 false (.t 1)⟩,
            ⟨none, .len 17 (.t 16)⟩,
            ⟨none, .mov 18 (.c (.int .i64 0))⟩])
         (.drop [16] (.block 2 (.loop c_impl_order_meetTable_l1))))
        (.drop [16, 17, 18, 19, 20, 7, 21, 22, 23, 24, 25, 8, 26, 27, 28, 29, 30, 31, 32] (.reg [⟨none, .mov 33 (.t 4)⟩,
           ⟨none, .mov 34 (.t 6)⟩,
           ⟨none, .bsl 35 1 [(.t 34)]⟩,
           ⟨none, .app 36 1 (.t 33) (.t 35)⟩,
           ⟨none, .asg 4 (.t 36)⟩]))))))))
    (.drop [14, 5, 15, 6, 16, 17, 18, 19, 20, 7, 21, 22, 23, 24, 25, 8, 26, 27, 28, 29, 30, 31, 32, 33, 34, 35, 36] (.reg [⟨none, .bin 37 .add (.t 12) (.c (.int .i64 1))⟩,
       ⟨none, .asg 12 (.t 37)⟩])))))
def c_impl_order_meetTable : ACode :=
  (.seq (.reg [⟨none, .box 1 (.t 0)⟩,
     ⟨none, .asg 2 (.c (.nilsl 1))⟩,
     ⟨none, .asg 3 (.c (.bool false))⟩])
  (.seq (.reg [⟨none, .bsl 9 1 []⟩,
      ⟨none, .asg 4 (.t 9)⟩])
   (.drop [9] (.seq (.seq (.reg [⟨none, .ld 10 1 false (.t 1)⟩,
        ⟨none, .len 11 (.t 10)⟩,
        ⟨none, .mov 12 (.c (.int .i64 0))⟩])
     (.drop [10] (.block 0 (.loop c_impl_order_meetTable_l2))))
    (.drop [10, 11, 12, 13, 14, 5, 15, 6, 16, 17, 18, 19, 20, 7, 21, 22, 23, 24, 25, 8, 26, 27, 28, 29, 30, 31, 32, 33, 34, 35, 36, 37] (.seq (.reg [⟨none, .mov 38 (.t 4)⟩,
        ⟨none, .asg 2 (.t 38)⟩,
        ⟨none, .asg 3 (.c (.bool true))⟩])
     (.drop [38] .ret)))))))
abbrev r_impl_order_meetTable : List RS := [.t 2, .t 3]
theorem k_impl_order_meetTable : fitsF Try.prog f_impl_order_meetTable 39 c_impl_order_meetTable r_impl_order_meetTable = true := by kernel_rfl

/- loop.example/g01078/laws.szPoset: [a=0, left=1, a=2, left=3] -/
def c_laws_szPoset : ACode :=
  (.seq (.reg [⟨none, .box 2 (.t 0)⟩,
     ⟨none, .asg 4 (.c (.int .i64 0))⟩])
  (.seq (.reg [⟨none, .fadr 5 0 (.t 2)⟩,
      ⟨none, .ld 6 1 false (.t 5)⟩,
      ⟨none, .mov 7 (.t 1)⟩,
      ⟨none, .call 8 f_laws_szIntSS [((.t 6), false), ((.t 7), false)]⟩,
      ⟨none, .asg 1 (.t 8)⟩])
   (.drop [5, 6, 7, 8] (.seq (.seq (.reg [⟨none, .mov 9 (.t 1)⟩,
        ⟨none, .bin 10 .lss (.t 9) (.c (.int .i64 0))⟩])
     (.drop [9] (.cond (.t 10) (.seq (.reg [⟨none, .asg 4 (.c (.int .i64 (-1)))⟩])
       .ret)
      .skip)))
    (.drop [9, 10] (.seq (.reg [⟨none, .mov 11 (.t 1)⟩,
        ⟨none, .asg 4 (.t 11)⟩])
     (.drop [11] .ret)))))))
abbrev r_laws_szPoset : List RS := [.t 4]
theorem k_laws_szPoset : fitsF Try.prog f_laws_szPoset 12 c_laws_szPoset r_laws_szPoset = true := by kernel_rfl

/- loop.example/g01078/laws.toPoset: [a=0, a=1, out=3] -/
def c_laws_toPoset : ACode :=
  (.seq (.reg [⟨none, .box 1 (.t 0)⟩,
     ⟨none, .alc 2 (.agg [.nilsl 1])⟩])
  (.seq (.reg [⟨none, .alc 3 (.agg [.nilsl 1])⟩])
   (.seq (.reg [⟨none, .fadr 4 0 (.t 1)⟩,
       ⟨none, .ld 5 1 false (.t 4)⟩,
       ⟨none, .call 6 f_laws_toIntSS [((.t 5), false)]⟩,
       ⟨none, .fadr 7 0 (.t 3)⟩,
       ⟨none, .st 1 (.t 7) (.t 6)⟩])
    (.drop [4, 5, 6, 7] (.seq (.reg [⟨none, .ld 8 1 true (.t 3)⟩,
        ⟨none, .st 1 (.t 2) (.t 8)⟩])
     (.drop [8] .ret))))))
abbrev r_laws_toPoset : List RS := [.c 2 1 true]
theorem k_laws_toPoset : fitsF Try.prog f_laws_toPoset 9 c_laws_toPoset r_laws_toPoset = true := by kernel_rfl

/- loop.example/g01078/impl.IsPoset: [p=0, p=1, _=3, ok=4] -/
def c_impl_IsPoset : ACode :=
  (.seq (.reg [⟨none, .box 1 (.t 0)⟩,
     ⟨none, .asg 2 (.c (.bool false))⟩])
  (.seq (.reg [⟨none, .ld 6 1 true (.t 1)⟩,
      ⟨none, .call 7 f_impl_orderOf [((.t 6), false)]⟩,
      ⟨none, .asg 5 (.t 7)⟩,
      ⟨none, .ext 8 (.t 5) 0⟩,
      ⟨none, .ext 9 (.t 5) 1⟩,
      ⟨none, .asg 3 (.t 8)⟩,
      ⟨none, .asg 4 (.t 9)⟩])
   (.drop [6, 7, 5, 8, 9, 3] (.seq (.reg [⟨none, .mov 10 (.t 4)⟩,
       ⟨none, .asg 2 (.t 10)⟩])
    (.drop [10] .ret)))))
abbrev r_impl_IsPoset : List RS := [.t 2]
theorem k_impl_IsPoset : fitsF Try.prog f_impl_IsPoset 11 c_impl_IsPoset r_impl_IsPoset = true := by kernel_rfl

/- loop.example/g01078/laws.eqPoset: [a=0, b=1, a=2, b=3] -/
def c_laws_eqPoset : ACode :=
  (.seq (.reg [⟨none, .box 2 (.t 0)⟩,
     ⟨none, .box 3 (.t 1)⟩,
     ⟨none, .asg 4 (.c (.bool false))⟩])
  (.seq (.seq (.reg [⟨none, .fadr 5 0 (.t 2)⟩,
       ⟨none, .ld 6 1 false (.t 5)⟩,
       ⟨none, .fadr 7 0 (.t 3)⟩,
       ⟨none, .ld 8 1 false (.t 7)⟩,
       ⟨none, .call 9 f_laws_eqIntSS [((.t 6), false), ((.t 8), false)]⟩,
       ⟨none, .un 10 .not (.t 9)⟩])
    (.drop [5, 6, 7, 8, 9] (.cond (.t 10) (.seq (.reg [⟨none, .asg 4 (.c (.bool false))⟩])
      .ret)
     .skip)))
   (.drop [5, 6, 7, 8, 9, 10] (.seq (.reg [⟨none, .asg 4 (.c (.bool true))⟩])
    .ret))))
abbrev r_laws_eqPoset : List RS := [.t 4]
theorem k_laws_eqPoset : fitsF Try.prog f_laws_eqPoset 11 c_laws_eqPoset r_laws_eqPoset = true := by kernel_rfl

/- loop.example/g01078/impl.IsAtMost: [p=0, x=1, y=2, p=3, x=4, y=5, o=8, ok=9] -/
def c_impl_IsAtMost_k1 : ACode :=
  (.seq (.reg [⟨none, .mov 15 (.t 9)⟩,
        ⟨none, .un 16 .not (.t 15)⟩,
        ⟨none, .asg 17 (.t 16)⟩,
        ⟨some (17, false), .mov 18 (.t 8)⟩,
        ⟨some (17, false), .mov 19 (.t 1)⟩,
        ⟨some (17, false), .mov 20 (.t 2)⟩,
        ⟨some (17, false), .bsl 21 1 [(.t 19), (.t 20)]⟩,
        ⟨some (17, false), .call 22 f_impl_order_has [((.t 18), false), ((.t 21), false)]⟩,
        ⟨some (17, false), .un 23 .not (.t 22)⟩,
        ⟨none, .pick 24 (.t 17) (.c (.bool true)) (.t 23)⟩])
     (.drop [15, 16, 17, 18, 19, 20, 21, 22, 23] (.cond (.t 24) (.seq (.reg [⟨none, .asg 6 (.c (.bool false))⟩,
          ⟨none, .asg 7 (.c (.bool false))⟩])
       .ret)
      .skip)))
def c_impl_IsAtMost : ACode :=
  (.seq (.reg [⟨none, .box 3 (.t 0)⟩,
     ⟨none, .asg 6 (.c (.bool false))⟩,
     ⟨none, .asg 7 (.c (.bool false))⟩])
  (.seq (.reg [⟨none, .ld 11 1 true (.t 3)⟩,
      ⟨none, .call 12 f_impl_orderOf [((.t 11), false)]⟩,
      ⟨none, .asg 10 (.t 12)⟩,
      ⟨none, .ext 13 (.t 10) 0⟩,
      ⟨none, .ext 14 (.t 10) 1⟩,
      ⟨none, .asg 8 (.t 13)⟩,
      ⟨none, .asg 9 (.t 14)⟩])
   (.drop [11, 12, 10, 13, 14] (.seq (.cut c_impl_IsAtMost_k1)
    (.drop [15, 16, 17, 18, 19, 20, 21, 22, 23, 24] (.seq (.reg [⟨none, .mov 25 (.t 8)⟩,
        ⟨none, .mov 26 (.t 1)⟩,
        ⟨none, .iad 27 1 (.t 25) (.t 26)⟩,
        ⟨none, .ld 28 1 false (.t 27)⟩,
        ⟨none, .mov 29 (.t 2)⟩,
        ⟨none, .iad 30 1 (.t 28) (.t 29)⟩,
        ⟨none, .ld 31 1 false (.t 30)⟩,
        ⟨none, .asg 6 (.t 31)⟩,
        ⟨none, .asg 7 (.c (.bool true))⟩])
     (.drop [25, 26, 27, 28, 29, 30, 31] .ret)))))))
abbrev r_impl_IsAtMost : List RS := [.t 6, .t 7]
theorem k_impl_IsAtMost : fitsF Try.prog f_impl_IsAtMost 32 c_impl_IsAtMost r_impl_IsAtMost = true := by kernel_rfl

/- loop.example/g01078/impl.CountExtensions: [p=0, p=1, o=4, ok=5, ways=6, mask=7, many=8, x=9] -/
def c_impl_CountExtensions_k1 : ACode :=
  (.seq (.reg [⟨none, .ld 35 1 false (.t 7)⟩,
           ⟨none, .ld 36 1 false (.t 9)⟩,
           ⟨none, .bin 37 .shr (.t 35) (.t 36)⟩,
           ⟨none, .bin 38 .and (.t 37) (.c (.int .i64 1))⟩,
           ⟨none, .bin 39 .eql (.t 38) (.c (.int .i64 1))⟩,
           ⟨none, .asg 40 (.t 39)⟩,
           ⟨some (40, false), .mov 41 (.t 8)⟩,
           ⟨some (40, false), .bin 42 .eql (.t 41) (.c (.int .i64 0))⟩,
           ⟨none, .pick 43 (.t 40) (.c (.bool true)) (.t 42)⟩])
        (.drop [35, 36, 37, 38, 39, 40, 41, 42] (.cond (.t 43) (.exit 3)
         .skip)))
def c_impl_CountExtensions_l1 : ACode :=
  (.seq (.reg [⟨none, .bin 33 .lss (.t 32) (.t 31)⟩])
  (.seq (.cond (.t 33) .skip
    (.exit 2))
   (.seq (.block 3 (.seq (.reg [⟨none, .mov 34 (.t 32)⟩,
         ⟨none, .alc 9 (.int .i64 0)⟩,
         ⟨none, .st 1 (.t 9) (.t 34)⟩])
      (.drop [34] (.seq (.cut c_impl_CountExtensions_k1)
       (.drop [35, 36, 37, 38, 39, 40, 41, 42, 43] (.seq (.reg [⟨none, .ld 44 1 false (.t 4)⟩,
           ⟨none, .mkf 45 f_impl_CountExtensions_1 [(.t 4), (.t 9), (.t 7)]⟩,
           ⟨none, .call 46 f_impl_order_none [((.t 44), false), ((.t 45), false)]⟩])
        (.drop [44, 45] (.cond (.t 46) (.dreg [(⟨none, .mov 47 (.t 6)⟩, []),
            (⟨none, .ld 48 1 false (.t 7)⟩, [47]),
            (⟨none, .ld 49 1 false (.t 9)⟩, [47, 48]),
            (⟨none, .bin 50 .shl (.c (.int .i64 1)) (.t 49)⟩, [47, 48]),
            (⟨none, .bin 51 .or (.t 48) (.t 50)⟩, [47]),
            (⟨none, .iad 52 1 (.t 47) (.t 51)⟩, []),
            (⟨none, .ld 53 1 false (.t 52)⟩, []),
            (⟨none, .mov 54 (.t 6)⟩, [47, 48, 49, 50, 51, 52, 53]),
            (⟨none, .ld 55 1 false (.t 7)⟩, [47, 48, 49, 50, 51, 52, 53, 54]),
            (⟨none, .iad 56 1 (.t 54) (.t 55)⟩, [47, 48, 49, 50, 51, 52, 53]),
            (⟨none, .ld 57 1 false (.t 56)⟩, [47, 48, 49, 50, 51, 52, 53])]
           [⟨none, .bin 58 .add (.t 53) (.t 57)⟩,
            ⟨none, .iad 59 1 (.t 47) (.t 51)⟩,
            ⟨none, .st 1 (.t 59) (.t 58)⟩])
         .skip))))))))
    (.drop [34, 9, 35, 36, 37, 38, 39, 40, 41, 42, 43, 44, 45, 46, 47, 48, 49, 50, 51, 52, 53, 54, 55, 56, 57, 58, 59] (.reg [⟨none, .bin 60 .add (.t 32) (.c (.int .i64 1))⟩,
       ⟨none, .asg 32 (.t 60)⟩])))))
def c_impl_CountExtensions_l2 : ACode :=
  (.seq (.reg [⟨none, .bin 26 .lss (.t 25) (.t 24)⟩])
  (.seq (.cond (.t 26) .skip
    (.exit 0))
   (.seq (.block 1 (.seq (.reg [⟨none, .mov 27 (.t 25)⟩,
         ⟨none, .iad 28 1 (.t 23) (.t 25)⟩,
         ⟨none, .ld 29 1 false (.t 28)⟩,
         ⟨none, .alc 7 (.int .i64 0)⟩,
         ⟨none, .st 1 (.t 7) (.t 27)⟩,
         ⟨none, .asg 8 (.t 29)⟩])
      (.drop [27, 28, 29] (.seq (.reg [⟨none, .ld 30 1 false (.t 4)⟩,
          ⟨none, .len 31 (.t 30)⟩,
          ⟨none, .mov 32 (.c (.int .i64 0))⟩])
       (.drop [30] (.block 2 (.loop c_impl_CountExtensions_l1)))))))
    (.drop [27, 28, 29, 7, 8, 30, 31, 32, 33, 34, 9, 35, 36, 37, 38, 39, 40, 41, 42, 43, 44, 45, 46, 47, 48, 49, 50, 51, 52, 53, 54, 55, 56, 57, 58, 59, 60] (.reg [⟨none, .bin 61 .add (.t 25) (.c (.int .i64 1))⟩,
       ⟨none, .asg 25 (.t 61)⟩])))))
def c_impl_CountExtensions : ACode :=
  (.seq (.reg [⟨none, .box 1 (.t 0)⟩,
     ⟨none, .asg 2 (.c (.int .i64 0))⟩,
     ⟨none, .asg 3 (.c (.bool false))⟩])
  (.seq (.reg [⟨none, .ld 11 1 true (.t 1)⟩,
      ⟨none, .call 12 f_impl_orderOf [((.t 11), false)]⟩,
      ⟨none, .asg 10 (.t 12)⟩,
      ⟨none, .ext 13 (.t 10) 0⟩,
      ⟨none, .ext 14 (.t 10) 1⟩,
      ⟨none, .alc 4 (.nilsl 1)⟩,
      ⟨none, .st 1 (.t 4) (.t 13)⟩,
      ⟨none, .asg 5 (.t 14)⟩])
   (.drop [11, 12, 10, 13, 14] (.seq (.seq (.reg [⟨none, .mov 15 (.t 5)⟩,
        ⟨none, .un 16 .not (.t 15)⟩])
     (.drop [15] (.cond (.t 16) (.seq (.reg [⟨none, .asg 2 (.c (.int .i64 0))⟩,
          ⟨none, .asg 3 (.c (.bool false))⟩])
       .ret)
      .skip)))
    (.drop [15, 16] (.seq (.reg [⟨none, .ld 17 1 false (.t 4)⟩,
        ⟨none, .len 18 (.t 17)⟩,
        ⟨none, .bin 19 .shl (.c (.int .i64 1)) (.t 18)⟩,
        ⟨none, .mk 20 1 (.int .i64 0) (.t 19)⟩,
        ⟨none, .asg 6 (.t 20)⟩])
     (.drop [17, 18, 19, 20] (.seq (.reg [⟨none, .mov 21 (.t 6)⟩,
         ⟨none, .iad 22 1 (.t 21) (.c (.int .i64 0))⟩,
         ⟨none, .st 1 (.t 22) (.c (.int .i64 1))⟩])
      (.drop [21, 22] (.seq (.seq (.reg [⟨none, .mov 23 (.t 6)⟩,
           ⟨none, .len 24 (.t 23)⟩,
           ⟨none, .mov 25 (.c (.int .i64 0))⟩])
        (.block 0 (.loop c_impl_CountExtensions_l2)))
       (.drop [23, 24, 25, 26, 27, 28, 29, 7, 8, 30, 31, 32, 33, 34, 9, 35, 36, 37, 38, 39, 40, 41, 42, 43, 44, 45, 46, 47, 48, 49, 50, 51, 52, 53, 54, 55, 56, 57, 58, 59, 60, 61] (.seq (.reg [⟨none, .mov 62 (.t 6)⟩,
           ⟨none, .mov 63 (.t 6)⟩,
           ⟨none, .len 64 (.t 63)⟩,
           ⟨none, .bin 65 .sub (.t 64) (.c (.int .i64 1))⟩,
           ⟨none, .iad 66 1 (.t 62) (.t 65)⟩,
           ⟨none, .ld 67 1 false (.t 66)⟩,
           ⟨none, .asg 2 (.t 67)⟩,
           ⟨none, .asg 3 (.c (.bool true))⟩])
        (.drop [62, 63, 64, 65, 66, 67] .ret)))))))))))))
abbrev r_impl_CountExtensions : List RS := [.t 2, .t 3]
theorem k_impl_CountExtensions : fitsF Try.prog f_impl_CountExtensions 68 c_impl_CountExtensions r_impl_CountExtensions = true := by kernel_rfl

/- loop.example/g01078/laws.markPoset: [a=0, k=1, a=2, k=3] -/
def c_laws_markPoset : ACode :=
  (.seq (.reg [⟨none, .box 2 (.t 0)⟩,
     ⟨none, .asg 4 (.c (.int .i64 0))⟩])
  (.seq (.reg [⟨none, .fadr 5 0 (.t 2)⟩,
      ⟨none, .ld 6 1 false (.t 5)⟩,
      ⟨none, .mov 7 (.t 1)⟩,
      ⟨none, .call 8 f_laws_markIntSS [((.t 6), true), ((.t 7), false)]⟩,
      ⟨none, .asg 1 (.t 8)⟩])
   (.drop [5, 6, 7, 8] (.seq (.reg [⟨none, .mov 9 (.t 1)⟩,
       ⟨none, .asg 4 (.t 9)⟩])
    (.drop [9] .ret)))))
abbrev r_laws_markPoset : List RS := [.t 4]
theorem k_laws_markPoset : fitsF Try.prog f_laws_markPoset 10 c_laws_markPoset r_laws_markPoset = true := by kernel_rfl

/- loop.example/g01078/impl.HeightsOf: [p=0, p=1, o=4, ok=5] -/
def c_impl_HeightsOf : ACode :=
  (.seq (.reg [⟨none, .box 1 (.t 0)⟩,
     ⟨none, .asg 2 (.c (.nilsl 1))⟩,
     ⟨none, .asg 3 (.c (.bool false))⟩])
  (.seq (.reg [⟨none, .ld 7 1 true (.t 1)⟩,
      ⟨none, .call 8 f_impl_orderOf [((.t 7), false)]⟩,
      ⟨none, .asg 6 (.t 8)⟩,
      ⟨none, .ext 9 (.t 6) 0⟩,
      ⟨none, .ext 10 (.t 6) 1⟩,
      ⟨none, .asg 4 (.t 9)⟩,
      ⟨none, .asg 5 (.t 10)⟩])
   (.drop [7, 8, 6, 9, 10] (.seq (.seq (.reg [⟨none, .mov 11 (.t 5)⟩,
        ⟨none, .un 12 .not (.t 11)⟩])
     (.drop [11] (.cond (.t 12) (.seq (.reg [⟨none, .bsl 13 1 []⟩,
          ⟨none, .asg 2 (.t 13)⟩,
          ⟨none, .asg 3 (.c (.bool false))⟩])
       (.drop [13] .ret))
      .skip)))
    (.drop [11, 12, 13] (.seq (.reg [⟨none, .mov 14 (.t 4)⟩,
        ⟨none, .call 15 f_impl_order_lengths [((.t 14), false), ((.c (.bool true)), false)]⟩,
        ⟨none, .asg 2 (.t 15)⟩,
        ⟨none, .asg 3 (.c (.bool true))⟩])
     (.drop [14, 15] .ret)))))))
abbrev r_impl_HeightsOf : List RS := [.t 2, .t 3]
theorem k_impl_HeightsOf : fitsF Try.prog f_impl_HeightsOf 16 c_impl_HeightsOf r_impl_HeightsOf = true := by kernel_rfl

end Go.Proofs.Ythcnmahjhahafaa.Ax
