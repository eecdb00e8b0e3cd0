/-
  The small code of the functions, written by program; that the program's code is this one, the kernel looks at.
-/
import Derived.Test.YtdodfnbbfkcgnaaAx3
import Derived.Test.YtdodfnbbfkcgnaaProg
import Derived.KernelRfl
import Derived.Test.YtdodfnbbfkcgnaaNum
namespace Go.Proofs.Ytdodfnbbfkcgnaa.Ax
open Go
set_option maxRecDepth 100000

/- loop.example/g01078/laws.toIntS: [a=0, a=1, out=3, i=4] -/
def c_laws_toIntS_l1 : ACode :=
  (.seq (.seq (.reg [⟨none, .mov 8 (.t 4)⟩,
      ⟨none, .mov 9 (.t 0)⟩,
      ⟨none, .len 10 (.t 9)⟩,
      ⟨none, .bin 11 .lss (.t 8) (.t 10)⟩])
   (.drop [8, 9, 10] (.cond (.t 11) .skip
    (.exit 0))))
  (.drop [8, 9, 10, 11] (.seq (.block 1 (.reg [⟨none, .mov 14 (.t 3)⟩,
       ⟨none, .mov 15 (.t 4)⟩,
       ⟨none, .mov 16 (.t 0)⟩,
       ⟨none, .mov 17 (.t 4)⟩,
       ⟨none, .iad 18 1 (.t 16) (.t 17)⟩,
       ⟨none, .ld 19 1 false (.t 18)⟩,
       ⟨none, .iad 20 1 (.t 14) (.t 15)⟩,
       ⟨none, .st 1 (.t 20) (.t 19)⟩]))
   (.drop [14, 15, 16, 17, 18, 19, 20] (.reg [⟨none, .mov 12 (.t 4)⟩,
      ⟨none, .bin 13 .add (.t 12) (.c (.int .i64 1))⟩,
      ⟨none, .asg 4 (.t 13)⟩])))))
def c_laws_toIntS : ACode :=
  (.seq (.reg [⟨none, .asg 2 (.c (.nilsl 1))⟩])
  (.seq (.reg [⟨none, .mov 5 (.t 0)⟩,
      ⟨none, .len 6 (.t 5)⟩,
      ⟨none, .mk 7 1 (.int .i64 0) (.t 6)⟩,
      ⟨none, .asg 3 (.t 7)⟩])
   (.drop [5, 6, 7] (.seq (.seq (.reg [⟨none, .asg 4 (.c (.int .i64 0))⟩])
     (.block 0 (.loop c_laws_toIntS_l1)))
    (.drop [4, 8, 9, 10, 11, 14, 15, 16, 17, 18, 19, 20, 12, 13] (.seq (.reg [⟨none, .mov 21 (.t 3)⟩,
        ⟨none, .asg 2 (.t 21)⟩])
     (.drop [21] .ret)))))))
abbrev r_laws_toIntS : List RS := [.t 2]
theorem k_laws_toIntS : fitsF Try.prog f_laws_toIntS 22 c_laws_toIntS r_laws_toIntS = true := by kernel_rfl

/- loop.example/g01078/laws.eqIntS: [a=0, b=1, a=2, b=3, i=5] -/
def c_laws_eqIntS_l1 : ACode :=
  (.seq (.seq (.reg [⟨none, .mov 11 (.t 5)⟩,
      ⟨none, .mov 12 (.t 0)⟩,
      ⟨none, .len 13 (.t 12)⟩,
      ⟨none, .bin 14 .lss (.t 11) (.t 13)⟩])
   (.drop [11, 12, 13] (.cond (.t 14) .skip
    (.exit 0))))
  (.drop [11, 12, 13, 14] (.seq (.block 1 (.seq (.dreg [(⟨none, .mov 17 (.t 0)⟩, []),
        (⟨none, .mov 18 (.t 5)⟩, [17]),
        (⟨none, .iad 19 1 (.t 17) (.t 18)⟩, []),
        (⟨none, .ld 20 1 false (.t 19)⟩, []),
        (⟨none, .mov 21 (.t 1)⟩, [17, 18, 19, 20]),
        (⟨none, .mov 22 (.t 5)⟩, [17, 18, 19, 20, 21]),
        (⟨none, .iad 23 1 (.t 21) (.t 22)⟩, [17, 18, 19, 20]),
        (⟨none, .ld 24 1 false (.t 23)⟩, [17, 18, 19, 20])]
       [⟨none, .bin 25 .neq (.t 20) (.t 24)⟩])
     (.drop [17, 18, 19, 20, 21, 22, 23, 24] (.cond (.t 25) (.seq (.reg [⟨none, .asg 4 (.c (.bool false))⟩])
       .ret)
      .skip))))
   (.drop [17, 18, 19, 20, 21, 22, 23, 24, 25] (.reg [⟨none, .mov 15 (.t 5)⟩,
      ⟨none, .bin 16 .add (.t 15) (.c (.int .i64 1))⟩,
      ⟨none, .asg 5 (.t 16)⟩])))))
def c_laws_eqIntS : ACode :=
  (.seq (.reg [⟨none, .asg 4 (.c (.bool false))⟩])
  (.seq (.seq (.reg [⟨none, .mov 6 (.t 0)⟩,
       ⟨none, .len 7 (.t 6)⟩,
       ⟨none, .mov 8 (.t 1)⟩,
       ⟨none, .len 9 (.t 8)⟩,
       ⟨none, .bin 10 .neq (.t 7) (.t 9)⟩])
    (.drop [6, 7, 8, 9] (.cond (.t 10) (.seq (.reg [⟨none, .asg 4 (.c (.bool false))⟩])
      .ret)
     .skip)))
   (.drop [6, 7, 8, 9, 10] (.seq (.seq (.reg [⟨none, .asg 5 (.c (.int .i64 0))⟩])
     (.block 0 (.loop c_laws_eqIntS_l1)))
    (.drop [5, 11, 12, 13, 14, 17, 18, 19, 20, 21, 22, 23, 24, 25, 15, 16] (.seq (.reg [⟨none, .asg 4 (.c (.bool true))⟩])
     .ret))))))
abbrev r_laws_eqIntS : List RS := [.t 4]
theorem k_laws_eqIntS : fitsF Try.prog f_laws_eqIntS 26 c_laws_eqIntS r_laws_eqIntS = true := by kernel_rfl

/- loop.example/g01078/laws.markIntS: [a=0, k=1, a=2, k=3, i=5] -/
def c_laws_markIntS_l1 : ACode :=
  (.seq (.seq (.reg [⟨none, .mov 6 (.t 5)⟩,
      ⟨none, .mov 7 (.t 0)⟩,
      ⟨none, .len 8 (.t 7)⟩,
      ⟨none, .bin 9 .lss (.t 6) (.t 8)⟩])
   (.drop [6, 7, 8] (.cond (.t 9) .skip
    (.exit 0))))
  (.drop [6, 7, 8, 9] (.seq (.block 1 (.seq (.reg [⟨none, .mov 12 (.t 0)⟩,
        ⟨none, .mov 13 (.t 5)⟩,
        ⟨none, .mov 14 (.t 1)⟩,
        ⟨none, .iad 15 1 (.t 12) (.t 13)⟩,
        ⟨none, .st 1 (.t 15) (.t 14)⟩])
     (.drop [12, 13, 14, 15] (.reg [⟨none, .mov 16 (.t 1)⟩,
        ⟨none, .bin 17 .add (.t 16) (.c (.int .i64 1))⟩,
        ⟨none, .asg 1 (.t 17)⟩]))))
   (.drop [12, 13, 14, 15, 16, 17] (.reg [⟨none, .mov 10 (.t 5)⟩,
      ⟨none, .bin 11 .add (.t 10) (.c (.int .i64 1))⟩,
      ⟨none, .asg 5 (.t 11)⟩])))))
def c_laws_markIntS : ACode :=
  (.seq (.reg [⟨none, .asg 4 (.c (.int .i64 0))⟩])
  (.seq (.seq (.reg [⟨none, .asg 5 (.c (.int .i64 0))⟩])
    (.block 0 (.loop c_laws_markIntS_l1)))
   (.drop [5, 6, 7, 8, 9, 12, 13, 14, 15, 16, 17, 10, 11] (.seq (.reg [⟨none, .mov 18 (.t 1)⟩,
       ⟨none, .asg 4 (.t 18)⟩])
    (.drop [18] .ret)))))
abbrev r_laws_markIntS : List RS := [.t 4]
theorem k_laws_markIntS : fitsF Try.prog f_laws_markIntS 19 c_laws_markIntS r_laws_markIntS = true := by kernel_rfl

/- loop.example/g01078/laws.heldIntS: [a=0, k=1, a=2, k=3, i=5] -/
def c_laws_heldIntS_l1 : ACode :=
  (.seq (.seq (.reg [⟨none, .mov 6 (.t 5)⟩,
      ⟨none, .mov 7 (.t 0)⟩,
      ⟨none, .len 8 (.t 7)⟩,
      ⟨none, .bin 9 .lss (.t 6) (.t 8)⟩])
   (.drop [6, 7, 8] (.cond (.t 9) .skip
    (.exit 0))))
  (.drop [6, 7, 8, 9] (.seq (.block 1 (.seq (.seq (.reg [⟨none, .mov 12 (.t 0)⟩,
         ⟨none, .mov 13 (.t 5)⟩,
         ⟨none, .iad 14 1 (.t 12) (.t 13)⟩,
         ⟨none, .ld 15 1 false (.t 14)⟩,
         ⟨none, .mov 16 (.t 1)⟩,
         ⟨none, .bin 17 .neq (.t 15) (.t 16)⟩])
      (.drop [12, 13, 14, 15, 16] (.cond (.t 17) (.seq (.reg [⟨none, .asg 4 (.c (.int .i64 (-1)))⟩])
        .ret)
       .skip)))
     (.drop [12, 13, 14, 15, 16, 17] (.reg [⟨none, .mov 18 (.t 1)⟩,
        ⟨none, .bin 19 .add (.t 18) (.c (.int .i64 1))⟩,
        ⟨none, .asg 1 (.t 19)⟩]))))
   (.drop [12, 13, 14, 15, 16, 17, 18, 19] (.reg [⟨none, .mov 10 (.t 5)⟩,
      ⟨none, .bin 11 .add (.t 10) (.c (.int .i64 1))⟩,
      ⟨none, .asg 5 (.t 11)⟩])))))
def c_laws_heldIntS : ACode :=
  (.seq (.reg [⟨none, .asg 4 (.c (.int .i64 0))⟩])
  (.seq (.seq (.reg [⟨none, .asg 5 (.c (.int .i64 0))⟩])
    (.block 0 (.loop c_laws_heldIntS_l1)))
   (.drop [5, 6, 7, 8, 9, 12, 13, 14, 15, 16, 17, 18, 19, 10, 11] (.seq (.reg [⟨none, .mov 20 (.t 1)⟩,
       ⟨none, .asg 4 (.t 20)⟩])
    (.drop [20] .ret)))))
abbrev r_laws_heldIntS : List RS := [.t 4]
theorem k_laws_heldIntS : fitsF Try.prog f_laws_heldIntS 21 c_laws_heldIntS r_laws_heldIntS = true := by kernel_rfl

/- loop.example/g01078/impl.newOrder: [n=0, n=1, o=3, x=4] -/
def c_impl_newOrder_l1 : ACode :=
  (.seq (.reg [⟨none, .bin 10 .lss (.t 9) (.t 8)⟩])
  (.seq (.cond (.t 10) .skip
    (.exit 0))
   (.seq (.block 1 (.seq (.reg [⟨none, .mov 11 (.t 9)⟩,
         ⟨none, .asg 4 (.t 11)⟩])
      (.drop [11] (.reg [⟨none, .mov 12 (.t 3)⟩,
         ⟨none, .mov 13 (.t 4)⟩,
         ⟨none, .mov 14 (.t 0)⟩,
         ⟨none, .mk 15 1 (.bool false) (.t 14)⟩,
         ⟨none, .iad 16 1 (.t 12) (.t 13)⟩,
         ⟨none, .st 1 (.t 16) (.t 15)⟩]))))
    (.drop [11, 4, 12, 13, 14, 15, 16] (.reg [⟨none, .bin 17 .add (.t 9) (.c (.int .i64 1))⟩,
       ⟨none, .asg 9 (.t 17)⟩])))))
def c_impl_newOrder : ACode :=
  (.seq (.reg [⟨none, .asg 2 (.c (.nilsl 1))⟩])
  (.seq (.reg [⟨none, .mov 5 (.t 0)⟩,
      ⟨none, .mk 6 1 (.nilsl 1) (.t 5)⟩,
      ⟨none, .asg 3 (.t 6)⟩])
   (.drop [5, 6] (.seq (.seq (.reg [⟨none, .mov 7 (.t 3)⟩,
        ⟨none, .len 8 (.t 7)⟩,
        ⟨none, .mov 9 (.c (.int .i64 0))⟩])
     (.drop [7] (.block 0 (.loop c_impl_newOrder_l1))))
    (.drop [7, 8, 9, 10, 11, 4, 12, 13, 14, 15, 16, 17] (.seq (.reg [⟨none, .mov 18 (.t 3)⟩,
        ⟨none, .asg 2 (.t 18)⟩])
     (.drop [18] .ret)))))))
abbrev r_impl_newOrder : List RS := [.t 2]
theorem k_impl_newOrder : fitsF Try.prog f_impl_newOrder 19 c_impl_newOrder r_impl_newOrder = true := by kernel_rfl

/- (loop.example/g01078/impl.order).poset: [o=0, o=1, p=3, x=4, list=5, y=6] -/
def c_impl_order_poset_l1 : ACode :=
  (.seq (.reg [⟨none, .bin 18 .lss (.t 17) (.t 16)⟩])
  (.seq (.cond (.t 18) .skip
    (.exit 2))
   (.seq (.block 3 (.seq (.reg [⟨none, .mov 19 (.t 17)⟩,
         ⟨none, .asg 6 (.t 19)⟩])
      (.drop [19] (.seq (.reg [⟨none, .mov 20 (.t 0)⟩,
          ⟨none, .mov 21 (.t 6)⟩,
          ⟨none, .iad 22 1 (.t 20) (.t 21)⟩,
          ⟨none, .ld 23 1 false (.t 22)⟩,
          ⟨none, .mov 24 (.t 4)⟩,
          ⟨none, .iad 25 1 (.t 23) (.t 24)⟩,
          ⟨none, .ld 26 1 false (.t 25)⟩])
       (.drop [20, 21, 22, 23, 24, 25] (.cond (.t 26) (.reg [⟨none, .mov 27 (.t 5)⟩,
           ⟨none, .mov 28 (.t 6)⟩,
           ⟨none, .bsl 29 1 [(.t 28)]⟩,
           ⟨none, .app 30 1 (.t 27) (.t 29)⟩,
           ⟨none, .asg 5 (.t 30)⟩])
        .skip))))))
    (.drop [19, 6, 20, 21, 22, 23, 24, 25, 26, 27, 28, 29, 30] (.reg [⟨none, .bin 31 .add (.t 17) (.c (.int .i64 1))⟩,
       ⟨none, .asg 17 (.t 31)⟩])))))
def c_impl_order_poset_l2 : ACode :=
  (.seq (.reg [⟨none, .bin 12 .lss (.t 11) (.t 10)⟩])
  (.seq (.cond (.t 12) .skip
    (.exit 0))
   (.seq (.block 1 (.seq (.reg [⟨none, .mov 13 (.t 11)⟩,
         ⟨none, .asg 4 (.t 13)⟩])
      (.drop [13] (.seq (.reg [⟨none, .bsl 14 1 []⟩,
          ⟨none, .asg 5 (.t 14)⟩])
       (.drop [14] (.seq (.seq (.reg [⟨none, .mov 15 (.t 0)⟩,
            ⟨none, .len 16 (.t 15)⟩,
            ⟨none, .mov 17 (.c (.int .i64 0))⟩])
         (.drop [15] (.block 2 (.loop c_impl_order_poset_l1))))
        (.drop [15, 16, 17, 18, 19, 6, 20, 21, 22, 23, 24, 25, 26, 27, 28, 29, 30, 31] (.reg [⟨none, .fadr 32 0 (.t 3)⟩,
           ⟨none, .ld 33 1 false (.t 32)⟩,
           ⟨none, .mov 34 (.t 5)⟩,
           ⟨none, .bsl 35 1 [(.t 34)]⟩,
           ⟨none, .app 36 1 (.t 33) (.t 35)⟩,
           ⟨none, .fadr 37 0 (.t 3)⟩,
           ⟨none, .st 1 (.t 37) (.t 36)⟩]))))))))
    (.drop [13, 4, 14, 5, 15, 16, 17, 18, 19, 6, 20, 21, 22, 23, 24, 25, 26, 27, 28, 29, 30, 31, 32, 33, 34, 35, 36, 37] (.reg [⟨none, .bin 38 .add (.t 11) (.c (.int .i64 1))⟩,
       ⟨none, .asg 11 (.t 38)⟩])))))
def c_impl_order_poset : ACode :=
  (.seq (.reg [⟨none, .alc 2 (.agg [.nilsl 1])⟩])
  (.seq (.reg [⟨none, .bsl 7 1 []⟩,
      ⟨none, .bld 8 [.nilsl 1] [(0, 1, (.t 7))]⟩,
      ⟨none, .alc 3 (.agg [.nilsl 1])⟩,
      ⟨none, .st 1 (.t 3) (.t 8)⟩])
   (.drop [7, 8] (.seq (.seq (.reg [⟨none, .mov 9 (.t 0)⟩,
        ⟨none, .len 10 (.t 9)⟩,
        ⟨none, .mov 11 (.c (.int .i64 0))⟩])
     (.drop [9] (.block 0 (.loop c_impl_order_poset_l2))))
    (.drop [9, 10, 11, 12, 13, 4, 14, 5, 15, 16, 17, 18, 19, 6, 20, 21, 22, 23, 24, 25, 26, 27, 28, 29, 30, 31, 32, 33, 34, 35, 36, 37, 38] (.seq (.reg [⟨none, .ld 39 1 true (.t 3)⟩,
        ⟨none, .st 1 (.t 2) (.t 39)⟩])
     (.drop [39] .ret)))))))
abbrev r_impl_order_poset : List RS := [.c 2 1 true]
theorem k_impl_order_poset : fitsF Try.prog f_impl_order_poset 40 c_impl_order_poset r_impl_order_poset = true := by kernel_rfl

/- loop.example/g01078/laws.szIntS: [a=0, left=1, a=2, left=3] -/
def c_laws_szIntS : ACode :=
  (.seq (.reg [⟨none, .asg 4 (.c (.int .i64 0))⟩])
  (.seq (.reg [⟨none, .mov 5 (.t 1)⟩,
      ⟨none, .mov 6 (.t 0)⟩,
      ⟨none, .len 7 (.t 6)⟩,
      ⟨none, .bin 8 .sub (.t 5) (.t 7)⟩,
      ⟨none, .asg 1 (.t 8)⟩])
   (.drop [5, 6, 7, 8] (.seq (.seq (.reg [⟨none, .mov 9 (.t 1)⟩,
        ⟨none, .bin 10 .lss (.t 9) (.c (.int .i64 0))⟩])
     (.drop [9] (.cond (.t 10) (.seq (.reg [⟨none, .asg 4 (.c (.int .i64 (-1)))⟩])
       .ret)
      .skip)))
    (.drop [9, 10] (.seq (.reg [⟨none, .mov 11 (.t 1)⟩,
        ⟨none, .asg 4 (.t 11)⟩])
     (.drop [11] .ret)))))))
abbrev r_laws_szIntS : List RS := [.t 4]
theorem k_laws_szIntS : fitsF Try.prog f_laws_szIntS 12 c_laws_szIntS r_laws_szIntS = true := by kernel_rfl

/- loop.example/g01078/spec.l1Same: [a=0, b=1, a=2, b=3, i=5] -/
def c_spec_l1Same_l1 : ACode :=
  (.seq (.seq (.reg [⟨none, .mov 11 (.t 5)⟩,
      ⟨none, .mov 12 (.t 0)⟩,
      ⟨none, .len 13 (.t 12)⟩,
      ⟨none, .bin 14 .lss (.t 11) (.t 13)⟩])
   (.drop [11, 12, 13] (.cond (.t 14) .skip
    (.exit 0))))
  (.drop [11, 12, 13, 14] (.seq (.block 1 (.seq (.dreg [(⟨none, .mov 17 (.t 0)⟩, []),
        (⟨none, .mov 18 (.t 5)⟩, [17]),
        (⟨none, .iad 19 1 (.t 17) (.t 18)⟩, []),
        (⟨none, .ld 20 1 false (.t 19)⟩, []),
        (⟨none, .mov 21 (.t 1)⟩, [17, 18, 19, 20]),
        (⟨none, .mov 22 (.t 5)⟩, [17, 18, 19, 20, 21]),
        (⟨none, .iad 23 1 (.t 21) (.t 22)⟩, [17, 18, 19, 20]),
        (⟨none, .ld 24 1 false (.t 23)⟩, [17, 18, 19, 20])]
       [⟨none, .bin 25 .neq (.t 20) (.t 24)⟩])
     (.drop [17, 18, 19, 20, 21, 22, 23, 24] (.cond (.t 25) (.seq (.reg [⟨none, .asg 4 (.c (.bool false))⟩])
       .ret)
      .skip))))
   (.drop [17, 18, 19, 20, 21, 22, 23, 24, 25] (.reg [⟨none, .mov 15 (.t 5)⟩,
      ⟨none, .bin 16 .add (.t 15) (.c (.int .i64 1))⟩,
      ⟨none, .asg 5 (.t 16)⟩])))))
def c_spec_l1Same : ACode :=
  (.seq (.reg [⟨none, .asg 4 (.c (.bool false))⟩])
  (.seq (.seq (.reg [⟨none, .mov 6 (.t 0)⟩,
       ⟨none, .len 7 (.t 6)⟩,
       ⟨none, .mov 8 (.t 1)⟩,
       ⟨none, .len 9 (.t 8)⟩,
       ⟨none, .bin 10 .neq (.t 7) (.t 9)⟩])
    (.drop [6, 7, 8, 9] (.cond (.t 10) (.seq (.reg [⟨none, .asg 4 (.c (.bool false))⟩])
      .ret)
     .skip)))
   (.drop [6, 7, 8, 9, 10] (.seq (.seq (.reg [⟨none, .asg 5 (.c (.int .i64 0))⟩])
     (.block 0 (.loop c_spec_l1Same_l1)))
    (.drop [5, 11, 12, 13, 14, 17, 18, 19, 20, 21, 22, 23, 24, 25, 15, 16] (.seq (.reg [⟨none, .asg 4 (.c (.bool true))⟩])
     .ret))))))
abbrev r_spec_l1Same : List RS := [.t 4]
theorem k_spec_l1Same : fitsF Try.prog f_spec_l1Same 26 c_spec_l1Same r_spec_l1Same = true := by kernel_rfl

/- loop.example/g01078/spec.l2Type: [a=0, a=1, out=3, i=4] -/
def c_spec_l2Type_l1 : ACode :=
  (.seq (.seq (.reg [⟨none, .mov 6 (.t 4)⟩,
      ⟨none, .fadr 7 1 (.t 1)⟩,
      ⟨none, .ld 8 1 false (.t 7)⟩,
      ⟨none, .len 9 (.t 8)⟩,
      ⟨none, .bin 10 .lss (.t 6) (.t 9)⟩])
   (.drop [6, 7, 8, 9] (.cond (.t 10) .skip
    (.exit 0))))
  (.drop [6, 7, 8, 9, 10] (.seq (.block 1 (.reg [⟨none, .mov 13 (.t 3)⟩,
       ⟨none, .fadr 14 1 (.t 1)⟩,
       ⟨none, .ld 15 1 false (.t 14)⟩,
       ⟨none, .mov 16 (.t 4)⟩,
       ⟨none, .iad 17 2 (.t 15) (.t 16)⟩,
       ⟨none, .fadr 18 0 (.t 17)⟩,
       ⟨none, .ld 19 1 false (.t 18)⟩,
       ⟨none, .bsl 20 1 [(.t 19)]⟩,
       ⟨none, .app 21 1 (.t 13) (.t 20)⟩,
       ⟨none, .asg 3 (.t 21)⟩]))
   (.drop [13, 14, 15, 16, 17, 18, 19, 20, 21] (.reg [⟨none, .mov 11 (.t 4)⟩,
      ⟨none, .bin 12 .add (.t 11) (.c (.int .i64 1))⟩,
      ⟨none, .asg 4 (.t 12)⟩])))))
def c_spec_l2Type : ACode :=
  (.seq (.reg [⟨none, .box 1 (.t 0)⟩,
     ⟨none, .asg 2 (.c (.nilsl 1))⟩])
  (.seq (.reg [⟨none, .bsl 5 1 []⟩,
      ⟨none, .asg 3 (.t 5)⟩])
   (.drop [5] (.seq (.seq (.reg [⟨none, .asg 4 (.c (.int .i64 0))⟩])
     (.block 0 (.loop c_spec_l2Type_l1)))
    (.drop [4, 6, 7, 8, 9, 10, 13, 14, 15, 16, 17, 18, 19, 20, 21, 11, 12] (.seq (.reg [⟨none, .mov 22 (.t 3)⟩,
        ⟨none, .asg 2 (.t 22)⟩])
     (.drop [22] .ret)))))))
abbrev r_spec_l2Type : List RS := [.t 2]
theorem k_spec_l2Type : fitsF Try.prog f_spec_l2Type 23 c_spec_l2Type r_spec_l2Type = true := by kernel_rfl

/- loop.example/g01078/spec.l2Value: [a=0, op=1, args=2, a=3, op=4, args=5, at=7, i=8] -/
def c_spec_l2Value_l1 : ACode :=
  (.seq (.seq (.reg [⟨none, .mov 9 (.t 8)⟩,
      ⟨none, .mov 10 (.t 2)⟩,
      ⟨none, .len 11 (.t 10)⟩,
      ⟨none, .bin 12 .lss (.t 9) (.t 11)⟩])
   (.drop [9, 10, 11] (.cond (.t 12) .skip
    (.exit 0))))
  (.drop [9, 10, 11, 12] (.seq (.block 1 (.dreg [(⟨none, .mov 15 (.t 7)⟩, []),
       (⟨none, .fadr 16 0 (.t 3)⟩, [15]),
       (⟨none, .ld 17 1 false (.t 16)⟩, [15]),
       (⟨none, .bin 18 .mul (.t 15) (.t 17)⟩, []),
       (⟨none, .mov 19 (.t 2)⟩, [15, 16, 17, 18]),
       (⟨none, .mov 20 (.t 8)⟩, [15, 16, 17, 18, 19]),
       (⟨none, .iad 21 1 (.t 19) (.t 20)⟩, [15, 16, 17, 18]),
       (⟨none, .ld 22 1 false (.t 21)⟩, [15, 16, 17, 18])]
      [⟨none, .bin 23 .add (.t 18) (.t 22)⟩,
       ⟨none, .asg 7 (.t 23)⟩]))
   (.drop [15, 16, 17, 18, 19, 20, 21, 22, 23] (.reg [⟨none, .mov 13 (.t 8)⟩,
      ⟨none, .bin 14 .add (.t 13) (.c (.int .i64 1))⟩,
      ⟨none, .asg 8 (.t 14)⟩])))))
def c_spec_l2Value : ACode :=
  (.seq (.reg [⟨none, .box 3 (.t 0)⟩,
     ⟨none, .asg 6 (.c (.int .i64 0))⟩])
  (.seq (.reg [⟨none, .asg 7 (.c (.int .i64 0))⟩])
   (.seq (.seq (.reg [⟨none, .asg 8 (.c (.int .i64 0))⟩])
     (.block 0 (.loop c_spec_l2Value_l1)))
    (.drop [8, 9, 10, 11, 12, 15, 16, 17, 18, 19, 20, 21, 22, 23, 13, 14] (.seq (.reg [⟨none, .fadr 24 1 (.t 3)⟩,
        ⟨none, .ld 25 1 false (.t 24)⟩,
        ⟨none, .mov 26 (.t 1)⟩,
        ⟨none, .iad 27 2 (.t 25) (.t 26)⟩,
        ⟨none, .fadr 28 1 (.t 27)⟩,
        ⟨none, .ld 29 1 false (.t 28)⟩,
        ⟨none, .mov 30 (.t 7)⟩,
        ⟨none, .iad 31 1 (.t 29) (.t 30)⟩,
        ⟨none, .ld 32 1 false (.t 31)⟩,
        ⟨none, .asg 6 (.t 32)⟩])
     (.drop [24, 25, 26, 27, 28, 29, 30, 31, 32] .ret))))))
abbrev r_spec_l2Value : List RS := [.t 6]
theorem k_spec_l2Value : fitsF Try.prog f_spec_l2Value 33 c_spec_l2Value r_spec_l2Value = true := by kernel_rfl

/- loop.example/g01078/impl.sameList: [a=0, b=1, a=2, b=3, i=5, x=6] -/
def c_impl_sameList_l1 : ACode :=
  (.seq (.reg [⟨none, .bin 15 .lss (.t 14) (.t 13)⟩])
  (.seq (.cond (.t 15) .skip
    (.exit 0))
   (.seq (.block 1 (.seq (.reg [⟨none, .mov 16 (.t 14)⟩,
         ⟨none, .iad 17 1 (.t 12) (.t 14)⟩,
         ⟨none, .ld 18 1 false (.t 17)⟩,
         ⟨none, .asg 5 (.t 16)⟩,
         ⟨none, .asg 6 (.t 18)⟩])
      (.drop [16, 17, 18] (.seq (.reg [⟨none, .mov 19 (.t 1)⟩,
          ⟨none, .mov 20 (.t 5)⟩,
          ⟨none, .iad 21 1 (.t 19) (.t 20)⟩,
          ⟨none, .ld 22 1 false (.t 21)⟩,
          ⟨none, .mov 23 (.t 6)⟩,
          ⟨none, .bin 24 .neq (.t 22) (.t 23)⟩])
       (.drop [19, 20, 21, 22, 23] (.cond (.t 24) (.seq (.reg [⟨none, .asg 4 (.c (.bool false))⟩])
         .ret)
        .skip))))))
    (.drop [16, 17, 18, 5, 6, 19, 20, 21, 22, 23, 24] (.reg [⟨none, .bin 25 .add (.t 14) (.c (.int .i64 1))⟩,
       ⟨none, .asg 14 (.t 25)⟩])))))
def c_impl_sameList : ACode :=
  (.seq (.reg [⟨none, .asg 4 (.c (.bool false))⟩])
  (.seq (.seq (.reg [⟨none, .mov 7 (.t 0)⟩,
       ⟨none, .len 8 (.t 7)⟩,
       ⟨none, .mov 9 (.t 1)⟩,
       ⟨none, .len 10 (.t 9)⟩,
       ⟨none, .bin 11 .neq (.t 8) (.t 10)⟩])
    (.drop [7, 8, 9, 10] (.cond (.t 11) (.seq (.reg [⟨none, .asg 4 (.c (.bool false))⟩])
      .ret)
     .skip)))
   (.drop [7, 8, 9, 10, 11] (.seq (.seq (.reg [⟨none, .mov 12 (.t 0)⟩,
        ⟨none, .len 13 (.t 12)⟩,
        ⟨none, .mov 14 (.c (.int .i64 0))⟩])
     (.block 0 (.loop c_impl_sameList_l1)))
    (.drop [12, 13, 14, 15, 16, 17, 18, 5, 6, 19, 20, 21, 22, 23, 24, 25] (.seq (.reg [⟨none, .asg 4 (.c (.bool true))⟩])
     .ret))))))
abbrev r_impl_sameList : List RS := [.t 4]
theorem k_impl_sameList : fitsF Try.prog f_impl_sameList 26 c_impl_sameList r_impl_sameList = true := by kernel_rfl

/- loop.example/g01078/impl.typeOf: [a=0, a=1, list=3, _=4, f=5] -/
def c_impl_typeOf_l1 : ACode :=
  (.seq (.reg [⟨none, .bin 11 .lss (.t 10) (.t 9)⟩])
  (.seq (.cond (.t 11) .skip
    (.exit 0))
   (.seq (.block 1 (.seq (.reg [⟨none, .iad 12 2 (.t 8) (.t 10)⟩,
         ⟨none, .ld 13 2 true (.t 12)⟩,
         ⟨none, .alc 5 (.agg [.int .i64 0, .nilsl 1])⟩,
         ⟨none, .st 2 (.t 5) (.t 13)⟩])
      (.drop [12, 13] (.reg [⟨none, .mov 14 (.t 3)⟩,
         ⟨none, .fadr 15 0 (.t 5)⟩,
         ⟨none, .ld 16 1 false (.t 15)⟩,
         ⟨none, .bsl 17 1 [(.t 16)]⟩,
         ⟨none, .app 18 1 (.t 14) (.t 17)⟩,
         ⟨none, .asg 3 (.t 18)⟩]))))
    (.drop [12, 13, 5, 14, 15, 16, 17, 18] (.reg [⟨none, .bin 19 .add (.t 10) (.c (.int .i64 1))⟩,
       ⟨none, .asg 10 (.t 19)⟩])))))
def c_impl_typeOf : ACode :=
  (.seq (.reg [⟨none, .box 1 (.t 0)⟩,
     ⟨none, .asg 2 (.c (.nilsl 1))⟩])
  (.seq (.reg [⟨none, .bsl 6 1 []⟩,
      ⟨none, .asg 3 (.t 6)⟩])
   (.drop [6] (.seq (.seq (.reg [⟨none, .fadr 7 1 (.t 1)⟩,
        ⟨none, .ld 8 1 false (.t 7)⟩,
        ⟨none, .len 9 (.t 8)⟩,
        ⟨none, .mov 10 (.c (.int .i64 0))⟩])
     (.drop [7] (.block 0 (.loop c_impl_typeOf_l1))))
    (.drop [7, 8, 9, 10, 11, 12, 13, 5, 14, 15, 16, 17, 18, 19] (.seq (.reg [⟨none, .mov 20 (.t 3)⟩,
        ⟨none, .asg 2 (.t 20)⟩])
     (.drop [20] .ret)))))))
abbrev r_impl_typeOf : List RS := [.t 2]
theorem k_impl_typeOf : fitsF Try.prog f_impl_typeOf 21 c_impl_typeOf r_impl_typeOf = true := by kernel_rfl

/- loop.example/g01078/spec.l1In: [x=0, a=1, b=2, x=3, a=4, b=5] -/
def c_spec_l1In : ACode :=
  (.seq (.reg [⟨none, .asg 6 (.c (.bool false))⟩])
  (.seq (.reg [⟨none, .mov 7 (.t 0)⟩,
      ⟨none, .mov 8 (.t 1)⟩,
      ⟨none, .bin 9 .geq (.t 7) (.t 8)⟩,
      ⟨none, .asg 10 (.t 9)⟩,
      ⟨some (10, true), .mov 11 (.t 0)⟩,
      ⟨some (10, true), .mov 12 (.t 2)⟩,
      ⟨some (10, true), .bin 13 .leq (.t 11) (.t 12)⟩,
      ⟨none, .pick 14 (.t 10) (.t 13) (.c (.bool false))⟩,
      ⟨none, .asg 6 (.t 14)⟩])
   (.drop [7, 8, 9, 10, 11, 12, 13, 14] .ret)))
abbrev r_spec_l1In : List RS := [.t 6]
theorem k_spec_l1In : fitsF Try.prog f_spec_l1In 15 c_spec_l1In r_spec_l1In = true := by kernel_rfl

/- loop.example/g01078/impl.inSize: [list=0, n=1, list=2, n=3, _=5, x=6] -/
def c_impl_inSize_l1 : ACode :=
  (.seq (.reg [⟨none, .bin 10 .lss (.t 9) (.t 8)⟩])
  (.seq (.cond (.t 10) .skip
    (.exit 0))
   (.seq (.block 1 (.seq (.reg [⟨none, .iad 11 1 (.t 7) (.t 9)⟩,
         ⟨none, .ld 12 1 false (.t 11)⟩,
         ⟨none, .asg 6 (.t 12)⟩])
      (.drop [11, 12] (.seq (.reg [⟨none, .mov 13 (.t 6)⟩,
          ⟨none, .bin 14 .lss (.t 13) (.c (.int .i64 0))⟩,
          ⟨none, .asg 15 (.t 14)⟩,
          ⟨some (15, false), .mov 16 (.t 6)⟩,
          ⟨some (15, false), .mov 17 (.t 1)⟩,
          ⟨some (15, false), .bin 18 .geq (.t 16) (.t 17)⟩,
          ⟨none, .pick 19 (.t 15) (.c (.bool true)) (.t 18)⟩])
       (.drop [13, 14, 15, 16, 17, 18] (.cond (.t 19) (.seq (.reg [⟨none, .asg 4 (.c (.bool false))⟩])
         .ret)
        .skip))))))
    (.drop [11, 12, 6, 13, 14, 15, 16, 17, 18, 19] (.reg [⟨none, .bin 20 .add (.t 9) (.c (.int .i64 1))⟩,
       ⟨none, .asg 9 (.t 20)⟩])))))
def c_impl_inSize : ACode :=
  (.seq (.reg [⟨none, .asg 4 (.c (.bool false))⟩])
  (.seq (.seq (.reg [⟨none, .mov 7 (.t 0)⟩,
       ⟨none, .len 8 (.t 7)⟩,
       ⟨none, .mov 9 (.c (.int .i64 0))⟩])
    (.block 0 (.loop c_impl_inSize_l1)))
   (.drop [7, 8, 9, 10, 11, 12, 6, 13, 14, 15, 16, 17, 18, 19, 20] (.seq (.reg [⟨none, .asg 4 (.c (.bool true))⟩])
    .ret))))
abbrev r_impl_inSize : List RS := [.t 4]
theorem k_impl_inSize : fitsF Try.prog f_impl_inSize 21 c_impl_inSize r_impl_inSize = true := by kernel_rfl

/- loop.example/g01078/spec.l1Has: [l=0, n=1, l=2, n=3, i=5] -/
def c_spec_l1Has_l1 : ACode :=
  (.seq (.seq (.reg [⟨none, .mov 6 (.t 5)⟩,
      ⟨none, .mov 7 (.t 0)⟩,
      ⟨none, .len 8 (.t 7)⟩,
      ⟨none, .bin 9 .lss (.t 6) (.t 8)⟩])
   (.drop [6, 7, 8] (.cond (.t 9) .skip
    (.exit 0))))
  (.drop [6, 7, 8, 9] (.seq (.block 1 (.seq (.reg [⟨none, .mov 12 (.t 0)⟩,
        ⟨none, .mov 13 (.t 5)⟩,
        ⟨none, .iad 14 1 (.t 12) (.t 13)⟩,
        ⟨none, .ld 15 1 false (.t 14)⟩,
        ⟨none, .mov 16 (.t 1)⟩,
        ⟨none, .bin 17 .eql (.t 15) (.t 16)⟩])
     (.drop [12, 13, 14, 15, 16] (.cond (.t 17) (.seq (.reg [⟨none, .asg 4 (.c (.bool true))⟩])
       .ret)
      .skip))))
   (.drop [12, 13, 14, 15, 16, 17] (.reg [⟨none, .mov 10 (.t 5)⟩,
      ⟨none, .bin 11 .add (.t 10) (.c (.int .i64 1))⟩,
      ⟨none, .asg 5 (.t 11)⟩])))))
def c_spec_l1Has : ACode :=
  (.seq (.reg [⟨none, .asg 4 (.c (.bool false))⟩])
  (.seq (.seq (.reg [⟨none, .asg 5 (.c (.int .i64 0))⟩])
    (.block 0 (.loop c_spec_l1Has_l1)))
   (.drop [5, 6, 7, 8, 9, 12, 13, 14, 15, 16, 17, 10, 11] (.seq (.reg [⟨none, .asg 4 (.c (.bool false))⟩])
    .ret))))
abbrev r_spec_l1Has : List RS := [.t 4]
theorem k_spec_l1Has : fitsF Try.prog f_spec_l1Has 18 c_spec_l1Has r_spec_l1Has = true := by kernel_rfl

/- loop.example/g01078/impl.rises: [list=0, list=1, i=3] -/
def c_impl_rises_l1 : ACode :=
  (.seq (.seq (.reg [⟨none, .mov 4 (.t 3)⟩,
      ⟨none, .mov 5 (.t 0)⟩,
      ⟨none, .len 6 (.t 5)⟩,
      ⟨none, .bin 7 .lss (.t 4) (.t 6)⟩])
   (.drop [4, 5, 6] (.cond (.t 7) .skip
    (.exit 0))))
  (.drop [4, 5, 6, 7] (.seq (.block 1 (.seq (.dreg [(⟨none, .mov 10 (.t 0)⟩, []),
        (⟨none, .mov 11 (.t 3)⟩, [10]),
        (⟨none, .bin 12 .sub (.t 11) (.c (.int .i64 1))⟩, [10]),
        (⟨none, .iad 13 1 (.t 10) (.t 12)⟩, []),
        (⟨none, .ld 14 1 false (.t 13)⟩, []),
        (⟨none, .mov 15 (.t 0)⟩, [10, 11, 12, 13, 14]),
        (⟨none, .mov 16 (.t 3)⟩, [10, 11, 12, 13, 14, 15]),
        (⟨none, .iad 17 1 (.t 15) (.t 16)⟩, [10, 11, 12, 13, 14]),
        (⟨none, .ld 18 1 false (.t 17)⟩, [10, 11, 12, 13, 14])]
       [⟨none, .bin 19 .geq (.t 14) (.t 18)⟩])
     (.drop [10, 11, 12, 13, 14, 15, 16, 17, 18] (.cond (.t 19) (.seq (.reg [⟨none, .asg 2 (.c (.bool false))⟩])
       .ret)
      .skip))))
   (.drop [10, 11, 12, 13, 14, 15, 16, 17, 18, 19] (.reg [⟨none, .mov 8 (.t 3)⟩,
      ⟨none, .bin 9 .add (.t 8) (.c (.int .i64 1))⟩,
      ⟨none, .asg 3 (.t 9)⟩])))))
def c_impl_rises : ACode :=
  (.seq (.reg [⟨none, .asg 2 (.c (.bool false))⟩])
  (.seq (.seq (.reg [⟨none, .asg 3 (.c (.int .i64 1))⟩])
    (.block 0 (.loop c_impl_rises_l1)))
   (.drop [3, 4, 5, 6, 7, 10, 11, 12, 13, 14, 15, 16, 17, 18, 19, 8, 9] (.seq (.reg [⟨none, .asg 2 (.c (.bool true))⟩])
    .ret))))
abbrev r_impl_rises : List RS := [.t 2]
theorem k_impl_rises : fitsF Try.prog f_impl_rises 20 c_impl_rises r_impl_rises = true := by kernel_rfl

/- (loop.example/g01078/impl.order).isOrder: [o=0, o=1, x=3, y=4, z=5] -/
def c_impl_order_isOrder_k1 : ACode :=
  (.seq (.reg [⟨none, .mov 24 (.t 3)⟩,
           ⟨none, .mov 25 (.t 4)⟩,
           ⟨none, .bin 26 .neq (.t 24) (.t 25)⟩,
           ⟨none, .asg 27 (.t 26)⟩,
           ⟨some (27, true), .mov 28 (.t 0)⟩,
           ⟨some (27, true), .mov 29 (.t 3)⟩,
           ⟨some (27, true), .iad 30 1 (.t 28) (.t 29)⟩,
           ⟨some (27, true), .ld 31 1 false (.t 30)⟩,
           ⟨some (27, true), .mov 32 (.t 4)⟩,
           ⟨some (27, true), .iad 33 1 (.t 31) (.t 32)⟩,
           ⟨some (27, true), .ld 34 1 false (.t 33)⟩,
           ⟨none, .pick 35 (.t 27) (.t 34) (.c (.bool false))⟩,
           ⟨none, .asg 36 (.t 35)⟩,
           ⟨some (36, true), .mov 37 (.t 0)⟩,
           ⟨some (36, true), .mov 38 (.t 4)⟩,
           ⟨some (36, true), .iad 39 1 (.t 37) (.t 38)⟩,
           ⟨some (36, true), .ld 40 1 false (.t 39)⟩,
           ⟨some (36, true), .mov 41 (.t 3)⟩,
           ⟨some (36, true), .iad 42 1 (.t 40) (.t 41)⟩,
           ⟨some (36, true), .ld 43 1 false (.t 42)⟩,
           ⟨none, .pick 44 (.t 36) (.t 43) (.c (.bool false))⟩])
        (.drop [24, 25, 26, 27, 28, 29, 30, 31, 32, 33, 34, 35, 36, 37, 38, 39, 40, 41, 42, 43] (.cond (.t 44) (.seq (.reg [⟨none, .asg 2 (.c (.bool false))⟩])
          .ret)
         .skip)))
def c_impl_order_isOrder_l1 : ACode :=
  (.seq (.reg [⟨none, .bin 48 .lss (.t 47) (.t 46)⟩])
  (.seq (.cond (.t 48) .skip
    (.exit 4))
   (.seq (.block 5 (.seq (.reg [⟨none, .mov 49 (.t 47)⟩,
         ⟨none, .asg 5 (.t 49)⟩])
      (.drop [49] (.seq (.reg [⟨none, .mov 50 (.t 0)⟩,
          ⟨none, .mov 51 (.t 3)⟩,
          ⟨none, .iad 52 1 (.t 50) (.t 51)⟩,
          ⟨none, .ld 53 1 false (.t 52)⟩,
          ⟨none, .mov 54 (.t 4)⟩,
          ⟨none, .iad 55 1 (.t 53) (.t 54)⟩,
          ⟨none, .ld 56 1 false (.t 55)⟩,
          ⟨none, .asg 57 (.t 56)⟩,
          ⟨some (57, true), .mov 58 (.t 0)⟩,
          ⟨some (57, true), .mov 59 (.t 4)⟩,
          ⟨some (57, true), .iad 60 1 (.t 58) (.t 59)⟩,
          ⟨some (57, true), .ld 61 1 false (.t 60)⟩,
          ⟨some (57, true), .mov 62 (.t 5)⟩,
          ⟨some (57, true), .iad 63 1 (.t 61) (.t 62)⟩,
          ⟨some (57, true), .ld 64 1 false (.t 63)⟩,
          ⟨none, .pick 65 (.t 57) (.t 64) (.c (.bool false))⟩,
          ⟨none, .asg 66 (.t 65)⟩,
          ⟨some (66, true), .mov 67 (.t 0)⟩,
          ⟨some (66, true), .mov 68 (.t 3)⟩,
          ⟨some (66, true), .iad 69 1 (.t 67) (.t 68)⟩,
          ⟨some (66, true), .ld 70 1 false (.t 69)⟩,
          ⟨some (66, true), .mov 71 (.t 5)⟩,
          ⟨some (66, true), .iad 72 1 (.t 70) (.t 71)⟩,
          ⟨some (66, true), .ld 73 1 false (.t 72)⟩,
          ⟨some (66, true), .un 74 .not (.t 73)⟩,
          ⟨none, .pick 75 (.t 66) (.t 74) (.c (.bool false))⟩])
       (.drop [50, 51, 52, 53, 54, 55, 56, 57, 58, 59, 60, 61, 62, 63, 64, 65, 66, 67, 68, 69, 70, 71, 72, 73, 74] (.cond (.t 75) (.seq (.reg [⟨none, .asg 2 (.c (.bool false))⟩])
         .ret)
        .skip))))))
    (.drop [49, 5, 50, 51, 52, 53, 54, 55, 56, 57, 58, 59, 60, 61, 62, 63, 64, 65, 66, 67, 68, 69, 70, 71, 72, 73, 74, 75] (.reg [⟨none, .bin 76 .add (.t 47) (.c (.int .i64 1))⟩,
       ⟨none, .asg 47 (.t 76)⟩])))))
def c_impl_order_isOrder_l2 : ACode :=
  (.seq (.reg [⟨none, .bin 22 .lss (.t 21) (.t 20)⟩])
  (.seq (.cond (.t 22) .skip
    (.exit 2))
   (.seq (.block 3 (.seq (.reg [⟨none, .mov 23 (.t 21)⟩,
         ⟨none, .asg 4 (.t 23)⟩])
      (.drop [23] (.seq (.cut c_impl_order_isOrder_k1)
       (.drop [24, 25, 26, 27, 28, 29, 30, 31, 32, 33, 34, 35, 36, 37, 38, 39, 40, 41, 42, 43, 44] (.seq (.reg [⟨none, .mov 45 (.t 0)⟩,
           ⟨none, .len 46 (.t 45)⟩,
           ⟨none, .mov 47 (.c (.int .i64 0))⟩])
        (.drop [45] (.block 4 (.loop c_impl_order_isOrder_l1)))))))))
    (.drop [23, 4, 24, 25, 26, 27, 28, 29, 30, 31, 32, 33, 34, 35, 36, 37, 38, 39, 40, 41, 42, 43, 44, 45, 46, 47, 48, 49, 5, 50, 51, 52, 53, 54, 55, 56, 57, 58, 59, 60, 61, 62, 63, 64, 65, 66, 67, 68, 69, 70, 71, 72, 73, 74, 75, 76] (.reg [⟨none, .bin 77 .add (.t 21) (.c (.int .i64 1))⟩,
       ⟨none, .asg 21 (.t 77)⟩])))))
def c_impl_order_isOrder_l3 : ACode :=
  (.seq (.reg [⟨none, .bin 9 .lss (.t 8) (.t 7)⟩])
  (.seq (.cond (.t 9) .skip
    (.exit 0))
   (.seq (.block 1 (.seq (.reg [⟨none, .mov 10 (.t 8)⟩,
         ⟨none, .asg 3 (.t 10)⟩])
      (.drop [10] (.seq (.seq (.reg [⟨none, .mov 11 (.t 0)⟩,
           ⟨none, .mov 12 (.t 3)⟩,
           ⟨none, .iad 13 1 (.t 11) (.t 12)⟩,
           ⟨none, .ld 14 1 false (.t 13)⟩,
           ⟨none, .mov 15 (.t 3)⟩,
           ⟨none, .iad 16 1 (.t 14) (.t 15)⟩,
           ⟨none, .ld 17 1 false (.t 16)⟩,
           ⟨none, .un 18 .not (.t 17)⟩])
        (.drop [11, 12, 13, 14, 15, 16, 17] (.cond (.t 18) (.seq (.reg [⟨none, .asg 2 (.c (.bool false))⟩])
          .ret)
         .skip)))
       (.drop [11, 12, 13, 14, 15, 16, 17, 18] (.seq (.reg [⟨none, .mov 19 (.t 0)⟩,
           ⟨none, .len 20 (.t 19)⟩,
           ⟨none, .mov 21 (.c (.int .i64 0))⟩])
        (.drop [19] (.block 2 (.loop c_impl_order_isOrder_l2)))))))))
    (.drop [10, 3, 11, 12, 13, 14, 15, 16, 17, 18, 19, 20, 21, 22, 23, 4, 24, 25, 26, 27, 28, 29, 30, 31, 32, 33, 34, 35, 36, 37, 38, 39, 40, 41, 42, 43, 44, 45, 46, 47, 48, 49, 5, 50, 51, 52, 53, 54, 55, 56, 57, 58, 59, 60, 61, 62, 63, 64, 65, 66, 67, 68, 69, 70, 71, 72, 73, 74, 75, 76, 77] (.reg [⟨none, .bin 78 .add (.t 8) (.c (.int .i64 1))⟩,
       ⟨none, .asg 8 (.t 78)⟩])))))
def c_impl_order_isOrder : ACode :=
  (.seq (.reg [⟨none, .asg 2 (.c (.bool false))⟩])
  (.seq (.seq (.reg [⟨none, .mov 6 (.t 0)⟩,
       ⟨none, .len 7 (.t 6)⟩,
       ⟨none, .mov 8 (.c (.int .i64 0))⟩])
    (.drop [6] (.block 0 (.loop c_impl_order_isOrder_l3))))
   (.drop [6, 7, 8, 9, 10, 3, 11, 12, 13, 14, 15, 16, 17, 18, 19, 20, 21, 22, 23, 4, 24, 25, 26, 27, 28, 29, 30, 31, 32, 33, 34, 35, 36, 37, 38, 39, 40, 41, 42, 43, 44, 45, 46, 47, 48, 49, 5, 50, 51, 52, 53, 54, 55, 56, 57, 58, 59, 60, 61, 62, 63, 64, 65, 66, 67, 68, 69, 70, 71, 72, 73, 74, 75, 76, 77, 78] (.seq (.reg [⟨none, .asg 2 (.c (.bool true))⟩])
    .ret))))
abbrev r_impl_order_isOrder : List RS := [.t 2]
theorem k_impl_order_isOrder : fitsF Try.prog f_impl_order_isOrder 79 c_impl_order_isOrder r_impl_order_isOrder = true := by kernel_rfl

/- loop.example/g01078/impl.flatOp: [table=0, table=1, f=3, _=4, row=5] -/
def c_impl_flatOp_l1 : ACode :=
  (.seq (.reg [⟨none, .bin 10 .lss (.t 9) (.t 8)⟩])
  (.seq (.cond (.t 10) .skip
    (.exit 0))
   (.seq (.block 1 (.seq (.reg [⟨none, .iad 11 1 (.t 7) (.t 9)⟩,
         ⟨none, .ld 12 1 false (.t 11)⟩,
         ⟨none, .asg 5 (.t 12)⟩])
      (.drop [11, 12] (.reg [⟨none, .fadr 13 1 (.t 3)⟩,
         ⟨none, .ld 14 1 false (.t 13)⟩,
         ⟨none, .mov 15 (.t 5)⟩,
         ⟨none, .app 16 1 (.t 14) (.t 15)⟩,
         ⟨none, .fadr 17 1 (.t 3)⟩,
         ⟨none, .st 1 (.t 17) (.t 16)⟩]))))
    (.drop [11, 12, 5, 13, 14, 15, 16, 17] (.reg [⟨none, .bin 18 .add (.t 9) (.c (.int .i64 1))⟩,
       ⟨none, .asg 9 (.t 18)⟩])))))
def c_impl_flatOp : ACode :=
  (.seq (.reg [⟨none, .alc 2 (.agg [.int .i64 0, .nilsl 1])⟩])
  (.seq (.reg [⟨none, .bld 6 [.int .i64 0, .nilsl 1] [(0, 1, (.c (.int .i64 2)))]⟩,
      ⟨none, .alc 3 (.agg [.int .i64 0, .nilsl 1])⟩,
      ⟨none, .st 2 (.t 3) (.t 6)⟩])
   (.drop [6] (.seq (.seq (.reg [⟨none, .mov 7 (.t 0)⟩,
        ⟨none, .len 8 (.t 7)⟩,
        ⟨none, .mov 9 (.c (.int .i64 0))⟩])
     (.block 0 (.loop c_impl_flatOp_l1)))
    (.drop [7, 8, 9, 10, 11, 12, 5, 13, 14, 15, 16, 17, 18] (.seq (.reg [⟨none, .ld 19 2 true (.t 3)⟩,
        ⟨none, .st 2 (.t 2) (.t 19)⟩])
     (.drop [19] .ret)))))))
abbrev r_impl_flatOp : List RS := [.c 2 2 true]
theorem k_impl_flatOp : fitsF Try.prog f_impl_flatOp 20 c_impl_flatOp r_impl_flatOp = true := by kernel_rfl

/- loop.example/g01078/spec.l2Pow: [n=0, k=1, n=2, k=3, out=5] -/
def c_spec_l2Pow_l1 : ACode :=
  (.seq (.seq (.reg [⟨none, .mov 6 (.t 1)⟩,
      ⟨none, .bin 7 .gtr (.t 6) (.c (.int .i64 0))⟩])
   (.drop [6] (.cond (.t 7) .skip
    (.exit 0))))
  (.drop [6, 7] (.seq (.block 1 (.reg [⟨none, .mov 10 (.t 5)⟩,
       ⟨none, .mov 11 (.t 0)⟩,
       ⟨none, .bin 12 .mul (.t 10) (.t 11)⟩,
       ⟨none, .asg 5 (.t 12)⟩]))
   (.drop [10, 11, 12] (.reg [⟨none, .mov 8 (.t 1)⟩,
      ⟨none, .bin 9 .sub (.t 8) (.c (.int .i64 1))⟩,
      ⟨none, .asg 1 (.t 9)⟩])))))
def c_spec_l2Pow : ACode :=
  (.seq (.reg [⟨none, .asg 4 (.c (.int .i64 0))⟩])
  (.seq (.reg [⟨none, .asg 5 (.c (.int .i64 1))⟩])
   (.seq (.block 0 (.loop c_spec_l2Pow_l1))
    (.drop [6, 7, 10, 11, 12, 8, 9] (.seq (.reg [⟨none, .mov 13 (.t 5)⟩,
        ⟨none, .asg 4 (.t 13)⟩])
     (.drop [13] .ret))))))
abbrev r_spec_l2Pow : List RS := [.t 4]
theorem k_spec_l2Pow : fitsF Try.prog f_spec_l2Pow 14 c_spec_l2Pow r_spec_l2Pow = true := by kernel_rfl

/- loop.example/g01078/impl.power: [n=0, k=1, n=2, k=3, p=5] -/
def c_impl_power_l1 : ACode :=
  (.seq (.seq (.reg [⟨none, .mov 6 (.t 1)⟩,
      ⟨none, .bin 7 .gtr (.t 6) (.c (.int .i64 0))⟩])
   (.drop [6] (.cond (.t 7) .skip
    (.exit 0))))
  (.drop [6, 7] (.seq (.block 1 (.reg [⟨none, .mov 10 (.t 5)⟩,
       ⟨none, .mov 11 (.t 0)⟩,
       ⟨none, .bin 12 .mul (.t 10) (.t 11)⟩,
       ⟨none, .asg 5 (.t 12)⟩]))
   (.drop [10, 11, 12] (.reg [⟨none, .mov 8 (.t 1)⟩,
      ⟨none, .bin 9 .sub (.t 8) (.c (.int .i64 1))⟩,
      ⟨none, .asg 1 (.t 9)⟩])))))
def c_impl_power : ACode :=
  (.seq (.reg [⟨none, .asg 4 (.c (.int .i64 0))⟩])
  (.seq (.reg [⟨none, .asg 5 (.c (.int .i64 1))⟩])
   (.seq (.block 0 (.loop c_impl_power_l1))
    (.drop [6, 7, 10, 11, 12, 8, 9] (.seq (.reg [⟨none, .mov 13 (.t 5)⟩,
        ⟨none, .asg 4 (.t 13)⟩])
     (.drop [13] .ret))))))
abbrev r_impl_power : List RS := [.t 4]
theorem k_impl_power : fitsF Try.prog f_impl_power 14 c_impl_power r_impl_power = true := by kernel_rfl

/- (loop.example/g01078/impl.order).greatest: [o=0, list=1, o=2, list=3, _=5, x=6, top=7, _=8, y=9] -/
def c_impl_order_greatest_l1 : ACode :=
  (.seq (.reg [⟨none, .bin 19 .lss (.t 18) (.t 17)⟩])
  (.seq (.cond (.t 19) .skip
    (.exit 2))
   (.seq (.block 3 (.seq (.reg [⟨none, .iad 20 1 (.t 16) (.t 18)⟩,
         ⟨none, .ld 21 1 false (.t 20)⟩,
         ⟨none, .asg 9 (.t 21)⟩])
      (.drop [20, 21] (.reg [⟨none, .mov 22 (.t 7)⟩,
         ⟨none, .asg 23 (.t 22)⟩,
         ⟨some (23, true), .mov 24 (.t 0)⟩,
         ⟨some (23, true), .mov 25 (.t 9)⟩,
         ⟨some (23, true), .iad 26 1 (.t 24) (.t 25)⟩,
         ⟨some (23, true), .ld 27 1 false (.t 26)⟩,
         ⟨some (23, true), .mov 28 (.t 6)⟩,
         ⟨some (23, true), .iad 29 1 (.t 27) (.t 28)⟩,
         ⟨some (23, true), .ld 30 1 false (.t 29)⟩,
         ⟨none, .pick 31 (.t 23) (.t 30) (.c (.bool false))⟩,
         ⟨none, .asg 7 (.t 31)⟩]))))
    (.drop [20, 21, 9, 22, 23, 24, 25, 26, 27, 28, 29, 30, 31] (.reg [⟨none, .bin 32 .add (.t 18) (.c (.int .i64 1))⟩,
       ⟨none, .asg 18 (.t 32)⟩])))))
def c_impl_order_greatest_l2 : ACode :=
  (.seq (.reg [⟨none, .bin 13 .lss (.t 12) (.t 11)⟩])
  (.seq (.cond (.t 13) .skip
    (.exit 0))
   (.seq (.block 1 (.seq (.reg [⟨none, .iad 14 1 (.t 10) (.t 12)⟩,
         ⟨none, .ld 15 1 false (.t 14)⟩,
         ⟨none, .asg 6 (.t 15)⟩])
      (.drop [14, 15] (.seq (.reg [⟨none, .asg 7 (.c (.bool true))⟩])
       (.seq (.seq (.reg [⟨none, .mov 16 (.t 1)⟩,
            ⟨none, .len 17 (.t 16)⟩,
            ⟨none, .mov 18 (.c (.int .i64 0))⟩])
         (.block 2 (.loop c_impl_order_greatest_l1)))
        (.drop [16, 17, 18, 19, 20, 21, 9, 22, 23, 24, 25, 26, 27, 28, 29, 30, 31, 32] (.seq (.reg [⟨none, .mov 33 (.t 7)⟩])
         (.cond (.t 33) (.seq (.reg [⟨none, .mov 34 (.t 6)⟩,
              ⟨none, .asg 4 (.t 34)⟩])
           (.drop [34] .ret))
          .skip))))))))
    (.drop [14, 15, 6, 7, 16, 17, 18, 19, 20, 21, 9, 22, 23, 24, 25, 26, 27, 28, 29, 30, 31, 32, 33, 34] (.reg [⟨none, .bin 35 .add (.t 12) (.c (.int .i64 1))⟩,
       ⟨none, .asg 12 (.t 35)⟩])))))
def c_impl_order_greatest : ACode :=
  (.seq (.reg [⟨none, .asg 4 (.c (.int .i64 0))⟩])
  (.seq (.seq (.reg [⟨none, .mov 10 (.t 1)⟩,
       ⟨none, .len 11 (.t 10)⟩,
       ⟨none, .mov 12 (.c (.int .i64 0))⟩])
    (.block 0 (.loop c_impl_order_greatest_l2)))
   (.drop [10, 11, 12, 13, 14, 15, 6, 7, 16, 17, 18, 19, 20, 21, 9, 22, 23, 24, 25, 26, 27, 28, 29, 30, 31, 32, 33, 34, 35] (.seq (.reg [⟨none, .asg 4 (.c (.int .i64 (-1)))⟩])
    .ret))))
abbrev r_impl_order_greatest : List RS := [.t 4]
theorem k_impl_order_greatest : fitsF Try.prog f_impl_order_greatest 36 c_impl_order_greatest r_impl_order_greatest = true := by kernel_rfl

/- (loop.example/g01078/impl.order).those: [o=0, so=1, o=2, so=3, list=5, x=6] -/
def c_impl_order_those_l1 : ACode :=
  (.seq (.reg [⟨none, .bin 11 .lss (.t 10) (.t 9)⟩])
  (.seq (.cond (.t 11) .skip
    (.exit 0))
   (.seq (.block 1 (.seq (.reg [⟨none, .mov 12 (.t 10)⟩,
         ⟨none, .asg 6 (.t 12)⟩])
      (.drop [12] (.seq (.reg [⟨none, .mov 13 (.t 1)⟩,
          ⟨none, .mov 14 (.t 6)⟩,
          ⟨none, .cally 15 (.t 13) [(.t 14)]⟩])
       (.drop [13, 14] (.cond (.t 15) (.reg [⟨none, .mov 16 (.t 5)⟩,
           ⟨none, .mov 17 (.t 6)⟩,
           ⟨none, .bsl 18 1 [(.t 17)]⟩,
           ⟨none, .app 19 1 (.t 16) (.t 18)⟩,
           ⟨none, .asg 5 (.t 19)⟩])
        .skip))))))
    (.drop [12, 6, 13, 14, 15, 16, 17, 18, 19] (.reg [⟨none, .bin 20 .add (.t 10) (.c (.int .i64 1))⟩,
       ⟨none, .asg 10 (.t 20)⟩])))))
def c_impl_order_those : ACode :=
  (.seq (.reg [⟨none, .asg 4 (.c (.nilsl 1))⟩])
  (.seq (.reg [⟨none, .bsl 7 1 []⟩,
      ⟨none, .asg 5 (.t 7)⟩])
   (.drop [7] (.seq (.seq (.reg [⟨none, .mov 8 (.t 0)⟩,
        ⟨none, .len 9 (.t 8)⟩,
        ⟨none, .mov 10 (.c (.int .i64 0))⟩])
     (.drop [8] (.block 0 (.loop c_impl_order_those_l1))))
    (.drop [8, 9, 10, 11, 12, 6, 13, 14, 15, 16, 17, 18, 19, 20] (.seq (.reg [⟨none, .mov 21 (.t 5)⟩,
        ⟨none, .asg 4 (.t 21)⟩])
     (.drop [21] .ret)))))))
abbrev r_impl_order_those : List RS := [.t 4]
theorem k_impl_order_those : fitsF Try.prog f_impl_order_those 22 c_impl_order_those r_impl_order_those = true := by kernel_rfl

/- (loop.example/g01078/impl.order).meetTable$1: [z=0, z=4] -/
def c_impl_order_meetTable_1 : ACode :=
  (.seq (.reg [⟨none, .asg 5 (.c (.bool false))⟩])
  (.seq (.dreg [(⟨none, .ld 6 1 false (.t 1)⟩, []),
      (⟨none, .mov 7 (.t 0)⟩, [6]),
      (⟨none, .iad 8 1 (.t 6) (.t 7)⟩, []),
      (⟨none, .ld 9 1 false (.t 8)⟩, []),
      (⟨none, .ld 10 1 false (.t 2)⟩, [6, 7, 8, 9]),
      (⟨none, .iad 11 1 (.t 9) (.t 10)⟩, []),
      (⟨none, .ld 12 1 false (.t 11)⟩, []),
      (⟨none, .asg 13 (.t 12)⟩, []),
      (⟨some (13, true), .ld 14 1 false (.t 1)⟩, [12]),
      (⟨some (13, true), .mov 15 (.t 0)⟩, [14, 12]),
      (⟨some (13, true), .iad 16 1 (.t 14) (.t 15)⟩, [12]),
      (⟨some (13, true), .ld 17 1 false (.t 16)⟩, [12]),
      (⟨some (13, true), .ld 18 1 false (.t 3)⟩, [14, 15, 16, 17, 12])]
     [⟨some (13, true), .iad 19 1 (.t 17) (.t 18)⟩,
      ⟨some (13, true), .ld 20 1 false (.t 19)⟩,
      ⟨none, .pick 21 (.t 13) (.t 20) (.c (.bool false))⟩,
      ⟨none, .asg 5 (.t 21)⟩])
   (.drop [6, 7, 8, 9, 10, 11, 12, 13, 14, 15, 16, 17, 18, 19, 20, 21] .ret)))
abbrev r_impl_order_meetTable_1 : List RS := [.t 5]
theorem k_impl_order_meetTable_1 : fitsF Try.prog f_impl_order_meetTable_1 22 c_impl_order_meetTable_1 r_impl_order_meetTable_1 = true := by kernel_rfl

/- loop.example/g01078/laws.eqIntSS: [a=0, b=1, a=2, b=3, i=5] -/
def c_laws_eqIntSS_l1 : ACode :=
  (.seq (.seq (.reg [⟨none, .mov 11 (.t 5)⟩,
      ⟨none, .mov 12 (.t 0)⟩,
      ⟨none, .len 13 (.t 12)⟩,
      ⟨none, .bin 14 .lss (.t 11) (.t 13)⟩])
   (.drop [11, 12, 13] (.cond (.t 14) .skip
    (.exit 0))))
  (.drop [11, 12, 13, 14] (.seq (.block 1 (.seq (.dreg [(⟨none, .mov 17 (.t 0)⟩, []),
        (⟨none, .mov 18 (.t 5)⟩, [17]),
        (⟨none, .iad 19 1 (.t 17) (.t 18)⟩, []),
        (⟨none, .ld 20 1 false (.t 19)⟩, []),
        (⟨none, .mov 21 (.t 1)⟩, [17, 18, 19, 20]),
        (⟨none, .mov 22 (.t 5)⟩, [17, 18, 19, 20, 21]),
        (⟨none, .iad 23 1 (.t 21) (.t 22)⟩, [17, 18, 19, 20]),
        (⟨none, .ld 24 1 false (.t 23)⟩, [17, 18, 19, 20])]
       [⟨none, .call 25 f_laws_eqIntS [((.t 20), false), ((.t 24), false)]⟩,
        ⟨none, .un 26 .not (.t 25)⟩])
     (.drop [17, 18, 19, 20, 21, 22, 23, 24, 25] (.cond (.t 26) (.seq (.reg [⟨none, .asg 4 (.c (.bool false))⟩])
       .ret)
      .skip))))
   (.drop [17, 18, 19, 20, 21, 22, 23, 24, 25, 26] (.reg [⟨none, .mov 15 (.t 5)⟩,
      ⟨none, .bin 16 .add (.t 15) (.c (.int .i64 1))⟩,
      ⟨none, .asg 5 (.t 16)⟩])))))
def c_laws_eqIntSS : ACode :=
  (.seq (.reg [⟨none, .asg 4 (.c (.bool false))⟩])
  (.seq (.seq (.reg [⟨none, .mov 6 (.t 0)⟩,
       ⟨none, .len 7 (.t 6)⟩,
       ⟨none, .mov 8 (.t 1)⟩,
       ⟨none, .len 9 (.t 8)⟩,
       ⟨none, .bin 10 .neq (.t 7) (.t 9)⟩])
    (.drop [6, 7, 8, 9] (.cond (.t 10) (.seq (.reg [⟨none, .asg 4 (.c (.bool false))⟩])
      .ret)
     .skip)))
   (.drop [6, 7, 8, 9, 10] (.seq (.seq (.reg [⟨none, .asg 5 (.c (.int .i64 0))⟩])
     (.block 0 (.loop c_laws_eqIntSS_l1)))
    (.drop [5, 11, 12, 13, 14, 17, 18, 19, 20, 21, 22, 23, 24, 25, 26, 15, 16] (.seq (.reg [⟨none, .asg 4 (.c (.bool true))⟩])
     .ret))))))
abbrev r_laws_eqIntSS : List RS := [.t 4]
theorem k_laws_eqIntSS : fitsF Try.prog f_laws_eqIntSS 27 c_laws_eqIntSS r_laws_eqIntSS = true := by kernel_rfl

/- loop.example/g01078/laws.markIntSS: [a=0, k=1, a=2, k=3, i=5] -/
def c_laws_markIntSS_l1 : ACode :=
  (.seq (.seq (.reg [⟨none, .mov 6 (.t 5)⟩,
      ⟨none, .mov 7 (.t 0)⟩,
      ⟨none, .len 8 (.t 7)⟩,
      ⟨none, .bin 9 .lss (.t 6) (.t 8)⟩])
   (.drop [6, 7, 8] (.cond (.t 9) .skip
    (.exit 0))))
  (.drop [6, 7, 8, 9] (.seq (.block 1 (.reg [⟨none, .mov 12 (.t 0)⟩,
       ⟨none, .mov 13 (.t 5)⟩,
       ⟨none, .iad 14 1 (.t 12) (.t 13)⟩,
       ⟨none, .ld 15 1 false (.t 14)⟩,
       ⟨none, .mov 16 (.t 1)⟩,
       ⟨none, .call 17 f_laws_markIntS [((.t 15), true), ((.t 16), false)]⟩,
       ⟨none, .asg 1 (.t 17)⟩]))
   (.drop [12, 13, 14, 15, 16, 17] (.reg [⟨none, .mov 10 (.t 5)⟩,
      ⟨none, .bin 11 .add (.t 10) (.c (.int .i64 1))⟩,
      ⟨none, .asg 5 (.t 11)⟩])))))
def c_laws_markIntSS : ACode :=
  (.seq (.reg [⟨none, .asg 4 (.c (.int .i64 0))⟩])
  (.seq (.seq (.reg [⟨none, .asg 5 (.c (.int .i64 0))⟩])
    (.block 0 (.loop c_laws_markIntSS_l1)))
   (.drop [5, 6, 7, 8, 9, 12, 13, 14, 15, 16, 17, 10, 11] (.seq (.reg [⟨none, .mov 18 (.t 1)⟩,
       ⟨none, .asg 4 (.t 18)⟩])
    (.drop [18] .ret)))))
abbrev r_laws_markIntSS : List RS := [.t 4]
theorem k_laws_markIntSS : fitsF Try.prog f_laws_markIntSS 19 c_laws_markIntSS r_laws_markIntSS = true := by kernel_rfl

/- loop.example/g01078/laws.heldIntSS: [a=0, k=1, a=2, k=3, i=5] -/
def c_laws_heldIntSS_l1 : ACode :=
  (.seq (.seq (.reg [⟨none, .mov 6 (.t 5)⟩,
      ⟨none, .mov 7 (.t 0)⟩,
      ⟨none, .len 8 (.t 7)⟩,
      ⟨none, .bin 9 .lss (.t 6) (.t 8)⟩])
   (.drop [6, 7, 8] (.cond (.t 9) .skip
    (.exit 0))))
  (.drop [6, 7, 8, 9] (.seq (.block 1 (.seq (.reg [⟨none, .mov 12 (.t 0)⟩,
        ⟨none, .mov 13 (.t 5)⟩,
        ⟨none, .iad 14 1 (.t 12) (.t 13)⟩,
        ⟨none, .ld 15 1 false (.t 14)⟩,
        ⟨none, .mov 16 (.t 1)⟩,
        ⟨none, .call 17 f_laws_heldIntS [((.t 15), false), ((.t 16), false)]⟩,
        ⟨none, .asg 1 (.t 17)⟩])
     (.drop [12, 13, 14, 15, 16, 17] (.seq (.reg [⟨none, .mov 18 (.t 1)⟩,
         ⟨none, .bin 19 .lss (.t 18) (.c (.int .i64 0))⟩])
      (.drop [18] (.cond (.t 19) (.seq (.reg [⟨none, .asg 4 (.c (.int .i64 (-1)))⟩])
        .ret)
       .skip))))))
   (.drop [12, 13, 14, 15, 16, 17, 18, 19] (.reg [⟨none, .mov 10 (.t 5)⟩,
      ⟨none, .bin 11 .add (.t 10) (.c (.int .i64 1))⟩,
      ⟨none, .asg 5 (.t 11)⟩])))))
def c_laws_heldIntSS : ACode :=
  (.seq (.reg [⟨none, .asg 4 (.c (.int .i64 0))⟩])
  (.seq (.seq (.reg [⟨none, .asg 5 (.c (.int .i64 0))⟩])
    (.block 0 (.loop c_laws_heldIntSS_l1)))
   (.drop [5, 6, 7, 8, 9, 12, 13, 14, 15, 16, 17, 18, 19, 10, 11] (.seq (.reg [⟨none, .mov 20 (.t 1)⟩,
       ⟨none, .asg 4 (.t 20)⟩])
    (.drop [20] .ret)))))
abbrev r_laws_heldIntSS : List RS := [.t 4]
theorem k_laws_heldIntSS : fitsF Try.prog f_laws_heldIntSS 21 c_laws_heldIntSS r_laws_heldIntSS = true := by kernel_rfl

/- loop.example/g01078/laws.markOpS: [a=0, k=1, a=2, k=3, i=5] -/
def c_laws_markOpS_l1 : ACode :=
  (.seq (.seq (.reg [⟨none, .mov 6 (.t 5)⟩,
      ⟨none, .mov 7 (.t 0)⟩,
      ⟨none, .len 8 (.t 7)⟩,
      ⟨none, .bin 9 .lss (.t 6) (.t 8)⟩])
   (.drop [6, 7, 8] (.cond (.t 9) .skip
    (.exit 0))))
  (.drop [6, 7, 8, 9] (.seq (.block 1 (.seq (.reg [⟨none, .mov 12 (.t 0)⟩,
        ⟨none, .mov 13 (.t 5)⟩,
        ⟨none, .mov 14 (.t 1)⟩,
        ⟨none, .iad 15 2 (.t 12) (.t 13)⟩,
        ⟨none, .fadr 16 0 (.t 15)⟩,
        ⟨none, .st 1 (.t 16) (.t 14)⟩])
     (.drop [12, 13, 14, 15, 16] (.seq (.reg [⟨none, .mov 17 (.t 1)⟩,
         ⟨none, .bin 18 .add (.t 17) (.c (.int .i64 1))⟩,
         ⟨none, .asg 1 (.t 18)⟩])
      (.drop [17, 18] (.reg [⟨none, .mov 19 (.t 0)⟩,
         ⟨none, .mov 20 (.t 5)⟩,
         ⟨none, .iad 21 2 (.t 19) (.t 20)⟩,
         ⟨none, .fadr 22 1 (.t 21)⟩,
         ⟨none, .ld 23 1 false (.t 22)⟩,
         ⟨none, .mov 24 (.t 1)⟩,
         ⟨none, .call 25 f_laws_markIntS [((.t 23), true), ((.t 24), false)]⟩,
         ⟨none, .asg 1 (.t 25)⟩]))))))
   (.drop [12, 13, 14, 15, 16, 17, 18, 19, 20, 21, 22, 23, 24, 25] (.reg [⟨none, .mov 10 (.t 5)⟩,
      ⟨none, .bin 11 .add (.t 10) (.c (.int .i64 1))⟩,
      ⟨none, .asg 5 (.t 11)⟩])))))
def c_laws_markOpS : ACode :=
  (.seq (.reg [⟨none, .asg 4 (.c (.int .i64 0))⟩])
  (.seq (.seq (.reg [⟨none, .asg 5 (.c (.int .i64 0))⟩])
    (.block 0 (.loop c_laws_markOpS_l1)))
   (.drop [5, 6, 7, 8, 9, 12, 13, 14, 15, 16, 17, 18, 19, 20, 21, 22, 23, 24, 25, 10, 11] (.seq (.reg [⟨none, .mov 26 (.t 1)⟩,
       ⟨none, .asg 4 (.t 26)⟩])
    (.drop [26] .ret)))))
abbrev r_laws_markOpS : List RS := [.t 4]
theorem k_laws_markOpS : fitsF Try.prog f_laws_markOpS 27 c_laws_markOpS r_laws_markOpS = true := by kernel_rfl

/- loop.example/g01078/impl.orderOf: [p=0, p=1, n=4, o=5, x=6, list=7, _=8, y=9] -/
def c_impl_orderOf_k1 : ACode :=
  (.seq (.reg [⟨none, .mov 25 (.t 7)⟩,
           ⟨none, .call 26 f_impl_rises [((.t 25), false)]⟩,
           ⟨none, .un 27 .not (.t 26)⟩,
           ⟨none, .asg 28 (.t 27)⟩,
           ⟨some (28, false), .mov 29 (.t 7)⟩,
           ⟨some (28, false), .mov 30 (.t 4)⟩,
           ⟨some (28, false), .call 31 f_impl_inSize [((.t 29), false), ((.t 30), false)]⟩,
           ⟨some (28, false), .un 32 .not (.t 31)⟩,
           ⟨none, .pick 33 (.t 28) (.c (.bool true)) (.t 32)⟩])
        (.drop [25, 26, 27, 28, 29, 30, 31, 32] (.cond (.t 33) (.seq (.reg [⟨none, .asg 2 (.c (.nilsl 1))⟩,
             ⟨none, .asg 3 (.c (.bool false))⟩])
          .ret)
         .skip)))
def c_impl_orderOf_l1 : ACode :=
  (.seq (.reg [⟨none, .bin 37 .lss (.t 36) (.t 35)⟩])
  (.seq (.cond (.t 37) .skip
    (.exit 2))
   (.seq (.block 3 (.seq (.reg [⟨none, .iad 38 1 (.t 34) (.t 36)⟩,
         ⟨none, .ld 39 1 false (.t 38)⟩,
         ⟨none, .asg 9 (.t 39)⟩])
      (.drop [38, 39] (.reg [⟨none, .mov 40 (.t 5)⟩,
         ⟨none, .mov 41 (.t 9)⟩,
         ⟨none, .iad 42 1 (.t 40) (.t 41)⟩,
         ⟨none, .ld 43 1 false (.t 42)⟩,
         ⟨none, .mov 44 (.t 6)⟩,
         ⟨none, .iad 45 1 (.t 43) (.t 44)⟩,
         ⟨none, .st 1 (.t 45) (.c (.bool true))⟩]))))
    (.drop [38, 39, 9, 40, 41, 42, 43, 44, 45] (.reg [⟨none, .bin 46 .add (.t 36) (.c (.int .i64 1))⟩,
       ⟨none, .asg 36 (.t 46)⟩])))))
def c_impl_orderOf_l2 : ACode :=
  (.seq (.reg [⟨none, .bin 21 .lss (.t 20) (.t 19)⟩])
  (.seq (.cond (.t 21) .skip
    (.exit 0))
   (.seq (.block 1 (.seq (.reg [⟨none, .mov 22 (.t 20)⟩,
         ⟨none, .iad 23 1 (.t 18) (.t 20)⟩,
         ⟨none, .ld 24 1 false (.t 23)⟩,
         ⟨none, .asg 6 (.t 22)⟩,
         ⟨none, .asg 7 (.t 24)⟩])
      (.drop [22, 23, 24] (.seq (.cut c_impl_orderOf_k1)
       (.drop [25, 26, 27, 28, 29, 30, 31, 32, 33] (.seq (.reg [⟨none, .mov 34 (.t 7)⟩,
           ⟨none, .len 35 (.t 34)⟩,
           ⟨none, .mov 36 (.c (.int .i64 0))⟩])
        (.block 2 (.loop c_impl_orderOf_l1))))))))
    (.drop [22, 23, 24, 6, 7, 25, 26, 27, 28, 29, 30, 31, 32, 33, 34, 35, 36, 37, 38, 39, 9, 40, 41, 42, 43, 44, 45, 46] (.reg [⟨none, .bin 47 .add (.t 20) (.c (.int .i64 1))⟩,
       ⟨none, .asg 20 (.t 47)⟩])))))
def c_impl_orderOf : ACode :=
  (.seq (.reg [⟨none, .box 1 (.t 0)⟩,
     ⟨none, .asg 2 (.c (.nilsl 1))⟩,
     ⟨none, .asg 3 (.c (.bool false))⟩])
  (.seq (.reg [⟨none, .fadr 10 0 (.t 1)⟩,
      ⟨none, .ld 11 1 false (.t 10)⟩,
      ⟨none, .len 12 (.t 11)⟩,
      ⟨none, .asg 4 (.t 12)⟩])
   (.drop [10, 11, 12] (.seq (.seq (.reg [⟨none, .mov 13 (.t 4)⟩,
        ⟨none, .bin 14 .gtr (.t 13) (.c (.int .i64 10))⟩])
     (.drop [13] (.cond (.t 14) (.seq (.reg [⟨none, .asg 2 (.c (.nilsl 1))⟩,
          ⟨none, .asg 3 (.c (.bool false))⟩])
       .ret)
      .skip)))
    (.drop [13, 14] (.seq (.reg [⟨none, .mov 15 (.t 4)⟩,
        ⟨none, .call 16 f_impl_newOrder [((.t 15), false)]⟩,
        ⟨none, .asg 5 (.t 16)⟩])
     (.drop [15, 16] (.seq (.seq (.reg [⟨none, .fadr 17 0 (.t 1)⟩,
          ⟨none, .ld 18 1 false (.t 17)⟩,
          ⟨none, .len 19 (.t 18)⟩,
          ⟨none, .mov 20 (.c (.int .i64 0))⟩])
       (.drop [17] (.block 0 (.loop c_impl_orderOf_l2))))
      (.drop [17, 18, 19, 20, 21, 22, 23, 24, 6, 7, 25, 26, 27, 28, 29, 30, 31, 32, 33, 34, 35, 36, 37, 38, 39, 9, 40, 41, 42, 43, 44, 45, 46, 47] (.seq (.reg [⟨none, .mov 48 (.t 5)⟩,
          ⟨none, .mov 49 (.t 5)⟩,
          ⟨none, .call 50 f_impl_order_isOrder [((.t 49), false)]⟩,
          ⟨none, .asg 2 (.t 48)⟩,
          ⟨none, .asg 3 (.t 50)⟩])
       (.drop [48, 49, 50] .ret)))))))))))
abbrev r_impl_orderOf : List RS := [.t 2, .t 3]
theorem k_impl_orderOf : fitsF Try.prog f_impl_orderOf 51 c_impl_orderOf r_impl_orderOf = true := by kernel_rfl

/- (*loop.example/g01078/impl.lattice).algebra: [l=0, l=1] -/
def c_impl_lattice_algebra : ACode :=
  (.seq (.reg [⟨none, .alc 2 (.agg [.int .i64 0, .nilsl 2])⟩])
  (.seq (.dreg [(⟨none, .mov 3 (.t 0)⟩, [12, 17]),
      (⟨none, .nck 4 (.t 3)⟩, [12, 17]),
      (⟨none, .fadr 5 0 (.t 4)⟩, [12, 17]),
      (⟨none, .ld 6 1 false (.t 5)⟩, [12, 17]),
      (⟨none, .len 7 (.t 6)⟩, [12, 17]),
      (⟨none, .mov 8 (.t 0)⟩, [3, 4, 5, 6, 7]),
      (⟨none, .nck 9 (.t 8)⟩, [3, 4, 5, 6, 7]),
      (⟨none, .fadr 10 1 (.t 9)⟩, [3, 4, 5, 6, 7]),
      (⟨none, .ld 11 1 false (.t 10)⟩, [3, 4, 5, 6, 7]),
      (⟨none, .call 12 f_impl_flatOp [((.t 11), false)]⟩, [3, 4, 5, 6, 7]),
      (⟨none, .mov 13 (.t 0)⟩, [3, 4, 5, 6, 7, 8, 9, 10, 11, 12]),
      (⟨none, .nck 14 (.t 13)⟩, [3, 4, 5, 6, 7, 8, 9, 10, 11, 12]),
      (⟨none, .fadr 15 2 (.t 14)⟩, [3, 4, 5, 6, 7, 8, 9, 10, 11, 12]),
      (⟨none, .ld 16 1 false (.t 15)⟩, [3, 4, 5, 6, 7, 8, 9, 10, 11, 12]),
      (⟨none, .call 17 f_impl_flatOp [((.t 16), false)]⟩, [3, 4, 5, 6, 7]),
      (⟨none, .bsl 18 2 [(.t 12), (.t 17)]⟩, [3, 4, 5, 6, 7])]
     [⟨none, .bld 19 [.int .i64 0, .nilsl 2] [(0, 1, (.t 7)), (1, 1, (.t 18))]⟩,
      ⟨none, .st 2 (.t 2) (.t 19)⟩])
   (.drop [3, 4, 5, 6, 7, 8, 9, 10, 11, 12, 13, 14, 15, 16, 17, 18, 19] .ret)))
abbrev r_impl_lattice_algebra : List RS := [.c 2 2 true]
theorem k_impl_lattice_algebra : fitsF Try.prog f_impl_lattice_algebra 20 c_impl_lattice_algebra r_impl_lattice_algebra = true := by kernel_rfl

/- loop.example/g01078/spec.l23Leq: [p=0, x=1, y=2, p=3, x=4, y=5] -/
def c_spec_l23Leq : ACode :=
  (.seq (.reg [⟨none, .box 3 (.t 0)⟩,
     ⟨none, .asg 6 (.c (.bool false))⟩])
  (.seq (.reg [⟨none, .fadr 7 0 (.t 3)⟩,
      ⟨none, .ld 8 1 false (.t 7)⟩,
      ⟨none, .mov 9 (.t 2)⟩,
      ⟨none, .iad 10 1 (.t 8) (.t 9)⟩,
      ⟨none, .ld 11 1 false (.t 10)⟩,
      ⟨none, .mov 12 (.t 1)⟩,
      ⟨none, .call 13 f_spec_l1Has [((.t 11), false), ((.t 12), false)]⟩,
      ⟨none, .asg 6 (.t 13)⟩])
   (.drop [7, 8, 9, 10, 11, 12, 13] .ret)))
abbrev r_spec_l23Leq : List RS := [.t 6]
theorem k_spec_l23Leq : fitsF Try.prog f_spec_l23Leq 14 c_spec_l23Leq r_spec_l23Leq = true := by kernel_rfl

/- loop.example/g01078/impl.orderOfMeet: [n=0, table=1, n=2, table=3, o=5, x=6, y=7] -/
def c_impl_orderOfMeet_l1 : ACode :=
  (.seq (.reg [⟨none, .bin 18 .lss (.t 17) (.t 16)⟩])
  (.seq (.cond (.t 18) .skip
    (.exit 2))
   (.seq (.block 3 (.seq (.reg [⟨none, .mov 19 (.t 17)⟩,
         ⟨none, .asg 7 (.t 19)⟩])
      (.drop [19] (.dreg [(⟨none, .mov 20 (.t 5)⟩, []),
         (⟨none, .mov 21 (.t 6)⟩, [20]),
         (⟨none, .iad 22 1 (.t 20) (.t 21)⟩, []),
         (⟨none, .ld 23 1 false (.t 22)⟩, []),
         (⟨none, .mov 24 (.t 7)⟩, [20, 21, 22, 23]),
         (⟨none, .mov 25 (.t 1)⟩, [20, 21, 22, 23, 24]),
         (⟨none, .mov 26 (.t 6)⟩, [20, 21, 22, 23, 24, 25]),
         (⟨none, .mov 27 (.t 0)⟩, [20, 21, 22, 23, 24, 25, 26]),
         (⟨none, .bin 28 .mul (.t 26) (.t 27)⟩, [20, 21, 22, 23, 24, 25]),
         (⟨none, .mov 29 (.t 7)⟩, [20, 21, 22, 23, 24, 25, 26, 27, 28]),
         (⟨none, .bin 30 .add (.t 28) (.t 29)⟩, [20, 21, 22, 23, 24, 25]),
         (⟨none, .iad 31 1 (.t 25) (.t 30)⟩, [20, 21, 22, 23, 24]),
         (⟨none, .ld 32 1 false (.t 31)⟩, [20, 21, 22, 23, 24]),
         (⟨none, .mov 33 (.t 6)⟩, [20, 21, 22, 23, 24, 25, 26, 27, 28, 29, 30, 31, 32]),
         (⟨none, .bin 34 .eql (.t 32) (.t 33)⟩, [20, 21, 22, 23, 24])]
        [⟨none, .iad 35 1 (.t 23) (.t 24)⟩,
         ⟨none, .st 1 (.t 35) (.t 34)⟩]))))
    (.drop [19, 7, 20, 21, 22, 23, 24, 25, 26, 27, 28, 29, 30, 31, 32, 33, 34, 35] (.reg [⟨none, .bin 36 .add (.t 17) (.c (.int .i64 1))⟩,
       ⟨none, .asg 17 (.t 36)⟩])))))
def c_impl_orderOfMeet_l2 : ACode :=
  (.seq (.reg [⟨none, .bin 13 .lss (.t 12) (.t 11)⟩])
  (.seq (.cond (.t 13) .skip
    (.exit 0))
   (.seq (.block 1 (.seq (.reg [⟨none, .mov 14 (.t 12)⟩,
         ⟨none, .asg 6 (.t 14)⟩])
      (.drop [14] (.seq (.reg [⟨none, .mov 15 (.t 5)⟩,
          ⟨none, .len 16 (.t 15)⟩,
          ⟨none, .mov 17 (.c (.int .i64 0))⟩])
       (.drop [15] (.block 2 (.loop c_impl_orderOfMeet_l1)))))))
    (.drop [14, 6, 15, 16, 17, 18, 19, 7, 20, 21, 22, 23, 24, 25, 26, 27, 28, 29, 30, 31, 32, 33, 34, 35, 36] (.reg [⟨none, .bin 37 .add (.t 12) (.c (.int .i64 1))⟩,
       ⟨none, .asg 12 (.t 37)⟩])))))
def c_impl_orderOfMeet : ACode :=
  (.seq (.reg [⟨none, .asg 4 (.c (.nilsl 1))⟩])
  (.seq (.reg [⟨none, .mov 8 (.t 0)⟩,
      ⟨none, .call 9 f_impl_newOrder [((.t 8), false)]⟩,
      ⟨none, .asg 5 (.t 9)⟩])
   (.drop [8, 9] (.seq (.seq (.reg [⟨none, .mov 10 (.t 5)⟩,
        ⟨none, .len 11 (.t 10)⟩,
        ⟨none, .mov 12 (.c (.int .i64 0))⟩])
     (.drop [10] (.block 0 (.loop c_impl_orderOfMeet_l2))))
    (.drop [10, 11, 12, 13, 14, 6, 15, 16, 17, 18, 19, 7, 20, 21, 22, 23, 24, 25, 26, 27, 28, 29, 30, 31, 32, 33, 34, 35, 36, 37] (.seq (.reg [⟨none, .mov 38 (.t 5)⟩,
        ⟨none, .asg 4 (.t 38)⟩])
     (.drop [38] .ret)))))))
abbrev r_impl_orderOfMeet : List RS := [.t 4]
theorem k_impl_orderOfMeet : fitsF Try.prog f_impl_orderOfMeet 39 c_impl_orderOfMeet r_impl_orderOfMeet = true := by kernel_rfl

/- loop.example/g01078/impl.sameAlgebra: [a=0, b=1, a=2, b=3, i=5, f=6] -/
def c_impl_sameAlgebra_k1 : ACode :=
  (.seq (.reg [⟨none, .fadr 7 0 (.t 2)⟩,
       ⟨none, .ld 8 1 false (.t 7)⟩,
       ⟨none, .fadr 9 0 (.t 3)⟩,
       ⟨none, .ld 10 1 false (.t 9)⟩,
       ⟨none, .bin 11 .neq (.t 8) (.t 10)⟩,
       ⟨none, .asg 12 (.t 11)⟩,
       ⟨some (12, false), .fadr 13 1 (.t 2)⟩,
       ⟨some (12, false), .ld 14 1 false (.t 13)⟩,
       ⟨some (12, false), .len 15 (.t 14)⟩,
       ⟨some (12, false), .fadr 16 1 (.t 3)⟩,
       ⟨some (12, false), .ld 17 1 false (.t 16)⟩,
       ⟨some (12, false), .len 18 (.t 17)⟩,
       ⟨some (12, false), .bin 19 .neq (.t 15) (.t 18)⟩,
       ⟨none, .pick 20 (.t 12) (.c (.bool true)) (.t 19)⟩])
    (.drop [7, 8, 9, 10, 11, 12, 13, 14, 15, 16, 17, 18, 19] (.cond (.t 20) (.seq (.reg [⟨none, .asg 4 (.c (.bool false))⟩])
      .ret)
     .skip)))
def c_impl_sameAlgebra_l1 : ACode :=
  (.seq (.reg [⟨none, .bin 25 .lss (.t 24) (.t 23)⟩])
  (.seq (.cond (.t 25) .skip
    (.exit 0))
   (.seq (.block 1 (.seq (.reg [⟨none, .mov 26 (.t 24)⟩,
         ⟨none, .iad 27 2 (.t 22) (.t 24)⟩,
         ⟨none, .ld 28 2 true (.t 27)⟩,
         ⟨none, .alc 6 (.agg [.int .i64 0, .nilsl 1])⟩,
         ⟨none, .asg 5 (.t 26)⟩,
         ⟨none, .st 2 (.t 6) (.t 28)⟩])
      (.drop [26, 27, 28] (.seq (.dreg [(⟨none, .fadr 29 0 (.t 6)⟩, []),
          (⟨none, .ld 30 1 false (.t 29)⟩, []),
          (⟨none, .fadr 31 1 (.t 3)⟩, [29, 30]),
          (⟨none, .ld 32 1 false (.t 31)⟩, [29, 30]),
          (⟨none, .mov 33 (.t 5)⟩, [29, 30, 31, 32]),
          (⟨none, .iad 34 2 (.t 32) (.t 33)⟩, [29, 30]),
          (⟨none, .fadr 35 0 (.t 34)⟩, [29, 30]),
          (⟨none, .ld 36 1 false (.t 35)⟩, [29, 30]),
          (⟨none, .bin 37 .neq (.t 30) (.t 36)⟩, []),
          (⟨none, .asg 38 (.t 37)⟩, []),
          (⟨some (38, false), .fadr 39 1 (.t 6)⟩, [37]),
          (⟨some (38, false), .ld 40 1 false (.t 39)⟩, [37]),
          (⟨some (38, false), .fadr 41 1 (.t 3)⟩, [39, 40, 37]),
          (⟨some (38, false), .ld 42 1 false (.t 41)⟩, [39, 40, 37]),
          (⟨some (38, false), .mov 43 (.t 5)⟩, [39, 40, 41, 42, 37]),
          (⟨some (38, false), .iad 44 2 (.t 42) (.t 43)⟩, [39, 40, 37]),
          (⟨some (38, false), .fadr 45 1 (.t 44)⟩, [39, 40, 37]),
          (⟨some (38, false), .ld 46 1 false (.t 45)⟩, [39, 40, 37])]
         [⟨some (38, false), .call 47 f_impl_sameList [((.t 40), false), ((.t 46), false)]⟩,
          ⟨some (38, false), .un 48 .not (.t 47)⟩,
          ⟨none, .pick 49 (.t 38) (.c (.bool true)) (.t 48)⟩])
       (.drop [29, 30, 31, 32, 33, 34, 35, 36, 37, 38, 39, 40, 41, 42, 43, 44, 45, 46, 47, 48] (.cond (.t 49) (.seq (.reg [⟨none, .asg 4 (.c (.bool false))⟩])
         .ret)
        .skip))))))
    (.drop [26, 27, 28, 6, 5, 29, 30, 31, 32, 33, 34, 35, 36, 37, 38, 39, 40, 41, 42, 43, 44, 45, 46, 47, 48, 49] (.reg [⟨none, .bin 50 .add (.t 24) (.c (.int .i64 1))⟩,
       ⟨none, .asg 24 (.t 50)⟩])))))
def c_impl_sameAlgebra : ACode :=
  (.seq (.reg [⟨none, .box 2 (.t 0)⟩,
     ⟨none, .box 3 (.t 1)⟩,
     ⟨none, .asg 4 (.c (.bool false))⟩])
  (.seq (.cut c_impl_sameAlgebra_k1)
   (.drop [7, 8, 9, 10, 11, 12, 13, 14, 15, 16, 17, 18, 19, 20] (.seq (.seq (.reg [⟨none, .fadr 21 1 (.t 2)⟩,
        ⟨none, .ld 22 1 false (.t 21)⟩,
        ⟨none, .len 23 (.t 22)⟩,
        ⟨none, .mov 24 (.c (.int .i64 0))⟩])
     (.drop [21] (.block 0 (.loop c_impl_sameAlgebra_l1))))
    (.drop [21, 22, 23, 24, 25, 26, 27, 28, 6, 5, 29, 30, 31, 32, 33, 34, 35, 36, 37, 38, 39, 40, 41, 42, 43, 44, 45, 46, 47, 48, 49, 50] (.seq (.reg [⟨none, .asg 4 (.c (.bool true))⟩])
     .ret))))))
abbrev r_impl_sameAlgebra : List RS := [.t 4]
theorem k_impl_sameAlgebra : fitsF Try.prog f_impl_sameAlgebra 51 c_impl_sameAlgebra r_impl_sameAlgebra = true := by kernel_rfl

/- loop.example/g01078/laws.szOp: [a=0, left=1, a=2, left=3] -/
def c_laws_szOp : ACode :=
  (.seq (.reg [⟨none, .box 2 (.t 0)⟩,
     ⟨none, .asg 4 (.c (.int .i64 0))⟩])
  (.seq (.reg [⟨none, .fadr 5 1 (.t 2)⟩,
      ⟨none, .ld 6 1 false (.t 5)⟩,
      ⟨none, .mov 7 (.t 1)⟩,
      ⟨none, .call 8 f_laws_szIntS [((.t 6), false), ((.t 7), false)]⟩,
      ⟨none, .asg 1 (.t 8)⟩])
   (.drop [5, 6, 7, 8] (.seq (.seq (.reg [⟨none, .mov 9 (.t 1)⟩,
        ⟨none, .bin 10 .lss (.t 9) (.c (.int .i64 0))⟩])
     (.drop [9] (.cond (.t 10) (.seq (.reg [⟨none, .asg 4 (.c (.int .i64 (-1)))⟩])
       .ret)
      .skip)))
    (.drop [9, 10] (.seq (.reg [⟨none, .mov 11 (.t 1)⟩,
        ⟨none, .asg 4 (.t 11)⟩])
     (.drop [11] .ret)))))))
abbrev r_laws_szOp : List RS := [.t 4]
theorem k_laws_szOp : fitsF Try.prog f_laws_szOp 12 c_laws_szOp r_laws_szOp = true := by kernel_rfl

/- loop.example/g01078/spec.l2Op: [n=0, op=1, n=2, op=3, i=5] -/
def c_spec_l2Op_k1 : ACode :=
  (.seq (.dreg [(⟨none, .fadr 6 0 (.t 3)⟩, []),
       (⟨none, .ld 7 1 false (.t 6)⟩, []),
       (⟨none, .call 8 f_spec_l1In [((.t 7), false), ((.c (.int .i64 0)), false), ((.c (.int .i64 3)), false)]⟩, []),
       (⟨none, .un 9 .not (.t 8)⟩, []),
       (⟨none, .asg 10 (.t 9)⟩, []),
       (⟨some (10, false), .fadr 11 1 (.t 3)⟩, [9]),
       (⟨some (10, false), .ld 12 1 false (.t 11)⟩, [9]),
       (⟨some (10, false), .len 13 (.t 12)⟩, [9]),
       (⟨some (10, false), .mov 14 (.t 0)⟩, [11, 12, 13, 9]),
       (⟨some (10, false), .fadr 15 0 (.t 3)⟩, [11, 12, 13, 14, 9]),
       (⟨some (10, false), .ld 16 1 false (.t 15)⟩, [11, 12, 13, 14, 9]),
       (⟨some (10, false), .call 17 f_spec_l2Pow [((.t 14), false), ((.t 16), false)]⟩, [11, 12, 13, 9])]
      [⟨some (10, false), .bin 18 .neq (.t 13) (.t 17)⟩,
       ⟨none, .pick 19 (.t 10) (.c (.bool true)) (.t 18)⟩])
    (.drop [6, 7, 8, 9, 10, 11, 12, 13, 14, 15, 16, 17, 18] (.cond (.t 19) (.seq (.reg [⟨none, .asg 4 (.c (.bool false))⟩])
      .ret)
     .skip)))
def c_spec_l2Op_l1 : ACode :=
  (.seq (.seq (.reg [⟨none, .mov 20 (.t 5)⟩,
      ⟨none, .fadr 21 1 (.t 3)⟩,
      ⟨none, .ld 22 1 false (.t 21)⟩,
      ⟨none, .len 23 (.t 22)⟩,
      ⟨none, .bin 24 .lss (.t 20) (.t 23)⟩])
   (.drop [20, 21, 22, 23] (.cond (.t 24) .skip
    (.exit 0))))
  (.drop [20, 21, 22, 23, 24] (.seq (.block 1 (.seq (.reg [⟨none, .fadr 27 1 (.t 3)⟩,
        ⟨none, .ld 28 1 false (.t 27)⟩,
        ⟨none, .mov 29 (.t 5)⟩,
        ⟨none, .iad 30 1 (.t 28) (.t 29)⟩,
        ⟨none, .ld 31 1 false (.t 30)⟩,
        ⟨none, .mov 32 (.t 0)⟩,
        ⟨none, .bin 33 .sub (.t 32) (.c (.int .i64 1))⟩,
        ⟨none, .call 34 f_spec_l1In [((.t 31), false), ((.c (.int .i64 0)), false), ((.t 33), false)]⟩,
        ⟨none, .un 35 .not (.t 34)⟩])
     (.drop [27, 28, 29, 30, 31, 32, 33, 34] (.cond (.t 35) (.seq (.reg [⟨none, .asg 4 (.c (.bool false))⟩])
       .ret)
      .skip))))
   (.drop [27, 28, 29, 30, 31, 32, 33, 34, 35] (.reg [⟨none, .mov 25 (.t 5)⟩,
      ⟨none, .bin 26 .add (.t 25) (.c (.int .i64 1))⟩,
      ⟨none, .asg 5 (.t 26)⟩])))))
def c_spec_l2Op : ACode :=
  (.seq (.reg [⟨none, .box 3 (.t 1)⟩,
     ⟨none, .asg 4 (.c (.bool false))⟩])
  (.seq (.cut c_spec_l2Op_k1)
   (.drop [6, 7, 8, 9, 10, 11, 12, 13, 14, 15, 16, 17, 18, 19] (.seq (.seq (.reg [⟨none, .asg 5 (.c (.int .i64 0))⟩])
     (.block 0 (.loop c_spec_l2Op_l1)))
    (.drop [5, 20, 21, 22, 23, 24, 27, 28, 29, 30, 31, 32, 33, 34, 35, 25, 26] (.seq (.reg [⟨none, .asg 4 (.c (.bool true))⟩])
     .ret))))))
abbrev r_spec_l2Op : List RS := [.t 4]
theorem k_spec_l2Op : fitsF Try.prog f_spec_l2Op 36 c_spec_l2Op r_spec_l2Op = true := by kernel_rfl

/- loop.example/g01078/laws.toOp: [a=0, a=1, out=3] -/
def c_laws_toOp : ACode :=
  (.seq (.reg [⟨none, .box 1 (.t 0)⟩,
     ⟨none, .alc 2 (.agg [.int .i64 0, .nilsl 1])⟩])
  (.seq (.reg [⟨none, .alc 3 (.agg [.int .i64 0, .nilsl 1])⟩])
   (.seq (.reg [⟨none, .fadr 4 0 (.t 1)⟩,
       ⟨none, .ld 5 1 false (.t 4)⟩,
       ⟨none, .fadr 6 0 (.t 3)⟩,
       ⟨none, .st 1 (.t 6) (.t 5)⟩])
    (.drop [4, 5, 6] (.seq (.reg [⟨none, .fadr 7 1 (.t 1)⟩,
        ⟨none, .ld 8 1 false (.t 7)⟩,
        ⟨none, .call 9 f_laws_toIntS [((.t 8), false)]⟩,
        ⟨none, .fadr 10 1 (.t 3)⟩,
        ⟨none, .st 1 (.t 10) (.t 9)⟩])
     (.drop [7, 8, 9, 10] (.seq (.reg [⟨none, .ld 11 2 true (.t 3)⟩,
         ⟨none, .st 2 (.t 2) (.t 11)⟩])
      (.drop [11] .ret))))))))
abbrev r_laws_toOp : List RS := [.c 2 2 true]
theorem k_laws_toOp : fitsF Try.prog f_laws_toOp 12 c_laws_toOp r_laws_toOp = true := by kernel_rfl

/- loop.example/g01078/impl.isOp: [f=0, n=1, f=2, n=3] -/
def c_impl_isOp : ACode :=
  (.seq (.reg [⟨none, .box 2 (.t 0)⟩,
     ⟨none, .asg 4 (.c (.bool false))⟩])
  (.seq (.dreg [(⟨none, .fadr 5 0 (.t 2)⟩, []),
      (⟨none, .ld 6 1 false (.t 5)⟩, []),
      (⟨none, .bin 7 .geq (.t 6) (.c (.int .i64 0))⟩, []),
      (⟨none, .asg 8 (.t 7)⟩, []),
      (⟨some (8, true), .fadr 9 0 (.t 2)⟩, [7]),
      (⟨some (8, true), .ld 10 1 false (.t 9)⟩, [7]),
      (⟨some (8, true), .bin 11 .leq (.t 10) (.c (.int .i64 3))⟩, [7]),
      (⟨none, .pick 12 (.t 8) (.t 11) (.c (.bool false))⟩, [7]),
      (⟨none, .asg 13 (.t 12)⟩, [7]),
      (⟨some (13, true), .fadr 14 1 (.t 2)⟩, [7, 12]),
      (⟨some (13, true), .ld 15 1 false (.t 14)⟩, [7, 12]),
      (⟨some (13, true), .len 16 (.t 15)⟩, [7, 12]),
      (⟨some (13, true), .mov 17 (.t 1)⟩, [14, 15, 16, 7, 12]),
      (⟨some (13, true), .fadr 18 0 (.t 2)⟩, [14, 15, 16, 17, 7, 12]),
      (⟨some (13, true), .ld 19 1 false (.t 18)⟩, [14, 15, 16, 17, 7, 12]),
      (⟨some (13, true), .call 20 f_impl_power [((.t 17), false), ((.t 19), false)]⟩, [14, 15, 16, 7, 12]),
      (⟨some (13, true), .bin 21 .eql (.t 16) (.t 20)⟩, [7, 12]),
      (⟨none, .pick 22 (.t 13) (.t 21) (.c (.bool false))⟩, [7, 12]),
      (⟨none, .asg 23 (.t 22)⟩, [7, 12]),
      (⟨some (23, true), .fadr 24 1 (.t 2)⟩, [7, 12, 22]),
      (⟨some (23, true), .ld 25 1 false (.t 24)⟩, [7, 12, 22]),
      (⟨some (23, true), .mov 26 (.t 1)⟩, [24, 25, 7, 12, 22])]
     [⟨some (23, true), .call 27 f_impl_inSize [((.t 25), false), ((.t 26), false)]⟩,
      ⟨none, .pick 28 (.t 23) (.t 27) (.c (.bool false))⟩,
      ⟨none, .asg 4 (.t 28)⟩])
   (.drop [5, 6, 7, 8, 9, 10, 11, 12, 13, 14, 15, 16, 17, 18, 19, 20, 21, 22, 23, 24, 25, 26, 27, 28] .ret)))
abbrev r_impl_isOp : List RS := [.t 4]
theorem k_impl_isOp : fitsF Try.prog f_impl_isOp 29 c_impl_isOp r_impl_isOp = true := by kernel_rfl

/- loop.example/g01078/laws.eqOp: [a=0, b=1, a=2, b=3] -/
def c_laws_eqOp : ACode :=
  (.seq (.reg [⟨none, .box 2 (.t 0)⟩,
     ⟨none, .box 3 (.t 1)⟩,
     ⟨none, .asg 4 (.c (.bool false))⟩])
  (.seq (.seq (.reg [⟨none, .fadr 5 0 (.t 2)⟩,
       ⟨none, .ld 6 1 false (.t 5)⟩,
       ⟨none, .fadr 7 0 (.t 3)⟩,
       ⟨none, .ld 8 1 false (.t 7)⟩,
       ⟨none, .bin 9 .neq (.t 6) (.t 8)⟩])
    (.drop [5, 6, 7, 8] (.cond (.t 9) (.seq (.reg [⟨none, .asg 4 (.c (.bool false))⟩])
      .ret)
     .skip)))
   (.drop [5, 6, 7, 8, 9] (.seq (.seq (.reg [⟨none, .fadr 10 1 (.t 2)⟩,
        ⟨none, .ld 11 1 false (.t 10)⟩,
        ⟨none, .fadr 12 1 (.t 3)⟩,
        ⟨none, .ld 13 1 false (.t 12)⟩,
        ⟨none, .call 14 f_laws_eqIntS [((.t 11), false), ((.t 13), false)]⟩,
        ⟨none, .un 15 .not (.t 14)⟩])
     (.drop [10, 11, 12, 13, 14] (.cond (.t 15) (.seq (.reg [⟨none, .asg 4 (.c (.bool false))⟩])
       .ret)
      .skip)))
    (.drop [10, 11, 12, 13, 14, 15] (.seq (.reg [⟨none, .asg 4 (.c (.bool true))⟩])
     .ret))))))
abbrev r_laws_eqOp : List RS := [.t 4]
theorem k_laws_eqOp : fitsF Try.prog f_laws_eqOp 16 c_laws_eqOp r_laws_eqOp = true := by kernel_rfl

/- loop.example/g01078/spec.l1Rising: [l=0, lo=1, hi=2, l=3, lo=4, hi=5, i=7] -/
def c_spec_l1Rising_l1 : ACode :=
  (.seq (.seq (.reg [⟨none, .mov 8 (.t 7)⟩,
      ⟨none, .mov 9 (.t 0)⟩,
      ⟨none, .len 10 (.t 9)⟩,
      ⟨none, .bin 11 .lss (.t 8) (.t 10)⟩])
   (.drop [8, 9, 10] (.cond (.t 11) .skip
    (.exit 0))))
  (.drop [8, 9, 10, 11] (.seq (.block 1 (.seq (.dreg [(⟨none, .mov 14 (.t 0)⟩, []),
        (⟨none, .mov 15 (.t 7)⟩, [14]),
        (⟨none, .iad 16 1 (.t 14) (.t 15)⟩, []),
        (⟨none, .ld 17 1 false (.t 16)⟩, []),
        (⟨none, .mov 18 (.t 1)⟩, [14, 15, 16, 17]),
        (⟨none, .mov 19 (.t 2)⟩, [14, 15, 16, 17, 18]),
        (⟨none, .call 20 f_spec_l1In [((.t 17), false), ((.t 18), false), ((.t 19), false)]⟩, []),
        (⟨none, .un 21 .not (.t 20)⟩, []),
        (⟨none, .asg 22 (.t 21)⟩, []),
        (⟨some (22, false), .mov 23 (.t 7)⟩, [21]),
        (⟨some (22, false), .bin 24 .gtr (.t 23) (.c (.int .i64 0))⟩, [21]),
        (⟨some (22, false), .asg 25 (.t 24)⟩, [21]),
        (⟨some (25, true), .mov 26 (.t 0)⟩, [21, 24]),
        (⟨some (25, true), .mov 27 (.t 7)⟩, [26, 21, 24]),
        (⟨some (25, true), .bin 28 .sub (.t 27) (.c (.int .i64 1))⟩, [26, 21, 24]),
        (⟨some (25, true), .iad 29 1 (.t 26) (.t 28)⟩, [21, 24]),
        (⟨some (25, true), .ld 30 1 false (.t 29)⟩, [21, 24]),
        (⟨some (25, true), .mov 31 (.t 0)⟩, [26, 27, 28, 29, 30, 21, 24]),
        (⟨some (25, true), .mov 32 (.t 7)⟩, [26, 27, 28, 29, 30, 31, 21, 24]),
        (⟨some (25, true), .iad 33 1 (.t 31) (.t 32)⟩, [26, 27, 28, 29, 30, 21, 24]),
        (⟨some (25, true), .ld 34 1 false (.t 33)⟩, [26, 27, 28, 29, 30, 21, 24])]
       [⟨some (25, true), .bin 35 .geq (.t 30) (.t 34)⟩,
        ⟨some (22, false), .pick 36 (.t 25) (.t 35) (.c (.bool false))⟩,
        ⟨none, .pick 37 (.t 22) (.c (.bool true)) (.t 36)⟩])
     (.drop [14, 15, 16, 17, 18, 19, 20, 21, 22, 23, 24, 25, 26, 27, 28, 29, 30, 31, 32, 33, 34, 35, 36] (.cond (.t 37) (.seq (.reg [⟨none, .asg 6 (.c (.bool false))⟩])
       .ret)
      .skip))))
   (.drop [14, 15, 16, 17, 18, 19, 20, 21, 22, 23, 24, 25, 26, 27, 28, 29, 30, 31, 32, 33, 34, 35, 36, 37] (.reg [⟨none, .mov 12 (.t 7)⟩,
      ⟨none, .bin 13 .add (.t 12) (.c (.int .i64 1))⟩,
      ⟨none, .asg 7 (.t 13)⟩])))))
def c_spec_l1Rising : ACode :=
  (.seq (.reg [⟨none, .asg 6 (.c (.bool false))⟩])
  (.seq (.seq (.reg [⟨none, .asg 7 (.c (.int .i64 0))⟩])
    (.block 0 (.loop c_spec_l1Rising_l1)))
   (.drop [7, 8, 9, 10, 11, 14, 15, 16, 17, 18, 19, 20, 21, 22, 23, 24, 25, 26, 27, 28, 29, 30, 31, 32, 33, 34, 35, 36, 37, 12, 13] (.seq (.reg [⟨none, .asg 6 (.c (.bool true))⟩])
    .ret))))
abbrev r_spec_l1Rising : List RS := [.t 6]
theorem k_spec_l1Rising : fitsF Try.prog f_spec_l1Rising 38 c_spec_l1Rising r_spec_l1Rising = true := by kernel_rfl

/- loop.example/g01078/spec.l5Within: [x=0, y=1, x=2, y=3, i=5] -/
def c_spec_l5Within_l1 : ACode :=
  (.seq (.seq (.reg [⟨none, .mov 6 (.t 5)⟩,
      ⟨none, .mov 7 (.t 0)⟩,
      ⟨none, .len 8 (.t 7)⟩,
      ⟨none, .bin 9 .lss (.t 6) (.t 8)⟩])
   (.drop [6, 7, 8] (.cond (.t 9) .skip
    (.exit 0))))
  (.drop [6, 7, 8, 9] (.seq (.block 1 (.seq (.reg [⟨none, .mov 12 (.t 1)⟩,
        ⟨none, .mov 13 (.t 0)⟩,
        ⟨none, .mov 14 (.t 5)⟩,
        ⟨none, .iad 15 1 (.t 13) (.t 14)⟩,
        ⟨none, .ld 16 1 false (.t 15)⟩,
        ⟨none, .call 17 f_spec_l1Has [((.t 12), false), ((.t 16), false)]⟩,
        ⟨none, .un 18 .not (.t 17)⟩])
     (.drop [12, 13, 14, 15, 16, 17] (.cond (.t 18) (.seq (.reg [⟨none, .asg 4 (.c (.bool false))⟩])
       .ret)
      .skip))))
   (.drop [12, 13, 14, 15, 16, 17, 18] (.reg [⟨none, .mov 10 (.t 5)⟩,
      ⟨none, .bin 11 .add (.t 10) (.c (.int .i64 1))⟩,
      ⟨none, .asg 5 (.t 11)⟩])))))
def c_spec_l5Within : ACode :=
  (.seq (.reg [⟨none, .asg 4 (.c (.bool false))⟩])
  (.seq (.seq (.reg [⟨none, .asg 5 (.c (.int .i64 0))⟩])
    (.block 0 (.loop c_spec_l5Within_l1)))
   (.drop [5, 6, 7, 8, 9, 12, 13, 14, 15, 16, 17, 18, 10, 11] (.seq (.reg [⟨none, .asg 4 (.c (.bool true))⟩])
    .ret))))
abbrev r_spec_l5Within : List RS := [.t 4]
theorem k_spec_l5Within : fitsF Try.prog f_spec_l5Within 19 c_spec_l5Within r_spec_l5Within = true := by kernel_rfl

/- (loop.example/g01078/impl.order).meetTable: [o=0, o=1, table=4, x=5, row=6, y=7, m=8] -/
def c_impl_order_meetTable_l1 : ACode :=
  (.seq (.reg [⟨none, .bin 19 .lss (.t 18) (.t 17)⟩])
  (.seq (.cond (.t 19) .skip
    (.exit 2))
   (.seq (.block 3 (.seq (.reg [⟨none, .mov 20 (.t 18)⟩,
         ⟨none, .alc 7 (.int .i64 0)⟩,
         ⟨none, .st 1 (.t 7) (.t 20)⟩])
      (.drop [20] (.seq (.dreg [(⟨none, .ld 21 1 false (.t 1)⟩, []),
          (⟨none, .ld 22 1 false (.t 1)⟩, [21]),
          (⟨none, .mkf 23 f_impl_order_meetTable_1 [(.t 1), (.t 5), (.t 7)]⟩, [21, 22]),
          (⟨none, .call 24 f_impl_order_those [((.t 22), false), ((.t 23), false)]⟩, [21])]
         [⟨none, .call 25 f_impl_order_greatest [((.t 21), false), ((.t 24), false)]⟩,
          ⟨none, .asg 8 (.t 25)⟩])
       (.drop [21, 22, 23, 24, 25] (.seq (.seq (.reg [⟨none, .mov 26 (.t 8)⟩,
            ⟨none, .bin 27 .lss (.t 26) (.c (.int .i64 0))⟩])
         (.drop [26] (.cond (.t 27) (.seq (.reg [⟨none, .asg 2 (.c (.nilsl 1))⟩,
              ⟨none, .asg 3 (.c (.bool false))⟩])
           .ret)
          .skip)))
        (.drop [26, 27] (.reg [⟨none, .mov 28 (.t 6)⟩,
           ⟨none, .mov 29 (.t 8)⟩,
           ⟨none, .bsl 30 1 [(.t 29)]⟩,
           ⟨none, .app 31 1 (.t 28) (.t 30)⟩,
           ⟨none, .asg 6 (.t 31)⟩]))))))))
    (.drop [20, 7, 21, 22, 23, 24, 25, 8, 26, 27, 28, 29, 30, 31] (.reg [⟨none, .bin 32 .add (.t 18) (.c (.int .i64 1))⟩,
       ⟨none, .asg 18 (.t 32)⟩])))))
def c_impl_order_meetTable_l2 : ACode :=
  (.seq (.reg [⟨none, .bin 13 .lss (.t 12) (.t 11)⟩])
  (.seq (.cond (.t 13) .skip
    (.exit 0))
   (.seq (.block 1 (.seq (.reg [⟨none, .mov 14 (.t 12)⟩,
         ⟨none, .alc 5 (.int .i64 0)⟩,
         ⟨none, .st 1 (.t 5) (.t 14)⟩])
      (.drop [14] (.seq (.reg [⟨none, .bsl 15 1 []⟩,
          ⟨none, .asg 6 (.t 15)⟩])
       (.drop [15] (.seq (.seq (.reg [⟨none, .ld 16 1 false (.t 1)⟩,
            ⟨none, .len 17 (.t 16)⟩,
            ⟨none, .mov 18 (.c (.int .i64 0))⟩])
         (.drop [16] (.block 2 (.loop c_impl_order_meetTable_l1))))
        (.drop [16, 17, 18, 19, 20, 7, 21, 22, 23, 24, 25, 8, 26, 27, 28, 29, 30, 31, 32] (.reg [⟨none, .mov 33 (.t 4)⟩,
           ⟨none, .mov 34 (.t 6)⟩,
           ⟨none, .bsl 35 1 [(.t 34)]⟩,
           ⟨none, .app 36 1 (.t 33) (.t 35)⟩,
           ⟨none, .asg 4 (.t 36)⟩]))))))))
    (.drop [14, 5, 15, 6, 16, 17, 18, 19, 20, 7, 21, 22, 23, 24, 25, 8, 26, 27, 28, 29, 30, 31, 32, 33, 34, 35, 36] (.reg [⟨none, .bin 37 .add (.t 12) (.c (.int .i64 1))⟩,
       ⟨none, .asg 12 (.t 37)⟩])))))
def c_impl_order_meetTable : ACode :=
  (.seq (.reg [⟨none, .box 1 (.t 0)⟩,
     ⟨none, .asg 2 (.c (.nilsl 1))⟩,
     ⟨none, .asg 3 (.c (.bool false))⟩])
  (.seq (.reg [⟨none, .bsl 9 1 []⟩,
      ⟨none, .asg 4 (.t 9)⟩])
   (.drop [9] (.seq (.seq (.reg [⟨none, .ld 10 1 false (.t 1)⟩,
        ⟨none, .len 11 (.t 10)⟩,
        ⟨none, .mov 12 (.c (.int .i64 0))⟩])
     (.drop [10] (.block 0 (.loop c_impl_order_meetTable_l2))))
    (.drop [10, 11, 12, 13, 14, 5, 15, 6, 16, 17, 18, 19, 20, 7, 21, 22, 23, 24, 25, 8, 26, 27, 28, 29, 30, 31, 32, 33, 34, 35, 36, 37] (.seq (.reg [⟨none, .mov 38 (.t 4)⟩,
        ⟨none, .asg 2 (.t 38)⟩,
        ⟨none, .asg 3 (.c (.bool true))⟩])
     (.drop [38] .ret)))))))
abbrev r_impl_order_meetTable : List RS := [.t 2, .t 3]
theorem k_impl_order_meetTable : fitsF Try.prog f_impl_order_meetTable 39 c_impl_order_meetTable r_impl_order_meetTable = true := by kernel_rfl

/- (loop.example/g01078/impl.order).dual: [o=0, o=1, d=3, x=4, y=5] -/
def c_impl_order_dual_l1 : ACode :=
  (.seq (.reg [⟨none, .bin 17 .lss (.t 16) (.t 15)⟩])
  (.seq (.cond (.t 17) .skip
    (.exit 2))
   (.seq (.block 3 (.seq (.reg [⟨none, .mov 18 (.t 16)⟩,
         ⟨none, .asg 5 (.t 18)⟩])
      (.drop [18] (.dreg [(⟨none, .mov 19 (.t 3)⟩, []),
         (⟨none, .mov 20 (.t 4)⟩, [19]),
         (⟨none, .iad 21 1 (.t 19) (.t 20)⟩, []),
         (⟨none, .ld 22 1 false (.t 21)⟩, []),
         (⟨none, .mov 23 (.t 5)⟩, [19, 20, 21, 22]),
         (⟨none, .mov 24 (.t 0)⟩, [19, 20, 21, 22, 23]),
         (⟨none, .mov 25 (.t 5)⟩, [19, 20, 21, 22, 23, 24]),
         (⟨none, .iad 26 1 (.t 24) (.t 25)⟩, [19, 20, 21, 22, 23]),
         (⟨none, .ld 27 1 false (.t 26)⟩, [19, 20, 21, 22, 23]),
         (⟨none, .mov 28 (.t 4)⟩, [19, 20, 21, 22, 23, 24, 25, 26, 27]),
         (⟨none, .iad 29 1 (.t 27) (.t 28)⟩, [19, 20, 21, 22, 23]),
         (⟨none, .ld 30 1 false (.t 29)⟩, [19, 20, 21, 22, 23])]
        [⟨none, .iad 31 1 (.t 22) (.t 23)⟩,
         ⟨none, .st 1 (.t 31) (.t 30)⟩]))))
    (.drop [18, 5, 19, 20, 21, 22, 23, 24, 25, 26, 27, 28, 29, 30, 31] (.reg [⟨none, .bin 32 .add (.t 16) (.c (.int .i64 1))⟩,
       ⟨none, .asg 16 (.t 32)⟩])))))
def c_impl_order_dual_l2 : ACode :=
  (.seq (.reg [⟨none, .bin 12 .lss (.t 11) (.t 10)⟩])
  (.seq (.cond (.t 12) .skip
    (.exit 0))
   (.seq (.block 1 (.seq (.reg [⟨none, .mov 13 (.t 11)⟩,
         ⟨none, .asg 4 (.t 13)⟩])
      (.drop [13] (.seq (.reg [⟨none, .mov 14 (.t 0)⟩,
          ⟨none, .len 15 (.t 14)⟩,
          ⟨none, .mov 16 (.c (.int .i64 0))⟩])
       (.drop [14] (.block 2 (.loop c_impl_order_dual_l1)))))))
    (.drop [13, 4, 14, 15, 16, 17, 18, 5, 19, 20, 21, 22, 23, 24, 25, 26, 27, 28, 29, 30, 31, 32] (.reg [⟨none, .bin 33 .add (.t 11) (.c (.int .i64 1))⟩,
       ⟨none, .asg 11 (.t 33)⟩])))))
def c_impl_order_dual : ACode :=
  (.seq (.reg [⟨none, .asg 2 (.c (.nilsl 1))⟩])
  (.seq (.reg [⟨none, .mov 6 (.t 0)⟩,
      ⟨none, .len 7 (.t 6)⟩,
      ⟨none, .call 8 f_impl_newOrder [((.t 7), false)]⟩,
      ⟨none, .asg 3 (.t 8)⟩])
   (.drop [6, 7, 8] (.seq (.seq (.reg [⟨none, .mov 9 (.t 0)⟩,
        ⟨none, .len 10 (.t 9)⟩,
        ⟨none, .mov 11 (.c (.int .i64 0))⟩])
     (.drop [9] (.block 0 (.loop c_impl_order_dual_l2))))
    (.drop [9, 10, 11, 12, 13, 4, 14, 15, 16, 17, 18, 5, 19, 20, 21, 22, 23, 24, 25, 26, 27, 28, 29, 30, 31, 32, 33] (.seq (.reg [⟨none, .mov 34 (.t 3)⟩,
        ⟨none, .asg 2 (.t 34)⟩])
     (.drop [34] .ret)))))))
abbrev r_impl_order_dual : List RS := [.t 2]
theorem k_impl_order_dual : fitsF Try.prog f_impl_order_dual 35 c_impl_order_dual r_impl_order_dual = true := by kernel_rfl

/- loop.example/g01078/laws.markAlgebra: [a=0, k=1, a=2, k=3] -/
def c_laws_markAlgebra : ACode :=
  (.seq (.reg [⟨none, .box 2 (.t 0)⟩,
     ⟨none, .asg 4 (.c (.int .i64 0))⟩])
  (.seq (.reg [⟨none, .fadr 5 1 (.t 2)⟩,
      ⟨none, .ld 6 1 false (.t 5)⟩,
      ⟨none, .mov 7 (.t 1)⟩,
      ⟨none, .call 8 f_laws_markOpS [((.t 6), true), ((.t 7), false)]⟩,
      ⟨none, .asg 1 (.t 8)⟩])
   (.drop [5, 6, 7, 8] (.seq (.reg [⟨none, .mov 9 (.t 1)⟩,
       ⟨none, .asg 4 (.t 9)⟩])
    (.drop [9] .ret)))))
abbrev r_laws_markAlgebra : List RS := [.t 4]
theorem k_laws_markAlgebra : fitsF Try.prog f_laws_markAlgebra 10 c_laws_markAlgebra r_laws_markAlgebra = true := by kernel_rfl

/- loop.example/g01078/laws.eqPoset: [a=0, b=1, a=2, b=3] -/
def c_laws_eqPoset : ACode :=
  (.seq (.reg [⟨none, .box 2 (.t 0)⟩,
     ⟨none, .box 3 (.t 1)⟩,
     ⟨none, .asg 4 (.c (.bool false))⟩])
  (.seq (.seq (.reg [⟨none, .fadr 5 0 (.t 2)⟩,
       ⟨none, .ld 6 1 false (.t 5)⟩,
       ⟨none, .fadr 7 0 (.t 3)⟩,
       ⟨none, .ld 8 1 false (.t 7)⟩,
       ⟨none, .call 9 f_laws_eqIntSS [((.t 6), false), ((.t 8), false)]⟩,
       ⟨none, .un 10 .not (.t 9)⟩])
    (.drop [5, 6, 7, 8, 9] (.cond (.t 10) (.seq (.reg [⟨none, .asg 4 (.c (.bool false))⟩])
      .ret)
     .skip)))
   (.drop [5, 6, 7, 8, 9, 10] (.seq (.reg [⟨none, .asg 4 (.c (.bool true))⟩])
    .ret))))
abbrev r_laws_eqPoset : List RS := [.t 4]
theorem k_laws_eqPoset : fitsF Try.prog f_laws_eqPoset 11 c_laws_eqPoset r_laws_eqPoset = true := by kernel_rfl

/- loop.example/g01078/laws.markPoset: [a=0, k=1, a=2, k=3] -/
def c_laws_markPoset : ACode :=
  (.seq (.reg [⟨none, .box 2 (.t 0)⟩,
     ⟨none, .asg 4 (.c (.int .i64 0))⟩])
  (.seq (.reg [⟨none, .fadr 5 0 (.t 2)⟩,
      ⟨none, .ld 6 1 false (.t 5)⟩,
      ⟨none, .mov 7 (.t 1)⟩,
      ⟨none, .call 8 f_laws_markIntSS [((.t 6), true), ((.t 7), false)]⟩,
      ⟨none, .asg 1 (.t 8)⟩])
   (.drop [5, 6, 7, 8] (.seq (.reg [⟨none, .mov 9 (.t 1)⟩,
       ⟨none, .asg 4 (.t 9)⟩])
    (.drop [9] .ret)))))
abbrev r_laws_markPoset : List RS := [.t 4]
theorem k_laws_markPoset : fitsF Try.prog f_laws_markPoset 10 c_laws_markPoset r_laws_markPoset = true := by kernel_rfl

/- loop.example/g01078/laws.heldPoset: [a=0, k=1, a=2, k=3] -/
def c_laws_heldPoset : ACode :=
  (.seq (.reg [⟨none, .box 2 (.t 0)⟩,
     ⟨none, .asg 4 (.c (.int .i64 0))⟩])
  (.seq (.reg [⟨none, .fadr 5 0 (.t 2)⟩,
      ⟨none, .ld 6 1 false (.t 5)⟩,
      ⟨none, .mov 7 (.t 1)⟩,
      ⟨none, .call 8 f_laws_heldIntSS [((.t 6), false), ((.t 7), false)]⟩,
      ⟨none, .asg 1 (.t 8)⟩])
   (.drop [5, 6, 7, 8] (.seq (.seq (.reg [⟨none, .mov 9 (.t 1)⟩,
        ⟨none, .bin 10 .lss (.t 9) (.c (.int .i64 0))⟩])
     (.drop [9] (.cond (.t 10) (.seq (.reg [⟨none, .asg 4 (.c (.int .i64 (-1)))⟩])
       .ret)
      .skip)))
    (.drop [9, 10] (.seq (.reg [⟨none, .mov 11 (.t 1)⟩,
        ⟨none, .asg 4 (.t 11)⟩])
     (.drop [11] .ret)))))))
abbrev r_laws_heldPoset : List RS := [.t 4]
theorem k_laws_heldPoset : fitsF Try.prog f_laws_heldPoset 12 c_laws_heldPoset r_laws_heldPoset = true := by kernel_rfl

/- loop.example/g01078/laws.szOpS: [a=0, left=1, a=2, left=3, i=5] -/
def c_laws_szOpS_l1 : ACode :=
  (.seq (.seq (.reg [⟨none, .mov 12 (.t 5)⟩,
      ⟨none, .mov 13 (.t 0)⟩,
      ⟨none, .len 14 (.t 13)⟩,
      ⟨none, .bin 15 .lss (.t 12) (.t 14)⟩])
   (.drop [12, 13, 14] (.cond (.t 15) .skip
    (.exit 0))))
  (.drop [12, 13, 14, 15] (.seq (.block 1 (.seq (.reg [⟨none, .mov 18 (.t 0)⟩,
        ⟨none, .mov 19 (.t 5)⟩,
        ⟨none, .iad 20 2 (.t 18) (.t 19)⟩,
        ⟨none, .ld 21 2 true (.t 20)⟩,
        ⟨none, .mov 22 (.t 1)⟩,
        ⟨none, .call 23 f_laws_szOp [((.t 21), false), ((.t 22), false)]⟩,
        ⟨none, .asg 1 (.t 23)⟩])
     (.drop [18, 19, 20, 21, 22, 23] (.seq (.reg [⟨none, .mov 24 (.t 1)⟩,
         ⟨none, .bin 25 .lss (.t 24) (.c (.int .i64 0))⟩])
      (.drop [24] (.cond (.t 25) (.seq (.reg [⟨none, .asg 4 (.c (.int .i64 (-1)))⟩])
        .ret)
       .skip))))))
   (.drop [18, 19, 20, 21, 22, 23, 24, 25] (.reg [⟨none, .mov 16 (.t 5)⟩,
      ⟨none, .bin 17 .add (.t 16) (.c (.int .i64 1))⟩,
      ⟨none, .asg 5 (.t 17)⟩])))))
def c_laws_szOpS : ACode :=
  (.seq (.reg [⟨none, .asg 4 (.c (.int .i64 0))⟩])
  (.seq (.reg [⟨none, .mov 6 (.t 1)⟩,
      ⟨none, .mov 7 (.t 0)⟩,
      ⟨none, .len 8 (.t 7)⟩,
      ⟨none, .bin 9 .sub (.t 6) (.t 8)⟩,
      ⟨none, .asg 1 (.t 9)⟩])
   (.drop [6, 7, 8, 9] (.seq (.seq (.reg [⟨none, .mov 10 (.t 1)⟩,
        ⟨none, .bin 11 .lss (.t 10) (.c (.int .i64 0))⟩])
     (.drop [10] (.cond (.t 11) (.seq (.reg [⟨none, .asg 4 (.c (.int .i64 (-1)))⟩])
       .ret)
      .skip)))
    (.drop [10, 11] (.seq (.seq (.reg [⟨none, .asg 5 (.c (.int .i64 0))⟩])
      (.block 0 (.loop c_laws_szOpS_l1)))
     (.drop [5, 12, 13, 14, 15, 18, 19, 20, 21, 22, 23, 24, 25, 16, 17] (.seq (.reg [⟨none, .mov 26 (.t 1)⟩,
         ⟨none, .asg 4 (.t 26)⟩])
      (.drop [26] .ret)))))))))
abbrev r_laws_szOpS : List RS := [.t 4]
theorem k_laws_szOpS : fitsF Try.prog f_laws_szOpS 27 c_laws_szOpS r_laws_szOpS = true := by kernel_rfl

/- loop.example/g01078/spec.l2Good: [a=0, a=1, i=3] -/
def c_spec_l2Good_k1 : ACode :=
  (.seq (.reg [⟨none, .fadr 4 0 (.t 1)⟩,
       ⟨none, .ld 5 1 false (.t 4)⟩,
       ⟨none, .call 6 f_spec_l1In [((.t 5), false), ((.c (.int .i64 1)), false), ((.c (.int .i64 8)), false)]⟩,
       ⟨none, .un 7 .not (.t 6)⟩,
       ⟨none, .asg 8 (.t 7)⟩,
       ⟨some (8, false), .fadr 9 1 (.t 1)⟩,
       ⟨some (8, false), .ld 10 1 false (.t 9)⟩,
       ⟨some (8, false), .len 11 (.t 10)⟩,
       ⟨some (8, false), .bin 12 .gtr (.t 11) (.c (.int .i64 4))⟩,
       ⟨none, .pick 13 (.t 8) (.c (.bool true)) (.t 12)⟩])
    (.drop [4, 5, 6, 7, 8, 9, 10, 11, 12] (.cond (.t 13) (.seq (.reg [⟨none, .asg 2 (.c (.bool false))⟩])
      .ret)
     .skip)))
def c_spec_l2Good_l1 : ACode :=
  (.seq (.seq (.reg [⟨none, .mov 14 (.t 3)⟩,
      ⟨none, .fadr 15 1 (.t 1)⟩,
      ⟨none, .ld 16 1 false (.t 15)⟩,
      ⟨none, .len 17 (.t 16)⟩,
      ⟨none, .bin 18 .lss (.t 14) (.t 17)⟩])
   (.drop [14, 15, 16, 17] (.cond (.t 18) .skip
    (.exit 0))))
  (.drop [14, 15, 16, 17, 18] (.seq (.block 1 (.seq (.dreg [(⟨none, .fadr 21 0 (.t 1)⟩, []),
        (⟨none, .ld 22 1 false (.t 21)⟩, []),
        (⟨none, .fadr 23 1 (.t 1)⟩, [21, 22]),
        (⟨none, .ld 24 1 false (.t 23)⟩, [21, 22]),
        (⟨none, .mov 25 (.t 3)⟩, [21, 22, 23, 24]),
        (⟨none, .iad 26 2 (.t 24) (.t 25)⟩, [21, 22]),
        (⟨none, .ld 27 2 true (.t 26)⟩, [21, 22])]
       [⟨none, .call 28 f_spec_l2Op [((.t 22), false), ((.t 27), false)]⟩,
        ⟨none, .un 29 .not (.t 28)⟩])
     (.drop [21, 22, 23, 24, 25, 26, 27, 28] (.cond (.t 29) (.seq (.reg [⟨none, .asg 2 (.c (.bool false))⟩])
       .ret)
      .skip))))
   (.drop [21, 22, 23, 24, 25, 26, 27, 28, 29] (.reg [⟨none, .mov 19 (.t 3)⟩,
      ⟨none, .bin 20 .add (.t 19) (.c (.int .i64 1))⟩,
      ⟨none, .asg 3 (.t 20)⟩])))))
def c_spec_l2Good : ACode :=
  (.seq (.reg [⟨none, .box 1 (.t 0)⟩,
     ⟨none, .asg 2 (.c (.bool false))⟩])
  (.seq (.cut c_spec_l2Good_k1)
   (.drop [4, 5, 6, 7, 8, 9, 10, 11, 12, 13] (.seq (.seq (.reg [⟨none, .asg 3 (.c (.int .i64 0))⟩])
     (.block 0 (.loop c_spec_l2Good_l1)))
    (.drop [3, 14, 15, 16, 17, 18, 21, 22, 23, 24, 25, 26, 27, 28, 29, 19, 20] (.seq (.reg [⟨none, .asg 2 (.c (.bool true))⟩])
     .ret))))))
abbrev r_spec_l2Good : List RS := [.t 2]
theorem k_spec_l2Good : fitsF Try.prog f_spec_l2Good 30 c_spec_l2Good r_spec_l2Good = true := by kernel_rfl

/- loop.example/g01078/laws.toOpS: [a=0, a=1, out=3, i=4] -/
def c_laws_toOpS_l1 : ACode :=
  (.seq (.seq (.reg [⟨none, .mov 8 (.t 4)⟩,
      ⟨none, .mov 9 (.t 0)⟩,
      ⟨none, .len 10 (.t 9)⟩,
      ⟨none, .bin 11 .lss (.t 8) (.t 10)⟩])
   (.drop [8, 9, 10] (.cond (.t 11) .skip
    (.exit 0))))
  (.drop [8, 9, 10, 11] (.seq (.block 1 (.reg [⟨none, .mov 14 (.t 3)⟩,
       ⟨none, .mov 15 (.t 4)⟩,
       ⟨none, .mov 16 (.t 0)⟩,
       ⟨none, .mov 17 (.t 4)⟩,
       ⟨none, .iad 18 2 (.t 16) (.t 17)⟩,
       ⟨none, .ld 19 2 true (.t 18)⟩,
       ⟨none, .call 20 f_laws_toOp [((.t 19), false)]⟩,
       ⟨none, .iad 21 2 (.t 14) (.t 15)⟩,
       ⟨none, .st 2 (.t 21) (.t 20)⟩]))
   (.drop [14, 15, 16, 17, 18, 19, 20, 21] (.reg [⟨none, .mov 12 (.t 4)⟩,
      ⟨none, .bin 13 .add (.t 12) (.c (.int .i64 1))⟩,
      ⟨none, .asg 4 (.t 13)⟩])))))
def c_laws_toOpS : ACode :=
  (.seq (.reg [⟨none, .asg 2 (.c (.nilsl 2))⟩])
  (.seq (.reg [⟨none, .mov 5 (.t 0)⟩,
      ⟨none, .len 6 (.t 5)⟩,
      ⟨none, .mk 7 2 (.agg [.int .i64 0, .nilsl 1]) (.t 6)⟩,
      ⟨none, .asg 3 (.t 7)⟩])
   (.drop [5, 6, 7] (.seq (.seq (.reg [⟨none, .asg 4 (.c (.int .i64 0))⟩])
     (.block 0 (.loop c_laws_toOpS_l1)))
    (.drop [4, 8, 9, 10, 11, 14, 15, 16, 17, 18, 19, 20, 21, 12, 13] (.seq (.reg [⟨none, .mov 22 (.t 3)⟩,
        ⟨none, .asg 2 (.t 22)⟩])
     (.drop [22] .ret)))))))
abbrev r_laws_toOpS : List RS := [.t 2]
theorem k_laws_toOpS : fitsF Try.prog f_laws_toOpS 23 c_laws_toOpS r_laws_toOpS = true := by kernel_rfl

/- loop.example/g01078/impl.IsAlgebra: [a=0, a=1, _=3, f=4] -/
def c_impl_IsAlgebra_k1 : ACode :=
  (.seq (.reg [⟨none, .fadr 5 0 (.t 1)⟩,
       ⟨none, .ld 6 1 false (.t 5)⟩,
       ⟨none, .bin 7 .lss (.t 6) (.c (.int .i64 1))⟩,
       ⟨none, .asg 8 (.t 7)⟩,
       ⟨some (8, false), .fadr 9 0 (.t 1)⟩,
       ⟨some (8, false), .ld 10 1 false (.t 9)⟩,
       ⟨some (8, false), .bin 11 .gtr (.t 10) (.c (.int .i64 8))⟩,
       ⟨none, .pick 12 (.t 8) (.c (.bool true)) (.t 11)⟩,
       ⟨none, .asg 13 (.t 12)⟩,
       ⟨some (13, false), .fadr 14 1 (.t 1)⟩,
       ⟨some (13, false), .ld 15 1 false (.t 14)⟩,
       ⟨some (13, false), .len 16 (.t 15)⟩,
       ⟨some (13, false), .bin 17 .gtr (.t 16) (.c (.int .i64 4))⟩,
       ⟨none, .pick 18 (.t 13) (.c (.bool true)) (.t 17)⟩])
    (.drop [5, 6, 7, 8, 9, 10, 11, 12, 13, 14, 15, 16, 17] (.cond (.t 18) (.seq (.reg [⟨none, .asg 2 (.c (.bool false))⟩])
      .ret)
     .skip)))
def c_impl_IsAlgebra_l1 : ACode :=
  (.seq (.reg [⟨none, .bin 23 .lss (.t 22) (.t 21)⟩])
  (.seq (.cond (.t 23) .skip
    (.exit 0))
   (.seq (.block 1 (.seq (.reg [⟨none, .iad 24 2 (.t 20) (.t 22)⟩,
         ⟨none, .ld 25 2 true (.t 24)⟩,
         ⟨none, .alc 4 (.agg [.int .i64 0, .nilsl 1])⟩,
         ⟨none, .st 2 (.t 4) (.t 25)⟩])
      (.drop [24, 25] (.seq (.reg [⟨none, .ld 26 2 true (.t 4)⟩,
          ⟨none, .fadr 27 0 (.t 1)⟩,
          ⟨none, .ld 28 1 false (.t 27)⟩,
          ⟨none, .call 29 f_impl_isOp [((.t 26), false), ((.t 28), false)]⟩,
          ⟨none, .un 30 .not (.t 29)⟩])
       (.drop [26, 27, 28, 29] (.cond (.t 30) (.seq (.reg [⟨none, .asg 2 (.c (.bool false))⟩])
         .ret)
        .skip))))))
    (.drop [24, 25, 4, 26, 27, 28, 29, 30] (.reg [⟨none, .bin 31 .add (.t 22) (.c (.int .i64 1))⟩,
       ⟨none, .asg 22 (.t 31)⟩])))))
def c_impl_IsAlgebra : ACode :=
  (.seq (.reg [⟨none, .box 1 (.t 0)⟩,
     ⟨none, .asg 2 (.c (.bool false))⟩])
  (.seq (.cut c_impl_IsAlgebra_k1)
   (.drop [5, 6, 7, 8, 9, 10, 11, 12, 13, 14, 15, 16, 17, 18] (.seq (.seq (.reg [⟨none, .fadr 19 1 (.t 1)⟩,
        ⟨none, .ld 20 1 false (.t 19)⟩,
        ⟨none, .len 21 (.t 20)⟩,
        ⟨none, .mov 22 (.c (.int .i64 0))⟩])
     (.drop [19] (.block 0 (.loop c_impl_IsAlgebra_l1))))
    (.drop [19, 20, 21, 22, 23, 24, 25, 4, 26, 27, 28, 29, 30, 31] (.seq (.reg [⟨none, .asg 2 (.c (.bool true))⟩])
     .ret))))))
abbrev r_impl_IsAlgebra : List RS := [.t 2]
theorem k_impl_IsAlgebra : fitsF Try.prog f_impl_IsAlgebra 32 c_impl_IsAlgebra r_impl_IsAlgebra = true := by kernel_rfl

/- loop.example/g01078/laws.eqOpS: [a=0, b=1, a=2, b=3, i=5] -/
def c_laws_eqOpS_l1 : ACode :=
  (.seq (.seq (.reg [⟨none, .mov 11 (.t 5)⟩,
      ⟨none, .mov 12 (.t 0)⟩,
      ⟨none, .len 13 (.t 12)⟩,
      ⟨none, .bin 14 .lss (.t 11) (.t 13)⟩])
   (.drop [11, 12, 13] (.cond (.t 14) .skip
    (.exit 0))))
  (.drop [11, 12, 13, 14] (.seq (.block 1 (.seq (.dreg [(⟨none, .mov 17 (.t 0)⟩, []),
        (⟨none, .mov 18 (.t 5)⟩, [17]),
        (⟨none, .iad 19 2 (.t 17) (.t 18)⟩, []),
        (⟨none, .ld 20 2 true (.t 19)⟩, []),
        (⟨none, .mov 21 (.t 1)⟩, [17, 18, 19, 20]),
        (⟨none, .mov 22 (.t 5)⟩, [17, 18, 19, 20, 21]),
        (⟨none, .iad 23 2 (.t 21) (.t 22)⟩, [17, 18, 19, 20]),
        (⟨none, .ld 24 2 true (.t 23)⟩, [17, 18, 19, 20])]
       [⟨none, .call 25 f_laws_eqOp [((.t 20), false), ((.t 24), false)]⟩,
        ⟨none, .un 26 .not (.t 25)⟩])
     (.drop [17, 18, 19, 20, 21, 22, 23, 24, 25] (.cond (.t 26) (.seq (.reg [⟨none, .asg 4 (.c (.bool false))⟩])
       .ret)
      .skip))))
   (.drop [17, 18, 19, 20, 21, 22, 23, 24, 25, 26] (.reg [⟨none, .mov 15 (.t 5)⟩,
      ⟨none, .bin 16 .add (.t 15) (.c (.int .i64 1))⟩,
      ⟨none, .asg 5 (.t 16)⟩])))))
def c_laws_eqOpS : ACode :=
  (.seq (.reg [⟨none, .asg 4 (.c (.bool false))⟩])
  (.seq (.seq (.reg [⟨none, .mov 6 (.t 0)⟩,
       ⟨none, .len 7 (.t 6)⟩,
       ⟨none, .mov 8 (.t 1)⟩,
       ⟨none, .len 9 (.t 8)⟩,
       ⟨none, .bin 10 .neq (.t 7) (.t 9)⟩])
    (.drop [6, 7, 8, 9] (.cond (.t 10) (.seq (.reg [⟨none, .asg 4 (.c (.bool false))⟩])
      .ret)
     .skip)))
   (.drop [6, 7, 8, 9, 10] (.seq (.seq (.reg [⟨none, .asg 5 (.c (.int .i64 0))⟩])
     (.block 0 (.loop c_laws_eqOpS_l1)))
    (.drop [5, 11, 12, 13, 14, 17, 18, 19, 20, 21, 22, 23, 24, 25, 26, 15, 16] (.seq (.reg [⟨none, .asg 4 (.c (.bool true))⟩])
     .ret))))))
abbrev r_laws_eqOpS : List RS := [.t 4]
theorem k_laws_eqOpS : fitsF Try.prog f_laws_eqOpS 27 c_laws_eqOpS r_laws_eqOpS = true := by kernel_rfl

/- loop.example/g01078/spec.l23Good: [p=0, p=1, n=3, x=4, x=5, i=6, y=7] -/
def c_spec_l23Good_l1 : ACode :=
  (.seq (.seq (.reg [⟨none, .mov 13 (.t 4)⟩,
      ⟨none, .mov 14 (.t 3)⟩,
      ⟨none, .bin 15 .lss (.t 13) (.t 14)⟩])
   (.drop [13, 14] (.cond (.t 15) .skip
    (.exit 0))))
  (.drop [13, 14, 15] (.seq (.block 1 (.seq (.reg [⟨none, .fadr 18 0 (.t 1)⟩,
        ⟨none, .ld 19 1 false (.t 18)⟩,
        ⟨none, .mov 20 (.t 4)⟩,
        ⟨none, .iad 21 1 (.t 19) (.t 20)⟩,
        ⟨none, .ld 22 1 false (.t 21)⟩,
        ⟨none, .mov 23 (.t 3)⟩,
        ⟨none, .bin 24 .sub (.t 23) (.c (.int .i64 1))⟩,
        ⟨none, .call 25 f_spec_l1Rising [((.t 22), false), ((.c (.int .i64 0)), false), ((.t 24), false)]⟩,
        ⟨none, .un 26 .not (.t 25)⟩,
        ⟨none, .asg 27 (.t 26)⟩,
        ⟨some (27, false), .fadr 28 0 (.t 1)⟩,
        ⟨some (27, false), .ld 29 1 false (.t 28)⟩,
        ⟨some (27, false), .mov 30 (.t 4)⟩,
        ⟨some (27, false), .iad 31 1 (.t 29) (.t 30)⟩,
        ⟨some (27, false), .ld 32 1 false (.t 31)⟩,
        ⟨some (27, false), .mov 33 (.t 4)⟩,
        ⟨some (27, false), .call 34 f_spec_l1Has [((.t 32), false), ((.t 33), false)]⟩,
        ⟨some (27, false), .un 35 .not (.t 34)⟩,
        ⟨none, .pick 36 (.t 27) (.c (.bool true)) (.t 35)⟩])
     (.drop [18, 19, 20, 21, 22, 23, 24, 25, 26, 27, 28, 29, 30, 31, 32, 33, 34, 35] (.cond (.t 36) (.seq (.reg [⟨none, .asg 2 (.c (.bool false))⟩])
       .ret)
      .skip))))
   (.drop [18, 19, 20, 21, 22, 23, 24, 25, 26, 27, 28, 29, 30, 31, 32, 33, 34, 35, 36] (.reg [⟨none, .mov 16 (.t 4)⟩,
      ⟨none, .bin 17 .add (.t 16) (.c (.int .i64 1))⟩,
      ⟨none, .asg 4 (.t 17)⟩])))))
def c_spec_l23Good_l2 : ACode :=
  (.seq (.seq (.reg [⟨none, .mov 42 (.t 6)⟩,
      ⟨none, .fadr 43 0 (.t 1)⟩,
      ⟨none, .ld 44 1 false (.t 43)⟩,
      ⟨none, .mov 45 (.t 5)⟩,
      ⟨none, .iad 46 1 (.t 44) (.t 45)⟩,
      ⟨none, .ld 47 1 false (.t 46)⟩,
      ⟨none, .len 48 (.t 47)⟩,
      ⟨none, .bin 49 .lss (.t 42) (.t 48)⟩])
   (.drop [42, 43, 44, 45, 46, 47, 48] (.cond (.t 49) .skip
    (.exit 4))))
  (.drop [42, 43, 44, 45, 46, 47, 48, 49] (.seq (.block 5 (.seq (.reg [⟨none, .fadr 52 0 (.t 1)⟩,
        ⟨none, .ld 53 1 false (.t 52)⟩,
        ⟨none, .mov 54 (.t 5)⟩,
        ⟨none, .iad 55 1 (.t 53) (.t 54)⟩,
        ⟨none, .ld 56 1 false (.t 55)⟩,
        ⟨none, .mov 57 (.t 6)⟩,
        ⟨none, .iad 58 1 (.t 56) (.t 57)⟩,
        ⟨none, .ld 59 1 false (.t 58)⟩,
        ⟨none, .asg 7 (.t 59)⟩])
     (.drop [52, 53, 54, 55, 56, 57, 58, 59] (.seq (.dreg [(⟨none, .mov 60 (.t 7)⟩, []),
         (⟨none, .mov 61 (.t 5)⟩, [60]),
         (⟨none, .bin 62 .neq (.t 60) (.t 61)⟩, []),
         (⟨none, .asg 63 (.t 62)⟩, []),
         (⟨some (63, true), .fadr 64 0 (.t 1)⟩, [62]),
         (⟨some (63, true), .ld 65 1 false (.t 64)⟩, [62]),
         (⟨some (63, true), .mov 66 (.t 7)⟩, [64, 65, 62]),
         (⟨some (63, true), .iad 67 1 (.t 65) (.t 66)⟩, [62]),
         (⟨some (63, true), .ld 68 1 false (.t 67)⟩, [62]),
         (⟨some (63, true), .mov 69 (.t 5)⟩, [64, 65, 66, 67, 68, 62]),
         (⟨some (63, true), .call 70 f_spec_l1Has [((.t 68), false), ((.t 69), false)]⟩, [62]),
         (⟨none, .pick 71 (.t 63) (.t 70) (.c (.bool false))⟩, [62]),
         (⟨none, .asg 72 (.t 71)⟩, [62]),
         (⟨some (72, false), .fadr 73 0 (.t 1)⟩, [62, 71]),
         (⟨some (72, false), .ld 74 1 false (.t 73)⟩, [62, 71]),
         (⟨some (72, false), .mov 75 (.t 7)⟩, [73, 74, 62, 71]),
         (⟨some (72, false), .iad 76 1 (.t 74) (.t 75)⟩, [62, 71]),
         (⟨some (72, false), .ld 77 1 false (.t 76)⟩, [62, 71]),
         (⟨some (72, false), .fadr 78 0 (.t 1)⟩, [73, 74, 75, 76, 77, 62, 71]),
         (⟨some (72, false), .ld 79 1 false (.t 78)⟩, [73, 74, 75, 76, 77, 62, 71]),
         (⟨some (72, false), .mov 80 (.t 5)⟩, [73, 74, 75, 76, 77, 78, 79, 62, 71]),
         (⟨some (72, false), .iad 81 1 (.t 79) (.t 80)⟩, [73, 74, 75, 76, 77, 62, 71]),
         (⟨some (72, false), .ld 82 1 false (.t 81)⟩, [73, 74, 75, 76, 77, 62, 71])]
        [⟨some (72, false), .call 83 f_spec_l5Within [((.t 77), false), ((.t 82), false)]⟩,
         ⟨some (72, false), .un 84 .not (.t 83)⟩,
         ⟨none, .pick 85 (.t 72) (.c (.bool true)) (.t 84)⟩])
      (.drop [60, 61, 62, 63, 64, 65, 66, 67, 68, 69, 70, 71, 72, 73, 74, 75, 76, 77, 78, 79, 80, 81, 82, 83, 84] (.cond (.t 85) (.seq (.reg [⟨none, .asg 2 (.c (.bool false))⟩])
        .ret)
       .skip))))))
   (.drop [52, 53, 54, 55, 56, 57, 58, 59, 7, 60, 61, 62, 63, 64, 65, 66, 67, 68, 69, 70, 71, 72, 73, 74, 75, 76, 77, 78, 79, 80, 81, 82, 83, 84, 85] (.reg [⟨none, .mov 50 (.t 6)⟩,
      ⟨none, .bin 51 .add (.t 50) (.c (.int .i64 1))⟩,
      ⟨none, .asg 6 (.t 51)⟩])))))
def c_spec_l23Good_l3 : ACode :=
  (.seq (.seq (.reg [⟨none, .mov 37 (.t 5)⟩,
      ⟨none, .mov 38 (.t 3)⟩,
      ⟨none, .bin 39 .lss (.t 37) (.t 38)⟩])
   (.drop [37, 38] (.cond (.t 39) .skip
    (.exit 2))))
  (.drop [37, 38, 39] (.seq (.block 3 (.seq (.reg [⟨none, .asg 6 (.c (.int .i64 0))⟩])
     (.block 4 (.loop c_spec_l23Good_l2))))
   (.drop [6, 42, 43, 44, 45, 46, 47, 48, 49, 52, 53, 54, 55, 56, 57, 58, 59, 7, 60, 61, 62, 63, 64, 65, 66, 67, 68, 69, 70, 71, 72, 73, 74, 75, 76, 77, 78, 79, 80, 81, 82, 83, 84, 85, 50, 51] (.reg [⟨none, .mov 40 (.t 5)⟩,
      ⟨none, .bin 41 .add (.t 40) (.c (.int .i64 1))⟩,
      ⟨none, .asg 5 (.t 41)⟩])))))
def c_spec_l23Good : ACode :=
  (.seq (.reg [⟨none, .box 1 (.t 0)⟩,
     ⟨none, .asg 2 (.c (.bool false))⟩])
  (.seq (.reg [⟨none, .fadr 8 0 (.t 1)⟩,
      ⟨none, .ld 9 1 false (.t 8)⟩,
      ⟨none, .len 10 (.t 9)⟩,
      ⟨none, .asg 3 (.t 10)⟩])
   (.drop [8, 9, 10] (.seq (.seq (.reg [⟨none, .mov 11 (.t 3)⟩,
        ⟨none, .bin 12 .gtr (.t 11) (.c (.int .i64 10))⟩])
     (.drop [11] (.cond (.t 12) (.seq (.reg [⟨none, .asg 2 (.c (.bool false))⟩])
       .ret)
      .skip)))
    (.drop [11, 12] (.seq (.seq (.reg [⟨none, .asg 4 (.c (.int .i64 0))⟩])
      (.block 0 (.loop c_spec_l23Good_l1)))
     (.drop [4, 13, 14, 15, 18, 19, 20, 21, 22, 23, 24, 25, 26, 27, 28, 29, 30, 31, 32, 33, 34, 35, 36, 16, 17] (.seq (.seq (.reg [⟨none, .asg 5 (.c (.int .i64 0))⟩])
       (.block 2 (.loop c_spec_l23Good_l3)))
      (.drop [5, 37, 38, 39, 6, 42, 43, 44, 45, 46, 47, 48, 49, 52, 53, 54, 55, 56, 57, 58, 59, 7, 60, 61, 62, 63, 64, 65, 66, 67, 68, 69, 70, 71, 72, 73, 74, 75, 76, 77, 78, 79, 80, 81, 82, 83, 84, 85, 50, 51, 40, 41] (.seq (.reg [⟨none, .asg 2 (.c (.bool true))⟩])
       .ret))))))))))
abbrev r_spec_l23Good : List RS := [.t 2]
theorem k_spec_l23Good : fitsF Try.prog f_spec_l23Good 86 c_spec_l23Good r_spec_l23Good = true := by kernel_rfl

/- loop.example/g01078/impl.latticeOf: [p=0, p=1, o=4, ok=5, meets=6, one=7, joins=8, two=9] -/
def c_impl_latticeOf_k1 : ACode :=
  (.seq (.reg [⟨none, .mov 15 (.t 5)⟩,
        ⟨none, .un 16 .not (.t 15)⟩,
        ⟨none, .asg 17 (.t 16)⟩,
        ⟨some (17, false), .mov 18 (.t 4)⟩,
        ⟨some (17, false), .len 19 (.t 18)⟩,
        ⟨some (17, false), .bin 20 .eql (.t 19) (.c (.int .i64 0))⟩,
        ⟨none, .pick 21 (.t 17) (.c (.bool true)) (.t 20)⟩])
     (.drop [15, 16, 17, 18, 19, 20] (.cond (.t 21) (.seq (.reg [⟨none, .asg 2 (.c (.nilp))⟩,
          ⟨none, .asg 3 (.c (.bool false))⟩])
       .ret)
      .skip)))
def c_impl_latticeOf : ACode :=
  (.seq (.reg [⟨none, .box 1 (.t 0)⟩,
     ⟨none, .asg 2 (.c (.nilp))⟩,
     ⟨none, .asg 3 (.c (.bool false))⟩])
  (.seq (.reg [⟨none, .ld 11 1 true (.t 1)⟩,
      ⟨none, .call 12 f_impl_orderOf [((.t 11), false)]⟩,
      ⟨none, .asg 10 (.t 12)⟩,
      ⟨none, .ext 13 (.t 10) 0⟩,
      ⟨none, .ext 14 (.t 10) 1⟩,
      ⟨none, .asg 4 (.t 13)⟩,
      ⟨none, .asg 5 (.t 14)⟩])
   (.drop [11, 12, 10, 13, 14] (.seq (.cut c_impl_latticeOf_k1)
    (.drop [15, 16, 17, 18, 19, 20, 21] (.seq (.reg [⟨none, .mov 23 (.t 4)⟩,
        ⟨none, .call 24 f_impl_order_meetTable [((.t 23), false)]⟩,
        ⟨none, .asg 22 (.t 24)⟩,
        ⟨none, .ext 25 (.t 22) 0⟩,
        ⟨none, .ext 26 (.t 22) 1⟩,
        ⟨none, .asg 6 (.t 25)⟩,
        ⟨none, .asg 7 (.t 26)⟩])
     (.drop [23, 24, 22, 25, 26] (.seq (.reg [⟨none, .mov 28 (.t 4)⟩,
         ⟨none, .call 29 f_impl_order_dual [((.t 28), false)]⟩,
         ⟨none, .call 30 f_impl_order_meetTable [((.t 29), false)]⟩,
         ⟨none, .asg 27 (.t 30)⟩,
         ⟨none, .ext 31 (.t 27) 0⟩,
         ⟨none, .ext 32 (.t 27) 1⟩,
         ⟨none, .asg 8 (.t 31)⟩,
         ⟨none, .asg 9 (.t 32)⟩])
      (.drop [28, 29, 30, 27, 31, 32] (.seq (.reg [⟨none, .mov 33 (.t 4)⟩,
          ⟨none, .mov 34 (.t 6)⟩,
          ⟨none, .mov 35 (.t 8)⟩,
          ⟨none, .bld 36 [.nilsl 1, .nilsl 1, .nilsl 1] [(0, 1, (.t 33)), (1, 1, (.t 34)), (2, 1, (.t 35))]⟩,
          ⟨none, .box 37 (.t 36)⟩,
          ⟨none, .mov 38 (.t 7)⟩,
          ⟨none, .asg 39 (.t 38)⟩,
          ⟨some (39, true), .mov 40 (.t 9)⟩,
          ⟨none, .pick 41 (.t 39) (.t 40) (.c (.bool false))⟩,
          ⟨none, .asg 2 (.t 37)⟩,
          ⟨none, .asg 3 (.t 41)⟩])
       (.drop [33, 34, 35, 36, 37, 38, 39, 40, 41] .ret)))))))))))
abbrev r_impl_latticeOf : List RS := [.t 2, .t 3]
theorem k_impl_latticeOf : fitsF Try.prog f_impl_latticeOf 42 c_impl_latticeOf r_impl_latticeOf = true := by kernel_rfl

/- loop.example/g01078/spec.l23Dual: [p=0, p=1, out=3, x=4, below=5, y=6] -/
def c_spec_l23Dual_l1 : ACode :=
  (.seq (.seq (.reg [⟨none, .mov 17 (.t 6)⟩,
      ⟨none, .fadr 18 0 (.t 1)⟩,
      ⟨none, .ld 19 1 false (.t 18)⟩,
      ⟨none, .len 20 (.t 19)⟩,
      ⟨none, .bin 21 .lss (.t 17) (.t 20)⟩])
   (.drop [17, 18, 19, 20] (.cond (.t 21) .skip
    (.exit 2))))
  (.drop [17, 18, 19, 20, 21] (.seq (.block 3 (.seq (.reg [⟨none, .ld 24 1 true (.t 1)⟩,
        ⟨none, .mov 25 (.t 4)⟩,
        ⟨none, .mov 26 (.t 6)⟩,
        ⟨none, .call 27 f_spec_l23Leq [((.t 24), false), ((.t 25), false), ((.t 26), false)]⟩])
     (.drop [24, 25, 26] (.cond (.t 27) (.reg [⟨none, .mov 28 (.t 5)⟩,
         ⟨none, .mov 29 (.t 6)⟩,
         ⟨none, .bsl 30 1 [(.t 29)]⟩,
         ⟨none, .app 31 1 (.t 28) (.t 30)⟩,
         ⟨none, .asg 5 (.t 31)⟩])
      .skip))))
   (.drop [24, 25, 26, 27, 28, 29, 30, 31] (.reg [⟨none, .mov 22 (.t 6)⟩,
      ⟨none, .bin 23 .add (.t 22) (.c (.int .i64 1))⟩,
      ⟨none, .asg 6 (.t 23)⟩])))))
def c_spec_l23Dual_l2 : ACode :=
  (.seq (.seq (.reg [⟨none, .mov 9 (.t 4)⟩,
      ⟨none, .fadr 10 0 (.t 1)⟩,
      ⟨none, .ld 11 1 false (.t 10)⟩,
      ⟨none, .len 12 (.t 11)⟩,
      ⟨none, .bin 13 .lss (.t 9) (.t 12)⟩])
   (.drop [9, 10, 11, 12] (.cond (.t 13) .skip
    (.exit 0))))
  (.drop [9, 10, 11, 12, 13] (.seq (.block 1 (.seq (.reg [⟨none, .bsl 16 1 []⟩,
        ⟨none, .asg 5 (.t 16)⟩])
     (.drop [16] (.seq (.seq (.reg [⟨none, .asg 6 (.c (.int .i64 0))⟩])
       (.block 2 (.loop c_spec_l23Dual_l1)))
      (.drop [6, 17, 18, 19, 20, 21, 24, 25, 26, 27, 28, 29, 30, 31, 22, 23] (.reg [⟨none, .fadr 32 0 (.t 3)⟩,
         ⟨none, .ld 33 1 false (.t 32)⟩,
         ⟨none, .mov 34 (.t 5)⟩,
         ⟨none, .bsl 35 1 [(.t 34)]⟩,
         ⟨none, .app 36 1 (.t 33) (.t 35)⟩,
         ⟨none, .fadr 37 0 (.t 3)⟩,
         ⟨none, .st 1 (.t 37) (.t 36)⟩]))))))
   (.drop [16, 5, 6, 17, 18, 19, 20, 21, 24, 25, 26, 27, 28, 29, 30, 31, 22, 23, 32, 33, 34, 35, 36, 37] (.reg [⟨none, .mov 14 (.t 4)⟩,
      ⟨none, .bin 15 .add (.t 14) (.c (.int .i64 1))⟩,
      ⟨none, .asg 4 (.t 15)⟩])))))
def c_spec_l23Dual : ACode :=
  (.seq (.reg [⟨none, .box 1 (.t 0)⟩,
     ⟨none, .alc 2 (.agg [.nilsl 1])⟩])
  (.seq (.reg [⟨none, .bsl 7 1 []⟩,
      ⟨none, .bld 8 [.nilsl 1] [(0, 1, (.t 7))]⟩,
      ⟨none, .alc 3 (.agg [.nilsl 1])⟩,
      ⟨none, .st 1 (.t 3) (.t 8)⟩])
   (.drop [7, 8] (.seq (.seq (.reg [⟨none, .asg 4 (.c (.int .i64 0))⟩])
     (.block 0 (.loop c_spec_l23Dual_l2)))
    (.drop [4, 9, 10, 11, 12, 13, 16, 5, 6, 17, 18, 19, 20, 21, 24, 25, 26, 27, 28, 29, 30, 31, 22, 23, 32, 33, 34, 35, 36, 37, 14, 15] (.seq (.reg [⟨none, .ld 38 1 true (.t 3)⟩,
        ⟨none, .st 1 (.t 2) (.t 38)⟩])
     (.drop [38] .ret)))))))
abbrev r_spec_l23Dual : List RS := [.c 2 1 true]
theorem k_spec_l23Dual : fitsF Try.prog f_spec_l23Dual 39 c_spec_l23Dual r_spec_l23Dual = true := by kernel_rfl

/- loop.example/g01078/spec.l24Bound: [p=0, some=1, p=2, some=3, low=5, z=6, all=7, i=8, i=9] -/
def c_spec_l24Bound_l1 : ACode :=
  (.seq (.seq (.reg [⟨none, .mov 18 (.t 8)⟩,
      ⟨none, .mov 19 (.t 1)⟩,
      ⟨none, .len 20 (.t 19)⟩,
      ⟨none, .bin 21 .lss (.t 18) (.t 20)⟩])
   (.drop [18, 19, 20] (.cond (.t 21) .skip
    (.exit 2))))
  (.drop [18, 19, 20, 21] (.seq (.block 3 (.dreg [(⟨none, .mov 24 (.t 7)⟩, []),
       (⟨none, .asg 25 (.t 24)⟩, []),
       (⟨some (25, true), .ld 26 1 true (.t 2)⟩, [24]),
       (⟨some (25, true), .mov 27 (.t 6)⟩, [26, 24]),
       (⟨some (25, true), .mov 28 (.t 1)⟩, [26, 27, 24]),
       (⟨some (25, true), .mov 29 (.t 8)⟩, [26, 27, 28, 24]),
       (⟨some (25, true), .iad 30 1 (.t 28) (.t 29)⟩, [26, 27, 24]),
       (⟨some (25, true), .ld 31 1 false (.t 30)⟩, [26, 27, 24])]
      [⟨some (25, true), .call 32 f_spec_l23Leq [((.t 26), false), ((.t 27), false), ((.t 31), false)]⟩,
       ⟨none, .pick 33 (.t 25) (.t 32) (.c (.bool false))⟩,
       ⟨none, .asg 7 (.t 33)⟩]))
   (.drop [24, 25, 26, 27, 28, 29, 30, 31, 32, 33] (.reg [⟨none, .mov 22 (.t 8)⟩,
      ⟨none, .bin 23 .add (.t 22) (.c (.int .i64 1))⟩,
      ⟨none, .asg 8 (.t 23)⟩])))))
def c_spec_l24Bound_l2 : ACode :=
  (.seq (.seq (.reg [⟨none, .mov 11 (.t 6)⟩,
      ⟨none, .fadr 12 0 (.t 2)⟩,
      ⟨none, .ld 13 1 false (.t 12)⟩,
      ⟨none, .len 14 (.t 13)⟩,
      ⟨none, .bin 15 .lss (.t 11) (.t 14)⟩])
   (.drop [11, 12, 13, 14] (.cond (.t 15) .skip
    (.exit 0))))
  (.drop [11, 12, 13, 14, 15] (.seq (.block 1 (.seq (.reg [⟨none, .asg 7 (.c (.bool true))⟩])
     (.seq (.seq (.reg [⟨none, .asg 8 (.c (.int .i64 0))⟩])
       (.block 2 (.loop c_spec_l24Bound_l1)))
      (.drop [8, 18, 19, 20, 21, 24, 25, 26, 27, 28, 29, 30, 31, 32, 33, 22, 23] (.seq (.reg [⟨none, .mov 34 (.t 7)⟩])
       (.cond (.t 34) (.reg [⟨none, .mov 35 (.t 5)⟩,
           ⟨none, .mov 36 (.t 6)⟩,
           ⟨none, .bsl 37 1 [(.t 36)]⟩,
           ⟨none, .app 38 1 (.t 35) (.t 37)⟩,
           ⟨none, .asg 5 (.t 38)⟩])
        .skip))))))
   (.drop [7, 8, 18, 19, 20, 21, 24, 25, 26, 27, 28, 29, 30, 31, 32, 33, 22, 23, 34, 35, 36, 37, 38] (.reg [⟨none, .mov 16 (.t 6)⟩,
      ⟨none, .bin 17 .add (.t 16) (.c (.int .i64 1))⟩,
      ⟨none, .asg 6 (.t 17)⟩])))))
def c_spec_l24Bound_l3 : ACode :=
  (.seq (.seq (.reg [⟨none, .mov 39 (.t 9)⟩,
      ⟨none, .mov 40 (.t 5)⟩,
      ⟨none, .len 41 (.t 40)⟩,
      ⟨none, .bin 42 .lss (.t 39) (.t 41)⟩])
   (.drop [39, 40, 41] (.cond (.t 42) .skip
    (.exit 4))))
  (.drop [39, 40, 41, 42] (.seq (.block 5 (.seq (.dreg [(⟨none, .mov 45 (.t 5)⟩, []),
        (⟨none, .fadr 46 0 (.t 2)⟩, [45]),
        (⟨none, .ld 47 1 false (.t 46)⟩, [45]),
        (⟨none, .mov 48 (.t 5)⟩, [45, 46, 47]),
        (⟨none, .mov 49 (.t 9)⟩, [45, 46, 47, 48]),
        (⟨none, .iad 50 1 (.t 48) (.t 49)⟩, [45, 46, 47]),
        (⟨none, .ld 51 1 false (.t 50)⟩, [45, 46, 47]),
        (⟨none, .iad 52 1 (.t 47) (.t 51)⟩, [45]),
        (⟨none, .ld 53 1 false (.t 52)⟩, [45])]
       [⟨none, .call 54 f_spec_l5Within [((.t 45), false), ((.t 53), false)]⟩])
     (.drop [45, 46, 47, 48, 49, 50, 51, 52, 53] (.cond (.t 54) (.seq (.reg [⟨none, .mov 55 (.t 5)⟩,
          ⟨none, .mov 56 (.t 9)⟩,
          ⟨none, .iad 57 1 (.t 55) (.t 56)⟩,
          ⟨none, .ld 58 1 false (.t 57)⟩,
          ⟨none, .asg 4 (.t 58)⟩])
       (.drop [55, 56, 57, 58] .ret))
      .skip))))
   (.drop [45, 46, 47, 48, 49, 50, 51, 52, 53, 54, 55, 56, 57, 58] (.reg [⟨none, .mov 43 (.t 9)⟩,
      ⟨none, .bin 44 .add (.t 43) (.c (.int .i64 1))⟩,
      ⟨none, .asg 9 (.t 44)⟩])))))
def c_spec_l24Bound : ACode :=
  (.seq (.reg [⟨none, .box 2 (.t 0)⟩,
     ⟨none, .asg 4 (.c (.int .i64 0))⟩])
  (.seq (.reg [⟨none, .bsl 10 1 []⟩,
      ⟨none, .asg 5 (.t 10)⟩])
   (.drop [10] (.seq (.seq (.reg [⟨none, .asg 6 (.c (.int .i64 0))⟩])
     (.block 0 (.loop c_spec_l24Bound_l2)))
    (.drop [6, 11, 12, 13, 14, 15, 7, 8, 18, 19, 20, 21, 24, 25, 26, 27, 28, 29, 30, 31, 32, 33, 22, 23, 34, 35, 36, 37, 38, 16, 17] (.seq (.seq (.reg [⟨none, .asg 9 (.c (.int .i64 0))⟩])
      (.block 4 (.loop c_spec_l24Bound_l3)))
     (.drop [9, 39, 40, 41, 42, 45, 46, 47, 48, 49, 50, 51, 52, 53, 54, 55, 56, 57, 58, 43, 44] (.seq (.reg [⟨none, .asg 4 (.c (.int .i64 (-1)))⟩])
      .ret))))))))
abbrev r_spec_l24Bound : List RS := [.t 4]
theorem k_spec_l24Bound : fitsF Try.prog f_spec_l24Bound 59 c_spec_l24Bound r_spec_l24Bound = true := by kernel_rfl

/- loop.example/g01078/laws.szAlgebra: [a=0, left=1, a=2, left=3] -/
def c_laws_szAlgebra : ACode :=
  (.seq (.reg [⟨none, .box 2 (.t 0)⟩,
     ⟨none, .asg 4 (.c (.int .i64 0))⟩])
  (.seq (.reg [⟨none, .fadr 5 1 (.t 2)⟩,
      ⟨none, .ld 6 1 false (.t 5)⟩,
      ⟨none, .mov 7 (.t 1)⟩,
      ⟨none, .call 8 f_laws_szOpS [((.t 6), false), ((.t 7), false)]⟩,
      ⟨none, .asg 1 (.t 8)⟩])
   (.drop [5, 6, 7, 8] (.seq (.seq (.reg [⟨none, .mov 9 (.t 1)⟩,
        ⟨none, .bin 10 .lss (.t 9) (.c (.int .i64 0))⟩])
     (.drop [9] (.cond (.t 10) (.seq (.reg [⟨none, .asg 4 (.c (.int .i64 (-1)))⟩])
       .ret)
      .skip)))
    (.drop [9, 10] (.seq (.reg [⟨none, .mov 11 (.t 1)⟩,
        ⟨none, .asg 4 (.t 11)⟩])
     (.drop [11] .ret)))))))
abbrev r_laws_szAlgebra : List RS := [.t 4]
theorem k_laws_szAlgebra : fitsF Try.prog f_laws_szAlgebra 12 c_laws_szAlgebra r_laws_szAlgebra = true := by kernel_rfl

/- loop.example/g01078/laws.toAlgebra: [a=0, a=1, out=3] -/
def c_laws_toAlgebra : ACode :=
  (.seq (.reg [⟨none, .box 1 (.t 0)⟩,
     ⟨none, .alc 2 (.agg [.int .i64 0, .nilsl 2])⟩])
  (.seq (.reg [⟨none, .alc 3 (.agg [.int .i64 0, .nilsl 2])⟩])
   (.seq (.reg [⟨none, .fadr 4 0 (.t 1)⟩,
       ⟨none, .ld 5 1 false (.t 4)⟩,
       ⟨none, .fadr 6 0 (.t 3)⟩,
       ⟨none, .st 1 (.t 6) (.t 5)⟩])
    (.drop [4, 5, 6] (.seq (.reg [⟨none, .fadr 7 1 (.t 1)⟩,
        ⟨none, .ld 8 1 false (.t 7)⟩,
        ⟨none, .call 9 f_laws_toOpS [((.t 8), false)]⟩,
        ⟨none, .fadr 10 1 (.t 3)⟩,
        ⟨none, .st 1 (.t 10) (.t 9)⟩])
     (.drop [7, 8, 9, 10] (.seq (.reg [⟨none, .ld 11 2 true (.t 3)⟩,
         ⟨none, .st 2 (.t 2) (.t 11)⟩])
      (.drop [11] .ret))))))))
abbrev r_laws_toAlgebra : List RS := [.c 2 2 true]
theorem k_laws_toAlgebra : fitsF Try.prog f_laws_toAlgebra 12 c_laws_toAlgebra r_laws_toAlgebra = true := by kernel_rfl

end Go.Proofs.Ytdodfnbbfkcgnaa.Ax
