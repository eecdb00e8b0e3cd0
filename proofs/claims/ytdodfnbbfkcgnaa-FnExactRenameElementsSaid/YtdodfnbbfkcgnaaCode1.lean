/-
  The small code of the functions, written by program; that the program's code is this one, the kernel looks at.
-/
import Derived.Test.YtdodfnbbfkcgnaaAx3
import Derived.Test.YtdodfnbbfkcgnaaProg
import Derived.KernelRfl
import Derived.Test.YtdodfnbbfkcgnaaNum
namespace Go.Proofs.Ytdodfnbbfkcgnaa.Ax
open Go
set_option maxRecDepth 100000

/- loop.example/g01078/laws.toIntS: [a=0, a=1, out=3, i=4] -/
def c_laws_toIntS_l1 : ACode :=
  (.seq (.seq (.reg [⟨none, .mov 8 (.t 4)⟩,
      ⟨none, .mov 9 (.t 0)⟩,
      ⟨none, .len 10 (.t 9)⟩,
      ⟨none, .bin 11 .lss (.t 8) (.t 10)⟩])
   (.drop [8, 9, 10] (.cond (.t 11) .skip
    (.exit 0))))
  (.drop [8, 9, 10, 11] (.seq (.block 1 (.reg [⟨none, .mov 14 (.t 3)⟩,
       ⟨none, .mov 15 (.t 4)⟩,
       ⟨none, .mov 16 (.t 0)⟩,
       ⟨none, .mov 17 (.t 4)⟩,
       ⟨none, .iad 18 1 (.t 16) (.t 17)⟩,
       ⟨none, .ld 19 1 false (.t 18)⟩,
       ⟨none, .iad 20 1 (.t 14) (.t 15)⟩,
       ⟨none, .st 1 (.t 20) (.t 19)⟩]))
   (.drop [14, 15, 16, 17, 18, 19, 20] (.reg [⟨none, .mov 12 (.t 4)⟩,
      ⟨none, .bin 13 .add (.t 12) (.c (.int .i64 1))⟩,
      ⟨none, .asg 4 (.t 13)⟩])))))
def c_laws_toIntS : ACode :=
  (.seq (.reg [⟨none, .asg 2 (.c (.nilsl 1))⟩])
  (.seq (.reg [⟨none, .mov 5 (.t 0)⟩,
      ⟨none, .len 6 (.t 5)⟩,
      ⟨none, .mk 7 1 (.int .i64 0) (.t 6)⟩,
      ⟨none, .asg 3 (.t 7)⟩])
   (.drop [5, 6, 7] (.seq (.seq (.reg [⟨none, .asg 4 (.c (.int .i64 0))⟩])
     (.block 0 (.loop c_laws_toIntS_l1)))
    (.drop [4, 8, 9, 10, 11, 14, 15, 16, 17, 18, 19, 20, 12, 13] (.seq (.reg [⟨none, .mov 21 (.t 3)⟩,
        ⟨none, .asg 2 (.t 21)⟩])
     (.drop [21] .ret)))))))
abbrev r_laws_toIntS : List RS := [.t 2]
theorem k_laws_toIntS : fitsF Try.prog f_laws_toIntS 22 c_laws_toIntS r_laws_toIntS = true := by kernel_rfl

/- loop.example/g01078/laws.eqIntS: [a=0, b=1, a=2, b=3, i=5] -/
def c_laws_eqIntS_l1 : ACode :=
  (.seq (.seq (.reg [⟨none, .mov 11 (.t 5)⟩,
      ⟨none, .mov 12 (.t 0)⟩,
      ⟨none, .len 13 (.t 12)⟩,
      ⟨none, .bin 14 .lss (.t 11) (.t 13)⟩])
   (.drop [11, 12, 13] (.cond (.t 14) .skip
    (.exit 0))))
  (.drop [11, 12, 13, 14] (.seq (.block 1 (.seq (.dreg [(⟨none, .mov 17 (.t 0)⟩, []),
        (⟨none, .mov 18 (.t 5)⟩, [17]),
        (⟨none, .iad 19 1 (.t 17) (.t 18)⟩, []),
        (⟨none, .ld 20 1 false (.t 19)⟩, []),
        (⟨none, .mov 21 (.t 1)⟩, [17, 18, 19, 20]),
        (⟨none, .mov 22 (.t 5)⟩, [17, 18, 19, 20, 21]),
        (⟨none, .iad 23 1 (.t 21) (.t 22)⟩, [17, 18, 19, 20]),
        (⟨none, .ld 24 1 false (.t 23)⟩, [17, 18, 19, 20])]
       [⟨none, .bin 25 .neq (.t 20) (.t 24)⟩])
     (.drop [17, 18, 19, 20, 21, 22, 23, 24] (.cond (.t 25) (.seq (.reg [⟨none, .asg 4 (.c (.bool false))⟩])
       .ret)
      .skip))))
   (.drop [17, 18, 19, 20, 21, 22, 23, 24, 25] (.reg [⟨none, .mov 15 (.t 5)⟩,
      ⟨none, .bin 16 .add (.t 15) (.c (.int .i64 1))⟩,
      ⟨none, .asg 5 (.t 16)⟩])))))
def c_laws_eqIntS : ACode :=
  (.seq (.reg [⟨none, .asg 4 (.c (.bool false))⟩])
  (.seq (.seq (.reg [⟨none, .mov 6 (.t 0)⟩,
       ⟨none, .len 7 (.t 6)⟩,
       ⟨none, .mov 8 (.t 1)⟩,
       ⟨none, .len 9 (.t 8)⟩,
       ⟨none, .bin 10 .neq (.t 7) (.t 9)⟩])
    (.drop [6, 7, 8, 9] (.cond (.t 10) (.seq (.reg [⟨none, .asg 4 (.c (.bool false))⟩])
      .ret)
     .skip)))
   (.drop [6, 7, 8, 9, 10] (.seq (.seq (.reg [⟨none, .asg 5 (.c (.int .i64 0))⟩])
     (.block 0 (.loop c_laws_eqIntS_l1)))
    (.drop [5, 11, 12, 13, 14, 17, 18, 19, 20, 21, 22, 23, 24, 25, 15, 16] (.seq (.reg [⟨none, .asg 4 (.c (.bool true))⟩])
     .ret))))))
abbrev r_laws_eqIntS : List RS := [.t 4]
theorem k_laws_eqIntS : fitsF Try.prog f_laws_eqIntS 26 c_laws_eqIntS r_laws_eqIntS = true := by kernel_rfl

/- loop.example/g01078/laws.markIntS: [a=0, k=1, a=2, k=3, i=5] -/
def c_laws_markIntS_l1 : ACode :=
  (.seq (.seq (.reg [⟨none, .mov 6 (.t 5)⟩,
      ⟨none, .mov 7 (.t 0)⟩,
      ⟨none, .len 8 (.t 7)⟩,
      ⟨none, .bin 9 .lss (.t 6) (.t 8)⟩])
   (.drop [6, 7, 8] (.cond (.t 9) .skip
    (.exit 0))))
  (.drop [6, 7, 8, 9] (.seq (.block 1 (.seq (.reg [⟨none, .mov 12 (.t 0)⟩,
        ⟨none, .mov 13 (.t 5)⟩,
        ⟨none, .mov 14 (.t 1)⟩,
        ⟨none, .iad 15 1 (.t 12) (.t 13)⟩,
        ⟨none, .st 1 (.t 15) (.t 14)⟩])
     (.drop [12, 13, 14, 15] (.reg [⟨none, .mov 16 (.t 1)⟩,
        ⟨none, .bin 17 .add (.t 16) (.c (.int .i64 1))⟩,
        ⟨none, .asg 1 (.t 17)⟩]))))
   (.drop [12, 13, 14, 15, 16, 17] (.reg [⟨none, .mov 10 (.t 5)⟩,
      ⟨none, .bin 11 .add (.t 10) (.c (.int .i64 1))⟩,
      ⟨none, .asg 5 (.t 11)⟩])))))
def c_laws_markIntS : ACode :=
  (.seq (.reg [⟨none, .asg 4 (.c (.int .i64 0))⟩])
  (.seq (.seq (.reg [⟨none, .asg 5 (.c (.int .i64 0))⟩])
    (.block 0 (.loop c_laws_markIntS_l1)))
   (.drop [5, 6, 7, 8, 9, 12, 13, 14, 15, 16, 17, 10, 11] (.seq (.reg [⟨none, .mov 18 (.t 1)⟩,
       ⟨none, .asg 4 (.t 18)⟩])
    (.drop [18] .ret)))))
abbrev r_laws_markIntS : List RS := [.t 4]
theorem k_laws_markIntS : fitsF Try.prog f_laws_markIntS 19 c_laws_markIntS r_laws_markIntS = true := by kernel_rfl

/- loop.example/g01078/laws.heldIntS: [a=0, k=1, a=2, k=3, i=5] -/
def c_laws_heldIntS_l1 : ACode :=
  (.seq (.seq (.reg [⟨none, .mov 6 (.t 5)⟩,
      ⟨none, .mov 7 (.t 0)⟩,
      ⟨none, .len 8 (.t 7)⟩,
      ⟨none, .bin 9 .lss (.t 6) (.t 8)⟩])
   (.drop [6, 7, 8] (.cond (.t 9) .skip
    (.exit 0))))
  (.drop [6, 7, 8, 9] (.seq (.block 1 (.seq (.seq (.reg [⟨none, .mov 12 (.t 0)⟩,
         ⟨none, .mov 13 (.t 5)⟩,
         ⟨none, .iad 14 1 (.t 12) (.t 13)⟩,
         ⟨none, .ld 15 1 false (.t 14)⟩,
         ⟨none, .mov 16 (.t 1)⟩,
         ⟨none, .bin 17 .neq (.t 15) (.t 16)⟩])
      (.drop [12, 13, 14, 15, 16] (.cond (.t 17) (.seq (.reg [⟨none, .asg 4 (.c (.int .i64 (-1)))⟩])
        .ret)
       .skip)))
     (.drop [12, 13, 14, 15, 16, 17] (.reg [⟨none, .mov 18 (.t 1)⟩,
        ⟨none, .bin 19 .add (.t 18) (.c (.int .i64 1))⟩,
        ⟨none, .asg 1 (.t 19)⟩]))))
   (.drop [12, 13, 14, 15, 16, 17, 18, 19] (.reg [⟨none, .mov 10 (.t 5)⟩,
      ⟨none, .bin 11 .add (.t 10) (.c (.int .i64 1))⟩,
      ⟨none, .asg 5 (.t 11)⟩])))))
def c_laws_heldIntS : ACode :=
  (.seq (.reg [⟨none, .asg 4 (.c (.int .i64 0))⟩])
  (.seq (.seq (.reg [⟨none, .asg 5 (.c (.int .i64 0))⟩])
    (.block 0 (.loop c_laws_heldIntS_l1)))
   (.drop [5, 6, 7, 8, 9, 12, 13, 14, 15, 16, 17, 18, 19, 10, 11] (.seq (.reg [⟨none, .mov 20 (.t 1)⟩,
       ⟨none, .asg 4 (.t 20)⟩])
    (.drop [20] .ret)))))
abbrev r_laws_heldIntS : List RS := [.t 4]
theorem k_laws_heldIntS : fitsF Try.prog f_laws_heldIntS 21 c_laws_heldIntS r_laws_heldIntS = true := by kernel_rfl

/- loop.example/g01078/impl.inverse: [f=0, f=1, g=3, i=4, x=5] -/
def c_impl_inverse_l1 : ACode :=
  (.seq (.reg [⟨none, .bin 12 .lss (.t 11) (.t 10)⟩])
  (.seq (.cond (.t 12) .skip
    (.exit 0))
   (.seq (.block 1 (.seq (.reg [⟨none, .mov 13 (.t 11)⟩,
         ⟨none, .iad 14 1 (.t 9) (.t 11)⟩,
         ⟨none, .ld 15 1 false (.t 14)⟩,
         ⟨none, .asg 4 (.t 13)⟩,
         ⟨none, .asg 5 (.t 15)⟩])
      (.drop [13, 14, 15] (.reg [⟨none, .mov 16 (.t 3)⟩,
         ⟨none, .mov 17 (.t 5)⟩,
         ⟨none, .mov 18 (.t 4)⟩,
         ⟨none, .iad 19 1 (.t 16) (.t 17)⟩,
         ⟨none, .st 1 (.t 19) (.t 18)⟩]))))
    (.drop [13, 14, 15, 4, 5, 16, 17, 18, 19] (.reg [⟨none, .bin 20 .add (.t 11) (.c (.int .i64 1))⟩,
       ⟨none, .asg 11 (.t 20)⟩])))))
def c_impl_inverse : ACode :=
  (.seq (.reg [⟨none, .asg 2 (.c (.nilsl 1))⟩])
  (.seq (.reg [⟨none, .mov 6 (.t 0)⟩,
      ⟨none, .len 7 (.t 6)⟩,
      ⟨none, .mk 8 1 (.int .i64 0) (.t 7)⟩,
      ⟨none, .asg 3 (.t 8)⟩])
   (.drop [6, 7, 8] (.seq (.seq (.reg [⟨none, .mov 9 (.t 0)⟩,
        ⟨none, .len 10 (.t 9)⟩,
        ⟨none, .mov 11 (.c (.int .i64 0))⟩])
     (.block 0 (.loop c_impl_inverse_l1)))
    (.drop [9, 10, 11, 12, 13, 14, 15, 4, 5, 16, 17, 18, 19, 20] (.seq (.reg [⟨none, .mov 21 (.t 3)⟩,
        ⟨none, .asg 2 (.t 21)⟩])
     (.drop [21] .ret)))))))
abbrev r_impl_inverse : List RS := [.t 2]
theorem k_impl_inverse : fitsF Try.prog f_impl_inverse 22 c_impl_inverse r_impl_inverse = true := by kernel_rfl

/- loop.example/g01078/laws.szIntS: [a=0, left=1, a=2, left=3] -/
def c_laws_szIntS : ACode :=
  (.seq (.reg [⟨none, .asg 4 (.c (.int .i64 0))⟩])
  (.seq (.reg [⟨none, .mov 5 (.t 1)⟩,
      ⟨none, .mov 6 (.t 0)⟩,
      ⟨none, .len 7 (.t 6)⟩,
      ⟨none, .bin 8 .sub (.t 5) (.t 7)⟩,
      ⟨none, .asg 1 (.t 8)⟩])
   (.drop [5, 6, 7, 8] (.seq (.seq (.reg [⟨none, .mov 9 (.t 1)⟩,
        ⟨none, .bin 10 .lss (.t 9) (.c (.int .i64 0))⟩])
     (.drop [9] (.cond (.t 10) (.seq (.reg [⟨none, .asg 4 (.c (.int .i64 (-1)))⟩])
       .ret)
      .skip)))
    (.drop [9, 10] (.seq (.reg [⟨none, .mov 11 (.t 1)⟩,
        ⟨none, .asg 4 (.t 11)⟩])
     (.drop [11] .ret)))))))
abbrev r_laws_szIntS : List RS := [.t 4]
theorem k_laws_szIntS : fitsF Try.prog f_laws_szIntS 12 c_laws_szIntS r_laws_szIntS = true := by kernel_rfl

/- loop.example/g01078/spec.l1Same: [a=0, b=1, a=2, b=3, i=5] -/
def c_spec_l1Same_l1 : ACode :=
  (.seq (.seq (.reg [⟨none, .mov 11 (.t 5)⟩,
      ⟨none, .mov 12 (.t 0)⟩,
      ⟨none, .len 13 (.t 12)⟩,
      ⟨none, .bin 14 .lss (.t 11) (.t 13)⟩])
   (.drop [11, 12, 13] (.cond (.t 14) .skip
    (.exit 0))))
  (.drop [11, 12, 13, 14] (.seq (.block 1 (.seq (.dreg [(⟨none, .mov 17 (.t 0)⟩, []),
        (⟨none, .mov 18 (.t 5)⟩, [17]),
        (⟨none, .iad 19 1 (.t 17) (.t 18)⟩, []),
        (⟨none, .ld 20 1 false (.t 19)⟩, []),
        (⟨none, .mov 21 (.t 1)⟩, [17, 18, 19, 20]),
        (⟨none, .mov 22 (.t 5)⟩, [17, 18, 19, 20, 21]),
        (⟨none, .iad 23 1 (.t 21) (.t 22)⟩, [17, 18, 19, 20]),
        (⟨none, .ld 24 1 false (.t 23)⟩, [17, 18, 19, 20])]
       [⟨none, .bin 25 .neq (.t 20) (.t 24)⟩])
     (.drop [17, 18, 19, 20, 21, 22, 23, 24] (.cond (.t 25) (.seq (.reg [⟨none, .asg 4 (.c (.bool false))⟩])
       .ret)
      .skip))))
   (.drop [17, 18, 19, 20, 21, 22, 23, 24, 25] (.reg [⟨none, .mov 15 (.t 5)⟩,
      ⟨none, .bin 16 .add (.t 15) (.c (.int .i64 1))⟩,
      ⟨none, .asg 5 (.t 16)⟩])))))
def c_spec_l1Same : ACode :=
  (.seq (.reg [⟨none, .asg 4 (.c (.bool false))⟩])
  (.seq (.seq (.reg [⟨none, .mov 6 (.t 0)⟩,
       ⟨none, .len 7 (.t 6)⟩,
       ⟨none, .mov 8 (.t 1)⟩,
       ⟨none, .len 9 (.t 8)⟩,
       ⟨none, .bin 10 .neq (.t 7) (.t 9)⟩])
    (.drop [6, 7, 8, 9] (.cond (.t 10) (.seq (.reg [⟨none, .asg 4 (.c (.bool false))⟩])
      .ret)
     .skip)))
   (.drop [6, 7, 8, 9, 10] (.seq (.seq (.reg [⟨none, .asg 5 (.c (.int .i64 0))⟩])
     (.block 0 (.loop c_spec_l1Same_l1)))
    (.drop [5, 11, 12, 13, 14, 17, 18, 19, 20, 21, 22, 23, 24, 25, 15, 16] (.seq (.reg [⟨none, .asg 4 (.c (.bool true))⟩])
     .ret))))))
abbrev r_spec_l1Same : List RS := [.t 4]
theorem k_spec_l1Same : fitsF Try.prog f_spec_l1Same 26 c_spec_l1Same r_spec_l1Same = true := by kernel_rfl

/- loop.example/g01078/spec.l2Type: [a=0, a=1, out=3, i=4] -/
def c_spec_l2Type_l1 : ACode :=
  (.seq (.seq (.reg [⟨none, .mov 6 (.t 4)⟩,
      ⟨none, .fadr 7 1 (.t 1)⟩,
      ⟨none, .ld 8 1 false (.t 7)⟩,
      ⟨none, .len 9 (.t 8)⟩,
      ⟨none, .bin 10 .lss (.t 6) (.t 9)⟩])
   (.drop [6, 7, 8, 9] (.cond (.t 10) .skip
    (.exit 0))))
  (.drop [6, 7, 8, 9, 10] (.seq (.block 1 (.reg [⟨none, .mov 13 (.t 3)⟩,
       ⟨none, .fadr 14 1 (.t 1)⟩,
       ⟨none, .ld 15 1 false (.t 14)⟩,
       ⟨none, .mov 16 (.t 4)⟩,
       ⟨none, .iad 17 2 (.t 15) (.t 16)⟩,
       ⟨none, .fadr 18 0 (.t 17)⟩,
       ⟨none, .ld 19 1 false (.t 18)⟩,
       ⟨none, .bsl 20 1 [(.t 19)]⟩,
       ⟨none, .app 21 1 (.t 13) (.t 20)⟩,
       ⟨none, .asg 3 (.t 21)⟩]))
   (.drop [13, 14, 15, 16, 17, 18, 19, 20, 21] (.reg [⟨none, .mov 11 (.t 4)⟩,
      ⟨none, .bin 12 .add (.t 11) (.c (.int .i64 1))⟩,
      ⟨none, .asg 4 (.t 12)⟩])))))
def c_spec_l2Type : ACode :=
  (.seq (.reg [⟨none, .box 1 (.t 0)⟩,
     ⟨none, .asg 2 (.c (.nilsl 1))⟩])
  (.seq (.reg [⟨none, .bsl 5 1 []⟩,
      ⟨none, .asg 3 (.t 5)⟩])
   (.drop [5] (.seq (.seq (.reg [⟨none, .asg 4 (.c (.int .i64 0))⟩])
     (.block 0 (.loop c_spec_l2Type_l1)))
    (.drop [4, 6, 7, 8, 9, 10, 13, 14, 15, 16, 17, 18, 19, 20, 21, 11, 12] (.seq (.reg [⟨none, .mov 22 (.t 3)⟩,
        ⟨none, .asg 2 (.t 22)⟩])
     (.drop [22] .ret)))))))
abbrev r_spec_l2Type : List RS := [.t 2]
theorem k_spec_l2Type : fitsF Try.prog f_spec_l2Type 23 c_spec_l2Type r_spec_l2Type = true := by kernel_rfl

/- loop.example/g01078/spec.l2Value: [a=0, op=1, args=2, a=3, op=4, args=5, at=7, i=8] -/
def c_spec_l2Value_l1 : ACode :=
  (.seq (.seq (.reg [⟨none, .mov 9 (.t 8)⟩,
      ⟨none, .mov 10 (.t 2)⟩,
      ⟨none, .len 11 (.t 10)⟩,
      ⟨none, .bin 12 .lss (.t 9) (.t 11)⟩])
   (.drop [9, 10, 11] (.cond (.t 12) .skip
    (.exit 0))))
  (.drop [9, 10, 11, 12] (.seq (.block 1 (.dreg [(⟨none, .mov 15 (.t 7)⟩, []),
       (⟨none, .fadr 16 0 (.t 3)⟩, [15]),
       (⟨none, .ld 17 1 false (.t 16)⟩, [15]),
       (⟨none, .bin 18 .mul (.t 15) (.t 17)⟩, []),
       (⟨none, .mov 19 (.t 2)⟩, [15, 16, 17, 18]),
       (⟨none, .mov 20 (.t 8)⟩, [15, 16, 17, 18, 19]),
       (⟨none, .iad 21 1 (.t 19) (.t 20)⟩, [15, 16, 17, 18]),
       (⟨none, .ld 22 1 false (.t 21)⟩, [15, 16, 17, 18])]
      [⟨none, .bin 23 .add (.t 18) (.t 22)⟩,
       ⟨none, .asg 7 (.t 23)⟩]))
   (.drop [15, 16, 17, 18, 19, 20, 21, 22, 23] (.reg [⟨none, .mov 13 (.t 8)⟩,
      ⟨none, .bin 14 .add (.t 13) (.c (.int .i64 1))⟩,
      ⟨none, .asg 8 (.t 14)⟩])))))
def c_spec_l2Value : ACode :=
  (.seq (.reg [⟨none, .box 3 (.t 0)⟩,
     ⟨none, .asg 6 (.c (.int .i64 0))⟩])
  (.seq (.reg [⟨none, .asg 7 (.c (.int .i64 0))⟩])
   (.seq (.seq (.reg [⟨none, .asg 8 (.c (.int .i64 0))⟩])
     (.block 0 (.loop c_spec_l2Value_l1)))
    (.drop [8, 9, 10, 11, 12, 15, 16, 17, 18, 19, 20, 21, 22, 23, 13, 14] (.seq (.reg [⟨none, .fadr 24 1 (.t 3)⟩,
        ⟨none, .ld 25 1 false (.t 24)⟩,
        ⟨none, .mov 26 (.t 1)⟩,
        ⟨none, .iad 27 2 (.t 25) (.t 26)⟩,
        ⟨none, .fadr 28 1 (.t 27)⟩,
        ⟨none, .ld 29 1 false (.t 28)⟩,
        ⟨none, .mov 30 (.t 7)⟩,
        ⟨none, .iad 31 1 (.t 29) (.t 30)⟩,
        ⟨none, .ld 32 1 false (.t 31)⟩,
        ⟨none, .asg 6 (.t 32)⟩])
     (.drop [24, 25, 26, 27, 28, 29, 30, 31, 32] .ret))))))
abbrev r_spec_l2Value : List RS := [.t 6]
theorem k_spec_l2Value : fitsF Try.prog f_spec_l2Value 33 c_spec_l2Value r_spec_l2Value = true := by kernel_rfl

/- loop.example/g01078/impl.sameList: [a=0, b=1, a=2, b=3, i=5, x=6] -/
def c_impl_sameList_l1 : ACode :=
  (.seq (.reg [⟨none, .bin 15 .lss (.t 14) (.t 13)⟩])
  (.seq (.cond (.t 15) .skip
    (.exit 0))
   (.seq (.block 1 (.seq (.reg [⟨none, .mov 16 (.t 14)⟩,
         ⟨none, .iad 17 1 (.t 12) (.t 14)⟩,
         ⟨none, .ld 18 1 false (.t 17)⟩,
         ⟨none, .asg 5 (.t 16)⟩,
         ⟨none, .asg 6 (.t 18)⟩])
      (.drop [16, 17, 18] (.seq (.reg [⟨none, .mov 19 (.t 1)⟩,
          ⟨none, .mov 20 (.t 5)⟩,
          ⟨none, .iad 21 1 (.t 19) (.t 20)⟩,
          ⟨none, .ld 22 1 false (.t 21)⟩,
          ⟨none, .mov 23 (.t 6)⟩,
          ⟨none, .bin 24 .neq (.t 22) (.t 23)⟩])
       (.drop [19, 20, 21, 22, 23] (.cond (.t 24) (.seq (.reg [⟨none, .asg 4 (.c (.bool false))⟩])
         .ret)
        .skip))))))
    (.drop [16, 17, 18, 5, 6, 19, 20, 21, 22, 23, 24] (.reg [⟨none, .bin 25 .add (.t 14) (.c (.int .i64 1))⟩,
       ⟨none, .asg 14 (.t 25)⟩])))))
def c_impl_sameList : ACode :=
  (.seq (.reg [⟨none, .asg 4 (.c (.bool false))⟩])
  (.seq (.seq (.reg [⟨none, .mov 7 (.t 0)⟩,
       ⟨none, .len 8 (.t 7)⟩,
       ⟨none, .mov 9 (.t 1)⟩,
       ⟨none, .len 10 (.t 9)⟩,
       ⟨none, .bin 11 .neq (.t 8) (.t 10)⟩])
    (.drop [7, 8, 9, 10] (.cond (.t 11) (.seq (.reg [⟨none, .asg 4 (.c (.bool false))⟩])
      .ret)
     .skip)))
   (.drop [7, 8, 9, 10, 11] (.seq (.seq (.reg [⟨none, .mov 12 (.t 0)⟩,
        ⟨none, .len 13 (.t 12)⟩,
        ⟨none, .mov 14 (.c (.int .i64 0))⟩])
     (.block 0 (.loop c_impl_sameList_l1)))
    (.drop [12, 13, 14, 15, 16, 17, 18, 5, 6, 19, 20, 21, 22, 23, 24, 25] (.seq (.reg [⟨none, .asg 4 (.c (.bool true))⟩])
     .ret))))))
abbrev r_impl_sameList : List RS := [.t 4]
theorem k_impl_sameList : fitsF Try.prog f_impl_sameList 26 c_impl_sameList r_impl_sameList = true := by kernel_rfl

/- loop.example/g01078/impl.typeOf: [a=0, a=1, list=3, _=4, f=5] -/
def c_impl_typeOf_l1 : ACode :=
  (.seq (.reg [⟨none, .bin 11 .lss (.t 10) (.t 9)⟩])
  (.seq (.cond (.t 11) .skip
    (.exit 0))
   (.seq (.block 1 (.seq (.reg [⟨none, .iad 12 2 (.t 8) (.t 10)⟩,
         ⟨none, .ld 13 2 true (.t 12)⟩,
         ⟨none, .alc 5 (.agg [.int .i64 0, .nilsl 1])⟩,
         ⟨none, .st 2 (.t 5) (.t 13)⟩])
      (.drop [12, 13] (.reg [⟨none, .mov 14 (.t 3)⟩,
         ⟨none, .fadr 15 0 (.t 5)⟩,
         ⟨none, .ld 16 1 false (.t 15)⟩,
         ⟨none, .bsl 17 1 [(.t 16)]⟩,
         ⟨none, .app 18 1 (.t 14) (.t 17)⟩,
         ⟨none, .asg 3 (.t 18)⟩]))))
    (.drop [12, 13, 5, 14, 15, 16, 17, 18] (.reg [⟨none, .bin 19 .add (.t 10) (.c (.int .i64 1))⟩,
       ⟨none, .asg 10 (.t 19)⟩])))))
def c_impl_typeOf : ACode :=
  (.seq (.reg [⟨none, .box 1 (.t 0)⟩,
     ⟨none, .asg 2 (.c (.nilsl 1))⟩])
  (.seq (.reg [⟨none, .bsl 6 1 []⟩,
      ⟨none, .asg 3 (.t 6)⟩])
   (.drop [6] (.seq (.seq (.reg [⟨none, .fadr 7 1 (.t 1)⟩,
        ⟨none, .ld 8 1 false (.t 7)⟩,
        ⟨none, .len 9 (.t 8)⟩,
        ⟨none, .mov 10 (.c (.int .i64 0))⟩])
     (.drop [7] (.block 0 (.loop c_impl_typeOf_l1))))
    (.drop [7, 8, 9, 10, 11, 12, 13, 5, 14, 15, 16, 17, 18, 19] (.seq (.reg [⟨none, .mov 20 (.t 3)⟩,
        ⟨none, .asg 2 (.t 20)⟩])
     (.drop [20] .ret)))))))
abbrev r_impl_typeOf : List RS := [.t 2]
theorem k_impl_typeOf : fitsF Try.prog f_impl_typeOf 21 c_impl_typeOf r_impl_typeOf = true := by kernel_rfl

/- loop.example/g01078/spec.l1In: [x=0, a=1, b=2, x=3, a=4, b=5] -/
def c_spec_l1In : ACode :=
  (.seq (.reg [⟨none, .asg 6 (.c (.bool false))⟩])
  (.seq (.reg [⟨none, .mov 7 (.t 0)⟩,
      ⟨none, .mov 8 (.t 1)⟩,
      ⟨none, .bin 9 .geq (.t 7) (.t 8)⟩,
      ⟨none, .asg 10 (.t 9)⟩,
      ⟨some (10, true), .mov 11 (.t 0)⟩,
      ⟨some (10, true), .mov 12 (.t 2)⟩,
      ⟨some (10, true), .bin 13 .leq (.t 11) (.t 12)⟩,
      ⟨none, .pick 14 (.t 10) (.t 13) (.c (.bool false))⟩,
      ⟨none, .asg 6 (.t 14)⟩])
   (.drop [7, 8, 9, 10, 11, 12, 13, 14] .ret)))
abbrev r_spec_l1In : List RS := [.t 6]
theorem k_spec_l1In : fitsF Try.prog f_spec_l1In 15 c_spec_l1In r_spec_l1In = true := by kernel_rfl

/- loop.example/g01078/spec.l2Args: [n=0, arity=1, at=2, n=3, arity=4, at=5, out=7, i=8] -/
def c_spec_l2Args_l1 : ACode :=
  (.seq (.seq (.reg [⟨none, .mov 13 (.t 8)⟩,
      ⟨none, .bin 14 .geq (.t 13) (.c (.int .i64 0))⟩])
   (.drop [13] (.cond (.t 14) .skip
    (.exit 0))))
  (.drop [13, 14] (.seq (.block 1 (.seq (.reg [⟨none, .mov 17 (.t 7)⟩,
        ⟨none, .mov 18 (.t 8)⟩,
        ⟨none, .mov 19 (.t 2)⟩,
        ⟨none, .mov 20 (.t 0)⟩,
        ⟨none, .bin 21 .rem (.t 19) (.t 20)⟩,
        ⟨none, .iad 22 1 (.t 17) (.t 18)⟩,
        ⟨none, .st 1 (.t 22) (.t 21)⟩])
     (.drop [17, 18, 19, 20, 21, 22] (.reg [⟨none, .mov 23 (.t 2)⟩,
        ⟨none, .mov 24 (.t 0)⟩,
        ⟨none, .bin 25 .quo (.t 23) (.t 24)⟩,
        ⟨none, .asg 2 (.t 25)⟩]))))
   (.drop [17, 18, 19, 20, 21, 22, 23, 24, 25] (.reg [⟨none, .mov 15 (.t 8)⟩,
      ⟨none, .bin 16 .sub (.t 15) (.c (.int .i64 1))⟩,
      ⟨none, .asg 8 (.t 16)⟩])))))
def c_spec_l2Args : ACode :=
  (.seq (.reg [⟨none, .asg 6 (.c (.nilsl 1))⟩])
  (.seq (.reg [⟨none, .mov 9 (.t 1)⟩,
      ⟨none, .mk 10 1 (.int .i64 0) (.t 9)⟩,
      ⟨none, .asg 7 (.t 10)⟩])
   (.drop [9, 10] (.seq (.seq (.reg [⟨none, .mov 11 (.t 1)⟩,
        ⟨none, .bin 12 .sub (.t 11) (.c (.int .i64 1))⟩,
        ⟨none, .asg 8 (.t 12)⟩])
     (.drop [11, 12] (.block 0 (.loop c_spec_l2Args_l1))))
    (.drop [11, 12, 8, 13, 14, 17, 18, 19, 20, 21, 22, 23, 24, 25, 15, 16] (.seq (.reg [⟨none, .mov 26 (.t 7)⟩,
        ⟨none, .asg 6 (.t 26)⟩])
     (.drop [26] .ret)))))))
abbrev r_spec_l2Args : List RS := [.t 6]
theorem k_spec_l2Args : fitsF Try.prog f_spec_l2Args 27 c_spec_l2Args r_spec_l2Args = true := by kernel_rfl

/- loop.example/g01078/impl.inSize: [list=0, n=1, list=2, n=3, _=5, x=6] -/
def c_impl_inSize_l1 : ACode :=
  (.seq (.reg [⟨none, .bin 10 .lss (.t 9) (.t 8)⟩])
  (.seq (.cond (.t 10) .skip
    (.exit 0))
   (.seq (.block 1 (.seq (.reg [⟨none, .iad 11 1 (.t 7) (.t 9)⟩,
         ⟨none, .ld 12 1 false (.t 11)⟩,
         ⟨none, .asg 6 (.t 12)⟩])
      (.drop [11, 12] (.seq (.reg [⟨none, .mov 13 (.t 6)⟩,
          ⟨none, .bin 14 .lss (.t 13) (.c (.int .i64 0))⟩,
          ⟨none, .asg 15 (.t 14)⟩,
          ⟨some (15, false), .mov 16 (.t 6)⟩,
          ⟨some (15, false), .mov 17 (.t 1)⟩,
          ⟨some (15, false), .bin 18 .geq (.t 16) (.t 17)⟩,
          ⟨none, .pick 19 (.t 15) (.c (.bool true)) (.t 18)⟩])
       (.drop [13, 14, 15, 16, 17, 18] (.cond (.t 19) (.seq (.reg [⟨none, .asg 4 (.c (.bool false))⟩])
         .ret)
        .skip))))))
    (.drop [11, 12, 6, 13, 14, 15, 16, 17, 18, 19] (.reg [⟨none, .bin 20 .add (.t 9) (.c (.int .i64 1))⟩,
       ⟨none, .asg 9 (.t 20)⟩])))))
def c_impl_inSize : ACode :=
  (.seq (.reg [⟨none, .asg 4 (.c (.bool false))⟩])
  (.seq (.seq (.reg [⟨none, .mov 7 (.t 0)⟩,
       ⟨none, .len 8 (.t 7)⟩,
       ⟨none, .mov 9 (.c (.int .i64 0))⟩])
    (.block 0 (.loop c_impl_inSize_l1)))
   (.drop [7, 8, 9, 10, 11, 12, 6, 13, 14, 15, 16, 17, 18, 19, 20] (.seq (.reg [⟨none, .asg 4 (.c (.bool true))⟩])
    .ret))))
abbrev r_impl_inSize : List RS := [.t 4]
theorem k_impl_inSize : fitsF Try.prog f_impl_inSize 21 c_impl_inSize r_impl_inSize = true := by kernel_rfl

/- loop.example/g01078/impl.argsAt: [i=0, k=1, n=2, i=3, k=4, n=5, args=7, j=8] -/
def c_impl_argsAt_l1 : ACode :=
  (.seq (.seq (.reg [⟨none, .mov 13 (.t 8)⟩,
      ⟨none, .bin 14 .geq (.t 13) (.c (.int .i64 0))⟩])
   (.drop [13] (.cond (.t 14) .skip
    (.exit 0))))
  (.drop [13, 14] (.seq (.block 1 (.seq (.reg [⟨none, .mov 17 (.t 7)⟩,
        ⟨none, .mov 18 (.t 8)⟩,
        ⟨none, .mov 19 (.t 0)⟩,
        ⟨none, .mov 20 (.t 2)⟩,
        ⟨none, .bin 21 .rem (.t 19) (.t 20)⟩,
        ⟨none, .iad 22 1 (.t 17) (.t 18)⟩,
        ⟨none, .st 1 (.t 22) (.t 21)⟩])
     (.drop [17, 18, 19, 20, 21, 22] (.reg [⟨none, .mov 23 (.t 0)⟩,
        ⟨none, .mov 24 (.t 2)⟩,
        ⟨none, .bin 25 .quo (.t 23) (.t 24)⟩,
        ⟨none, .asg 0 (.t 25)⟩]))))
   (.drop [17, 18, 19, 20, 21, 22, 23, 24, 25] (.reg [⟨none, .mov 15 (.t 8)⟩,
      ⟨none, .bin 16 .sub (.t 15) (.c (.int .i64 1))⟩,
      ⟨none, .asg 8 (.t 16)⟩])))))
def c_impl_argsAt : ACode :=
  (.seq (.reg [⟨none, .asg 6 (.c (.nilsl 1))⟩])
  (.seq (.reg [⟨none, .mov 9 (.t 1)⟩,
      ⟨none, .mk 10 1 (.int .i64 0) (.t 9)⟩,
      ⟨none, .asg 7 (.t 10)⟩])
   (.drop [9, 10] (.seq (.seq (.reg [⟨none, .mov 11 (.t 1)⟩,
        ⟨none, .bin 12 .sub (.t 11) (.c (.int .i64 1))⟩,
        ⟨none, .asg 8 (.t 12)⟩])
     (.drop [11, 12] (.block 0 (.loop c_impl_argsAt_l1))))
    (.drop [11, 12, 8, 13, 14, 17, 18, 19, 20, 21, 22, 23, 24, 25, 15, 16] (.seq (.reg [⟨none, .mov 26 (.t 7)⟩,
        ⟨none, .asg 6 (.t 26)⟩])
     (.drop [26] .ret)))))))
abbrev r_impl_argsAt : List RS := [.t 6]
theorem k_impl_argsAt : fitsF Try.prog f_impl_argsAt 27 c_impl_argsAt r_impl_argsAt = true := by kernel_rfl

/- loop.example/g01078/impl.indexOf: [args=0, n=1, args=2, n=3, i=5, _=6, x=7] -/
def c_impl_indexOf_l1 : ACode :=
  (.seq (.reg [⟨none, .bin 11 .lss (.t 10) (.t 9)⟩])
  (.seq (.cond (.t 11) .skip
    (.exit 0))
   (.seq (.block 1 (.seq (.reg [⟨none, .iad 12 1 (.t 8) (.t 10)⟩,
         ⟨none, .ld 13 1 false (.t 12)⟩,
         ⟨none, .asg 7 (.t 13)⟩])
      (.drop [12, 13] (.reg [⟨none, .mov 14 (.t 5)⟩,
         ⟨none, .mov 15 (.t 1)⟩,
         ⟨none, .bin 16 .mul (.t 14) (.t 15)⟩,
         ⟨none, .mov 17 (.t 7)⟩,
         ⟨none, .bin 18 .add (.t 16) (.t 17)⟩,
         ⟨none, .asg 5 (.t 18)⟩]))))
    (.drop [12, 13, 7, 14, 15, 16, 17, 18] (.reg [⟨none, .bin 19 .add (.t 10) (.c (.int .i64 1))⟩,
       ⟨none, .asg 10 (.t 19)⟩])))))
def c_impl_indexOf : ACode :=
  (.seq (.reg [⟨none, .asg 4 (.c (.int .i64 0))⟩])
  (.seq (.reg [⟨none, .asg 5 (.c (.int .i64 0))⟩])
   (.seq (.seq (.reg [⟨none, .mov 8 (.t 0)⟩,
        ⟨none, .len 9 (.t 8)⟩,
        ⟨none, .mov 10 (.c (.int .i64 0))⟩])
     (.block 0 (.loop c_impl_indexOf_l1)))
    (.drop [8, 9, 10, 11, 12, 13, 7, 14, 15, 16, 17, 18, 19] (.seq (.reg [⟨none, .mov 20 (.t 5)⟩,
        ⟨none, .asg 4 (.t 20)⟩])
     (.drop [20] .ret))))))
abbrev r_impl_indexOf : List RS := [.t 4]
theorem k_impl_indexOf : fitsF Try.prog f_impl_indexOf 21 c_impl_indexOf r_impl_indexOf = true := by kernel_rfl

/- loop.example/g01078/spec.l1Has: [l=0, n=1, l=2, n=3, i=5] -/
def c_spec_l1Has_l1 : ACode :=
  (.seq (.seq (.reg [⟨none, .mov 6 (.t 5)⟩,
      ⟨none, .mov 7 (.t 0)⟩,
      ⟨none, .len 8 (.t 7)⟩,
      ⟨none, .bin 9 .lss (.t 6) (.t 8)⟩])
   (.drop [6, 7, 8] (.cond (.t 9) .skip
    (.exit 0))))
  (.drop [6, 7, 8, 9] (.seq (.block 1 (.seq (.reg [⟨none, .mov 12 (.t 0)⟩,
        ⟨none, .mov 13 (.t 5)⟩,
        ⟨none, .iad 14 1 (.t 12) (.t 13)⟩,
        ⟨none, .ld 15 1 false (.t 14)⟩,
        ⟨none, .mov 16 (.t 1)⟩,
        ⟨none, .bin 17 .eql (.t 15) (.t 16)⟩])
     (.drop [12, 13, 14, 15, 16] (.cond (.t 17) (.seq (.reg [⟨none, .asg 4 (.c (.bool true))⟩])
       .ret)
      .skip))))
   (.drop [12, 13, 14, 15, 16, 17] (.reg [⟨none, .mov 10 (.t 5)⟩,
      ⟨none, .bin 11 .add (.t 10) (.c (.int .i64 1))⟩,
      ⟨none, .asg 5 (.t 11)⟩])))))
def c_spec_l1Has : ACode :=
  (.seq (.reg [⟨none, .asg 4 (.c (.bool false))⟩])
  (.seq (.seq (.reg [⟨none, .asg 5 (.c (.int .i64 0))⟩])
    (.block 0 (.loop c_spec_l1Has_l1)))
   (.drop [5, 6, 7, 8, 9, 12, 13, 14, 15, 16, 17, 10, 11] (.seq (.reg [⟨none, .asg 4 (.c (.bool false))⟩])
    .ret))))
abbrev r_spec_l1Has : List RS := [.t 4]
theorem k_spec_l1Has : fitsF Try.prog f_spec_l1Has 18 c_spec_l1Has r_spec_l1Has = true := by kernel_rfl

/- loop.example/g01078/spec.l2Pow: [n=0, k=1, n=2, k=3, out=5] -/
def c_spec_l2Pow_l1 : ACode :=
  (.seq (.seq (.reg [⟨none, .mov 6 (.t 1)⟩,
      ⟨none, .bin 7 .gtr (.t 6) (.c (.int .i64 0))⟩])
   (.drop [6] (.cond (.t 7) .skip
    (.exit 0))))
  (.drop [6, 7] (.seq (.block 1 (.reg [⟨none, .mov 10 (.t 5)⟩,
       ⟨none, .mov 11 (.t 0)⟩,
       ⟨none, .bin 12 .mul (.t 10) (.t 11)⟩,
       ⟨none, .asg 5 (.t 12)⟩]))
   (.drop [10, 11, 12] (.reg [⟨none, .mov 8 (.t 1)⟩,
      ⟨none, .bin 9 .sub (.t 8) (.c (.int .i64 1))⟩,
      ⟨none, .asg 1 (.t 9)⟩])))))
def c_spec_l2Pow : ACode :=
  (.seq (.reg [⟨none, .asg 4 (.c (.int .i64 0))⟩])
  (.seq (.reg [⟨none, .asg 5 (.c (.int .i64 1))⟩])
   (.seq (.block 0 (.loop c_spec_l2Pow_l1))
    (.drop [6, 7, 10, 11, 12, 8, 9] (.seq (.reg [⟨none, .mov 13 (.t 5)⟩,
        ⟨none, .asg 4 (.t 13)⟩])
     (.drop [13] .ret))))))
abbrev r_spec_l2Pow : List RS := [.t 4]
theorem k_spec_l2Pow : fitsF Try.prog f_spec_l2Pow 14 c_spec_l2Pow r_spec_l2Pow = true := by kernel_rfl

/- loop.example/g01078/impl.power: [n=0, k=1, n=2, k=3, p=5] -/
def c_impl_power_l1 : ACode :=
  (.seq (.seq (.reg [⟨none, .mov 6 (.t 1)⟩,
      ⟨none, .bin 7 .gtr (.t 6) (.c (.int .i64 0))⟩])
   (.drop [6] (.cond (.t 7) .skip
    (.exit 0))))
  (.drop [6, 7] (.seq (.block 1 (.reg [⟨none, .mov 10 (.t 5)⟩,
       ⟨none, .mov 11 (.t 0)⟩,
       ⟨none, .bin 12 .mul (.t 10) (.t 11)⟩,
       ⟨none, .asg 5 (.t 12)⟩]))
   (.drop [10, 11, 12] (.reg [⟨none, .mov 8 (.t 1)⟩,
      ⟨none, .bin 9 .sub (.t 8) (.c (.int .i64 1))⟩,
      ⟨none, .asg 1 (.t 9)⟩])))))
def c_impl_power : ACode :=
  (.seq (.reg [⟨none, .asg 4 (.c (.int .i64 0))⟩])
  (.seq (.reg [⟨none, .asg 5 (.c (.int .i64 1))⟩])
   (.seq (.block 0 (.loop c_impl_power_l1))
    (.drop [6, 7, 10, 11, 12, 8, 9] (.seq (.reg [⟨none, .mov 13 (.t 5)⟩,
        ⟨none, .asg 4 (.t 13)⟩])
     (.drop [13] .ret))))))
abbrev r_impl_power : List RS := [.t 4]
theorem k_impl_power : fitsF Try.prog f_impl_power 14 c_impl_power r_impl_power = true := by kernel_rfl

/- loop.example/g01078/spec.l7Images: [f=0, args=1, f=2, args=3, out=5, i=6] -/
def c_spec_l7Images_l1 : ACode :=
  (.seq (.seq (.reg [⟨none, .mov 8 (.t 6)⟩,
      ⟨none, .mov 9 (.t 1)⟩,
      ⟨none, .len 10 (.t 9)⟩,
      ⟨none, .bin 11 .lss (.t 8) (.t 10)⟩])
   (.drop [8, 9, 10] (.cond (.t 11) .skip
    (.exit 0))))
  (.drop [8, 9, 10, 11] (.seq (.block 1 (.reg [⟨none, .mov 14 (.t 5)⟩,
       ⟨none, .mov 15 (.t 0)⟩,
       ⟨none, .mov 16 (.t 1)⟩,
       ⟨none, .mov 17 (.t 6)⟩,
       ⟨none, .iad 18 1 (.t 16) (.t 17)⟩,
       ⟨none, .ld 19 1 false (.t 18)⟩,
       ⟨none, .iad 20 1 (.t 15) (.t 19)⟩,
       ⟨none, .ld 21 1 false (.t 20)⟩,
       ⟨none, .bsl 22 1 [(.t 21)]⟩,
       ⟨none, .app 23 1 (.t 14) (.t 22)⟩,
       ⟨none, .asg 5 (.t 23)⟩]))
   (.drop [14, 15, 16, 17, 18, 19, 20, 21, 22, 23] (.reg [⟨none, .mov 12 (.t 6)⟩,
      ⟨none, .bin 13 .add (.t 12) (.c (.int .i64 1))⟩,
      ⟨none, .asg 6 (.t 13)⟩])))))
def c_spec_l7Images : ACode :=
  (.seq (.reg [⟨none, .asg 4 (.c (.nilsl 1))⟩])
  (.seq (.reg [⟨none, .bsl 7 1 []⟩,
      ⟨none, .asg 5 (.t 7)⟩])
   (.drop [7] (.seq (.seq (.reg [⟨none, .asg 6 (.c (.int .i64 0))⟩])
     (.block 0 (.loop c_spec_l7Images_l1)))
    (.drop [6, 8, 9, 10, 11, 14, 15, 16, 17, 18, 19, 20, 21, 22, 23, 12, 13] (.seq (.reg [⟨none, .mov 24 (.t 5)⟩,
        ⟨none, .asg 4 (.t 24)⟩])
     (.drop [24] .ret)))))))
abbrev r_spec_l7Images : List RS := [.t 4]
theorem k_spec_l7Images : fitsF Try.prog f_spec_l7Images 25 c_spec_l7Images r_spec_l7Images = true := by kernel_rfl

/- loop.example/g01078/impl.imageIndex: [i=0, arity=1, a=2, b=3, f=4, i=5, arity=6, a=7, b=8, f=9, at=11, step=12, k=13] -/
def c_impl_imageIndex_l1 : ACode :=
  (.seq (.seq (.reg [⟨none, .mov 14 (.t 13)⟩,
      ⟨none, .mov 15 (.t 1)⟩,
      ⟨none, .bin 16 .lss (.t 14) (.t 15)⟩])
   (.drop [14, 15] (.cond (.t 16) .skip
    (.exit 0))))
  (.drop [14, 15, 16] (.seq (.block 1 (.seq (.reg [⟨none, .mov 19 (.t 11)⟩,
        ⟨none, .mov 20 (.t 4)⟩,
        ⟨none, .mov 21 (.t 0)⟩,
        ⟨none, .fadr 22 0 (.t 7)⟩,
        ⟨none, .ld 23 1 false (.t 22)⟩,
        ⟨none, .bin 24 .rem (.t 21) (.t 23)⟩,
        ⟨none, .iad 25 1 (.t 20) (.t 24)⟩,
        ⟨none, .ld 26 1 false (.t 25)⟩,
        ⟨none, .mov 27 (.t 12)⟩,
        ⟨none, .bin 28 .mul (.t 26) (.t 27)⟩,
        ⟨none, .bin 29 .add (.t 19) (.t 28)⟩,
        ⟨none, .asg 11 (.t 29)⟩])
     (.drop [19, 20, 21, 22, 23, 24, 25, 26, 27, 28, 29] (.seq (.reg [⟨none, .mov 30 (.t 0)⟩,
         ⟨none, .fadr 31 0 (.t 7)⟩,
         ⟨none, .ld 32 1 false (.t 31)⟩,
         ⟨none, .bin 33 .quo (.t 30) (.t 32)⟩,
         ⟨none, .asg 0 (.t 33)⟩])
      (.drop [30, 31, 32, 33] (.reg [⟨none, .mov 34 (.t 12)⟩,
         ⟨none, .fadr 35 0 (.t 8)⟩,
         ⟨none, .ld 36 1 false (.t 35)⟩,
         ⟨none, .bin 37 .mul (.t 34) (.t 36)⟩,
         ⟨none, .asg 12 (.t 37)⟩]))))))
   (.drop [19, 20, 21, 22, 23, 24, 25, 26, 27, 28, 29, 30, 31, 32, 33, 34, 35, 36, 37] (.reg [⟨none, .mov 17 (.t 13)⟩,
      ⟨none, .bin 18 .add (.t 17) (.c (.int .i64 1))⟩,
      ⟨none, .asg 13 (.t 18)⟩])))))
def c_impl_imageIndex : ACode :=
  (.seq (.reg [⟨none, .box 7 (.t 2)⟩,
     ⟨none, .box 8 (.t 3)⟩,
     ⟨none, .asg 10 (.c (.int .i64 0))⟩])
  (.seq (.reg [⟨none, .asg 11 (.c (.int .i64 0))⟩,
      ⟨none, .asg 12 (.c (.int .i64 1))⟩])
   (.seq (.seq (.reg [⟨none, .asg 13 (.c (.int .i64 0))⟩])
     (.block 0 (.loop c_impl_imageIndex_l1)))
    (.drop [13, 14, 15, 16, 19, 20, 21, 22, 23, 24, 25, 26, 27, 28, 29, 30, 31, 32, 33, 34, 35, 36, 37, 17, 18] (.seq (.reg [⟨none, .mov 38 (.t 11)⟩,
        ⟨none, .asg 10 (.t 38)⟩])
     (.drop [38] .ret))))))
abbrev r_impl_imageIndex : List RS := [.t 10]
theorem k_impl_imageIndex : fitsF Try.prog f_impl_imageIndex 39 c_impl_imageIndex r_impl_imageIndex = true := by kernel_rfl

/- loop.example/g01078/impl.clone: [list=0, list=1] -/
def c_impl_clone : ACode :=
  (.seq (.reg [⟨none, .asg 2 (.c (.nilsl 1))⟩])
  (.seq (.reg [⟨none, .bsl 3 1 []⟩,
      ⟨none, .mov 4 (.t 0)⟩,
      ⟨none, .app 5 1 (.t 3) (.t 4)⟩,
      ⟨none, .asg 2 (.t 5)⟩])
   (.drop [3, 4, 5] .ret)))
abbrev r_impl_clone : List RS := [.t 2]
theorem k_impl_clone : fitsF Try.prog f_impl_clone 6 c_impl_clone r_impl_clone = true := by kernel_rfl

/- loop.example/g01078/spec.l2Rename: [a=0, names=1, a=2, names=3, out=5, i=6, op=7, at=8, args=9, to=10, k=11] -/
def c_spec_l2Rename_l1 : ACode :=
  (.seq (.seq (.reg [⟨none, .mov 50 (.t 11)⟩,
      ⟨none, .mov 51 (.t 9)⟩,
      ⟨none, .len 52 (.t 51)⟩,
      ⟨none, .bin 53 .lss (.t 50) (.t 52)⟩])
   (.drop [50, 51, 52] (.cond (.t 53) .skip
    (.exit 4))))
  (.drop [50, 51, 52, 53] (.seq (.block 5 (.dreg [(⟨none, .mov 56 (.t 10)⟩, []),
       (⟨none, .fadr 57 0 (.t 2)⟩, [56]),
       (⟨none, .ld 58 1 false (.t 57)⟩, [56]),
       (⟨none, .bin 59 .mul (.t 56) (.t 58)⟩, []),
       (⟨none, .mov 60 (.t 1)⟩, [56, 57, 58, 59]),
       (⟨none, .mov 61 (.t 9)⟩, [56, 57, 58, 59, 60]),
       (⟨none, .mov 62 (.t 11)⟩, [56, 57, 58, 59, 60, 61]),
       (⟨none, .iad 63 1 (.t 61) (.t 62)⟩, [56, 57, 58, 59, 60]),
       (⟨none, .ld 64 1 false (.t 63)⟩, [56, 57, 58, 59, 60]),
       (⟨none, .iad 65 1 (.t 60) (.t 64)⟩, [56, 57, 58, 59]),
       (⟨none, .ld 66 1 false (.t 65)⟩, [56, 57, 58, 59])]
      [⟨none, .bin 67 .add (.t 59) (.t 66)⟩,
       ⟨none, .asg 10 (.t 67)⟩]))
   (.drop [56, 57, 58, 59, 60, 61, 62, 63, 64, 65, 66, 67] (.reg [⟨none, .mov 54 (.t 11)⟩,
      ⟨none, .bin 55 .add (.t 54) (.c (.int .i64 1))⟩,
      ⟨none, .asg 11 (.t 55)⟩])))))
def c_spec_l2Rename_l2 : ACode :=
  (.seq (.seq (.reg [⟨none, .mov 37 (.t 8)⟩,
      ⟨none, .fadr 38 1 (.t 7)⟩,
      ⟨none, .ld 39 1 false (.t 38)⟩,
      ⟨none, .len 40 (.t 39)⟩,
      ⟨none, .bin 41 .lss (.t 37) (.t 40)⟩])
   (.drop [37, 38, 39, 40] (.cond (.t 41) .skip
    (.exit 2))))
  (.drop [37, 38, 39, 40, 41] (.seq (.block 3 (.seq (.reg [⟨none, .fadr 44 0 (.t 2)⟩,
        ⟨none, .ld 45 1 false (.t 44)⟩,
        ⟨none, .fadr 46 0 (.t 7)⟩,
        ⟨none, .ld 47 1 false (.t 46)⟩,
        ⟨none, .mov 48 (.t 8)⟩,
        ⟨none, .call 49 f_spec_l2Args [((.t 45), false), ((.t 47), false), ((.t 48), false)]⟩,
        ⟨none, .asg 9 (.t 49)⟩])
     (.drop [44, 45, 46, 47, 48, 49] (.seq (.reg [⟨none, .asg 10 (.c (.int .i64 0))⟩])
      (.seq (.seq (.reg [⟨none, .asg 11 (.c (.int .i64 0))⟩])
        (.block 4 (.loop c_spec_l2Rename_l1)))
       (.drop [11, 50, 51, 52, 53, 56, 57, 58, 59, 60, 61, 62, 63, 64, 65, 66, 67, 54, 55] (.dreg [(⟨none, .fadr 68 1 (.t 7)⟩, []),
          (⟨none, .ld 69 1 false (.t 68)⟩, []),
          (⟨none, .mov 70 (.t 10)⟩, [68, 69]),
          (⟨none, .mov 71 (.t 1)⟩, [68, 69, 70]),
          (⟨none, .fadr 72 1 (.t 2)⟩, [68, 69, 70, 71]),
          (⟨none, .ld 73 1 false (.t 72)⟩, [68, 69, 70, 71]),
          (⟨none, .mov 74 (.t 6)⟩, [68, 69, 70, 71, 72, 73]),
          (⟨none, .iad 75 2 (.t 73) (.t 74)⟩, [68, 69, 70, 71]),
          (⟨none, .fadr 76 1 (.t 75)⟩, [68, 69, 70, 71]),
          (⟨none, .ld 77 1 false (.t 76)⟩, [68, 69, 70, 71]),
          (⟨none, .mov 78 (.t 8)⟩, [68, 69, 70, 71, 72, 73, 74, 75, 76, 77]),
          (⟨none, .iad 79 1 (.t 77) (.t 78)⟩, [68, 69, 70, 71]),
          (⟨none, .ld 80 1 false (.t 79)⟩, [68, 69, 70, 71]),
          (⟨none, .iad 81 1 (.t 71) (.t 80)⟩, [68, 69, 70]),
          (⟨none, .ld 82 1 false (.t 81)⟩, [68, 69, 70])]
         [⟨none, .iad 83 1 (.t 69) (.t 70)⟩,
          ⟨none, .st 1 (.t 83) (.t 82)⟩])))))))
   (.drop [44, 45, 46, 47, 48, 49, 9, 10, 11, 50, 51, 52, 53, 56, 57, 58, 59, 60, 61, 62, 63, 64, 65, 66, 67, 54, 55, 68, 69, 70, 71, 72, 73, 74, 75, 76, 77, 78, 79, 80, 81, 82, 83] (.reg [⟨none, .mov 42 (.t 8)⟩,
      ⟨none, .bin 43 .add (.t 42) (.c (.int .i64 1))⟩,
      ⟨none, .asg 8 (.t 43)⟩])))))
def c_spec_l2Rename_l3 : ACode :=
  (.seq (.seq (.reg [⟨none, .mov 15 (.t 6)⟩,
      ⟨none, .fadr 16 1 (.t 2)⟩,
      ⟨none, .ld 17 1 false (.t 16)⟩,
      ⟨none, .len 18 (.t 17)⟩,
      ⟨none, .bin 19 .lss (.t 15) (.t 18)⟩])
   (.drop [15, 16, 17, 18] (.cond (.t 19) .skip
    (.exit 0))))
  (.drop [15, 16, 17, 18, 19] (.seq (.block 1 (.seq (.dreg [(⟨none, .fadr 22 1 (.t 2)⟩, []),
        (⟨none, .ld 23 1 false (.t 22)⟩, []),
        (⟨none, .mov 24 (.t 6)⟩, [22, 23]),
        (⟨none, .iad 25 2 (.t 23) (.t 24)⟩, []),
        (⟨none, .fadr 26 0 (.t 25)⟩, []),
        (⟨none, .ld 27 1 false (.t 26)⟩, []),
        (⟨none, .fadr 28 1 (.t 2)⟩, [22, 23, 24, 25, 26, 27]),
        (⟨none, .ld 29 1 false (.t 28)⟩, [22, 23, 24, 25, 26, 27]),
        (⟨none, .mov 30 (.t 6)⟩, [22, 23, 24, 25, 26, 27, 28, 29]),
        (⟨none, .iad 31 2 (.t 29) (.t 30)⟩, [22, 23, 24, 25, 26, 27]),
        (⟨none, .fadr 32 1 (.t 31)⟩, [22, 23, 24, 25, 26, 27]),
        (⟨none, .ld 33 1 false (.t 32)⟩, [22, 23, 24, 25, 26, 27]),
        (⟨none, .len 34 (.t 33)⟩, [22, 23, 24, 25, 26, 27]),
        (⟨none, .mk 35 1 (.int .i64 0) (.t 34)⟩, [22, 23, 24, 25, 26, 27]),
        (⟨none, .bld 36 [.int .i64 0, .nilsl 1] [(0, 1, (.t 27)), (1, 1, (.t 35))]⟩, []),
        (⟨none, .alc 7 (.agg [.int .i64 0, .nilsl 1])⟩, [22, 23, 24, 25, 26, 27, 28, 29, 30, 31, 32, 33, 34, 35, 36])]
       [⟨none, .st 2 (.t 7) (.t 36)⟩])
     (.drop [22, 23, 24, 25, 26, 27, 28, 29, 30, 31, 32, 33, 34, 35, 36] (.seq (.seq (.reg [⟨none, .asg 8 (.c (.int .i64 0))⟩])
       (.block 2 (.loop c_spec_l2Rename_l2)))
      (.drop [8, 37, 38, 39, 40, 41, 44, 45, 46, 47, 48, 49, 9, 10, 11, 50, 51, 52, 53, 56, 57, 58, 59, 60, 61, 62, 63, 64, 65, 66, 67, 54, 55, 68, 69, 70, 71, 72, 73, 74, 75, 76, 77, 78, 79, 80, 81, 82, 83, 42, 43] (.reg [⟨none, .fadr 84 1 (.t 5)⟩,
         ⟨none, .ld 85 1 false (.t 84)⟩,
         ⟨none, .ld 86 2 true (.t 7)⟩,
         ⟨none, .bsl 87 2 [(.t 86)]⟩,
         ⟨none, .app 88 2 (.t 85) (.t 87)⟩,
         ⟨none, .fadr 89 1 (.t 5)⟩,
         ⟨none, .st 1 (.t 89) (.t 88)⟩]))))))
   (.drop [22, 23, 24, 25, 26, 27, 28, 29, 30, 31, 32, 33, 34, 35, 36, 7, 8, 37, 38, 39, 40, 41, 44, 45, 46, 47, 48, 49, 9, 10, 11, 50, 51, 52, 53, 56, 57, 58, 59, 60, 61, 62, 63, 64, 65, 66, 67, 54, 55, 68, 69, 70, 71, 72, 73, 74, 75, 76, 77, 78, 79, 80, 81, 82, 83, 42, 43, 84, 85, 86, 87, 88, 89] (.reg [⟨none, .mov 20 (.t 6)⟩,
      ⟨none, .bin 21 .add (.t 20) (.c (.int .i64 1))⟩,
      ⟨none, .asg 6 (.t 21)⟩])))))
def c_spec_l2Rename : ACode :=
  (.seq (.reg [⟨none, .box 2 (.t 0)⟩,
     ⟨none, .alc 4 (.agg [.int .i64 0, .nilsl 2])⟩])
  (.seq (.reg [⟨none, .fadr 12 0 (.t 2)⟩,
      ⟨none, .ld 13 1 false (.t 12)⟩,
      ⟨none, .bld 14 [.int .i64 0, .nilsl 2] [(0, 1, (.t 13))]⟩,
      ⟨none, .alc 5 (.agg [.int .i64 0, .nilsl 2])⟩,
      ⟨none, .st 2 (.t 5) (.t 14)⟩])
   (.drop [12, 13, 14] (.seq (.seq (.reg [⟨none, .asg 6 (.c (.int .i64 0))⟩])
     (.block 0 (.loop c_spec_l2Rename_l3)))
    (.drop [6, 15, 16, 17, 18, 19, 22, 23, 24, 25, 26, 27, 28, 29, 30, 31, 32, 33, 34, 35, 36, 7, 8, 37, 38, 39, 40, 41, 44, 45, 46, 47, 48, 49, 9, 10, 11, 50, 51, 52, 53, 56, 57, 58, 59, 60, 61, 62, 63, 64, 65, 66, 67, 54, 55, 68, 69, 70, 71, 72, 73, 74, 75, 76, 77, 78, 79, 80, 81, 82, 83, 42, 43, 84, 85, 86, 87, 88, 89, 20, 21] (.seq (.reg [⟨none, .ld 90 2 true (.t 5)⟩,
        ⟨none, .st 2 (.t 4) (.t 90)⟩])
     (.drop [90] .ret)))))))
abbrev r_spec_l2Rename : List RS := [.c 4 2 true]
theorem k_spec_l2Rename : fitsF Try.prog f_spec_l2Rename 91 c_spec_l2Rename r_spec_l2Rename = true := by kernel_rfl

/- loop.example/g01078/impl.isOrder: [list=0, n=1, list=2, n=3, seen=5, _=6, x=7] -/
def c_impl_isOrder_k1 : ACode :=
  (.seq (.reg [⟨none, .mov 8 (.t 0)⟩,
       ⟨none, .len 9 (.t 8)⟩,
       ⟨none, .mov 10 (.t 1)⟩,
       ⟨none, .bin 11 .neq (.t 9) (.t 10)⟩,
       ⟨none, .asg 12 (.t 11)⟩,
       ⟨some (12, false), .mov 13 (.t 0)⟩,
       ⟨some (12, false), .mov 14 (.t 1)⟩,
       ⟨some (12, false), .call 15 f_impl_inSize [((.t 13), false), ((.t 14), false)]⟩,
       ⟨some (12, false), .un 16 .not (.t 15)⟩,
       ⟨none, .pick 17 (.t 12) (.c (.bool true)) (.t 16)⟩])
    (.drop [8, 9, 10, 11, 12, 13, 14, 15, 16] (.cond (.t 17) (.seq (.reg [⟨none, .asg 4 (.c (.bool false))⟩])
      .ret)
     .skip)))
def c_impl_isOrder_l1 : ACode :=
  (.seq (.reg [⟨none, .bin 23 .lss (.t 22) (.t 21)⟩])
  (.seq (.cond (.t 23) .skip
    (.exit 0))
   (.seq (.block 1 (.seq (.reg [⟨none, .iad 24 1 (.t 20) (.t 22)⟩,
         ⟨none, .ld 25 1 false (.t 24)⟩,
         ⟨none, .asg 7 (.t 25)⟩])
      (.drop [24, 25] (.seq (.seq (.reg [⟨none, .mov 26 (.t 5)⟩,
           ⟨none, .mov 27 (.t 7)⟩,
           ⟨none, .iad 28 1 (.t 26) (.t 27)⟩,
           ⟨none, .ld 29 1 false (.t 28)⟩])
        (.drop [26, 27, 28] (.cond (.t 29) (.seq (.reg [⟨none, .asg 4 (.c (.bool false))⟩])
          .ret)
         .skip)))
       (.drop [26, 27, 28, 29] (.reg [⟨none, .mov 30 (.t 5)⟩,
          ⟨none, .mov 31 (.t 7)⟩,
          ⟨none, .iad 32 1 (.t 30) (.t 31)⟩,
          ⟨none, .st 1 (.t 32) (.c (.bool true))⟩]))))))
    (.drop [24, 25, 7, 26, 27, 28, 29, 30, 31, 32] (.reg [⟨none, .bin 33 .add (.t 22) (.c (.int .i64 1))⟩,
       ⟨none, .asg 22 (.t 33)⟩])))))
def c_impl_isOrder : ACode :=
  (.seq (.reg [⟨none, .asg 4 (.c (.bool false))⟩])
  (.seq (.cut c_impl_isOrder_k1)
   (.drop [8, 9, 10, 11, 12, 13, 14, 15, 16, 17] (.seq (.reg [⟨none, .mov 18 (.t 1)⟩,
       ⟨none, .mk 19 1 (.bool false) (.t 18)⟩,
       ⟨none, .asg 5 (.t 19)⟩])
    (.drop [18, 19] (.seq (.seq (.reg [⟨none, .mov 20 (.t 0)⟩,
         ⟨none, .len 21 (.t 20)⟩,
         ⟨none, .mov 22 (.c (.int .i64 0))⟩])
      (.block 0 (.loop c_impl_isOrder_l1)))
     (.drop [20, 21, 22, 23, 24, 25, 7, 26, 27, 28, 29, 30, 31, 32, 33] (.seq (.reg [⟨none, .asg 4 (.c (.bool true))⟩])
      .ret))))))))
abbrev r_impl_isOrder : List RS := [.t 4]
theorem k_impl_isOrder : fitsF Try.prog f_impl_isOrder 34 c_impl_isOrder r_impl_isOrder = true := by kernel_rfl

/- loop.example/g01078/laws.markOpS: [a=0, k=1, a=2, k=3, i=5] -/
def c_laws_markOpS_l1 : ACode :=
  (.seq (.seq (.reg [⟨none, .mov 6 (.t 5)⟩,
      ⟨none, .mov 7 (.t 0)⟩,
      ⟨none, .len 8 (.t 7)⟩,
      ⟨none, .bin 9 .lss (.t 6) (.t 8)⟩])
   (.drop [6, 7, 8] (.cond (.t 9) .skip
    (.exit 0))))
  (.drop [6, 7, 8, 9] (.seq (.block 1 (.seq (.reg [⟨none, .mov 12 (.t 0)⟩,
        ⟨none, .mov 13 (.t 5)⟩,
        ⟨none, .mov 14 (.t 1)⟩,
        ⟨none, .iad 15 2 (.t 12) (.t 13)⟩,
        ⟨none, .fadr 16 0 (.t 15)⟩,
        ⟨none, .st 1 (.t 16) (.t 14)⟩])
     (.drop [12, 13, 14, 15, 16] (.seq (.reg [⟨none, .mov 17 (.t 1)⟩,
         ⟨none, .bin 18 .add (.t 17) (.c (.int .i64 1))⟩,
         ⟨none, .asg 1 (.t 18)⟩])
      (.drop [17, 18] (.reg [⟨none, .mov 19 (.t 0)⟩,
         ⟨none, .mov 20 (.t 5)⟩,
         ⟨none, .iad 21 2 (.t 19) (.t 20)⟩,
         ⟨none, .fadr 22 1 (.t 21)⟩,
         ⟨none, .ld 23 1 false (.t 22)⟩,
         ⟨none, .mov 24 (.t 1)⟩,
         ⟨none, .call 25 f_laws_markIntS [((.t 23), true), ((.t 24), false)]⟩,
         ⟨none, .asg 1 (.t 25)⟩]))))))
   (.drop [12, 13, 14, 15, 16, 17, 18, 19, 20, 21, 22, 23, 24, 25] (.reg [⟨none, .mov 10 (.t 5)⟩,
      ⟨none, .bin 11 .add (.t 10) (.c (.int .i64 1))⟩,
      ⟨none, .asg 5 (.t 11)⟩])))))
def c_laws_markOpS : ACode :=
  (.seq (.reg [⟨none, .asg 4 (.c (.int .i64 0))⟩])
  (.seq (.seq (.reg [⟨none, .asg 5 (.c (.int .i64 0))⟩])
    (.block 0 (.loop c_laws_markOpS_l1)))
   (.drop [5, 6, 7, 8, 9, 12, 13, 14, 15, 16, 17, 18, 19, 20, 21, 22, 23, 24, 25, 10, 11] (.seq (.reg [⟨none, .mov 26 (.t 1)⟩,
       ⟨none, .asg 4 (.t 26)⟩])
    (.drop [26] .ret)))))
abbrev r_laws_markOpS : List RS := [.t 4]
theorem k_laws_markOpS : fitsF Try.prog f_laws_markOpS 27 c_laws_markOpS r_laws_markOpS = true := by kernel_rfl

/- loop.example/g01078/laws.heldOpS: [a=0, k=1, a=2, k=3, i=5] -/
def c_laws_heldOpS_l1 : ACode :=
  (.seq (.seq (.reg [⟨none, .mov 6 (.t 5)⟩,
      ⟨none, .mov 7 (.t 0)⟩,
      ⟨none, .len 8 (.t 7)⟩,
      ⟨none, .bin 9 .lss (.t 6) (.t 8)⟩])
   (.drop [6, 7, 8] (.cond (.t 9) .skip
    (.exit 0))))
  (.drop [6, 7, 8, 9] (.seq (.block 1 (.seq (.seq (.reg [⟨none, .mov 12 (.t 0)⟩,
         ⟨none, .mov 13 (.t 5)⟩,
         ⟨none, .iad 14 2 (.t 12) (.t 13)⟩,
         ⟨none, .fadr 15 0 (.t 14)⟩,
         ⟨none, .ld 16 1 false (.t 15)⟩,
         ⟨none, .mov 17 (.t 1)⟩,
         ⟨none, .bin 18 .neq (.t 16) (.t 17)⟩])
      (.drop [12, 13, 14, 15, 16, 17] (.cond (.t 18) (.seq (.reg [⟨none, .asg 4 (.c (.int .i64 (-1)))⟩])
        .ret)
       .skip)))
     (.drop [12, 13, 14, 15, 16, 17, 18] (.seq (.reg [⟨none, .mov 19 (.t 1)⟩,
         ⟨none, .bin 20 .add (.t 19) (.c (.int .i64 1))⟩,
         ⟨none, .asg 1 (.t 20)⟩])
      (.drop [19, 20] (.seq (.reg [⟨none, .mov 21 (.t 0)⟩,
          ⟨none, .mov 22 (.t 5)⟩,
          ⟨none, .iad 23 2 (.t 21) (.t 22)⟩,
          ⟨none, .fadr 24 1 (.t 23)⟩,
          ⟨none, .ld 25 1 false (.t 24)⟩,
          ⟨none, .mov 26 (.t 1)⟩,
          ⟨none, .call 27 f_laws_heldIntS [((.t 25), false), ((.t 26), false)]⟩,
          ⟨none, .asg 1 (.t 27)⟩])
       (.drop [21, 22, 23, 24, 25, 26, 27] (.seq (.reg [⟨none, .mov 28 (.t 1)⟩,
           ⟨none, .bin 29 .lss (.t 28) (.c (.int .i64 0))⟩])
        (.drop [28] (.cond (.t 29) (.seq (.reg [⟨none, .asg 4 (.c (.int .i64 (-1)))⟩])
          .ret)
         .skip))))))))))
   (.drop [12, 13, 14, 15, 16, 17, 18, 19, 20, 21, 22, 23, 24, 25, 26, 27, 28, 29] (.reg [⟨none, .mov 10 (.t 5)⟩,
      ⟨none, .bin 11 .add (.t 10) (.c (.int .i64 1))⟩,
      ⟨none, .asg 5 (.t 11)⟩])))))
def c_laws_heldOpS : ACode :=
  (.seq (.reg [⟨none, .asg 4 (.c (.int .i64 0))⟩])
  (.seq (.seq (.reg [⟨none, .asg 5 (.c (.int .i64 0))⟩])
    (.block 0 (.loop c_laws_heldOpS_l1)))
   (.drop [5, 6, 7, 8, 9, 12, 13, 14, 15, 16, 17, 18, 19, 20, 21, 22, 23, 24, 25, 26, 27, 28, 29, 10, 11] (.seq (.reg [⟨none, .mov 30 (.t 1)⟩,
       ⟨none, .asg 4 (.t 30)⟩])
    (.drop [30] .ret)))))
abbrev r_laws_heldOpS : List RS := [.t 4]
theorem k_laws_heldOpS : fitsF Try.prog f_laws_heldOpS 31 c_laws_heldOpS r_laws_heldOpS = true := by kernel_rfl

/- loop.example/g01078/spec.l7Into: [f=0, f=1, i=3] -/
def c_spec_l7Into_l1 : ACode :=
  (.seq (.seq (.reg [⟨none, .mov 4 (.t 3)⟩,
      ⟨none, .mov 5 (.t 0)⟩,
      ⟨none, .len 6 (.t 5)⟩,
      ⟨none, .bin 7 .lss (.t 4) (.t 6)⟩])
   (.drop [4, 5, 6] (.cond (.t 7) .skip
    (.exit 0))))
  (.drop [4, 5, 6, 7] (.seq (.block 1 (.seq (.dreg [(⟨none, .mov 10 (.t 0)⟩, []),
        (⟨none, .mov 11 (.t 3)⟩, [10]),
        (⟨none, .iad 12 1 (.t 10) (.t 11)⟩, []),
        (⟨none, .ld 13 1 false (.t 12)⟩, []),
        (⟨none, .bin 14 .geq (.t 13) (.c (.int .i64 0))⟩, []),
        (⟨none, .asg 15 (.t 14)⟩, []),
        (⟨some (15, true), .mov 16 (.t 0)⟩, [14]),
        (⟨some (15, true), .mov 17 (.t 3)⟩, [16, 14]),
        (⟨some (15, true), .slc 18 1 (.t 16) none (some (.t 17))⟩, [14]),
        (⟨some (15, true), .mov 19 (.t 0)⟩, [16, 17, 18, 14]),
        (⟨some (15, true), .mov 20 (.t 3)⟩, [16, 17, 18, 19, 14]),
        (⟨some (15, true), .iad 21 1 (.t 19) (.t 20)⟩, [16, 17, 18, 14]),
        (⟨some (15, true), .ld 22 1 false (.t 21)⟩, [16, 17, 18, 14])]
       [⟨some (15, true), .call 23 f_spec_l1Has [((.t 18), false), ((.t 22), false)]⟩,
        ⟨none, .pick 24 (.t 15) (.t 23) (.c (.bool false))⟩])
     (.drop [10, 11, 12, 13, 14, 15, 16, 17, 18, 19, 20, 21, 22, 23] (.cond (.t 24) (.seq (.reg [⟨none, .asg 2 (.c (.bool false))⟩])
       .ret)
      .skip))))
   (.drop [10, 11, 12, 13, 14, 15, 16, 17, 18, 19, 20, 21, 22, 23, 24] (.reg [⟨none, .mov 8 (.t 3)⟩,
      ⟨none, .bin 9 .add (.t 8) (.c (.int .i64 1))⟩,
      ⟨none, .asg 3 (.t 9)⟩])))))
def c_spec_l7Into : ACode :=
  (.seq (.reg [⟨none, .asg 2 (.c (.bool false))⟩])
  (.seq (.seq (.reg [⟨none, .asg 3 (.c (.int .i64 0))⟩])
    (.block 0 (.loop c_spec_l7Into_l1)))
   (.drop [3, 4, 5, 6, 7, 10, 11, 12, 13, 14, 15, 16, 17, 18, 19, 20, 21, 22, 23, 24, 8, 9] (.seq (.reg [⟨none, .asg 2 (.c (.bool true))⟩])
    .ret))))
abbrev r_spec_l7Into : List RS := [.t 2]
theorem k_spec_l7Into : fitsF Try.prog f_spec_l7Into 25 c_spec_l7Into r_spec_l7Into = true := by kernel_rfl

/- loop.example/g01078/laws.szOp: [a=0, left=1, a=2, left=3] -/
def c_laws_szOp : ACode :=
  (.seq (.reg [⟨none, .box 2 (.t 0)⟩,
     ⟨none, .asg 4 (.c (.int .i64 0))⟩])
  (.seq (.reg [⟨none, .fadr 5 1 (.t 2)⟩,
      ⟨none, .ld 6 1 false (.t 5)⟩,
      ⟨none, .mov 7 (.t 1)⟩,
      ⟨none, .call 8 f_laws_szIntS [((.t 6), false), ((.t 7), false)]⟩,
      ⟨none, .asg 1 (.t 8)⟩])
   (.drop [5, 6, 7, 8] (.seq (.seq (.reg [⟨none, .mov 9 (.t 1)⟩,
        ⟨none, .bin 10 .lss (.t 9) (.c (.int .i64 0))⟩])
     (.drop [9] (.cond (.t 10) (.seq (.reg [⟨none, .asg 4 (.c (.int .i64 (-1)))⟩])
       .ret)
      .skip)))
    (.drop [9, 10] (.seq (.reg [⟨none, .mov 11 (.t 1)⟩,
        ⟨none, .asg 4 (.t 11)⟩])
     (.drop [11] .ret)))))))
abbrev r_laws_szOp : List RS := [.t 4]
theorem k_laws_szOp : fitsF Try.prog f_laws_szOp 12 c_laws_szOp r_laws_szOp = true := by kernel_rfl

/- loop.example/g01078/spec.l2Op: [n=0, op=1, n=2, op=3, i=5] -/
def c_spec_l2Op_k1 : ACode :=
  (.seq (.dreg [(⟨none, .fadr 6 0 (.t 3)⟩, []),
       (⟨none, .ld 7 1 false (.t 6)⟩, []),
       (⟨none, .call 8 f_spec_l1In [((.t 7), false), ((.c (.int .i64 0)), false), ((.c (.int .i64 3)), false)]⟩, []),
       (⟨none, .un 9 .not (.t 8)⟩, []),
       (⟨none, .asg 10 (.t 9)⟩, []),
       (⟨some (10, false), .fadr 11 1 (.t 3)⟩, [9]),
       (⟨some (10, false), .ld 12 1 false (.t 11)⟩, [9]),
       (⟨some (10, false), .len 13 (.t 12)⟩, [9]),
       (⟨some (10, false), .mov 14 (.t 0)⟩, [11, 12, 13, 9]),
       (⟨some (10, false), .fadr 15 0 (.t 3)⟩, [11, 12, 13, 14, 9]),
       (⟨some (10, false), .ld 16 1 false (.t 15)⟩, [11, 12, 13, 14, 9]),
       (⟨some (10, false), .call 17 f_spec_l2Pow [((.t 14), false), ((.t 16), false)]⟩, [11, 12, 13, 9])]
      [⟨some (10, false), .bin 18 .neq (.t 13) (.t 17)⟩,
       ⟨none, .pick 19 (.t 10) (.c (.bool true)) (.t 18)⟩])
    (.drop [6, 7, 8, 9, 10, 11, 12, 13, 14, 15, 16, 17, 18] (.cond (.t 19) (.seq (.reg [⟨none, .asg 4 (.c (.bool false))⟩])
      .ret)
     .skip)))
def c_spec_l2Op_l1 : ACode :=
  (.seq (.seq (.reg [⟨none, .mov 20 (.t 5)⟩,
      ⟨none, .fadr 21 1 (.t 3)⟩,
      ⟨none, .ld 22 1 false (.t 21)⟩,
      ⟨none, .len 23 (.t 22)⟩,
      ⟨none, .bin 24 .lss (.t 20) (.t 23)⟩])
   (.drop [20, 21, 22, 23] (.cond (.t 24) .skip
    (.exit 0))))
  (.drop [20, 21, 22, 23, 24] (.seq (.block 1 (.seq (.reg [⟨none, .fadr 27 1 (.t 3)⟩,
        ⟨none, .ld 28 1 false (.t 27)⟩,
        ⟨none, .mov 29 (.t 5)⟩,
        ⟨none, .iad 30 1 (.t 28) (.t 29)⟩,
        ⟨none, .ld 31 1 false (.t 30)⟩,
        ⟨none, .mov 32 (.t 0)⟩,
        ⟨none, .bin 33 .sub (.t 32) (.c (.int .i64 1))⟩,
        ⟨none, .call 34 f_spec_l1In [((.t 31), false), ((.c (.int .i64 0)), false), ((.t 33), false)]⟩,
        ⟨none, .un 35 .not (.t 34)⟩])
     (.drop [27, 28, 29, 30, 31, 32, 33, 34] (.cond (.t 35) (.seq (.reg [⟨none, .asg 4 (.c (.bool false))⟩])
       .ret)
      .skip))))
   (.drop [27, 28, 29, 30, 31, 32, 33, 34, 35] (.reg [⟨none, .mov 25 (.t 5)⟩,
      ⟨none, .bin 26 .add (.t 25) (.c (.int .i64 1))⟩,
      ⟨none, .asg 5 (.t 26)⟩])))))
def c_spec_l2Op : ACode :=
  (.seq (.reg [⟨none, .box 3 (.t 1)⟩,
     ⟨none, .asg 4 (.c (.bool false))⟩])
  (.seq (.cut c_spec_l2Op_k1)
   (.drop [6, 7, 8, 9, 10, 11, 12, 13, 14, 15, 16, 17, 18, 19] (.seq (.seq (.reg [⟨none, .asg 5 (.c (.int .i64 0))⟩])
     (.block 0 (.loop c_spec_l2Op_l1)))
    (.drop [5, 20, 21, 22, 23, 24, 27, 28, 29, 30, 31, 32, 33, 34, 35, 25, 26] (.seq (.reg [⟨none, .asg 4 (.c (.bool true))⟩])
     .ret))))))
abbrev r_spec_l2Op : List RS := [.t 4]
theorem k_spec_l2Op : fitsF Try.prog f_spec_l2Op 36 c_spec_l2Op r_spec_l2Op = true := by kernel_rfl

/- loop.example/g01078/spec.l2Elements: [n=0, list=1, n=2, list=3, i=5] -/
def c_spec_l2Elements_l1 : ACode :=
  (.seq (.seq (.reg [⟨none, .mov 6 (.t 5)⟩,
      ⟨none, .mov 7 (.t 1)⟩,
      ⟨none, .len 8 (.t 7)⟩,
      ⟨none, .bin 9 .lss (.t 6) (.t 8)⟩])
   (.drop [6, 7, 8] (.cond (.t 9) .skip
    (.exit 0))))
  (.drop [6, 7, 8, 9] (.seq (.block 1 (.seq (.reg [⟨none, .mov 12 (.t 1)⟩,
        ⟨none, .mov 13 (.t 5)⟩,
        ⟨none, .iad 14 1 (.t 12) (.t 13)⟩,
        ⟨none, .ld 15 1 false (.t 14)⟩,
        ⟨none, .mov 16 (.t 0)⟩,
        ⟨none, .bin 17 .sub (.t 16) (.c (.int .i64 1))⟩,
        ⟨none, .call 18 f_spec_l1In [((.t 15), false), ((.c (.int .i64 0)), false), ((.t 17), false)]⟩,
        ⟨none, .un 19 .not (.t 18)⟩])
     (.drop [12, 13, 14, 15, 16, 17, 18] (.cond (.t 19) (.seq (.reg [⟨none, .asg 4 (.c (.bool false))⟩])
       .ret)
      .skip))))
   (.drop [12, 13, 14, 15, 16, 17, 18, 19] (.reg [⟨none, .mov 10 (.t 5)⟩,
      ⟨none, .bin 11 .add (.t 10) (.c (.int .i64 1))⟩,
      ⟨none, .asg 5 (.t 11)⟩])))))
def c_spec_l2Elements : ACode :=
  (.seq (.reg [⟨none, .asg 4 (.c (.bool false))⟩])
  (.seq (.seq (.reg [⟨none, .asg 5 (.c (.int .i64 0))⟩])
    (.block 0 (.loop c_spec_l2Elements_l1)))
   (.drop [5, 6, 7, 8, 9, 12, 13, 14, 15, 16, 17, 18, 19, 10, 11] (.seq (.reg [⟨none, .asg 4 (.c (.bool true))⟩])
    .ret))))
abbrev r_spec_l2Elements : List RS := [.t 4]
theorem k_spec_l2Elements : fitsF Try.prog f_spec_l2Elements 20 c_spec_l2Elements r_spec_l2Elements = true := by kernel_rfl

/- loop.example/g01078/laws.toOp: [a=0, a=1, out=3] -/
def c_laws_toOp : ACode :=
  (.seq (.reg [⟨none, .box 1 (.t 0)⟩,
     ⟨none, .alc 2 (.agg [.int .i64 0, .nilsl 1])⟩])
  (.seq (.reg [⟨none, .alc 3 (.agg [.int .i64 0, .nilsl 1])⟩])
   (.seq (.reg [⟨none, .fadr 4 0 (.t 1)⟩,
       ⟨none, .ld 5 1 false (.t 4)⟩,
       ⟨none, .fadr 6 0 (.t 3)⟩,
       ⟨none, .st 1 (.t 6) (.t 5)⟩])
    (.drop [4, 5, 6] (.seq (.reg [⟨none, .fadr 7 1 (.t 1)⟩,
        ⟨none, .ld 8 1 false (.t 7)⟩,
        ⟨none, .call 9 f_laws_toIntS [((.t 8), false)]⟩,
        ⟨none, .fadr 10 1 (.t 3)⟩,
        ⟨none, .st 1 (.t 10) (.t 9)⟩])
     (.drop [7, 8, 9, 10] (.seq (.reg [⟨none, .ld 11 2 true (.t 3)⟩,
         ⟨none, .st 2 (.t 2) (.t 11)⟩])
      (.drop [11] .ret))))))))
abbrev r_laws_toOp : List RS := [.c 2 2 true]
theorem k_laws_toOp : fitsF Try.prog f_laws_toOp 12 c_laws_toOp r_laws_toOp = true := by kernel_rfl

/- loop.example/g01078/impl.isOp: [f=0, n=1, f=2, n=3] -/
def c_impl_isOp : ACode :=
  (.seq (.reg [⟨none, .box 2 (.t 0)⟩,
     ⟨none, .asg 4 (.c (.bool false))⟩])
  (.seq (.dreg [(⟨none, .fadr 5 0 (.t 2)⟩, []),
      (⟨none, .ld 6 1 false (.t 5)⟩, []),
      (⟨none, .bin 7 .geq (.t 6) (.c (.int .i64 0))⟩, []),
      (⟨none, .asg 8 (.t 7)⟩, []),
      (⟨some (8, true), .fadr 9 0 (.t 2)⟩, [7]),
      (⟨some (8, true), .ld 10 1 false (.t 9)⟩, [7]),
      (⟨some (8, true), .bin 11 .leq (.t 10) (.c (.int .i64 3))⟩, [7]),
      (⟨none, .pick 12 (.t 8) (.t 11) (.c (.bool false))⟩, [7]),
      (⟨none, .asg 13 (.t 12)⟩, [7]),
      (⟨some (13, true), .fadr 14 1 (.t 2)⟩, [7, 12]),
      (⟨some (13, true), .ld 15 1 false (.t 14)⟩, [7, 12]),
      (⟨some (13, true), .len 16 (.t 15)⟩, [7, 12]),
      (⟨some (13, true), .mov 17 (.t 1)⟩, [14, 15, 16, 7, 12]),
      (⟨some (13, true), .fadr 18 0 (.t 2)⟩, [14, 15, 16, 17, 7, 12]),
      (⟨some (13, true), .ld 19 1 false (.t 18)⟩, [14, 15, 16, 17, 7, 12]),
      (⟨some (13, true), .call 20 f_impl_power [((.t 17), false), ((.t 19), false)]⟩, [14, 15, 16, 7, 12]),
      (⟨some (13, true), .bin 21 .eql (.t 16) (.t 20)⟩, [7, 12]),
      (⟨none, .pick 22 (.t 13) (.t 21) (.c (.bool false))⟩, [7, 12]),
      (⟨none, .asg 23 (.t 22)⟩, [7, 12]),
      (⟨some (23, true), .fadr 24 1 (.t 2)⟩, [7, 12, 22]),
      (⟨some (23, true), .ld 25 1 false (.t 24)⟩, [7, 12, 22]),
      (⟨some (23, true), .mov 26 (.t 1)⟩, [24, 25, 7, 12, 22])]
     [⟨some (23, true), .call 27 f_impl_inSize [((.t 25), false), ((.t 26), false)]⟩,
      ⟨none, .pick 28 (.t 23) (.t 27) (.c (.bool false))⟩,
      ⟨none, .asg 4 (.t 28)⟩])
   (.drop [5, 6, 7, 8, 9, 10, 11, 12, 13, 14, 15, 16, 17, 18, 19, 20, 21, 22, 23, 24, 25, 26, 27, 28] .ret)))
abbrev r_impl_isOp : List RS := [.t 4]
theorem k_impl_isOp : fitsF Try.prog f_impl_isOp 29 c_impl_isOp r_impl_isOp = true := by kernel_rfl

/- loop.example/g01078/laws.eqOp: [a=0, b=1, a=2, b=3] -/
def c_laws_eqOp : ACode :=
  (.seq (.reg [⟨none, .box 2 (.t 0)⟩,
     ⟨none, .box 3 (.t 1)⟩,
     ⟨none, .asg 4 (.c (.bool false))⟩])
  (.seq (.seq (.reg [⟨none, .fadr 5 0 (.t 2)⟩,
       ⟨none, .ld 6 1 false (.t 5)⟩,
       ⟨none, .fadr 7 0 (.t 3)⟩,
       ⟨none, .ld 8 1 false (.t 7)⟩,
       ⟨none, .bin 9 .neq (.t 6) (.t 8)⟩])
    (.drop [5, 6, 7, 8] (.cond (.t 9) (.seq (.reg [⟨none, .asg 4 (.c (.bool false))⟩])
      .ret)
     .skip)))
   (.drop [5, 6, 7, 8, 9] (.seq (.seq (.reg [⟨none, .fadr 10 1 (.t 2)⟩,
        ⟨none, .ld 11 1 false (.t 10)⟩,
        ⟨none, .fadr 12 1 (.t 3)⟩,
        ⟨none, .ld 13 1 false (.t 12)⟩,
        ⟨none, .call 14 f_laws_eqIntS [((.t 11), false), ((.t 13), false)]⟩,
        ⟨none, .un 15 .not (.t 14)⟩])
     (.drop [10, 11, 12, 13, 14] (.cond (.t 15) (.seq (.reg [⟨none, .asg 4 (.c (.bool false))⟩])
       .ret)
      .skip)))
    (.drop [10, 11, 12, 13, 14, 15] (.seq (.reg [⟨none, .asg 4 (.c (.bool true))⟩])
     .ret))))))
abbrev r_laws_eqOp : List RS := [.t 4]
theorem k_laws_eqOp : fitsF Try.prog f_laws_eqOp 16 c_laws_eqOp r_laws_eqOp = true := by kernel_rfl

/- loop.example/g01078/spec.l2Same: [a=0, b=1, a=2, b=3] -/
def c_spec_l2Same : ACode :=
  (.seq (.reg [⟨none, .box 2 (.t 0)⟩,
     ⟨none, .box 3 (.t 1)⟩,
     ⟨none, .asg 4 (.c (.bool false))⟩])
  (.seq (.dreg [(⟨none, .ld 5 2 true (.t 2)⟩, []),
      (⟨none, .call 6 f_spec_l2Type [((.t 5), false)]⟩, []),
      (⟨none, .ld 7 2 true (.t 3)⟩, [5, 6])]
     [⟨none, .call 8 f_spec_l2Type [((.t 7), false)]⟩,
      ⟨none, .call 9 f_spec_l1Same [((.t 6), false), ((.t 8), false)]⟩,
      ⟨none, .asg 4 (.t 9)⟩])
   (.drop [5, 6, 7, 8, 9] .ret)))
abbrev r_spec_l2Same : List RS := [.t 4]
theorem k_spec_l2Same : fitsF Try.prog f_spec_l2Same 10 c_spec_l2Same r_spec_l2Same = true := by kernel_rfl

/- loop.example/g01078/spec.l7Fault: [a=0, b=1, f=2, a=3, b=4, f=5, k=9, at=10, args=11] -/
def c_spec_l7Fault_l1 : ACode :=
  (.seq (.seq (.reg [⟨none, .mov 19 (.t 10)⟩,
      ⟨none, .fadr 20 1 (.t 3)⟩,
      ⟨none, .ld 21 1 false (.t 20)⟩,
      ⟨none, .mov 22 (.t 9)⟩,
      ⟨none, .iad 23 2 (.t 21) (.t 22)⟩,
      ⟨none, .fadr 24 1 (.t 23)⟩,
      ⟨none, .ld 25 1 false (.t 24)⟩,
      ⟨none, .len 26 (.t 25)⟩,
      ⟨none, .bin 27 .lss (.t 19) (.t 26)⟩])
   (.drop [19, 20, 21, 22, 23, 24, 25, 26] (.cond (.t 27) .skip
    (.exit 2))))
  (.drop [19, 20, 21, 22, 23, 24, 25, 26, 27] (.seq (.block 3 (.seq (.dreg [(⟨none, .fadr 30 0 (.t 3)⟩, []),
        (⟨none, .ld 31 1 false (.t 30)⟩, []),
        (⟨none, .fadr 32 1 (.t 3)⟩, [30, 31]),
        (⟨none, .ld 33 1 false (.t 32)⟩, [30, 31]),
        (⟨none, .mov 34 (.t 9)⟩, [30, 31, 32, 33]),
        (⟨none, .iad 35 2 (.t 33) (.t 34)⟩, [30, 31]),
        (⟨none, .fadr 36 0 (.t 35)⟩, [30, 31]),
        (⟨none, .ld 37 1 false (.t 36)⟩, [30, 31]),
        (⟨none, .mov 38 (.t 10)⟩, [30, 31, 32, 33, 34, 35, 36, 37])]
       [⟨none, .call 39 f_spec_l2Args [((.t 31), false), ((.t 37), false), ((.t 38), false)]⟩,
        ⟨none, .asg 11 (.t 39)⟩])
     (.drop [30, 31, 32, 33, 34, 35, 36, 37, 38, 39] (.seq (.dreg [(⟨none, .mov 40 (.t 2)⟩, []),
         (⟨none, .fadr 41 1 (.t 3)⟩, [40]),
         (⟨none, .ld 42 1 false (.t 41)⟩, [40]),
         (⟨none, .mov 43 (.t 9)⟩, [40, 41, 42]),
         (⟨none, .iad 44 2 (.t 42) (.t 43)⟩, [40]),
         (⟨none, .fadr 45 1 (.t 44)⟩, [40]),
         (⟨none, .ld 46 1 false (.t 45)⟩, [40]),
         (⟨none, .mov 47 (.t 10)⟩, [40, 41, 42, 43, 44, 45, 46]),
         (⟨none, .iad 48 1 (.t 46) (.t 47)⟩, [40]),
         (⟨none, .ld 49 1 false (.t 48)⟩, [40]),
         (⟨none, .iad 50 1 (.t 40) (.t 49)⟩, []),
         (⟨none, .ld 51 1 false (.t 50)⟩, []),
         (⟨none, .ld 52 2 true (.t 4)⟩, [40, 41, 42, 43, 44, 45, 46, 47, 48, 49, 50, 51]),
         (⟨none, .mov 53 (.t 9)⟩, [40, 41, 42, 43, 44, 45, 46, 47, 48, 49, 50, 51, 52]),
         (⟨none, .mov 54 (.t 2)⟩, [40, 41, 42, 43, 44, 45, 46, 47, 48, 49, 50, 51, 52, 53]),
         (⟨none, .mov 55 (.t 11)⟩, [40, 41, 42, 43, 44, 45, 46, 47, 48, 49, 50, 51, 52, 53, 54]),
         (⟨none, .call 56 f_spec_l7Images [((.t 54), false), ((.t 55), false)]⟩, [40, 41, 42, 43, 44, 45, 46, 47, 48, 49, 50, 51, 52, 53]),
         (⟨none, .call 57 f_spec_l2Value [((.t 52), false), ((.t 53), false), ((.t 56), false)]⟩, [40, 41, 42, 43, 44, 45, 46, 47, 48, 49, 50, 51])]
        [⟨none, .bin 58 .neq (.t 51) (.t 57)⟩])
      (.drop [40, 41, 42, 43, 44, 45, 46, 47, 48, 49, 50, 51, 52, 53, 54, 55, 56, 57] (.cond (.t 58) (.seq (.reg [⟨none, .mov 59 (.t 9)⟩,
           ⟨none, .mov 60 (.t 11)⟩,
           ⟨none, .asg 6 (.t 59)⟩,
           ⟨none, .asg 7 (.t 60)⟩,
           ⟨none, .asg 8 (.c (.bool true))⟩])
        (.drop [59, 60] .ret))
       .skip))))))
   (.drop [30, 31, 32, 33, 34, 35, 36, 37, 38, 39, 11, 40, 41, 42, 43, 44, 45, 46, 47, 48, 49, 50, 51, 52, 53, 54, 55, 56, 57, 58, 59, 60] (.reg [⟨none, .mov 28 (.t 10)⟩,
      ⟨none, .bin 29 .add (.t 28) (.c (.int .i64 1))⟩,
      ⟨none, .asg 10 (.t 29)⟩])))))
def c_spec_l7Fault_l2 : ACode :=
  (.seq (.seq (.reg [⟨none, .mov 12 (.t 9)⟩,
      ⟨none, .fadr 13 1 (.t 3)⟩,
      ⟨none, .ld 14 1 false (.t 13)⟩,
      ⟨none, .len 15 (.t 14)⟩,
      ⟨none, .bin 16 .lss (.t 12) (.t 15)⟩])
   (.drop [12, 13, 14, 15] (.cond (.t 16) .skip
    (.exit 0))))
  (.drop [12, 13, 14, 15, 16] (.seq (.block 1 (.seq (.reg [⟨none, .asg 10 (.c (.int .i64 0))⟩])
     (.block 2 (.loop c_spec_l7Fault_l1))))
   (.drop [10, 19, 20, 21, 22, 23, 24, 25, 26, 27, 30, 31, 32, 33, 34, 35, 36, 37, 38, 39, 11, 40, 41, 42, 43, 44, 45, 46, 47, 48, 49, 50, 51, 52, 53, 54, 55, 56, 57, 58, 59, 60, 28, 29] (.reg [⟨none, .mov 17 (.t 9)⟩,
      ⟨none, .bin 18 .add (.t 17) (.c (.int .i64 1))⟩,
      ⟨none, .asg 9 (.t 18)⟩])))))
def c_spec_l7Fault : ACode :=
  (.seq (.reg [⟨none, .box 3 (.t 0)⟩,
     ⟨none, .box 4 (.t 1)⟩,
     ⟨none, .asg 6 (.c (.int .i64 0))⟩,
     ⟨none, .asg 7 (.c (.nilsl 1))⟩,
     ⟨none, .asg 8 (.c (.bool false))⟩])
  (.seq (.seq (.reg [⟨none, .asg 9 (.c (.int .i64 0))⟩])
    (.block 0 (.loop c_spec_l7Fault_l2)))
   (.drop [9, 12, 13, 14, 15, 16, 10, 19, 20, 21, 22, 23, 24, 25, 26, 27, 30, 31, 32, 33, 34, 35, 36, 37, 38, 39, 11, 40, 41, 42, 43, 44, 45, 46, 47, 48, 49, 50, 51, 52, 53, 54, 55, 56, 57, 58, 59, 60, 28, 29, 17, 18] (.seq (.reg [⟨none, .bsl 61 1 []⟩,
       ⟨none, .asg 6 (.c (.int .i64 0))⟩,
       ⟨none, .asg 7 (.t 61)⟩,
       ⟨none, .asg 8 (.c (.bool false))⟩])
    (.drop [61] .ret)))))
abbrev r_spec_l7Fault : List RS := [.t 6, .t 7, .t 8]
theorem k_spec_l7Fault : fitsF Try.prog f_spec_l7Fault 62 c_spec_l7Fault r_spec_l7Fault = true := by kernel_rfl

/- loop.example/g01078/impl.isMap: [a=0, b=1, f=2, a=3, b=4, f=5] -/
def c_impl_isMap : ACode :=
  (.seq (.reg [⟨none, .box 3 (.t 0)⟩,
     ⟨none, .box 4 (.t 1)⟩,
     ⟨none, .asg 6 (.c (.bool false))⟩])
  (.seq (.reg [⟨none, .mov 7 (.t 2)⟩,
      ⟨none, .len 8 (.t 7)⟩,
      ⟨none, .fadr 9 0 (.t 3)⟩,
      ⟨none, .ld 10 1 false (.t 9)⟩,
      ⟨none, .bin 11 .eql (.t 8) (.t 10)⟩,
      ⟨none, .asg 12 (.t 11)⟩,
      ⟨some (12, true), .mov 13 (.t 2)⟩,
      ⟨some (12, true), .fadr 14 0 (.t 4)⟩,
      ⟨some (12, true), .ld 15 1 false (.t 14)⟩,
      ⟨some (12, true), .call 16 f_impl_inSize [((.t 13), false), ((.t 15), false)]⟩,
      ⟨none, .pick 17 (.t 12) (.t 16) (.c (.bool false))⟩,
      ⟨none, .asg 6 (.t 17)⟩])
   (.drop [7, 8, 9, 10, 11, 12, 13, 14, 15, 16, 17] .ret)))
abbrev r_impl_isMap : List RS := [.t 6]
theorem k_impl_isMap : fitsF Try.prog f_impl_isMap 18 c_impl_isMap r_impl_isMap = true := by kernel_rfl

/- loop.example/g01078/impl.faultOf: [a=0, b=1, f=2, a=3, b=4, f=5, k=8, op=9, i=10, v=11] -/
def c_impl_faultOf_l1 : ACode :=
  (.seq (.reg [⟨none, .bin 24 .lss (.t 23) (.t 22)⟩])
  (.seq (.cond (.t 24) .skip
    (.exit 2))
   (.seq (.block 3 (.seq (.reg [⟨none, .mov 25 (.t 23)⟩,
         ⟨none, .iad 26 1 (.t 21) (.t 23)⟩,
         ⟨none, .ld 27 1 false (.t 26)⟩,
         ⟨none, .asg 10 (.t 25)⟩,
         ⟨none, .asg 11 (.t 27)⟩])
      (.drop [25, 26, 27] (.seq (.dreg [(⟨none, .mov 28 (.t 2)⟩, []),
          (⟨none, .mov 29 (.t 11)⟩, [28]),
          (⟨none, .iad 30 1 (.t 28) (.t 29)⟩, []),
          (⟨none, .ld 31 1 false (.t 30)⟩, []),
          (⟨none, .fadr 32 1 (.t 4)⟩, [28, 29, 30, 31]),
          (⟨none, .ld 33 1 false (.t 32)⟩, [28, 29, 30, 31]),
          (⟨none, .mov 34 (.t 8)⟩, [28, 29, 30, 31, 32, 33]),
          (⟨none, .iad 35 2 (.t 33) (.t 34)⟩, [28, 29, 30, 31]),
          (⟨none, .fadr 36 1 (.t 35)⟩, [28, 29, 30, 31]),
          (⟨none, .ld 37 1 false (.t 36)⟩, [28, 29, 30, 31]),
          (⟨none, .mov 38 (.t 10)⟩, [28, 29, 30, 31, 32, 33, 34, 35, 36, 37]),
          (⟨none, .fadr 39 0 (.t 9)⟩, [28, 29, 30, 31, 32, 33, 34, 35, 36, 37, 38]),
          (⟨none, .ld 40 1 false (.t 39)⟩, [28, 29, 30, 31, 32, 33, 34, 35, 36, 37, 38]),
          (⟨none, .ld 41 2 true (.t 3)⟩, [28, 29, 30, 31, 32, 33, 34, 35, 36, 37, 38, 39, 40]),
          (⟨none, .ld 42 2 true (.t 4)⟩, [28, 29, 30, 31, 32, 33, 34, 35, 36, 37, 38, 39, 40, 41]),
          (⟨none, .mov 43 (.t 2)⟩, [28, 29, 30, 31, 32, 33, 34, 35, 36, 37, 38, 39, 40, 41, 42]),
          (⟨none, .call 44 f_impl_imageIndex [((.t 38), false), ((.t 40), false), ((.t 41), false), ((.t 42), false), ((.t 43), false)]⟩, [28, 29, 30, 31, 32, 33, 34, 35, 36, 37]),
          (⟨none, .iad 45 1 (.t 37) (.t 44)⟩, [28, 29, 30, 31]),
          (⟨none, .ld 46 1 false (.t 45)⟩, [28, 29, 30, 31])]
         [⟨none, .bin 47 .neq (.t 31) (.t 46)⟩])
       (.drop [28, 29, 30, 31, 32, 33, 34, 35, 36, 37, 38, 39, 40, 41, 42, 43, 44, 45, 46] (.cond (.t 47) (.seq (.reg [⟨none, .mov 48 (.t 8)⟩,
            ⟨none, .mov 49 (.t 10)⟩,
            ⟨none, .asg 6 (.t 48)⟩,
            ⟨none, .asg 7 (.t 49)⟩])
         (.drop [48, 49] .ret))
        .skip))))))
    (.drop [25, 26, 27, 10, 11, 28, 29, 30, 31, 32, 33, 34, 35, 36, 37, 38, 39, 40, 41, 42, 43, 44, 45, 46, 47, 48, 49] (.reg [⟨none, .bin 50 .add (.t 23) (.c (.int .i64 1))⟩,
       ⟨none, .asg 23 (.t 50)⟩])))))
def c_impl_faultOf_l2 : ACode :=
  (.seq (.reg [⟨none, .bin 16 .lss (.t 15) (.t 14)⟩])
  (.seq (.cond (.t 16) .skip
    (.exit 0))
   (.seq (.block 1 (.seq (.reg [⟨none, .mov 17 (.t 15)⟩,
         ⟨none, .iad 18 2 (.t 13) (.t 15)⟩,
         ⟨none, .ld 19 2 true (.t 18)⟩,
         ⟨none, .alc 9 (.agg [.int .i64 0, .nilsl 1])⟩,
         ⟨none, .asg 8 (.t 17)⟩,
         ⟨none, .st 2 (.t 9) (.t 19)⟩])
      (.drop [17, 18, 19] (.seq (.reg [⟨none, .fadr 20 1 (.t 9)⟩,
          ⟨none, .ld 21 1 false (.t 20)⟩,
          ⟨none, .len 22 (.t 21)⟩,
          ⟨none, .mov 23 (.c (.int .i64 0))⟩])
       (.drop [20] (.block 2 (.loop c_impl_faultOf_l1)))))))
    (.drop [17, 18, 19, 9, 8, 20, 21, 22, 23, 24, 25, 26, 27, 10, 11, 28, 29, 30, 31, 32, 33, 34, 35, 36, 37, 38, 39, 40, 41, 42, 43, 44, 45, 46, 47, 48, 49, 50] (.reg [⟨none, .bin 51 .add (.t 15) (.c (.int .i64 1))⟩,
       ⟨none, .asg 15 (.t 51)⟩])))))
def c_impl_faultOf : ACode :=
  (.seq (.reg [⟨none, .box 3 (.t 0)⟩,
     ⟨none, .box 4 (.t 1)⟩,
     ⟨none, .asg 6 (.c (.int .i64 0))⟩,
     ⟨none, .asg 7 (.c (.int .i64 0))⟩])
  (.seq (.seq (.reg [⟨none, .fadr 12 1 (.t 3)⟩,
       ⟨none, .ld 13 1 false (.t 12)⟩,
       ⟨none, .len 14 (.t 13)⟩,
       ⟨none, .mov 15 (.c (.int .i64 0))⟩])
    (.drop [12] (.block 0 (.loop c_impl_faultOf_l2))))
   (.drop [12, 13, 14, 15, 16, 17, 18, 19, 9, 8, 20, 21, 22, 23, 24, 25, 26, 27, 10, 11, 28, 29, 30, 31, 32, 33, 34, 35, 36, 37, 38, 39, 40, 41, 42, 43, 44, 45, 46, 47, 48, 49, 50, 51] (.seq (.reg [⟨none, .asg 6 (.c (.int .i64 (-1)))⟩,
       ⟨none, .asg 7 (.c (.int .i64 0))⟩])
    .ret))))
abbrev r_impl_faultOf : List RS := [.t 6, .t 7]
theorem k_impl_faultOf : fitsF Try.prog f_impl_faultOf 52 c_impl_faultOf r_impl_faultOf = true := by kernel_rfl

/- loop.example/g01078/impl.cloneOp: [f=0, f=1] -/
def c_impl_cloneOp : ACode :=
  (.seq (.reg [⟨none, .box 1 (.t 0)⟩,
     ⟨none, .alc 2 (.agg [.int .i64 0, .nilsl 1])⟩])
  (.seq (.dreg [(⟨none, .fadr 3 0 (.t 1)⟩, []),
      (⟨none, .ld 4 1 false (.t 3)⟩, []),
      (⟨none, .fadr 5 1 (.t 1)⟩, [3, 4]),
      (⟨none, .ld 6 1 false (.t 5)⟩, [3, 4]),
      (⟨none, .call 7 f_impl_clone [((.t 6), false)]⟩, [3, 4])]
     [⟨none, .bld 8 [.int .i64 0, .nilsl 1] [(0, 1, (.t 4)), (1, 1, (.t 7))]⟩,
      ⟨none, .st 2 (.t 2) (.t 8)⟩])
   (.drop [3, 4, 5, 6, 7, 8] .ret)))
abbrev r_impl_cloneOp : List RS := [.c 2 2 true]
theorem k_impl_cloneOp : fitsF Try.prog f_impl_cloneOp 9 c_impl_cloneOp r_impl_cloneOp = true := by kernel_rfl

/- loop.example/g01078/laws.markAlgebra: [a=0, k=1, a=2, k=3] -/
def c_laws_markAlgebra : ACode :=
  (.seq (.reg [⟨none, .box 2 (.t 0)⟩,
     ⟨none, .asg 4 (.c (.int .i64 0))⟩])
  (.seq (.reg [⟨none, .fadr 5 1 (.t 2)⟩,
      ⟨none, .ld 6 1 false (.t 5)⟩,
      ⟨none, .mov 7 (.t 1)⟩,
      ⟨none, .call 8 f_laws_markOpS [((.t 6), true), ((.t 7), false)]⟩,
      ⟨none, .asg 1 (.t 8)⟩])
   (.drop [5, 6, 7, 8] (.seq (.reg [⟨none, .mov 9 (.t 1)⟩,
       ⟨none, .asg 4 (.t 9)⟩])
    (.drop [9] .ret)))))
abbrev r_laws_markAlgebra : List RS := [.t 4]
theorem k_laws_markAlgebra : fitsF Try.prog f_laws_markAlgebra 10 c_laws_markAlgebra r_laws_markAlgebra = true := by kernel_rfl

/- loop.example/g01078/laws.heldAlgebra: [a=0, k=1, a=2, k=3] -/
def c_laws_heldAlgebra : ACode :=
  (.seq (.reg [⟨none, .box 2 (.t 0)⟩,
     ⟨none, .asg 4 (.c (.int .i64 0))⟩])
  (.seq (.reg [⟨none, .fadr 5 1 (.t 2)⟩,
      ⟨none, .ld 6 1 false (.t 5)⟩,
      ⟨none, .mov 7 (.t 1)⟩,
      ⟨none, .call 8 f_laws_heldOpS [((.t 6), false), ((.t 7), false)]⟩,
      ⟨none, .asg 1 (.t 8)⟩])
   (.drop [5, 6, 7, 8] (.seq (.seq (.reg [⟨none, .mov 9 (.t 1)⟩,
        ⟨none, .bin 10 .lss (.t 9) (.c (.int .i64 0))⟩])
     (.drop [9] (.cond (.t 10) (.seq (.reg [⟨none, .asg 4 (.c (.int .i64 (-1)))⟩])
       .ret)
      .skip)))
    (.drop [9, 10] (.seq (.reg [⟨none, .mov 11 (.t 1)⟩,
        ⟨none, .asg 4 (.t 11)⟩])
     (.drop [11] .ret)))))))
abbrev r_laws_heldAlgebra : List RS := [.t 4]
theorem k_laws_heldAlgebra : fitsF Try.prog f_laws_heldAlgebra 12 c_laws_heldAlgebra r_laws_heldAlgebra = true := by kernel_rfl

/- loop.example/g01078/laws.szOpS: [a=0, left=1, a=2, left=3, i=5] -/
def c_laws_szOpS_l1 : ACode :=
  (.seq (.seq (.reg [⟨none, .mov 12 (.t 5)⟩,
      ⟨none, .mov 13 (.t 0)⟩,
      ⟨none, .len 14 (.t 13)⟩,
      ⟨none, .bin 15 .lss (.t 12) (.t 14)⟩])
   (.drop [12, 13, 14] (.cond (.t 15) .skip
    (.exit 0))))
  (.drop [12, 13, 14, 15] (.seq (.block 1 (.seq (.reg [⟨none, .mov 18 (.t 0)⟩,
        ⟨none, .mov 19 (.t 5)⟩,
        ⟨none, .iad 20 2 (.t 18) (.t 19)⟩,
        ⟨none, .ld 21 2 true (.t 20)⟩,
        ⟨none, .mov 22 (.t 1)⟩,
        ⟨none, .call 23 f_laws_szOp [((.t 21), false), ((.t 22), false)]⟩,
        ⟨none, .asg 1 (.t 23)⟩])
     (.drop [18, 19, 20, 21, 22, 23] (.seq (.reg [⟨none, .mov 24 (.t 1)⟩,
         ⟨none, .bin 25 .lss (.t 24) (.c (.int .i64 0))⟩])
      (.drop [24] (.cond (.t 25) (.seq (.reg [⟨none, .asg 4 (.c (.int .i64 (-1)))⟩])
        .ret)
       .skip))))))
   (.drop [18, 19, 20, 21, 22, 23, 24, 25] (.reg [⟨none, .mov 16 (.t 5)⟩,
      ⟨none, .bin 17 .add (.t 16) (.c (.int .i64 1))⟩,
      ⟨none, .asg 5 (.t 17)⟩])))))
def c_laws_szOpS : ACode :=
  (.seq (.reg [⟨none, .asg 4 (.c (.int .i64 0))⟩])
  (.seq (.reg [⟨none, .mov 6 (.t 1)⟩,
      ⟨none, .mov 7 (.t 0)⟩,
      ⟨none, .len 8 (.t 7)⟩,
      ⟨none, .bin 9 .sub (.t 6) (.t 8)⟩,
      ⟨none, .asg 1 (.t 9)⟩])
   (.drop [6, 7, 8, 9] (.seq (.seq (.reg [⟨none, .mov 10 (.t 1)⟩,
        ⟨none, .bin 11 .lss (.t 10) (.c (.int .i64 0))⟩])
     (.drop [10] (.cond (.t 11) (.seq (.reg [⟨none, .asg 4 (.c (.int .i64 (-1)))⟩])
       .ret)
      .skip)))
    (.drop [10, 11] (.seq (.seq (.reg [⟨none, .asg 5 (.c (.int .i64 0))⟩])
      (.block 0 (.loop c_laws_szOpS_l1)))
     (.drop [5, 12, 13, 14, 15, 18, 19, 20, 21, 22, 23, 24, 25, 16, 17] (.seq (.reg [⟨none, .mov 26 (.t 1)⟩,
         ⟨none, .asg 4 (.t 26)⟩])
      (.drop [26] .ret)))))))))
abbrev r_laws_szOpS : List RS := [.t 4]
theorem k_laws_szOpS : fitsF Try.prog f_laws_szOpS 27 c_laws_szOpS r_laws_szOpS = true := by kernel_rfl

/- loop.example/g01078/spec.l2Good: [a=0, a=1, i=3] -/
def c_spec_l2Good_k1 : ACode :=
  (.seq (.reg [⟨none, .fadr 4 0 (.t 1)⟩,
       ⟨none, .ld 5 1 false (.t 4)⟩,
       ⟨none, .call 6 f_spec_l1In [((.t 5), false), ((.c (.int .i64 1)), false), ((.c (.int .i64 8)), false)]⟩,
       ⟨none, .un 7 .not (.t 6)⟩,
       ⟨none, .asg 8 (.t 7)⟩,
       ⟨some (8, false), .fadr 9 1 (.t 1)⟩,
       ⟨some (8, false), .ld 10 1 false (.t 9)⟩,
       ⟨some (8, false), .len 11 (.t 10)⟩,
       ⟨some (8, false), .bin 12 .gtr (.t 11) (.c (.int .i64 4))⟩,
       ⟨none, .pick 13 (.t 8) (.c (.bool true)) (.t 12)⟩])
    (.drop [4, 5, 6, 7, 8, 9, 10, 11, 12] (.cond (.t 13) (.seq (.reg [⟨none, .asg 2 (.c (.bool false))⟩])
      .ret)
     .skip)))
def c_spec_l2Good_l1 : ACode :=
  (.seq (.seq (.reg [⟨none, .mov 14 (.t 3)⟩,
      ⟨none, .fadr 15 1 (.t 1)⟩,
      ⟨none, .ld 16 1 false (.t 15)⟩,
      ⟨none, .len 17 (.t 16)⟩,
      ⟨none, .bin 18 .lss (.t 14) (.t 17)⟩])
   (.drop [14, 15, 16, 17] (.cond (.t 18) .skip
    (.exit 0))))
  (.drop [14, 15, 16, 17, 18] (.seq (.block 1 (.seq (.dreg [(⟨none, .fadr 21 0 (.t 1)⟩, []),
        (⟨none, .ld 22 1 false (.t 21)⟩, []),
        (⟨none, .fadr 23 1 (.t 1)⟩, [21, 22]),
        (⟨none, .ld 24 1 false (.t 23)⟩, [21, 22]),
        (⟨none, .mov 25 (.t 3)⟩, [21, 22, 23, 24]),
        (⟨none, .iad 26 2 (.t 24) (.t 25)⟩, [21, 22]),
        (⟨none, .ld 27 2 true (.t 26)⟩, [21, 22])]
       [⟨none, .call 28 f_spec_l2Op [((.t 22), false), ((.t 27), false)]⟩,
        ⟨none, .un 29 .not (.t 28)⟩])
     (.drop [21, 22, 23, 24, 25, 26, 27, 28] (.cond (.t 29) (.seq (.reg [⟨none, .asg 2 (.c (.bool false))⟩])
       .ret)
      .skip))))
   (.drop [21, 22, 23, 24, 25, 26, 27, 28, 29] (.reg [⟨none, .mov 19 (.t 3)⟩,
      ⟨none, .bin 20 .add (.t 19) (.c (.int .i64 1))⟩,
      ⟨none, .asg 3 (.t 20)⟩])))))
def c_spec_l2Good : ACode :=
  (.seq (.reg [⟨none, .box 1 (.t 0)⟩,
     ⟨none, .asg 2 (.c (.bool false))⟩])
  (.seq (.cut c_spec_l2Good_k1)
   (.drop [4, 5, 6, 7, 8, 9, 10, 11, 12, 13] (.seq (.seq (.reg [⟨none, .asg 3 (.c (.int .i64 0))⟩])
     (.block 0 (.loop c_spec_l2Good_l1)))
    (.drop [3, 14, 15, 16, 17, 18, 21, 22, 23, 24, 25, 26, 27, 28, 29, 19, 20] (.seq (.reg [⟨none, .asg 2 (.c (.bool true))⟩])
     .ret))))))
abbrev r_spec_l2Good : List RS := [.t 2]
theorem k_spec_l2Good : fitsF Try.prog f_spec_l2Good 30 c_spec_l2Good r_spec_l2Good = true := by kernel_rfl

/- loop.example/g01078/spec.l2Perm: [l=0, n=1, l=2, n=3, seen=5, i=6] -/
def c_spec_l2Perm_k1 : ACode :=
  (.seq (.reg [⟨none, .mov 7 (.t 0)⟩,
       ⟨none, .len 8 (.t 7)⟩,
       ⟨none, .mov 9 (.t 1)⟩,
       ⟨none, .bin 10 .neq (.t 8) (.t 9)⟩,
       ⟨none, .asg 11 (.t 10)⟩,
       ⟨some (11, false), .mov 12 (.t 1)⟩,
       ⟨some (11, false), .mov 13 (.t 0)⟩,
       ⟨some (11, false), .call 14 f_spec_l2Elements [((.t 12), false), ((.t 13), false)]⟩,
       ⟨some (11, false), .un 15 .not (.t 14)⟩,
       ⟨none, .pick 16 (.t 11) (.c (.bool true)) (.t 15)⟩])
    (.drop [7, 8, 9, 10, 11, 12, 13, 14, 15] (.cond (.t 16) (.seq (.reg [⟨none, .asg 4 (.c (.bool false))⟩])
      .ret)
     .skip)))
def c_spec_l2Perm_l1 : ACode :=
  (.seq (.seq (.reg [⟨none, .mov 19 (.t 6)⟩,
      ⟨none, .mov 20 (.t 1)⟩,
      ⟨none, .bin 21 .lss (.t 19) (.t 20)⟩])
   (.drop [19, 20] (.cond (.t 21) .skip
    (.exit 0))))
  (.drop [19, 20, 21] (.seq (.block 1 (.seq (.seq (.reg [⟨none, .mov 24 (.t 5)⟩,
         ⟨none, .mov 25 (.t 0)⟩,
         ⟨none, .mov 26 (.t 6)⟩,
         ⟨none, .iad 27 1 (.t 25) (.t 26)⟩,
         ⟨none, .ld 28 1 false (.t 27)⟩,
         ⟨none, .iad 29 1 (.t 24) (.t 28)⟩,
         ⟨none, .ld 30 1 false (.t 29)⟩])
      (.drop [24, 25, 26, 27, 28, 29] (.cond (.t 30) (.seq (.reg [⟨none, .asg 4 (.c (.bool false))⟩])
        .ret)
       .skip)))
     (.drop [24, 25, 26, 27, 28, 29, 30] (.reg [⟨none, .mov 31 (.t 5)⟩,
        ⟨none, .mov 32 (.t 0)⟩,
        ⟨none, .mov 33 (.t 6)⟩,
        ⟨none, .iad 34 1 (.t 32) (.t 33)⟩,
        ⟨none, .ld 35 1 false (.t 34)⟩,
        ⟨none, .iad 36 1 (.t 31) (.t 35)⟩,
        ⟨none, .st 1 (.t 36) (.c (.bool true))⟩]))))
   (.drop [24, 25, 26, 27, 28, 29, 30, 31, 32, 33, 34, 35, 36] (.reg [⟨none, .mov 22 (.t 6)⟩,
      ⟨none, .bin 23 .add (.t 22) (.c (.int .i64 1))⟩,
      ⟨none, .asg 6 (.t 23)⟩])))))
def c_spec_l2Perm : ACode :=
  (.seq (.reg [⟨none, .asg 4 (.c (.bool false))⟩])
  (.seq (.cut c_spec_l2Perm_k1)
   (.drop [7, 8, 9, 10, 11, 12, 13, 14, 15, 16] (.seq (.reg [⟨none, .mov 17 (.t 1)⟩,
       ⟨none, .mk 18 1 (.bool false) (.t 17)⟩,
       ⟨none, .asg 5 (.t 18)⟩])
    (.drop [17, 18] (.seq (.seq (.reg [⟨none, .asg 6 (.c (.int .i64 0))⟩])
      (.block 0 (.loop c_spec_l2Perm_l1)))
     (.drop [6, 19, 20, 21, 24, 25, 26, 27, 28, 29, 30, 31, 32, 33, 34, 35, 36, 22, 23] (.seq (.reg [⟨none, .asg 4 (.c (.bool true))⟩])
      .ret))))))))
abbrev r_spec_l2Perm : List RS := [.t 4]
theorem k_spec_l2Perm : fitsF Try.prog f_spec_l2Perm 37 c_spec_l2Perm r_spec_l2Perm = true := by kernel_rfl

/- loop.example/g01078/laws.toOpS: [a=0, a=1, out=3, i=4] -/
def c_laws_toOpS_l1 : ACode :=
  (.seq (.seq (.reg [⟨none, .mov 8 (.t 4)⟩,
      ⟨none, .mov 9 (.t 0)⟩,
      ⟨none, .len 10 (.t 9)⟩,
      ⟨none, .bin 11 .lss (.t 8) (.t 10)⟩])
   (.drop [8, 9, 10] (.cond (.t 11) .skip
    (.exit 0))))
  (.drop [8, 9, 10, 11] (.seq (.block 1 (.reg [⟨none, .mov 14 (.t 3)⟩,
       ⟨none, .mov 15 (.t 4)⟩,
       ⟨none, .mov 16 (.t 0)⟩,
       ⟨none, .mov 17 (.t 4)⟩,
       ⟨none, .iad 18 2 (.t 16) (.t 17)⟩,
       ⟨none, .ld 19 2 true (.t 18)⟩,
       ⟨none, .call 20 f_laws_toOp [((.t 19), false)]⟩,
       ⟨none, .iad 21 2 (.t 14) (.t 15)⟩,
       ⟨none, .st 2 (.t 21) (.t 20)⟩]))
   (.drop [14, 15, 16, 17, 18, 19, 20, 21] (.reg [⟨none, .mov 12 (.t 4)⟩,
      ⟨none, .bin 13 .add (.t 12) (.c (.int .i64 1))⟩,
      ⟨none, .asg 4 (.t 13)⟩])))))
def c_laws_toOpS : ACode :=
  (.seq (.reg [⟨none, .asg 2 (.c (.nilsl 2))⟩])
  (.seq (.reg [⟨none, .mov 5 (.t 0)⟩,
      ⟨none, .len 6 (.t 5)⟩,
      ⟨none, .mk 7 2 (.agg [.int .i64 0, .nilsl 1]) (.t 6)⟩,
      ⟨none, .asg 3 (.t 7)⟩])
   (.drop [5, 6, 7] (.seq (.seq (.reg [⟨none, .asg 4 (.c (.int .i64 0))⟩])
     (.block 0 (.loop c_laws_toOpS_l1)))
    (.drop [4, 8, 9, 10, 11, 14, 15, 16, 17, 18, 19, 20, 21, 12, 13] (.seq (.reg [⟨none, .mov 22 (.t 3)⟩,
        ⟨none, .asg 2 (.t 22)⟩])
     (.drop [22] .ret)))))))
abbrev r_laws_toOpS : List RS := [.t 2]
theorem k_laws_toOpS : fitsF Try.prog f_laws_toOpS 23 c_laws_toOpS r_laws_toOpS = true := by kernel_rfl

/- loop.example/g01078/impl.IsAlgebra: [a=0, a=1, _=3, f=4] -/
def c_impl_IsAlgebra_k1 : ACode :=
  (.seq (.reg [⟨none, .fadr 5 0 (.t 1)⟩,
       ⟨none, .ld 6 1 false (.t 5)⟩,
       ⟨none, .bin 7 .lss (.t 6) (.c (.int .i64 1))⟩,
       ⟨none, .asg 8 (.t 7)⟩,
       ⟨some (8, false), .fadr 9 0 (.t 1)⟩,
       ⟨some (8, false), .ld 10 1 false (.t 9)⟩,
       ⟨some (8, false), .bin 11 .gtr (.t 10) (.c (.int .i64 8))⟩,
       ⟨none, .pick 12 (.t 8) (.c (.bool true)) (.t 11)⟩,
       ⟨none, .asg 13 (.t 12)⟩,
       ⟨some (13, false), .fadr 14 1 (.t 1)⟩,
       ⟨some (13, false), .ld 15 1 false (.t 14)⟩,
       ⟨some (13, false), .len 16 (.t 15)⟩,
       ⟨some (13, false), .bin 17 .gtr (.t 16) (.c (.int .i64 4))⟩,
       ⟨none, .pick 18 (.t 13) (.c (.bool true)) (.t 17)⟩])
    (.drop [5, 6, 7, 8, 9, 10, 11, 12, 13, 14, 15, 16, 17] (.cond (.t 18) (.seq (.reg [⟨none, .asg 2 (.c (.bool false))⟩])
      .ret)
     .skip)))
def c_impl_IsAlgebra_l1 : ACode :=
  (.seq (.reg [⟨none, .bin 23 .lss (.t 22) (.t 21)⟩])
  (.seq (.cond (.t 23) .skip
    (.exit 0))
   (.seq (.block 1 (.seq (.reg [⟨none, .iad 24 2 (.t 20) (.t 22)⟩,
         ⟨none, .ld 25 2 true (.t 24)⟩,
         ⟨none, .alc 4 (.agg [.int .i64 0, .nilsl 1])⟩,
         ⟨none, .st 2 (.t 4) (.t 25)⟩])
      (.drop [24, 25] (.seq (.reg [⟨none, .ld 26 2 true (.t 4)⟩,
          ⟨none, .fadr 27 0 (.t 1)⟩,
          ⟨none, .ld 28 1 false (.t 27)⟩,
          ⟨none, .call 29 f_impl_isOp [((.t 26), false), ((.t 28), false)]⟩,
          ⟨none, .un 30 .not (.t 29)⟩])
       (.drop [26, 27, 28, 29] (.cond (.t 30) (.seq (.reg [⟨none, .asg 2 (.c (.bool false))⟩])
         .ret)
        .skip))))))
    (.drop [24, 25, 4, 26, 27, 28, 29, 30] (.reg [⟨none, .bin 31 .add (.t 22) (.c (.int .i64 1))⟩,
       ⟨none, .asg 22 (.t 31)⟩])))))
def c_impl_IsAlgebra : ACode :=
  (.seq (.reg [⟨none, .box 1 (.t 0)⟩,
     ⟨none, .asg 2 (.c (.bool false))⟩])
  (.seq (.cut c_impl_IsAlgebra_k1)
   (.drop [5, 6, 7, 8, 9, 10, 11, 12, 13, 14, 15, 16, 17, 18] (.seq (.seq (.reg [⟨none, .fadr 19 1 (.t 1)⟩,
        ⟨none, .ld 20 1 false (.t 19)⟩,
        ⟨none, .len 21 (.t 20)⟩,
        ⟨none, .mov 22 (.c (.int .i64 0))⟩])
     (.drop [19] (.block 0 (.loop c_impl_IsAlgebra_l1))))
    (.drop [19, 20, 21, 22, 23, 24, 25, 4, 26, 27, 28, 29, 30, 31] (.seq (.reg [⟨none, .asg 2 (.c (.bool true))⟩])
     .ret))))))
abbrev r_impl_IsAlgebra : List RS := [.t 2]
theorem k_impl_IsAlgebra : fitsF Try.prog f_impl_IsAlgebra 32 c_impl_IsAlgebra r_impl_IsAlgebra = true := by kernel_rfl

/- loop.example/g01078/laws.eqOpS: [a=0, b=1, a=2, b=3, i=5] -/
def c_laws_eqOpS_l1 : ACode :=
  (.seq (.seq (.reg [⟨none, .mov 11 (.t 5)⟩,
      ⟨none, .mov 12 (.t 0)⟩,
      ⟨none, .len 13 (.t 12)⟩,
      ⟨none, .bin 14 .lss (.t 11) (.t 13)⟩])
   (.drop [11, 12, 13] (.cond (.t 14) .skip
    (.exit 0))))
  (.drop [11, 12, 13, 14] (.seq (.block 1 (.seq (.dreg [(⟨none, .mov 17 (.t 0)⟩, []),
        (⟨none, .mov 18 (.t 5)⟩, [17]),
        (⟨none, .iad 19 2 (.t 17) (.t 18)⟩, []),
        (⟨none, .ld 20 2 true (.t 19)⟩, []),
        (⟨none, .mov 21 (.t 1)⟩, [17, 18, 19, 20]),
        (⟨none, .mov 22 (.t 5)⟩, [17, 18, 19, 20, 21]),
        (⟨none, .iad 23 2 (.t 21) (.t 22)⟩, [17, 18, 19, 20]),
        (⟨none, .ld 24 2 true (.t 23)⟩, [17, 18, 19, 20])]
       [⟨none, .call 25 f_laws_eqOp [((.t 20), false), ((.t 24), false)]⟩,
        ⟨none, .un 26 .not (.t 25)⟩])
     (.drop [17, 18, 19, 20, 21, 22, 23, 24, 25] (.cond (.t 26) (.seq (.reg [⟨none, .asg 4 (.c (.bool false))⟩])
       .ret)
      .skip))))
   (.drop [17, 18, 19, 20, 21, 22, 23, 24, 25, 26] (.reg [⟨none, .mov 15 (.t 5)⟩,
      ⟨none, .bin 16 .add (.t 15) (.c (.int .i64 1))⟩,
      ⟨none, .asg 5 (.t 16)⟩])))))
def c_laws_eqOpS : ACode :=
  (.seq (.reg [⟨none, .asg 4 (.c (.bool false))⟩])
  (.seq (.seq (.reg [⟨none, .mov 6 (.t 0)⟩,
       ⟨none, .len 7 (.t 6)⟩,
       ⟨none, .mov 8 (.t 1)⟩,
       ⟨none, .len 9 (.t 8)⟩,
       ⟨none, .bin 10 .neq (.t 7) (.t 9)⟩])
    (.drop [6, 7, 8, 9] (.cond (.t 10) (.seq (.reg [⟨none, .asg 4 (.c (.bool false))⟩])
      .ret)
     .skip)))
   (.drop [6, 7, 8, 9, 10] (.seq (.seq (.reg [⟨none, .asg 5 (.c (.int .i64 0))⟩])
     (.block 0 (.loop c_laws_eqOpS_l1)))
    (.drop [5, 11, 12, 13, 14, 17, 18, 19, 20, 21, 22, 23, 24, 25, 26, 15, 16] (.seq (.reg [⟨none, .asg 4 (.c (.bool true))⟩])
     .ret))))))
abbrev r_laws_eqOpS : List RS := [.t 4]
theorem k_laws_eqOpS : fitsF Try.prog f_laws_eqOpS 27 c_laws_eqOpS r_laws_eqOpS = true := by kernel_rfl

/- loop.example/g01078/impl.isHom: [a=0, b=1, f=2, a=3, b=4, f=5, op=7, _=8] -/
def c_impl_isHom : ACode :=
  (.seq (.reg [⟨none, .box 3 (.t 0)⟩,
     ⟨none, .box 4 (.t 1)⟩,
     ⟨none, .asg 6 (.c (.bool false))⟩])
  (.seq (.seq (.reg [⟨none, .ld 9 2 true (.t 3)⟩,
       ⟨none, .ld 10 2 true (.t 4)⟩,
       ⟨none, .mov 11 (.t 2)⟩,
       ⟨none, .call 12 f_impl_isMap [((.t 9), false), ((.t 10), false), ((.t 11), false)]⟩,
       ⟨none, .un 13 .not (.t 12)⟩])
    (.drop [9, 10, 11, 12] (.cond (.t 13) (.seq (.reg [⟨none, .asg 6 (.c (.bool false))⟩])
      .ret)
     .skip)))
   (.drop [9, 10, 11, 12, 13] (.seq (.reg [⟨none, .ld 15 2 true (.t 3)⟩,
       ⟨none, .ld 16 2 true (.t 4)⟩,
       ⟨none, .mov 17 (.t 2)⟩,
       ⟨none, .call 18 f_impl_faultOf [((.t 15), false), ((.t 16), false), ((.t 17), false)]⟩,
       ⟨none, .asg 14 (.t 18)⟩,
       ⟨none, .ext 19 (.t 14) 0⟩,
       ⟨none, .ext 20 (.t 14) 1⟩,
       ⟨none, .asg 7 (.t 19)⟩,
       ⟨none, .asg 8 (.t 20)⟩])
    (.drop [15, 16, 17, 18, 14, 19, 20, 8] (.seq (.reg [⟨none, .mov 21 (.t 7)⟩,
        ⟨none, .bin 22 .lss (.t 21) (.c (.int .i64 0))⟩,
        ⟨none, .asg 6 (.t 22)⟩])
     (.drop [21, 22] .ret)))))))
abbrev r_impl_isHom : List RS := [.t 6]
theorem k_impl_isHom : fitsF Try.prog f_impl_isHom 23 c_impl_isHom r_impl_isHom = true := by kernel_rfl

/- loop.example/g01078/impl.cloneAlgebra: [a=0, a=1, b=3, _=4, f=5] -/
def c_impl_cloneAlgebra_l1 : ACode :=
  (.seq (.reg [⟨none, .bin 13 .lss (.t 12) (.t 11)⟩])
  (.seq (.cond (.t 13) .skip
    (.exit 0))
   (.seq (.block 1 (.seq (.reg [⟨none, .iad 14 2 (.t 10) (.t 12)⟩,
         ⟨none, .ld 15 2 true (.t 14)⟩,
         ⟨none, .alc 5 (.agg [.int .i64 0, .nilsl 1])⟩,
         ⟨none, .st 2 (.t 5) (.t 15)⟩])
      (.drop [14, 15] (.dreg [(⟨none, .fadr 16 1 (.t 3)⟩, [19]),
         (⟨none, .ld 17 1 false (.t 16)⟩, [19]),
         (⟨none, .ld 18 2 true (.t 5)⟩, [16, 17]),
         (⟨none, .call 19 f_impl_cloneOp [((.t 18), false)]⟩, [16, 17]),
         (⟨none, .bsl 20 2 [(.t 19)]⟩, [16, 17])]
        [⟨none, .app 21 2 (.t 17) (.t 20)⟩,
         ⟨none, .fadr 22 1 (.t 3)⟩,
         ⟨none, .st 1 (.t 22) (.t 21)⟩]))))
    (.drop [14, 15, 5, 16, 17, 18, 19, 20, 21, 22] (.reg [⟨none, .bin 23 .add (.t 12) (.c (.int .i64 1))⟩,
       ⟨none, .asg 12 (.t 23)⟩])))))
def c_impl_cloneAlgebra : ACode :=
  (.seq (.reg [⟨none, .box 1 (.t 0)⟩,
     ⟨none, .alc 2 (.agg [.int .i64 0, .nilsl 2])⟩])
  (.seq (.reg [⟨none, .fadr 6 0 (.t 1)⟩,
      ⟨none, .ld 7 1 false (.t 6)⟩,
      ⟨none, .bld 8 [.int .i64 0, .nilsl 2] [(0, 1, (.t 7))]⟩,
      ⟨none, .alc 3 (.agg [.int .i64 0, .nilsl 2])⟩,
      ⟨none, .st 2 (.t 3) (.t 8)⟩])
   (.drop [6, 7, 8] (.seq (.seq (.reg [⟨none, .fadr 9 1 (.t 1)⟩,
        ⟨none, .ld 10 1 false (.t 9)⟩,
        ⟨none, .len 11 (.t 10)⟩,
        ⟨none, .mov 12 (.c (.int .i64 0))⟩])
     (.drop [9] (.block 0 (.loop c_impl_cloneAlgebra_l1))))
    (.drop [9, 10, 11, 12, 13, 14, 15, 5, 16, 17, 18, 19, 20, 21, 22, 23] (.seq (.reg [⟨none, .ld 24 2 true (.t 3)⟩,
        ⟨none, .st 2 (.t 2) (.t 24)⟩])
     (.drop [24] .ret)))))))
abbrev r_impl_cloneAlgebra : List RS := [.c 2 2 true]
theorem k_impl_cloneAlgebra : fitsF Try.prog f_impl_cloneAlgebra 25 c_impl_cloneAlgebra r_impl_cloneAlgebra = true := by kernel_rfl

/- loop.example/g01078/spec.l7Map: [a=0, b=1, f=2, a=3, b=4, f=5] -/
def c_spec_l7Map : ACode :=
  (.seq (.reg [⟨none, .box 3 (.t 0)⟩,
     ⟨none, .box 4 (.t 1)⟩,
     ⟨none, .asg 6 (.c (.bool false))⟩])
  (.seq (.reg [⟨none, .mov 7 (.t 2)⟩,
      ⟨none, .len 8 (.t 7)⟩,
      ⟨none, .fadr 9 0 (.t 3)⟩,
      ⟨none, .ld 10 1 false (.t 9)⟩,
      ⟨none, .bin 11 .eql (.t 8) (.t 10)⟩,
      ⟨none, .asg 12 (.t 11)⟩,
      ⟨some (12, true), .fadr 13 0 (.t 4)⟩,
      ⟨some (12, true), .ld 14 1 false (.t 13)⟩,
      ⟨some (12, true), .mov 15 (.t 2)⟩,
      ⟨some (12, true), .call 16 f_spec_l2Elements [((.t 14), false), ((.t 15), false)]⟩,
      ⟨none, .pick 17 (.t 12) (.t 16) (.c (.bool false))⟩,
      ⟨none, .asg 6 (.t 17)⟩])
   (.drop [7, 8, 9, 10, 11, 12, 13, 14, 15, 16, 17] .ret)))
abbrev r_spec_l7Map : List RS := [.t 6]
theorem k_spec_l7Map : fitsF Try.prog f_spec_l7Map 18 c_spec_l7Map r_spec_l7Map = true := by kernel_rfl

/- loop.example/g01078/laws.szAlgebra: [a=0, left=1, a=2, left=3] -/
def c_laws_szAlgebra : ACode :=
  (.seq (.reg [⟨none, .box 2 (.t 0)⟩,
     ⟨none, .asg 4 (.c (.int .i64 0))⟩])
  (.seq (.reg [⟨none, .fadr 5 1 (.t 2)⟩,
      ⟨none, .ld 6 1 false (.t 5)⟩,
      ⟨none, .mov 7 (.t 1)⟩,
      ⟨none, .call 8 f_laws_szOpS [((.t 6), false), ((.t 7), false)]⟩,
      ⟨none, .asg 1 (.t 8)⟩])
   (.drop [5, 6, 7, 8] (.seq (.seq (.reg [⟨none, .mov 9 (.t 1)⟩,
        ⟨none, .bin 10 .lss (.t 9) (.c (.int .i64 0))⟩])
     (.drop [9] (.cond (.t 10) (.seq (.reg [⟨none, .asg 4 (.c (.int .i64 (-1)))⟩])
       .ret)
      .skip)))
    (.drop [9, 10] (.seq (.reg [⟨none, .mov 11 (.t 1)⟩,
        ⟨none, .asg 4 (.t 11)⟩])
     (.drop [11] .ret)))))))
abbrev r_laws_szAlgebra : List RS := [.t 4]
theorem k_laws_szAlgebra : fitsF Try.prog f_laws_szAlgebra 12 c_laws_szAlgebra r_laws_szAlgebra = true := by kernel_rfl

/- loop.example/g01078/spec.RenameElements: [a=0, names=1, a=2, names=3] -/
def c_spec_RenameElements : ACode :=
  (.seq (.reg [⟨none, .box 2 (.t 0)⟩,
     ⟨none, .alc 4 (.agg [.int .i64 0, .nilsl 2])⟩,
     ⟨none, .asg 5 (.c (.bool false))⟩])
  (.seq (.seq (.reg [⟨none, .ld 6 2 true (.t 2)⟩,
       ⟨none, .call 7 f_spec_l2Good [((.t 6), false)]⟩,
       ⟨none, .un 8 .not (.t 7)⟩,
       ⟨none, .asg 9 (.t 8)⟩,
       ⟨some (9, false), .mov 10 (.t 1)⟩,
       ⟨some (9, false), .fadr 11 0 (.t 2)⟩,
       ⟨some (9, false), .ld 12 1 false (.t 11)⟩,
       ⟨some (9, false), .call 13 f_spec_l2Perm [((.t 10), false), ((.t 12), false)]⟩,
       ⟨some (9, false), .un 14 .not (.t 13)⟩,
       ⟨none, .pick 15 (.t 9) (.c (.bool true)) (.t 14)⟩])
    (.drop [6, 7, 8, 9, 10, 11, 12, 13, 14] (.cond (.t 15) (.seq (.reg [⟨none, .bld 16 [.int .i64 0, .nilsl 2] []⟩,
         ⟨none, .st 2 (.t 4) (.t 16)⟩,
         ⟨none, .asg 5 (.c (.bool false))⟩])
      (.drop [16] .ret))
     .skip)))
   (.drop [6, 7, 8, 9, 10, 11, 12, 13, 14, 15, 16] (.seq (.reg [⟨none, .ld 17 2 true (.t 2)⟩,
       ⟨none, .mov 18 (.t 1)⟩,
       ⟨none, .call 19 f_spec_l2Rename [((.t 17), false), ((.t 18), false)]⟩,
       ⟨none, .st 2 (.t 4) (.t 19)⟩,
       ⟨none, .asg 5 (.c (.bool true))⟩])
    (.drop [17, 18, 19] .ret)))))
abbrev r_spec_RenameElements : List RS := [.c 4 2 true, .t 5]
theorem k_spec_RenameElements : fitsF Try.prog f_spec_RenameElements 20 c_spec_RenameElements r_spec_RenameElements = true := by kernel_rfl

/- loop.example/g01078/laws.toAlgebra: [a=0, a=1, out=3] -/
def c_laws_toAlgebra : ACode :=
  (.seq (.reg [⟨none, .box 1 (.t 0)⟩,
     ⟨none, .alc 2 (.agg [.int .i64 0, .nilsl 2])⟩])
  (.seq (.reg [⟨none, .alc 3 (.agg [.int .i64 0, .nilsl 2])⟩])
   (.seq (.reg [⟨none, .fadr 4 0 (.t 1)⟩,
       ⟨none, .ld 5 1 false (.t 4)⟩,
       ⟨none, .fadr 6 0 (.t 3)⟩,
       ⟨none, .st 1 (.t 6) (.t 5)⟩])
    (.drop [4, 5, 6] (.seq (.reg [⟨none, .fadr 7 1 (.t 1)⟩,
        ⟨none, .ld 8 1 false (.t 7)⟩,
        ⟨none, .call 9 f_laws_toOpS [((.t 8), false)]⟩,
        ⟨none, .fadr 10 1 (.t 3)⟩,
        ⟨none, .st 1 (.t 10) (.t 9)⟩])
     (.drop [7, 8, 9, 10] (.seq (.reg [⟨none, .ld 11 2 true (.t 3)⟩,
         ⟨none, .st 2 (.t 2) (.t 11)⟩])
      (.drop [11] .ret))))))))
abbrev r_laws_toAlgebra : List RS := [.c 2 2 true]
theorem k_laws_toAlgebra : fitsF Try.prog f_laws_toAlgebra 12 c_laws_toAlgebra r_laws_toAlgebra = true := by kernel_rfl

/- loop.example/g01078/laws.eqAlgebra: [a=0, b=1, a=2, b=3] -/
def c_laws_eqAlgebra : ACode :=
  (.seq (.reg [⟨none, .box 2 (.t 0)⟩,
     ⟨none, .box 3 (.t 1)⟩,
     ⟨none, .asg 4 (.c (.bool false))⟩])
  (.seq (.seq (.reg [⟨none, .fadr 5 0 (.t 2)⟩,
       ⟨none, .ld 6 1 false (.t 5)⟩,
       ⟨none, .fadr 7 0 (.t 3)⟩,
       ⟨none, .ld 8 1 false (.t 7)⟩,
       ⟨none, .bin 9 .neq (.t 6) (.t 8)⟩])
    (.drop [5, 6, 7, 8] (.cond (.t 9) (.seq (.reg [⟨none, .asg 4 (.c (.bool false))⟩])
      .ret)
     .skip)))
   (.drop [5, 6, 7, 8, 9] (.seq (.seq (.reg [⟨none, .fadr 10 1 (.t 2)⟩,
        ⟨none, .ld 11 1 false (.t 10)⟩,
        ⟨none, .fadr 12 1 (.t 3)⟩,
        ⟨none, .ld 13 1 false (.t 12)⟩,
        ⟨none, .call 14 f_laws_eqOpS [((.t 11), false), ((.t 13), false)]⟩,
        ⟨none, .un 15 .not (.t 14)⟩])
     (.drop [10, 11, 12, 13, 14] (.cond (.t 15) (.seq (.reg [⟨none, .asg 4 (.c (.bool false))⟩])
       .ret)
      .skip)))
    (.drop [10, 11, 12, 13, 14, 15] (.seq (.reg [⟨none, .asg 4 (.c (.bool true))⟩])
     .ret))))))
abbrev r_laws_eqAlgebra : List RS := [.t 4]
theorem k_laws_eqAlgebra : fitsF Try.prog f_laws_eqAlgebra 16 c_laws_eqAlgebra r_laws_eqAlgebra = true := by kernel_rfl

/- loop.example/g01078/impl.rename: [a=0, names=1, a=2, names=3, b=5, k=6, f=7, i=8, v=9, args=10, j=11, x=12] -/
def c_impl_rename_l1 : ACode :=
  (.seq (.reg [⟨none, .bin 40 .lss (.t 39) (.t 38)⟩])
  (.seq (.cond (.t 40) .skip
    (.exit 4))
   (.seq (.block 5 (.seq (.reg [⟨none, .mov 41 (.t 39)⟩,
         ⟨none, .iad 42 1 (.t 37) (.t 39)⟩,
         ⟨none, .ld 43 1 false (.t 42)⟩,
         ⟨none, .asg 11 (.t 41)⟩,
         ⟨none, .asg 12 (.t 43)⟩])
      (.drop [41, 42, 43] (.reg [⟨none, .mov 44 (.t 10)⟩,
         ⟨none, .mov 45 (.t 11)⟩,
         ⟨none, .mov 46 (.t 1)⟩,
         ⟨none, .mov 47 (.t 12)⟩,
         ⟨none, .iad 48 1 (.t 46) (.t 47)⟩,
         ⟨none, .ld 49 1 false (.t 48)⟩,
         ⟨none, .iad 50 1 (.t 44) (.t 45)⟩,
         ⟨none, .st 1 (.t 50) (.t 49)⟩]))))
    (.drop [41, 42, 43, 11, 12, 44, 45, 46, 47, 48, 49, 50] (.reg [⟨none, .bin 51 .add (.t 39) (.c (.int .i64 1))⟩,
       ⟨none, .asg 39 (.t 51)⟩])))))
def c_impl_rename_l2 : ACode :=
  (.seq (.reg [⟨none, .bin 27 .lss (.t 26) (.t 25)⟩])
  (.seq (.cond (.t 27) .skip
    (.exit 2))
   (.seq (.block 3 (.seq (.reg [⟨none, .mov 28 (.t 26)⟩,
         ⟨none, .iad 29 1 (.t 24) (.t 26)⟩,
         ⟨none, .ld 30 1 false (.t 29)⟩,
         ⟨none, .asg 8 (.t 28)⟩,
         ⟨none, .asg 9 (.t 30)⟩])
      (.drop [28, 29, 30] (.seq (.reg [⟨none, .mov 31 (.t 8)⟩,
          ⟨none, .fadr 32 0 (.t 7)⟩,
          ⟨none, .ld 33 1 false (.t 32)⟩,
          ⟨none, .fadr 34 0 (.t 2)⟩,
          ⟨none, .ld 35 1 false (.t 34)⟩,
          ⟨none, .call 36 f_impl_argsAt [((.t 31), false), ((.t 33), false), ((.t 35), false)]⟩,
          ⟨none, .asg 10 (.t 36)⟩])
       (.drop [31, 32, 33, 34, 35, 36] (.seq (.seq (.reg [⟨none, .mov 37 (.t 10)⟩,
            ⟨none, .len 38 (.t 37)⟩,
            ⟨none, .mov 39 (.c (.int .i64 0))⟩])
         (.block 4 (.loop c_impl_rename_l1)))
        (.drop [37, 38, 39, 40, 41, 42, 43, 11, 12, 44, 45, 46, 47, 48, 49, 50, 51] (.dreg [(⟨none, .fadr 52 1 (.t 5)⟩, []),
           (⟨none, .ld 53 1 false (.t 52)⟩, []),
           (⟨none, .mov 54 (.t 6)⟩, [52, 53]),
           (⟨none, .iad 55 2 (.t 53) (.t 54)⟩, []),
           (⟨none, .fadr 56 1 (.t 55)⟩, []),
           (⟨none, .ld 57 1 false (.t 56)⟩, []),
           (⟨none, .mov 58 (.t 10)⟩, [52, 53, 54, 55, 56, 57]),
           (⟨none, .fadr 59 0 (.t 2)⟩, [52, 53, 54, 55, 56, 57, 58]),
           (⟨none, .ld 60 1 false (.t 59)⟩, [52, 53, 54, 55, 56, 57, 58]),
           (⟨none, .call 61 f_impl_indexOf [((.t 58), false), ((.t 60), false)]⟩, [52, 53, 54, 55, 56, 57]),
           (⟨none, .mov 62 (.t 1)⟩, [52, 53, 54, 55, 56, 57, 58, 59, 60, 61]),
           (⟨none, .mov 63 (.t 9)⟩, [52, 53, 54, 55, 56, 57, 58, 59, 60, 61, 62]),
           (⟨none, .iad 64 1 (.t 62) (.t 63)⟩, [52, 53, 54, 55, 56, 57, 58, 59, 60, 61]),
           (⟨none, .ld 65 1 false (.t 64)⟩, [52, 53, 54, 55, 56, 57, 58, 59, 60, 61])]
          [⟨none, .iad 66 1 (.t 57) (.t 61)⟩,
           ⟨none, .st 1 (.t 66) (.t 65)⟩]))))))))
    (.drop [28, 29, 30, 8, 9, 31, 32, 33, 34, 35, 36, 10, 37, 38, 39, 40, 41, 42, 43, 11, 12, 44, 45, 46, 47, 48, 49, 50, 51, 52, 53, 54, 55, 56, 57, 58, 59, 60, 61, 62, 63, 64, 65, 66] (.reg [⟨none, .bin 67 .add (.t 26) (.c (.int .i64 1))⟩,
       ⟨none, .asg 26 (.t 67)⟩])))))
def c_impl_rename_l3 : ACode :=
  (.seq (.reg [⟨none, .bin 19 .lss (.t 18) (.t 17)⟩])
  (.seq (.cond (.t 19) .skip
    (.exit 0))
   (.seq (.block 1 (.seq (.reg [⟨none, .mov 20 (.t 18)⟩,
         ⟨none, .iad 21 2 (.t 16) (.t 18)⟩,
         ⟨none, .ld 22 2 true (.t 21)⟩,
         ⟨none, .alc 7 (.agg [.int .i64 0, .nilsl 1])⟩,
         ⟨none, .asg 6 (.t 20)⟩,
         ⟨none, .st 2 (.t 7) (.t 22)⟩])
      (.drop [20, 21, 22] (.seq (.reg [⟨none, .fadr 23 1 (.t 7)⟩,
          ⟨none, .ld 24 1 false (.t 23)⟩,
          ⟨none, .len 25 (.t 24)⟩,
          ⟨none, .mov 26 (.c (.int .i64 0))⟩])
       (.drop [23] (.block 2 (.loop c_impl_rename_l2)))))))
    (.drop [20, 21, 22, 7, 6, 23, 24, 25, 26, 27, 28, 29, 30, 8, 9, 31, 32, 33, 34, 35, 36, 10, 37, 38, 39, 40, 41, 42, 43, 11, 12, 44, 45, 46, 47, 48, 49, 50, 51, 52, 53, 54, 55, 56, 57, 58, 59, 60, 61, 62, 63, 64, 65, 66, 67] (.reg [⟨none, .bin 68 .add (.t 18) (.c (.int .i64 1))⟩,
       ⟨none, .asg 18 (.t 68)⟩])))))
def c_impl_rename : ACode :=
  (.seq (.reg [⟨none, .box 2 (.t 0)⟩,
     ⟨none, .alc 4 (.agg [.int .i64 0, .nilsl 2])⟩])
  (.seq (.reg [⟨none, .ld 13 2 true (.t 2)⟩,
      ⟨none, .call 14 f_impl_cloneAlgebra [((.t 13), false)]⟩,
      ⟨none, .alc 5 (.agg [.int .i64 0, .nilsl 2])⟩,
      ⟨none, .st 2 (.t 5) (.t 14)⟩])
   (.drop [13, 14] (.seq (.seq (.reg [⟨none, .fadr 15 1 (.t 2)⟩,
        ⟨none, .ld 16 1 false (.t 15)⟩,
        ⟨none, .len 17 (.t 16)⟩,
        ⟨none, .mov 18 (.c (.int .i64 0))⟩])
     (.drop [15] (.block 0 (.loop c_impl_rename_l3))))
    (.drop [15, 16, 17, 18, 19, 20, 21, 22, 7, 6, 23, 24, 25, 26, 27, 28, 29, 30, 8, 9, 31, 32, 33, 34, 35, 36, 10, 37, 38, 39, 40, 41, 42, 43, 11, 12, 44, 45, 46, 47, 48, 49, 50, 51, 52, 53, 54, 55, 56, 57, 58, 59, 60, 61, 62, 63, 64, 65, 66, 67, 68] (.seq (.reg [⟨none, .ld 69 2 true (.t 5)⟩,
        ⟨none, .st 2 (.t 4) (.t 69)⟩])
     (.drop [69] .ret)))))))
abbrev r_impl_rename : List RS := [.c 4 2 true]
theorem k_impl_rename : fitsF Try.prog f_impl_rename 70 c_impl_rename r_impl_rename = true := by kernel_rfl

/- loop.example/g01078/spec.l7Two: [a=0, b=1, a=2, b=3] -/
def c_spec_l7Two : ACode :=
  (.seq (.reg [⟨none, .box 2 (.t 0)⟩,
     ⟨none, .box 3 (.t 1)⟩,
     ⟨none, .asg 4 (.c (.bool false))⟩])
  (.seq (.reg [⟨none, .ld 5 2 true (.t 2)⟩,
      ⟨none, .call 6 f_spec_l2Good [((.t 5), false)]⟩,
      ⟨none, .asg 7 (.t 6)⟩,
      ⟨some (7, true), .ld 8 2 true (.t 3)⟩,
      ⟨some (7, true), .call 9 f_spec_l2Good [((.t 8), false)]⟩,
      ⟨none, .pick 10 (.t 7) (.t 9) (.c (.bool false))⟩,
      ⟨none, .asg 11 (.t 10)⟩,
      ⟨some (11, true), .ld 12 2 true (.t 2)⟩,
      ⟨some (11, true), .ld 13 2 true (.t 3)⟩,
      ⟨some (11, true), .call 14 f_spec_l2Same [((.t 12), false), ((.t 13), false)]⟩,
      ⟨none, .pick 15 (.t 11) (.t 14) (.c (.bool false))⟩,
      ⟨none, .asg 4 (.t 15)⟩])
   (.drop [5, 6, 7, 8, 9, 10, 11, 12, 13, 14, 15] .ret)))
abbrev r_spec_l7Two : List RS := [.t 4]
theorem k_spec_l7Two : fitsF Try.prog f_spec_l7Two 16 c_spec_l7Two r_spec_l7Two = true := by kernel_rfl

/- loop.example/g01078/spec.l7Is: [a=0, b=1, f=2, a=3, b=4, f=5, _=7, _=8, fault=9] -/
def c_spec_l7Is : ACode :=
  (.seq (.reg [⟨none, .box 3 (.t 0)⟩,
     ⟨none, .box 4 (.t 1)⟩,
     ⟨none, .asg 6 (.c (.bool false))⟩])
  (.seq (.seq (.reg [⟨none, .ld 10 2 true (.t 3)⟩,
       ⟨none, .ld 11 2 true (.t 4)⟩,
       ⟨none, .mov 12 (.t 2)⟩,
       ⟨none, .call 13 f_spec_l7Map [((.t 10), false), ((.t 11), false), ((.t 12), false)]⟩,
       ⟨none, .un 14 .not (.t 13)⟩])
    (.drop [10, 11, 12, 13] (.cond (.t 14) (.seq (.reg [⟨none, .asg 6 (.c (.bool false))⟩])
      .ret)
     .skip)))
   (.drop [10, 11, 12, 13, 14] (.seq (.reg [⟨none, .ld 16 2 true (.t 3)⟩,
       ⟨none, .ld 17 2 true (.t 4)⟩,
       ⟨none, .mov 18 (.t 2)⟩,
       ⟨none, .call 19 f_spec_l7Fault [((.t 16), false), ((.t 17), false), ((.t 18), false)]⟩,
       ⟨none, .asg 15 (.t 19)⟩,
       ⟨none, .ext 20 (.t 15) 0⟩,
       ⟨none, .ext 21 (.t 15) 1⟩,
       ⟨none, .ext 22 (.t 15) 2⟩,
       ⟨none, .asg 7 (.t 20)⟩,
       ⟨none, .asg 8 (.t 21)⟩,
       ⟨none, .asg 9 (.t 22)⟩])
    (.drop [16, 17, 18, 19, 15, 20, 21, 22, 7, 8] (.seq (.reg [⟨none, .mov 23 (.t 9)⟩,
        ⟨none, .un 24 .not (.t 23)⟩,
        ⟨none, .asg 6 (.t 24)⟩])
     (.drop [23, 24] .ret)))))))
abbrev r_spec_l7Is : List RS := [.t 6]
theorem k_spec_l7Is : fitsF Try.prog f_spec_l7Is 25 c_spec_l7Is r_spec_l7Is = true := by kernel_rfl

/- loop.example/g01078/impl.SameType: [a=0, b=1, a=2, b=3] -/
def c_impl_SameType : ACode :=
  (.seq (.reg [⟨none, .box 2 (.t 0)⟩,
     ⟨none, .box 3 (.t 1)⟩,
     ⟨none, .asg 4 (.c (.bool false))⟩,
     ⟨none, .asg 5 (.c (.bool false))⟩])
  (.seq (.seq (.reg [⟨none, .ld 6 2 true (.t 2)⟩,
       ⟨none, .call 7 f_impl_IsAlgebra [((.t 6), false)]⟩,
       ⟨none, .un 8 .not (.t 7)⟩,
       ⟨none, .asg 9 (.t 8)⟩,
       ⟨some (9, false), .ld 10 2 true (.t 3)⟩,
       ⟨some (9, false), .call 11 f_impl_IsAlgebra [((.t 10), false)]⟩,
       ⟨some (9, false), .un 12 .not (.t 11)⟩,
       ⟨none, .pick 13 (.t 9) (.c (.bool true)) (.t 12)⟩])
    (.drop [6, 7, 8, 9, 10, 11, 12] (.cond (.t 13) (.seq (.reg [⟨none, .asg 4 (.c (.bool false))⟩,
         ⟨none, .asg 5 (.c (.bool false))⟩])
      .ret)
     .skip)))
   (.drop [6, 7, 8, 9, 10, 11, 12, 13] (.seq (.dreg [(⟨none, .ld 14 2 true (.t 2)⟩, []),
       (⟨none, .call 15 f_impl_typeOf [((.t 14), false)]⟩, []),
       (⟨none, .ld 16 2 true (.t 3)⟩, [14, 15])]
      [⟨none, .call 17 f_impl_typeOf [((.t 16), false)]⟩,
       ⟨none, .call 18 f_impl_sameList [((.t 15), false), ((.t 17), false)]⟩,
       ⟨none, .asg 4 (.t 18)⟩,
       ⟨none, .asg 5 (.c (.bool true))⟩])
    (.drop [14, 15, 16, 17, 18] .ret)))))
abbrev r_impl_SameType : List RS := [.t 4, .t 5]
theorem k_impl_SameType : fitsF Try.prog f_impl_SameType 19 c_impl_SameType r_impl_SameType = true := by kernel_rfl

/- loop.example/g01078/impl.RenameElements: [a=0, names=1, a=2, names=3] -/
def c_impl_RenameElements : ACode :=
  (.seq (.reg [⟨none, .box 2 (.t 0)⟩,
     ⟨none, .alc 4 (.agg [.int .i64 0, .nilsl 2])⟩,
     ⟨none, .asg 5 (.c (.bool false))⟩])
  (.seq (.seq (.reg [⟨none, .ld 6 2 true (.t 2)⟩,
       ⟨none, .call 7 f_impl_IsAlgebra [((.t 6), false)]⟩,
       ⟨none, .un 8 .not (.t 7)⟩,
       ⟨none, .asg 9 (.t 8)⟩,
       ⟨some (9, false), .mov 10 (.t 1)⟩,
       ⟨some (9, false), .fadr 11 0 (.t 2)⟩,
       ⟨some (9, false), .ld 12 1 false (.t 11)⟩,
       ⟨some (9, false), .call 13 f_impl_isOrder [((.t 10), false), ((.t 12), false)]⟩,
       ⟨some (9, false), .un 14 .not (.t 13)⟩,
       ⟨none, .pick 15 (.t 9) (.c (.bool true)) (.t 14)⟩])
    (.drop [6, 7, 8, 9, 10, 11, 12, 13, 14] (.cond (.t 15) (.seq (.reg [⟨none, .bld 16 [.int .i64 0, .nilsl 2] []⟩,
         ⟨none, .st 2 (.t 4) (.t 16)⟩,
         ⟨none, .asg 5 (.c (.bool false))⟩])
      (.drop [16] .ret))
     .skip)))
   (.drop [6, 7, 8, 9, 10, 11, 12, 13, 14, 15, 16] (.seq (.reg [⟨none, .ld 17 2 true (.t 2)⟩,
       ⟨none, .mov 18 (.t 1)⟩,
       ⟨none, .call 19 f_impl_rename [((.t 17), false), ((.t 18), false)]⟩,
       ⟨none, .st 2 (.t 4) (.t 19)⟩,
       ⟨none, .asg 5 (.c (.bool true))⟩])
    (.drop [17, 18, 19] .ret)))))
abbrev r_impl_RenameElements : List RS := [.c 4 2 true, .t 5]
theorem k_impl_RenameElements : fitsF Try.prog f_impl_RenameElements 20 c_impl_RenameElements r_impl_RenameElements = true := by kernel_rfl

/- loop.example/g01078/spec.InverseIso: [a=0, b=1, f=2, a=3, b=4, f=5, out=8, x=9] -/
def c_spec_InverseIso_k1 : ACode :=
  (.seq (.reg [⟨none, .ld 10 2 true (.t 3)⟩,
       ⟨none, .ld 11 2 true (.t 4)⟩,
       ⟨none, .call 12 f_spec_l7Two [((.t 10), false), ((.t 11), false)]⟩,
       ⟨none, .un 13 .not (.t 12)⟩,
       ⟨none, .asg 14 (.t 13)⟩,
       ⟨some (14, false), .fadr 15 0 (.t 3)⟩,
       ⟨some (14, false), .ld 16 1 false (.t 15)⟩,
       ⟨some (14, false), .fadr 17 0 (.t 4)⟩,
       ⟨some (14, false), .ld 18 1 false (.t 17)⟩,
       ⟨some (14, false), .bin 19 .neq (.t 16) (.t 18)⟩,
       ⟨none, .pick 20 (.t 14) (.c (.bool true)) (.t 19)⟩,
       ⟨none, .asg 21 (.t 20)⟩,
       ⟨some (21, false), .ld 22 2 true (.t 3)⟩,
       ⟨some (21, false), .ld 23 2 true (.t 4)⟩,
       ⟨some (21, false), .mov 24 (.t 2)⟩,
       ⟨some (21, false), .call 25 f_spec_l7Is [((.t 22), false), ((.t 23), false), ((.t 24), false)]⟩,
       ⟨some (21, false), .un 26 .not (.t 25)⟩,
       ⟨none, .pick 27 (.t 21) (.c (.bool true)) (.t 26)⟩,
       ⟨none, .asg 28 (.t 27)⟩,
       ⟨some (28, false), .mov 29 (.t 2)⟩,
       ⟨some (28, false), .call 30 f_spec_l7Into [((.t 29), false)]⟩,
       ⟨some (28, false), .un 31 .not (.t 30)⟩,
       ⟨none, .pick 32 (.t 28) (.c (.bool true)) (.t 31)⟩])
    (.drop [10, 11, 12, 13, 14, 15, 16, 17, 18, 19, 20, 21, 22, 23, 24, 25, 26, 27, 28, 29, 30, 31] (.cond (.t 32) (.seq (.reg [⟨none, .bsl 33 1 []⟩,
         ⟨none, .asg 6 (.t 33)⟩,
         ⟨none, .asg 7 (.c (.bool false))⟩])
      (.drop [33] .ret))
     .skip)))
def c_spec_InverseIso_l1 : ACode :=
  (.seq (.seq (.reg [⟨none, .mov 37 (.t 9)⟩,
      ⟨none, .mov 38 (.t 2)⟩,
      ⟨none, .len 39 (.t 38)⟩,
      ⟨none, .bin 40 .lss (.t 37) (.t 39)⟩])
   (.drop [37, 38, 39] (.cond (.t 40) .skip
    (.exit 0))))
  (.drop [37, 38, 39, 40] (.seq (.block 1 (.reg [⟨none, .mov 43 (.t 8)⟩,
       ⟨none, .mov 44 (.t 2)⟩,
       ⟨none, .mov 45 (.t 9)⟩,
       ⟨none, .iad 46 1 (.t 44) (.t 45)⟩,
       ⟨none, .ld 47 1 false (.t 46)⟩,
       ⟨none, .mov 48 (.t 9)⟩,
       ⟨none, .iad 49 1 (.t 43) (.t 47)⟩,
       ⟨none, .st 1 (.t 49) (.t 48)⟩]))
   (.drop [43, 44, 45, 46, 47, 48, 49] (.reg [⟨none, .mov 41 (.t 9)⟩,
      ⟨none, .bin 42 .add (.t 41) (.c (.int .i64 1))⟩,
      ⟨none, .asg 9 (.t 42)⟩])))))
def c_spec_InverseIso : ACode :=
  (.seq (.reg [⟨none, .box 3 (.t 0)⟩,
     ⟨none, .box 4 (.t 1)⟩,
     ⟨none, .asg 6 (.c (.nilsl 1))⟩,
     ⟨none, .asg 7 (.c (.bool false))⟩])
  (.seq (.cut c_spec_InverseIso_k1)
   (.drop [10, 11, 12, 13, 14, 15, 16, 17, 18, 19, 20, 21, 22, 23, 24, 25, 26, 27, 28, 29, 30, 31, 32, 33] (.seq (.reg [⟨none, .mov 34 (.t 2)⟩,
       ⟨none, .len 35 (.t 34)⟩,
       ⟨none, .mk 36 1 (.int .i64 0) (.t 35)⟩,
       ⟨none, .asg 8 (.t 36)⟩])
    (.drop [34, 35, 36] (.seq (.seq (.reg [⟨none, .asg 9 (.c (.int .i64 0))⟩])
      (.block 0 (.loop c_spec_InverseIso_l1)))
     (.drop [9, 37, 38, 39, 40, 43, 44, 45, 46, 47, 48, 49, 41, 42] (.seq (.reg [⟨none, .mov 50 (.t 8)⟩,
         ⟨none, .asg 6 (.t 50)⟩,
         ⟨none, .asg 7 (.c (.bool true))⟩])
      (.drop [50] .ret)))))))))
abbrev r_spec_InverseIso : List RS := [.t 6, .t 7]
theorem k_spec_InverseIso : fitsF Try.prog f_spec_InverseIso 51 c_spec_InverseIso r_spec_InverseIso = true := by kernel_rfl

/- loop.example/g01078/impl.alike: [a=0, b=1, a=2, b=3, same=5, ok=6] -/
def c_impl_alike : ACode :=
  (.seq (.reg [⟨none, .box 2 (.t 0)⟩,
     ⟨none, .box 3 (.t 1)⟩,
     ⟨none, .asg 4 (.c (.bool false))⟩])
  (.seq (.reg [⟨none, .ld 8 2 true (.t 2)⟩,
      ⟨none, .ld 9 2 true (.t 3)⟩,
      ⟨none, .call 10 f_impl_SameType [((.t 8), false), ((.t 9), false)]⟩,
      ⟨none, .asg 7 (.t 10)⟩,
      ⟨none, .ext 11 (.t 7) 0⟩,
      ⟨none, .ext 12 (.t 7) 1⟩,
      ⟨none, .asg 5 (.t 11)⟩,
      ⟨none, .asg 6 (.t 12)⟩])
   (.drop [8, 9, 10, 7, 11, 12] (.seq (.reg [⟨none, .mov 13 (.t 6)⟩,
       ⟨none, .asg 14 (.t 13)⟩,
       ⟨some (14, true), .mov 15 (.t 5)⟩,
       ⟨none, .pick 16 (.t 14) (.t 15) (.c (.bool false))⟩,
       ⟨none, .asg 4 (.t 16)⟩])
    (.drop [13, 14, 15, 16] .ret)))))
abbrev r_impl_alike : List RS := [.t 4]
theorem k_impl_alike : fitsF Try.prog f_impl_alike 17 c_impl_alike r_impl_alike = true := by kernel_rfl

end Go.Proofs.Ytdodfnbbfkcgnaa.Ax
