/-
  The small code of the functions, written by program; that the program's code is this one, the kernel looks at.
-/
import Derived.Test.YtdodfnbbfkcgnaaAx3
import Derived.Test.YtdodfnbbfkcgnaaProg
import Derived.KernelRfl
import Derived.Test.YtdodfnbbfkcgnaaNum
namespace Go.Proofs.Ytdodfnbbfkcgnaa.Ax
open Go
set_option maxRecDepth 100000

/- loop.example/g01078/laws.toIntS: [a=0, a=1, out=3, i=4] -/
def c_laws_toIntS_l1 : ACode :=
  (.seq (.seq (.reg [⟨none, .mov 8 (.t 4)⟩,
      ⟨none, .mov 9 (.t 0)⟩,
      ⟨none, .len 10 (.t 9)⟩,
      ⟨none, .bin 11 .lss (.t 8) (.t 10)⟩])
   (.drop [8, 9, 10] (.cond (.t 11) .skip
    (.exit 0))))
  (.drop [8, 9, 10, 11] (.seq (.block 1 (.reg [⟨none, .mov 14 (.t 3)⟩,
       ⟨none, .mov 15 (.t 4)⟩,
       ⟨none, .mov 16 (.t 0)⟩,
       ⟨none, .mov 17 (.t 4)⟩,
       ⟨none, .iad 18 1 (.t 16) (.t 17)⟩,
       ⟨none, .ld 19 1 false (.t 18)⟩,
       ⟨none, .iad 20 1 (.t 14) (.t 15)⟩,
       ⟨none, .st 1 (.t 20) (.t 19)⟩]))
   (.drop [14, 15, 16, 17, 18, 19, 20] (.reg [⟨none, .mov 12 (.t 4)⟩,
      ⟨none, .bin 13 .add (.t 12) (.c (.int .i64 1))⟩,
      ⟨none, .asg 4 (.t 13)⟩])))))
def c_laws_toIntS : ACode :=
  (.seq (.reg [⟨none, .asg 2 (.c (.nilsl 1))⟩])
  (.seq (.reg [⟨none, .mov 5 (.t 0)⟩,
      ⟨none, .len 6 (.t 5)⟩,
      ⟨none, .mk 7 1 (.int .i64 0) (.t 6)⟩,
      ⟨none, .asg 3 (.t 7)⟩])
   (.drop [5, 6, 7] (.seq (.seq (.reg [⟨none, .asg 4 (.c (.int .i64 0))⟩])
     (.block 0 (.loop c_laws_toIntS_l1)))
    (.drop [4, 8, 9, 10, 11, 14, 15, 16, 17, 18, 19, 20, 12, 13] (.seq (.reg [⟨none, .mov 21 (.t 3)⟩,
        ⟨none, .asg 2 (.t 21)⟩])
     (.drop [21] .ret)))))))
abbrev r_laws_toIntS : List RS := [.t 2]
theorem k_laws_toIntS : fitsF Try.prog f_laws_toIntS 22 c_laws_toIntS r_laws_toIntS = true := by kernel_rfl

/- loop.example/g01078/laws.eqIntS: [a=0, b=1, a=2, b=3, i=5] -/
def c_laws_eqIntS_l1 : ACode :=
  (.seq (.seq (.reg [⟨none, .mov 11 (.t 5)⟩,
      ⟨none, .mov 12 (.t 0)⟩,
      ⟨none, .len 13 (.t 12)⟩,
      ⟨none, .bin 14 .lss (.t 11) (.t 13)⟩])
   (.drop [11, 12, 13] (.cond (.t 14) .skip
    (.exit 0))))
  (.drop [11, 12, 13, 14] (.seq (.block 1 (.seq (.dreg [(⟨none, .mov 17 (.t 0)⟩, []),
        (⟨none, .mov 18 (.t 5)⟩, [17]),
        (⟨none, .iad 19 1 (.t 17) (.t 18)⟩, []),
        (⟨none, .ld 20 1 false (.t 19)⟩, []),
        (⟨none, .mov 21 (.t 1)⟩, [17, 18, 19, 20]),
        (⟨none, .mov 22 (.t 5)⟩, [17, 18, 19, 20, 21]),
        (⟨none, .iad 23 1 (.t 21) (.t 22)⟩, [17, 18, 19, 20]),
        (⟨none, .ld 24 1 false (.t 23)⟩, [17, 18, 19, 20])]
       [⟨none, .bin 25 .neq (.t 20) (.t 24)⟩])
     (.drop [17, 18, 19, 20, 21, 22, 23, 24] (.cond (.t 25) (.seq (.reg [⟨none, .asg 4 (.c (.bool false))⟩])
       .ret)
      .skip))))
   (.drop [17, 18, 19, 20, 21, 22, 23, 24, 25] (.reg [⟨none, .mov 15 (.t 5)⟩,
      ⟨none, .bin 16 .add (.t 15) (.c (.int .i64 1))⟩,
      ⟨none, .asg 5 (.t 16)⟩])))))
def c_laws_eqIntS : ACode :=
  (.seq (.reg [⟨none, .asg 4 (.c (.bool false))⟩])
  (.seq (.seq (.reg [⟨none, .mov 6 (.t 0)⟩,
       ⟨none, .len 7 (.t 6)⟩,
       ⟨none, .mov 8 (.t 1)⟩,
       ⟨none, .len 9 (.t 8)⟩,
       ⟨none, .bin 10 .neq (.t 7) (.t 9)⟩])
    (.drop [6, 7, 8, 9] (.cond (.t 10) (.seq (.reg [⟨none, .asg 4 (.c (.bool false))⟩])
      .ret)
     .skip)))
   (.drop [6, 7, 8, 9, 10] (.seq (.seq (.reg [⟨none, .asg 5 (.c (.int .i64 0))⟩])
     (.block 0 (.loop c_laws_eqIntS_l1)))
    (.drop [5, 11, 12, 13, 14, 17, 18, 19, 20, 21, 22, 23, 24, 25, 15, 16] (.seq (.reg [⟨none, .asg 4 (.c (.bool true))⟩])
     .ret))))))
abbrev r_laws_eqIntS : List RS := [.t 4]
theorem k_laws_eqIntS : fitsF Try.prog f_laws_eqIntS 26 c_laws_eqIntS r_laws_eqIntS = true := by kernel_rfl

/- loop.example/g01078/spec.l1Own: [l=0, l=1] -/
def c_spec_l1Own : ACode :=
  (.seq (.reg [⟨none, .asg 2 (.c (.nilsl 1))⟩])
  (.seq (.reg [⟨none, .bsl 3 1 []⟩,
      ⟨none, .mov 4 (.t 0)⟩,
      ⟨none, .app 5 1 (.t 3) (.t 4)⟩,
      ⟨none, .asg 2 (.t 5)⟩])
   (.drop [3, 4, 5] .ret)))
abbrev r_spec_l1Own : List RS := [.t 2]
theorem k_spec_l1Own : fitsF Try.prog f_spec_l1Own 6 c_spec_l1Own r_spec_l1Own = true := by kernel_rfl

/- loop.example/g01078/laws.szIntS: [a=0, left=1, a=2, left=3] -/
def c_laws_szIntS : ACode :=
  (.seq (.reg [⟨none, .asg 4 (.c (.int .i64 0))⟩])
  (.seq (.reg [⟨none, .mov 5 (.t 1)⟩,
      ⟨none, .mov 6 (.t 0)⟩,
      ⟨none, .len 7 (.t 6)⟩,
      ⟨none, .bin 8 .sub (.t 5) (.t 7)⟩,
      ⟨none, .asg 1 (.t 8)⟩])
   (.drop [5, 6, 7, 8] (.seq (.seq (.reg [⟨none, .mov 9 (.t 1)⟩,
        ⟨none, .bin 10 .lss (.t 9) (.c (.int .i64 0))⟩])
     (.drop [9] (.cond (.t 10) (.seq (.reg [⟨none, .asg 4 (.c (.int .i64 (-1)))⟩])
       .ret)
      .skip)))
    (.drop [9, 10] (.seq (.reg [⟨none, .mov 11 (.t 1)⟩,
        ⟨none, .asg 4 (.t 11)⟩])
     (.drop [11] .ret)))))))
abbrev r_laws_szIntS : List RS := [.t 4]
theorem k_laws_szIntS : fitsF Try.prog f_laws_szIntS 12 c_laws_szIntS r_laws_szIntS = true := by kernel_rfl

/- loop.example/g01078/spec.l6Count: [p=0, p=1, n=3, x=4] -/
def c_spec_l6Count_l1 : ACode :=
  (.seq (.seq (.reg [⟨none, .mov 5 (.t 4)⟩,
      ⟨none, .mov 6 (.t 0)⟩,
      ⟨none, .len 7 (.t 6)⟩,
      ⟨none, .bin 8 .lss (.t 5) (.t 7)⟩])
   (.drop [5, 6, 7] (.cond (.t 8) .skip
    (.exit 0))))
  (.drop [5, 6, 7, 8] (.seq (.block 1 (.seq (.reg [⟨none, .mov 11 (.t 0)⟩,
        ⟨none, .mov 12 (.t 4)⟩,
        ⟨none, .iad 13 1 (.t 11) (.t 12)⟩,
        ⟨none, .ld 14 1 false (.t 13)⟩,
        ⟨none, .mov 15 (.t 4)⟩,
        ⟨none, .bin 16 .eql (.t 14) (.t 15)⟩])
     (.drop [11, 12, 13, 14, 15] (.cond (.t 16) (.reg [⟨none, .mov 17 (.t 3)⟩,
         ⟨none, .bin 18 .add (.t 17) (.c (.int .i64 1))⟩,
         ⟨none, .asg 3 (.t 18)⟩])
      .skip))))
   (.drop [11, 12, 13, 14, 15, 16, 17, 18] (.reg [⟨none, .mov 9 (.t 4)⟩,
      ⟨none, .bin 10 .add (.t 9) (.c (.int .i64 1))⟩,
      ⟨none, .asg 4 (.t 10)⟩])))))
def c_spec_l6Count : ACode :=
  (.seq (.reg [⟨none, .asg 2 (.c (.int .i64 0))⟩])
  (.seq (.reg [⟨none, .asg 3 (.c (.int .i64 0))⟩])
   (.seq (.seq (.reg [⟨none, .asg 4 (.c (.int .i64 0))⟩])
     (.block 0 (.loop c_spec_l6Count_l1)))
    (.drop [4, 5, 6, 7, 8, 11, 12, 13, 14, 15, 16, 17, 18, 9, 10] (.seq (.reg [⟨none, .mov 19 (.t 3)⟩,
        ⟨none, .asg 2 (.t 19)⟩])
     (.drop [19] .ret))))))
abbrev r_spec_l6Count : List RS := [.t 2]
theorem k_spec_l6Count : fitsF Try.prog f_spec_l6Count 20 c_spec_l6Count r_spec_l6Count = true := by kernel_rfl

/- loop.example/g01078/impl.blockCount: [p=0, p=1, many=3, i=4, x=5] -/
def c_impl_blockCount_l1 : ACode :=
  (.seq (.reg [⟨none, .bin 9 .lss (.t 8) (.t 7)⟩])
  (.seq (.cond (.t 9) .skip
    (.exit 0))
   (.seq (.block 1 (.seq (.reg [⟨none, .mov 10 (.t 8)⟩,
         ⟨none, .iad 11 1 (.t 6) (.t 8)⟩,
         ⟨none, .ld 12 1 false (.t 11)⟩,
         ⟨none, .asg 4 (.t 10)⟩,
         ⟨none, .asg 5 (.t 12)⟩])
      (.drop [10, 11, 12] (.seq (.reg [⟨none, .mov 13 (.t 5)⟩,
          ⟨none, .mov 14 (.t 4)⟩,
          ⟨none, .bin 15 .eql (.t 13) (.t 14)⟩])
       (.drop [13, 14] (.cond (.t 15) (.reg [⟨none, .mov 16 (.t 3)⟩,
           ⟨none, .bin 17 .add (.t 16) (.c (.int .i64 1))⟩,
           ⟨none, .asg 3 (.t 17)⟩])
        .skip))))))
    (.drop [10, 11, 12, 4, 5, 13, 14, 15, 16, 17] (.reg [⟨none, .bin 18 .add (.t 8) (.c (.int .i64 1))⟩,
       ⟨none, .asg 8 (.t 18)⟩])))))
def c_impl_blockCount : ACode :=
  (.seq (.reg [⟨none, .asg 2 (.c (.int .i64 0))⟩])
  (.seq (.reg [⟨none, .asg 3 (.c (.int .i64 0))⟩])
   (.seq (.seq (.reg [⟨none, .mov 6 (.t 0)⟩,
        ⟨none, .len 7 (.t 6)⟩,
        ⟨none, .mov 8 (.c (.int .i64 0))⟩])
     (.block 0 (.loop c_impl_blockCount_l1)))
    (.drop [6, 7, 8, 9, 10, 11, 12, 4, 5, 13, 14, 15, 16, 17, 18] (.seq (.reg [⟨none, .mov 19 (.t 3)⟩,
        ⟨none, .asg 2 (.t 19)⟩])
     (.drop [19] .ret))))))
abbrev r_impl_blockCount : List RS := [.t 2]
theorem k_impl_blockCount : fitsF Try.prog f_impl_blockCount 20 c_impl_blockCount r_impl_blockCount = true := by kernel_rfl

/- loop.example/g01078/spec.l1Same: [a=0, b=1, a=2, b=3, i=5] -/
def c_spec_l1Same_l1 : ACode :=
  (.seq (.seq (.reg [⟨none, .mov 11 (.t 5)⟩,
      ⟨none, .mov 12 (.t 0)⟩,
      ⟨none, .len 13 (.t 12)⟩,
      ⟨none, .bin 14 .lss (.t 11) (.t 13)⟩])
   (.drop [11, 12, 13] (.cond (.t 14) .skip
    (.exit 0))))
  (.drop [11, 12, 13, 14] (.seq (.block 1 (.seq (.dreg [(⟨none, .mov 17 (.t 0)⟩, []),
        (⟨none, .mov 18 (.t 5)⟩, [17]),
        (⟨none, .iad 19 1 (.t 17) (.t 18)⟩, []),
        (⟨none, .ld 20 1 false (.t 19)⟩, []),
        (⟨none, .mov 21 (.t 1)⟩, [17, 18, 19, 20]),
        (⟨none, .mov 22 (.t 5)⟩, [17, 18, 19, 20, 21]),
        (⟨none, .iad 23 1 (.t 21) (.t 22)⟩, [17, 18, 19, 20]),
        (⟨none, .ld 24 1 false (.t 23)⟩, [17, 18, 19, 20])]
       [⟨none, .bin 25 .neq (.t 20) (.t 24)⟩])
     (.drop [17, 18, 19, 20, 21, 22, 23, 24] (.cond (.t 25) (.seq (.reg [⟨none, .asg 4 (.c (.bool false))⟩])
       .ret)
      .skip))))
   (.drop [17, 18, 19, 20, 21, 22, 23, 24, 25] (.reg [⟨none, .mov 15 (.t 5)⟩,
      ⟨none, .bin 16 .add (.t 15) (.c (.int .i64 1))⟩,
      ⟨none, .asg 5 (.t 16)⟩])))))
def c_spec_l1Same : ACode :=
  (.seq (.reg [⟨none, .asg 4 (.c (.bool false))⟩])
  (.seq (.seq (.reg [⟨none, .mov 6 (.t 0)⟩,
       ⟨none, .len 7 (.t 6)⟩,
       ⟨none, .mov 8 (.t 1)⟩,
       ⟨none, .len 9 (.t 8)⟩,
       ⟨none, .bin 10 .neq (.t 7) (.t 9)⟩])
    (.drop [6, 7, 8, 9] (.cond (.t 10) (.seq (.reg [⟨none, .asg 4 (.c (.bool false))⟩])
      .ret)
     .skip)))
   (.drop [6, 7, 8, 9, 10] (.seq (.seq (.reg [⟨none, .asg 5 (.c (.int .i64 0))⟩])
     (.block 0 (.loop c_spec_l1Same_l1)))
    (.drop [5, 11, 12, 13, 14, 17, 18, 19, 20, 21, 22, 23, 24, 25, 15, 16] (.seq (.reg [⟨none, .asg 4 (.c (.bool true))⟩])
     .ret))))))
abbrev r_spec_l1Same : List RS := [.t 4]
theorem k_spec_l1Same : fitsF Try.prog f_spec_l1Same 26 c_spec_l1Same r_spec_l1Same = true := by kernel_rfl

/- loop.example/g01078/spec.l2Value: [a=0, op=1, args=2, a=3, op=4, args=5, at=7, i=8] -/
def c_spec_l2Value_l1 : ACode :=
  (.seq (.seq (.reg [⟨none, .mov 9 (.t 8)⟩,
      ⟨none, .mov 10 (.t 2)⟩,
      ⟨none, .len 11 (.t 10)⟩,
      ⟨none, .bin 12 .lss (.t 9) (.t 11)⟩])
   (.drop [9, 10, 11] (.cond (.t 12) .skip
    (.exit 0))))
  (.drop [9, 10, 11, 12] (.seq (.block 1 (.dreg [(⟨none, .mov 15 (.t 7)⟩, []),
       (⟨none, .fadr 16 0 (.t 3)⟩, [15]),
       (⟨none, .ld 17 1 false (.t 16)⟩, [15]),
       (⟨none, .bin 18 .mul (.t 15) (.t 17)⟩, []),
       (⟨none, .mov 19 (.t 2)⟩, [15, 16, 17, 18]),
       (⟨none, .mov 20 (.t 8)⟩, [15, 16, 17, 18, 19]),
       (⟨none, .iad 21 1 (.t 19) (.t 20)⟩, [15, 16, 17, 18]),
       (⟨none, .ld 22 1 false (.t 21)⟩, [15, 16, 17, 18])]
      [⟨none, .bin 23 .add (.t 18) (.t 22)⟩,
       ⟨none, .asg 7 (.t 23)⟩]))
   (.drop [15, 16, 17, 18, 19, 20, 21, 22, 23] (.reg [⟨none, .mov 13 (.t 8)⟩,
      ⟨none, .bin 14 .add (.t 13) (.c (.int .i64 1))⟩,
      ⟨none, .asg 8 (.t 14)⟩])))))
def c_spec_l2Value : ACode :=
  (.seq (.reg [⟨none, .box 3 (.t 0)⟩,
     ⟨none, .asg 6 (.c (.int .i64 0))⟩])
  (.seq (.reg [⟨none, .asg 7 (.c (.int .i64 0))⟩])
   (.seq (.seq (.reg [⟨none, .asg 8 (.c (.int .i64 0))⟩])
     (.block 0 (.loop c_spec_l2Value_l1)))
    (.drop [8, 9, 10, 11, 12, 15, 16, 17, 18, 19, 20, 21, 22, 23, 13, 14] (.seq (.reg [⟨none, .fadr 24 1 (.t 3)⟩,
        ⟨none, .ld 25 1 false (.t 24)⟩,
        ⟨none, .mov 26 (.t 1)⟩,
        ⟨none, .iad 27 2 (.t 25) (.t 26)⟩,
        ⟨none, .fadr 28 1 (.t 27)⟩,
        ⟨none, .ld 29 1 false (.t 28)⟩,
        ⟨none, .mov 30 (.t 7)⟩,
        ⟨none, .iad 31 1 (.t 29) (.t 30)⟩,
        ⟨none, .ld 32 1 false (.t 31)⟩,
        ⟨none, .asg 6 (.t 32)⟩])
     (.drop [24, 25, 26, 27, 28, 29, 30, 31, 32] .ret))))))
abbrev r_spec_l2Value : List RS := [.t 6]
theorem k_spec_l2Value : fitsF Try.prog f_spec_l2Value 33 c_spec_l2Value r_spec_l2Value = true := by kernel_rfl

/- loop.example/g01078/spec.l1In: [x=0, a=1, b=2, x=3, a=4, b=5] -/
def c_spec_l1In : ACode :=
  (.seq (.reg [⟨none, .asg 6 (.c (.bool false))⟩])
  (.seq (.reg [⟨none, .mov 7 (.t 0)⟩,
      ⟨none, .mov 8 (.t 1)⟩,
      ⟨none, .bin 9 .geq (.t 7) (.t 8)⟩,
      ⟨none, .asg 10 (.t 9)⟩,
      ⟨some (10, true), .mov 11 (.t 0)⟩,
      ⟨some (10, true), .mov 12 (.t 2)⟩,
      ⟨some (10, true), .bin 13 .leq (.t 11) (.t 12)⟩,
      ⟨none, .pick 14 (.t 10) (.t 13) (.c (.bool false))⟩,
      ⟨none, .asg 6 (.t 14)⟩])
   (.drop [7, 8, 9, 10, 11, 12, 13, 14] .ret)))
abbrev r_spec_l1In : List RS := [.t 6]
theorem k_spec_l1In : fitsF Try.prog f_spec_l1In 15 c_spec_l1In r_spec_l1In = true := by kernel_rfl

/- loop.example/g01078/spec.l2Args: [n=0, arity=1, at=2, n=3, arity=4, at=5, out=7, i=8] -/
def c_spec_l2Args_l1 : ACode :=
  (.seq (.seq (.reg [⟨none, .mov 13 (.t 8)⟩,
      ⟨none, .bin 14 .geq (.t 13) (.c (.int .i64 0))⟩])
   (.drop [13] (.cond (.t 14) .skip
    (.exit 0))))
  (.drop [13, 14] (.seq (.block 1 (.seq (.reg [⟨none, .mov 17 (.t 7)⟩,
        ⟨none, .mov 18 (.t 8)⟩,
        ⟨none, .mov 19 (.t 2)⟩,
        ⟨none, .mov 20 (.t 0)⟩,
        ⟨none, .bin 21 .rem (.t 19) (.t 20)⟩,
        ⟨none, .iad 22 1 (.t 17) (.t 18)⟩,
        ⟨none, .st 1 (.t 22) (.t 21)⟩])
     (.drop [17, 18, 19, 20, 21, 22] (.reg [⟨none, .mov 23 (.t 2)⟩,
        ⟨none, .mov 24 (.t 0)⟩,
        ⟨none, .bin 25 .quo (.t 23) (.t 24)⟩,
        ⟨none, .asg 2 (.t 25)⟩]))))
   (.drop [17, 18, 19, 20, 21, 22, 23, 24, 25] (.reg [⟨none, .mov 15 (.t 8)⟩,
      ⟨none, .bin 16 .sub (.t 15) (.c (.int .i64 1))⟩,
      ⟨none, .asg 8 (.t 16)⟩])))))
def c_spec_l2Args : ACode :=
  (.seq (.reg [⟨none, .asg 6 (.c (.nilsl 1))⟩])
  (.seq (.reg [⟨none, .mov 9 (.t 1)⟩,
      ⟨none, .mk 10 1 (.int .i64 0) (.t 9)⟩,
      ⟨none, .asg 7 (.t 10)⟩])
   (.drop [9, 10] (.seq (.seq (.reg [⟨none, .mov 11 (.t 1)⟩,
        ⟨none, .bin 12 .sub (.t 11) (.c (.int .i64 1))⟩,
        ⟨none, .asg 8 (.t 12)⟩])
     (.drop [11, 12] (.block 0 (.loop c_spec_l2Args_l1))))
    (.drop [11, 12, 8, 13, 14, 17, 18, 19, 20, 21, 22, 23, 24, 25, 15, 16] (.seq (.reg [⟨none, .mov 26 (.t 7)⟩,
        ⟨none, .asg 6 (.t 26)⟩])
     (.drop [26] .ret)))))))
abbrev r_spec_l2Args : List RS := [.t 6]
theorem k_spec_l2Args : fitsF Try.prog f_spec_l2Args 27 c_spec_l2Args r_spec_l2Args = true := by kernel_rfl

/- loop.example/g01078/impl.inSize: [list=0, n=1, list=2, n=3, _=5, x=6] -/
def c_impl_inSize_l1 : ACode :=
  (.seq (.reg [⟨none, .bin 10 .lss (.t 9) (.t 8)⟩])
  (.seq (.cond (.t 10) .skip
    (.exit 0))
   (.seq (.block 1 (.seq (.reg [⟨none, .iad 11 1 (.t 7) (.t 9)⟩,
         ⟨none, .ld 12 1 false (.t 11)⟩,
         ⟨none, .asg 6 (.t 12)⟩])
      (.drop [11, 12] (.seq (.reg [⟨none, .mov 13 (.t 6)⟩,
          ⟨none, .bin 14 .lss (.t 13) (.c (.int .i64 0))⟩,
          ⟨none, .asg 15 (.t 14)⟩,
          ⟨some (15, false), .mov 16 (.t 6)⟩,
          ⟨some (15, false), .mov 17 (.t 1)⟩,
          ⟨some (15, false), .bin 18 .geq (.t 16) (.t 17)⟩,
          ⟨none, .pick 19 (.t 15) (.c (.bool true)) (.t 18)⟩])
       (.drop [13, 14, 15, 16, 17, 18] (.cond (.t 19) (.seq (.reg [⟨none, .asg 4 (.c (.bool false))⟩])
         .ret)
        .skip))))))
    (.drop [11, 12, 6, 13, 14, 15, 16, 17, 18, 19] (.reg [⟨none, .bin 20 .add (.t 9) (.c (.int .i64 1))⟩,
       ⟨none, .asg 9 (.t 20)⟩])))))
def c_impl_inSize : ACode :=
  (.seq (.reg [⟨none, .asg 4 (.c (.bool false))⟩])
  (.seq (.seq (.reg [⟨none, .mov 7 (.t 0)⟩,
       ⟨none, .len 8 (.t 7)⟩,
       ⟨none, .mov 9 (.c (.int .i64 0))⟩])
    (.block 0 (.loop c_impl_inSize_l1)))
   (.drop [7, 8, 9, 10, 11, 12, 6, 13, 14, 15, 16, 17, 18, 19, 20] (.seq (.reg [⟨none, .asg 4 (.c (.bool true))⟩])
    .ret))))
abbrev r_impl_inSize : List RS := [.t 4]
theorem k_impl_inSize : fitsF Try.prog f_impl_inSize 21 c_impl_inSize r_impl_inSize = true := by kernel_rfl

/- loop.example/g01078/spec.l6Full: [n=0, n=1] -/
def c_spec_l6Full : ACode :=
  (.seq (.reg [⟨none, .asg 2 (.c (.nilsl 1))⟩])
  (.seq (.reg [⟨none, .mov 3 (.t 0)⟩,
      ⟨none, .mk 4 1 (.int .i64 0) (.t 3)⟩,
      ⟨none, .asg 2 (.t 4)⟩])
   (.drop [3, 4] .ret)))
abbrev r_spec_l6Full : List RS := [.t 2]
theorem k_spec_l6Full : fitsF Try.prog f_spec_l6Full 5 c_spec_l6Full r_spec_l6Full = true := by kernel_rfl

/- loop.example/g01078/spec.l6Meet: [p=0, q=1, p=2, q=3, out=5, x=6, y=7] -/
def c_spec_l6Meet_l1 : ACode :=
  (.seq (.seq (.dreg [(⟨none, .mov 15 (.t 0)⟩, []),
      (⟨none, .mov 16 (.t 7)⟩, [15]),
      (⟨none, .iad 17 1 (.t 15) (.t 16)⟩, []),
      (⟨none, .ld 18 1 false (.t 17)⟩, []),
      (⟨none, .mov 19 (.t 0)⟩, [15, 16, 17, 18]),
      (⟨none, .mov 20 (.t 6)⟩, [15, 16, 17, 18, 19]),
      (⟨none, .iad 21 1 (.t 19) (.t 20)⟩, [15, 16, 17, 18]),
      (⟨none, .ld 22 1 false (.t 21)⟩, [15, 16, 17, 18]),
      (⟨none, .bin 23 .neq (.t 18) (.t 22)⟩, []),
      (⟨none, .asg 24 (.t 23)⟩, []),
      (⟨some (24, false), .mov 25 (.t 1)⟩, [23]),
      (⟨some (24, false), .mov 26 (.t 7)⟩, [25, 23]),
      (⟨some (24, false), .iad 27 1 (.t 25) (.t 26)⟩, [23]),
      (⟨some (24, false), .ld 28 1 false (.t 27)⟩, [23]),
      (⟨some (24, false), .mov 29 (.t 1)⟩, [25, 26, 27, 28, 23]),
      (⟨some (24, false), .mov 30 (.t 6)⟩, [25, 26, 27, 28, 29, 23]),
      (⟨some (24, false), .iad 31 1 (.t 29) (.t 30)⟩, [25, 26, 27, 28, 23]),
      (⟨some (24, false), .ld 32 1 false (.t 31)⟩, [25, 26, 27, 28, 23])]
     [⟨some (24, false), .bin 33 .neq (.t 28) (.t 32)⟩,
      ⟨none, .pick 34 (.t 24) (.c (.bool true)) (.t 33)⟩])
   (.drop [15, 16, 17, 18, 19, 20, 21, 22, 23, 24, 25, 26, 27, 28, 29, 30, 31, 32, 33] (.cond (.t 34) .skip
    (.exit 2))))
  (.drop [15, 16, 17, 18, 19, 20, 21, 22, 23, 24, 25, 26, 27, 28, 29, 30, 31, 32, 33, 34] (.block 3 (.reg [⟨none, .mov 35 (.t 7)⟩,
      ⟨none, .bin 36 .add (.t 35) (.c (.int .i64 1))⟩,
      ⟨none, .asg 7 (.t 36)⟩]))))
def c_spec_l6Meet_l2 : ACode :=
  (.seq (.seq (.reg [⟨none, .mov 9 (.t 6)⟩,
      ⟨none, .mov 10 (.t 0)⟩,
      ⟨none, .len 11 (.t 10)⟩,
      ⟨none, .bin 12 .lss (.t 9) (.t 11)⟩])
   (.drop [9, 10, 11] (.cond (.t 12) .skip
    (.exit 0))))
  (.drop [9, 10, 11, 12] (.seq (.block 1 (.seq (.reg [⟨none, .asg 7 (.c (.int .i64 0))⟩])
     (.seq (.block 2 (.loop c_spec_l6Meet_l1))
      (.drop [15, 16, 17, 18, 19, 20, 21, 22, 23, 24, 25, 26, 27, 28, 29, 30, 31, 32, 33, 34, 35, 36] (.reg [⟨none, .mov 37 (.t 5)⟩,
         ⟨none, .mov 38 (.t 7)⟩,
         ⟨none, .bsl 39 1 [(.t 38)]⟩,
         ⟨none, .app 40 1 (.t 37) (.t 39)⟩,
         ⟨none, .asg 5 (.t 40)⟩])))))
   (.drop [7, 15, 16, 17, 18, 19, 20, 21, 22, 23, 24, 25, 26, 27, 28, 29, 30, 31, 32, 33, 34, 35, 36, 37, 38, 39, 40] (.reg [⟨none, .mov 13 (.t 6)⟩,
      ⟨none, .bin 14 .add (.t 13) (.c (.int .i64 1))⟩,
      ⟨none, .asg 6 (.t 14)⟩])))))
def c_spec_l6Meet : ACode :=
  (.seq (.reg [⟨none, .asg 4 (.c (.nilsl 1))⟩])
  (.seq (.reg [⟨none, .bsl 8 1 []⟩,
      ⟨none, .asg 5 (.t 8)⟩])
   (.drop [8] (.seq (.seq (.reg [⟨none, .asg 6 (.c (.int .i64 0))⟩])
     (.block 0 (.loop c_spec_l6Meet_l2)))
    (.drop [6, 9, 10, 11, 12, 7, 15, 16, 17, 18, 19, 20, 21, 22, 23, 24, 25, 26, 27, 28, 29, 30, 31, 32, 33, 34, 35, 36, 37, 38, 39, 40, 13, 14] (.seq (.reg [⟨none, .mov 41 (.t 5)⟩,
        ⟨none, .asg 4 (.t 41)⟩])
     (.drop [41] .ret)))))))
abbrev r_spec_l6Meet : List RS := [.t 4]
theorem k_spec_l6Meet : fitsF Try.prog f_spec_l6Meet 42 c_spec_l6Meet r_spec_l6Meet = true := by kernel_rfl

/- loop.example/g01078/spec.l2Pow: [n=0, k=1, n=2, k=3, out=5] -/
def c_spec_l2Pow_l1 : ACode :=
  (.seq (.seq (.reg [⟨none, .mov 6 (.t 1)⟩,
      ⟨none, .bin 7 .gtr (.t 6) (.c (.int .i64 0))⟩])
   (.drop [6] (.cond (.t 7) .skip
    (.exit 0))))
  (.drop [6, 7] (.seq (.block 1 (.reg [⟨none, .mov 10 (.t 5)⟩,
       ⟨none, .mov 11 (.t 0)⟩,
       ⟨none, .bin 12 .mul (.t 10) (.t 11)⟩,
       ⟨none, .asg 5 (.t 12)⟩]))
   (.drop [10, 11, 12] (.reg [⟨none, .mov 8 (.t 1)⟩,
      ⟨none, .bin 9 .sub (.t 8) (.c (.int .i64 1))⟩,
      ⟨none, .asg 1 (.t 9)⟩])))))
def c_spec_l2Pow : ACode :=
  (.seq (.reg [⟨none, .asg 4 (.c (.int .i64 0))⟩])
  (.seq (.reg [⟨none, .asg 5 (.c (.int .i64 1))⟩])
   (.seq (.block 0 (.loop c_spec_l2Pow_l1))
    (.drop [6, 7, 10, 11, 12, 8, 9] (.seq (.reg [⟨none, .mov 13 (.t 5)⟩,
        ⟨none, .asg 4 (.t 13)⟩])
     (.drop [13] .ret))))))
abbrev r_spec_l2Pow : List RS := [.t 4]
theorem k_spec_l2Pow : fitsF Try.prog f_spec_l2Pow 14 c_spec_l2Pow r_spec_l2Pow = true := by kernel_rfl

/- loop.example/g01078/impl.power: [n=0, k=1, n=2, k=3, p=5] -/
def c_impl_power_l1 : ACode :=
  (.seq (.seq (.reg [⟨none, .mov 6 (.t 1)⟩,
      ⟨none, .bin 7 .gtr (.t 6) (.c (.int .i64 0))⟩])
   (.drop [6] (.cond (.t 7) .skip
    (.exit 0))))
  (.drop [6, 7] (.seq (.block 1 (.reg [⟨none, .mov 10 (.t 5)⟩,
       ⟨none, .mov 11 (.t 0)⟩,
       ⟨none, .bin 12 .mul (.t 10) (.t 11)⟩,
       ⟨none, .asg 5 (.t 12)⟩]))
   (.drop [10, 11, 12] (.reg [⟨none, .mov 8 (.t 1)⟩,
      ⟨none, .bin 9 .sub (.t 8) (.c (.int .i64 1))⟩,
      ⟨none, .asg 1 (.t 9)⟩])))))
def c_impl_power : ACode :=
  (.seq (.reg [⟨none, .asg 4 (.c (.int .i64 0))⟩])
  (.seq (.reg [⟨none, .asg 5 (.c (.int .i64 1))⟩])
   (.seq (.block 0 (.loop c_impl_power_l1))
    (.drop [6, 7, 10, 11, 12, 8, 9] (.seq (.reg [⟨none, .mov 13 (.t 5)⟩,
        ⟨none, .asg 4 (.t 13)⟩])
     (.drop [13] .ret))))))
abbrev r_impl_power : List RS := [.t 4]
theorem k_impl_power : fitsF Try.prog f_impl_power 14 c_impl_power r_impl_power = true := by kernel_rfl

/- loop.example/g01078/impl.isPartition: [n=0, p=1, n=2, p=3, i=5, x=6] -/
def c_impl_isPartition_l1 : ACode :=
  (.seq (.reg [⟨none, .bin 14 .lss (.t 13) (.t 12)⟩])
  (.seq (.cond (.t 14) .skip
    (.exit 0))
   (.seq (.block 1 (.seq (.reg [⟨none, .mov 15 (.t 13)⟩,
         ⟨none, .iad 16 1 (.t 11) (.t 13)⟩,
         ⟨none, .ld 17 1 false (.t 16)⟩,
         ⟨none, .asg 5 (.t 15)⟩,
         ⟨none, .asg 6 (.t 17)⟩])
      (.drop [15, 16, 17] (.seq (.reg [⟨none, .mov 18 (.t 6)⟩,
          ⟨none, .bin 19 .lss (.t 18) (.c (.int .i64 0))⟩,
          ⟨none, .asg 20 (.t 19)⟩,
          ⟨some (20, false), .mov 21 (.t 6)⟩,
          ⟨some (20, false), .mov 22 (.t 5)⟩,
          ⟨some (20, false), .bin 23 .gtr (.t 21) (.t 22)⟩,
          ⟨none, .pick 24 (.t 20) (.c (.bool true)) (.t 23)⟩,
          ⟨none, .asg 25 (.t 24)⟩,
          ⟨some (25, false), .mov 26 (.t 1)⟩,
          ⟨some (25, false), .mov 27 (.t 6)⟩,
          ⟨some (25, false), .iad 28 1 (.t 26) (.t 27)⟩,
          ⟨some (25, false), .ld 29 1 false (.t 28)⟩,
          ⟨some (25, false), .mov 30 (.t 6)⟩,
          ⟨some (25, false), .bin 31 .neq (.t 29) (.t 30)⟩,
          ⟨none, .pick 32 (.t 25) (.c (.bool true)) (.t 31)⟩])
       (.drop [18, 19, 20, 21, 22, 23, 24, 25, 26, 27, 28, 29, 30, 31] (.cond (.t 32) (.seq (.reg [⟨none, .asg 4 (.c (.bool false))⟩])
         .ret)
        .skip))))))
    (.drop [15, 16, 17, 5, 6, 18, 19, 20, 21, 22, 23, 24, 25, 26, 27, 28, 29, 30, 31, 32] (.reg [⟨none, .bin 33 .add (.t 13) (.c (.int .i64 1))⟩,
       ⟨none, .asg 13 (.t 33)⟩])))))
def c_impl_isPartition : ACode :=
  (.seq (.reg [⟨none, .asg 4 (.c (.bool false))⟩])
  (.seq (.seq (.reg [⟨none, .mov 7 (.t 1)⟩,
       ⟨none, .len 8 (.t 7)⟩,
       ⟨none, .mov 9 (.t 0)⟩,
       ⟨none, .bin 10 .neq (.t 8) (.t 9)⟩])
    (.drop [7, 8, 9] (.cond (.t 10) (.seq (.reg [⟨none, .asg 4 (.c (.bool false))⟩])
      .ret)
     .skip)))
   (.drop [7, 8, 9, 10] (.seq (.seq (.reg [⟨none, .mov 11 (.t 1)⟩,
        ⟨none, .len 12 (.t 11)⟩,
        ⟨none, .mov 13 (.c (.int .i64 0))⟩])
     (.block 0 (.loop c_impl_isPartition_l1)))
    (.drop [11, 12, 13, 14, 15, 16, 17, 5, 6, 18, 19, 20, 21, 22, 23, 24, 25, 26, 27, 28, 29, 30, 31, 32, 33] (.seq (.reg [⟨none, .asg 4 (.c (.bool true))⟩])
     .ret))))))
abbrev r_impl_isPartition : List RS := [.t 4]
theorem k_impl_isPartition : fitsF Try.prog f_impl_isPartition 34 c_impl_isPartition r_impl_isPartition = true := by kernel_rfl

/- loop.example/g01078/impl.clone: [list=0, list=1] -/
def c_impl_clone : ACode :=
  (.seq (.reg [⟨none, .asg 2 (.c (.nilsl 1))⟩])
  (.seq (.reg [⟨none, .bsl 3 1 []⟩,
      ⟨none, .mov 4 (.t 0)⟩,
      ⟨none, .app 5 1 (.t 3) (.t 4)⟩,
      ⟨none, .asg 2 (.t 5)⟩])
   (.drop [3, 4, 5] .ret)))
abbrev r_impl_clone : List RS := [.t 2]
theorem k_impl_clone : fitsF Try.prog f_impl_clone 6 c_impl_clone r_impl_clone = true := by kernel_rfl

/- loop.example/g01078/impl.kernelOf: [list=0, list=1, p=3, i=4] -/
def c_impl_kernelOf_l1 : ACode :=
  (.seq (.seq (.dreg [(⟨none, .mov 16 (.t 0)⟩, []),
      (⟨none, .mov 17 (.t 3)⟩, [16]),
      (⟨none, .mov 18 (.t 4)⟩, [16, 17]),
      (⟨none, .iad 19 1 (.t 17) (.t 18)⟩, [16]),
      (⟨none, .ld 20 1 false (.t 19)⟩, [16]),
      (⟨none, .iad 21 1 (.t 16) (.t 20)⟩, []),
      (⟨none, .ld 22 1 false (.t 21)⟩, []),
      (⟨none, .mov 23 (.t 0)⟩, [16, 17, 18, 19, 20, 21, 22]),
      (⟨none, .mov 24 (.t 4)⟩, [16, 17, 18, 19, 20, 21, 22, 23]),
      (⟨none, .iad 25 1 (.t 23) (.t 24)⟩, [16, 17, 18, 19, 20, 21, 22]),
      (⟨none, .ld 26 1 false (.t 25)⟩, [16, 17, 18, 19, 20, 21, 22])]
     [⟨none, .bin 27 .neq (.t 22) (.t 26)⟩])
   (.drop [16, 17, 18, 19, 20, 21, 22, 23, 24, 25, 26] (.cond (.t 27) .skip
    (.exit 2))))
  (.drop [16, 17, 18, 19, 20, 21, 22, 23, 24, 25, 26, 27] (.block 3 (.reg [⟨none, .mov 28 (.t 3)⟩,
      ⟨none, .mov 29 (.t 4)⟩,
      ⟨none, .iad 30 1 (.t 28) (.t 29)⟩,
      ⟨none, .ld 31 1 false (.t 30)⟩,
      ⟨none, .bin 32 .add (.t 31) (.c (.int .i64 1))⟩,
      ⟨none, .iad 33 1 (.t 28) (.t 29)⟩,
      ⟨none, .st 1 (.t 33) (.t 32)⟩]))))
def c_impl_kernelOf_l2 : ACode :=
  (.seq (.reg [⟨none, .bin 11 .lss (.t 10) (.t 9)⟩])
  (.seq (.cond (.t 11) .skip
    (.exit 0))
   (.seq (.block 1 (.seq (.reg [⟨none, .mov 12 (.t 10)⟩,
         ⟨none, .asg 4 (.t 12)⟩])
      (.drop [12] (.seq (.reg [⟨none, .mov 13 (.t 3)⟩,
          ⟨none, .mov 14 (.t 4)⟩,
          ⟨none, .iad 15 1 (.t 13) (.t 14)⟩,
          ⟨none, .st 1 (.t 15) (.c (.int .i64 0))⟩])
       (.drop [13, 14, 15] (.block 2 (.loop c_impl_kernelOf_l1)))))))
    (.drop [12, 4, 13, 14, 15, 16, 17, 18, 19, 20, 21, 22, 23, 24, 25, 26, 27, 28, 29, 30, 31, 32, 33] (.reg [⟨none, .bin 34 .add (.t 10) (.c (.int .i64 1))⟩,
       ⟨none, .asg 10 (.t 34)⟩])))))
def c_impl_kernelOf : ACode :=
  (.seq (.reg [⟨none, .asg 2 (.c (.nilsl 1))⟩])
  (.seq (.reg [⟨none, .mov 5 (.t 0)⟩,
      ⟨none, .len 6 (.t 5)⟩,
      ⟨none, .mk 7 1 (.int .i64 0) (.t 6)⟩,
      ⟨none, .asg 3 (.t 7)⟩])
   (.drop [5, 6, 7] (.seq (.seq (.reg [⟨none, .mov 8 (.t 0)⟩,
        ⟨none, .len 9 (.t 8)⟩,
        ⟨none, .mov 10 (.c (.int .i64 0))⟩])
     (.drop [8] (.block 0 (.loop c_impl_kernelOf_l2))))
    (.drop [8, 9, 10, 11, 12, 4, 13, 14, 15, 16, 17, 18, 19, 20, 21, 22, 23, 24, 25, 26, 27, 28, 29, 30, 31, 32, 33, 34] (.seq (.reg [⟨none, .mov 35 (.t 3)⟩,
        ⟨none, .asg 2 (.t 35)⟩])
     (.drop [35] .ret)))))))
abbrev r_impl_kernelOf : List RS := [.t 2]
theorem k_impl_kernelOf : fitsF Try.prog f_impl_kernelOf 36 c_impl_kernelOf r_impl_kernelOf = true := by kernel_rfl

/- loop.example/g01078/impl.unite: [p=0, x=1, y=2, p=3, x=4, y=5, i=7] -/
def c_impl_unite_k1 : ACode :=
  (.seq (.reg [⟨none, .mov 19 (.t 1)⟩,
         ⟨none, .mov 20 (.t 2)⟩,
         ⟨none, .bin 21 .gtr (.t 19) (.t 20)⟩])
      (.drop [19, 20] (.cond (.t 21) (.reg [⟨none, .mov 22 (.t 2)⟩,
          ⟨none, .mov 23 (.t 1)⟩,
          ⟨none, .asg 1 (.t 22)⟩,
          ⟨none, .asg 2 (.t 23)⟩])
       .skip)))
def c_impl_unite_l1 : ACode :=
  (.seq (.reg [⟨none, .bin 27 .lss (.t 26) (.t 25)⟩])
  (.seq (.cond (.t 27) .skip
    (.exit 0))
   (.seq (.block 1 (.seq (.reg [⟨none, .mov 28 (.t 26)⟩,
         ⟨none, .asg 7 (.t 28)⟩])
      (.drop [28] (.seq (.reg [⟨none, .mov 29 (.t 0)⟩,
          ⟨none, .mov 30 (.t 7)⟩,
          ⟨none, .iad 31 1 (.t 29) (.t 30)⟩,
          ⟨none, .ld 32 1 false (.t 31)⟩,
          ⟨none, .mov 33 (.t 2)⟩,
          ⟨none, .bin 34 .eql (.t 32) (.t 33)⟩])
       (.drop [29, 30, 31, 32, 33] (.cond (.t 34) (.reg [⟨none, .mov 35 (.t 0)⟩,
           ⟨none, .mov 36 (.t 7)⟩,
           ⟨none, .mov 37 (.t 1)⟩,
           ⟨none, .iad 38 1 (.t 35) (.t 36)⟩,
           ⟨none, .st 1 (.t 38) (.t 37)⟩])
        .skip))))))
    (.drop [28, 7, 29, 30, 31, 32, 33, 34, 35, 36, 37, 38] (.reg [⟨none, .bin 39 .add (.t 26) (.c (.int .i64 1))⟩,
       ⟨none, .asg 26 (.t 39)⟩])))))
def c_impl_unite : ACode :=
  (.seq (.reg [⟨none, .asg 6 (.c (.bool false))⟩])
  (.seq (.dregp 2 [1] [(⟨none, .mov 8 (.t 0)⟩, []),
      (⟨none, .mov 9 (.t 1)⟩, [8]),
      (⟨none, .iad 10 1 (.t 8) (.t 9)⟩, []),
      (⟨none, .ld 11 1 false (.t 10)⟩, []),
      (⟨none, .mov 12 (.t 0)⟩, [8, 9, 10, 11, 11]),
      (⟨none, .mov 13 (.t 2)⟩, [8, 9, 10, 11, 12, 11]),
      (⟨none, .iad 14 1 (.t 12) (.t 13)⟩, [8, 9, 10, 11, 11]),
      (⟨none, .ld 15 1 false (.t 14)⟩, [8, 9, 10, 11, 11]),
      (⟨none, .asg 1 (.t 11)⟩, [12, 13, 14, 15])]
     [⟨none, .asg 2 (.t 15)⟩])
   (.drop [8, 9, 10, 11, 12, 13, 14, 15] (.seq (.seq (.reg [⟨none, .mov 16 (.t 1)⟩,
        ⟨none, .mov 17 (.t 2)⟩,
        ⟨none, .bin 18 .eql (.t 16) (.t 17)⟩])
     (.drop [16, 17] (.cond (.t 18) (.seq (.reg [⟨none, .asg 6 (.c (.bool false))⟩])
       .ret)
      .skip)))
    (.drop [16, 17, 18] (.seq (.cut c_impl_unite_k1)
     (.drop [19, 20, 21, 22, 23] (.seq (.seq (.reg [⟨none, .mov 24 (.t 0)⟩,
          ⟨none, .len 25 (.t 24)⟩,
          ⟨none, .mov 26 (.c (.int .i64 0))⟩])
       (.drop [24] (.block 0 (.loop c_impl_unite_l1))))
      (.drop [24, 25, 26, 27, 28, 7, 29, 30, 31, 32, 33, 34, 35, 36, 37, 38, 39] (.seq (.reg [⟨none, .asg 6 (.c (.bool true))⟩])
       .ret))))))))))
abbrev r_impl_unite : List RS := [.t 6]
theorem k_impl_unite : fitsF Try.prog f_impl_unite 40 c_impl_unite r_impl_unite = true := by kernel_rfl

/- loop.example/g01078/spec.l1Least: [a=0, b=1, a=2, b=3] -/
def c_spec_l1Least : ACode :=
  (.seq (.reg [⟨none, .asg 4 (.c (.int .i64 0))⟩])
  (.seq (.seq (.reg [⟨none, .mov 5 (.t 0)⟩,
       ⟨none, .mov 6 (.t 1)⟩,
       ⟨none, .bin 7 .lss (.t 5) (.t 6)⟩])
    (.drop [5, 6] (.cond (.t 7) (.seq (.reg [⟨none, .mov 8 (.t 0)⟩,
         ⟨none, .asg 4 (.t 8)⟩])
      (.drop [8] .ret))
     .skip)))
   (.drop [5, 6, 7, 8] (.seq (.reg [⟨none, .mov 9 (.t 1)⟩,
       ⟨none, .asg 4 (.t 9)⟩])
    (.drop [9] .ret)))))
abbrev r_spec_l1Least : List RS := [.t 4]
theorem k_spec_l1Least : fitsF Try.prog f_spec_l1Least 10 c_spec_l1Least r_spec_l1Least = true := by kernel_rfl

/- loop.example/g01078/spec.l1Most: [a=0, b=1, a=2, b=3] -/
def c_spec_l1Most : ACode :=
  (.seq (.reg [⟨none, .asg 4 (.c (.int .i64 0))⟩])
  (.seq (.seq (.reg [⟨none, .mov 5 (.t 0)⟩,
       ⟨none, .mov 6 (.t 1)⟩,
       ⟨none, .bin 7 .gtr (.t 5) (.t 6)⟩])
    (.drop [5, 6] (.cond (.t 7) (.seq (.reg [⟨none, .mov 8 (.t 0)⟩,
         ⟨none, .asg 4 (.t 8)⟩])
      (.drop [8] .ret))
     .skip)))
   (.drop [5, 6, 7, 8] (.seq (.reg [⟨none, .mov 9 (.t 1)⟩,
       ⟨none, .asg 4 (.t 9)⟩])
    (.drop [9] .ret)))))
abbrev r_spec_l1Most : List RS := [.t 4]
theorem k_spec_l1Most : fitsF Try.prog f_spec_l1Most 10 c_spec_l1Most r_spec_l1Most = true := by kernel_rfl

/- loop.example/g01078/laws.eqIntSS: [a=0, b=1, a=2, b=3, i=5] -/
def c_laws_eqIntSS_l1 : ACode :=
  (.seq (.seq (.reg [⟨none, .mov 11 (.t 5)⟩,
      ⟨none, .mov 12 (.t 0)⟩,
      ⟨none, .len 13 (.t 12)⟩,
      ⟨none, .bin 14 .lss (.t 11) (.t 13)⟩])
   (.drop [11, 12, 13] (.cond (.t 14) .skip
    (.exit 0))))
  (.drop [11, 12, 13, 14] (.seq (.block 1 (.seq (.dreg [(⟨none, .mov 17 (.t 0)⟩, []),
        (⟨none, .mov 18 (.t 5)⟩, [17]),
        (⟨none, .iad 19 1 (.t 17) (.t 18)⟩, []),
        (⟨none, .ld 20 1 false (.t 19)⟩, []),
        (⟨none, .mov 21 (.t 1)⟩, [17, 18, 19, 20]),
        (⟨none, .mov 22 (.t 5)⟩, [17, 18, 19, 20, 21]),
        (⟨none, .iad 23 1 (.t 21) (.t 22)⟩, [17, 18, 19, 20]),
        (⟨none, .ld 24 1 false (.t 23)⟩, [17, 18, 19, 20])]
       [⟨none, .call 25 f_laws_eqIntS [((.t 20), false), ((.t 24), false)]⟩,
        ⟨none, .un 26 .not (.t 25)⟩])
     (.drop [17, 18, 19, 20, 21, 22, 23, 24, 25] (.cond (.t 26) (.seq (.reg [⟨none, .asg 4 (.c (.bool false))⟩])
       .ret)
      .skip))))
   (.drop [17, 18, 19, 20, 21, 22, 23, 24, 25, 26] (.reg [⟨none, .mov 15 (.t 5)⟩,
      ⟨none, .bin 16 .add (.t 15) (.c (.int .i64 1))⟩,
      ⟨none, .asg 5 (.t 16)⟩])))))
def c_laws_eqIntSS : ACode :=
  (.seq (.reg [⟨none, .asg 4 (.c (.bool false))⟩])
  (.seq (.seq (.reg [⟨none, .mov 6 (.t 0)⟩,
       ⟨none, .len 7 (.t 6)⟩,
       ⟨none, .mov 8 (.t 1)⟩,
       ⟨none, .len 9 (.t 8)⟩,
       ⟨none, .bin 10 .neq (.t 7) (.t 9)⟩])
    (.drop [6, 7, 8, 9] (.cond (.t 10) (.seq (.reg [⟨none, .asg 4 (.c (.bool false))⟩])
      .ret)
     .skip)))
   (.drop [6, 7, 8, 9, 10] (.seq (.seq (.reg [⟨none, .asg 5 (.c (.int .i64 0))⟩])
     (.block 0 (.loop c_laws_eqIntSS_l1)))
    (.drop [5, 11, 12, 13, 14, 17, 18, 19, 20, 21, 22, 23, 24, 25, 26, 15, 16] (.seq (.reg [⟨none, .asg 4 (.c (.bool true))⟩])
     .ret))))))
abbrev r_laws_eqIntSS : List RS := [.t 4]
theorem k_laws_eqIntSS : fitsF Try.prog f_laws_eqIntSS 27 c_laws_eqIntSS r_laws_eqIntSS = true := by kernel_rfl

/- loop.example/g01078/laws.szIntSS: [a=0, left=1, a=2, left=3, i=5] -/
def c_laws_szIntSS_l1 : ACode :=
  (.seq (.seq (.reg [⟨none, .mov 12 (.t 5)⟩,
      ⟨none, .mov 13 (.t 0)⟩,
      ⟨none, .len 14 (.t 13)⟩,
      ⟨none, .bin 15 .lss (.t 12) (.t 14)⟩])
   (.drop [12, 13, 14] (.cond (.t 15) .skip
    (.exit 0))))
  (.drop [12, 13, 14, 15] (.seq (.block 1 (.seq (.reg [⟨none, .mov 18 (.t 0)⟩,
        ⟨none, .mov 19 (.t 5)⟩,
        ⟨none, .iad 20 1 (.t 18) (.t 19)⟩,
        ⟨none, .ld 21 1 false (.t 20)⟩,
        ⟨none, .mov 22 (.t 1)⟩,
        ⟨none, .call 23 f_laws_szIntS [((.t 21), false), ((.t 22), false)]⟩,
        ⟨none, .asg 1 (.t 23)⟩])
     (.drop [18, 19, 20, 21, 22, 23] (.seq (.reg [⟨none, .mov 24 (.t 1)⟩,
         ⟨none, .bin 25 .lss (.t 24) (.c (.int .i64 0))⟩])
      (.drop [24] (.cond (.t 25) (.seq (.reg [⟨none, .asg 4 (.c (.int .i64 (-1)))⟩])
        .ret)
       .skip))))))
   (.drop [18, 19, 20, 21, 22, 23, 24, 25] (.reg [⟨none, .mov 16 (.t 5)⟩,
      ⟨none, .bin 17 .add (.t 16) (.c (.int .i64 1))⟩,
      ⟨none, .asg 5 (.t 17)⟩])))))
def c_laws_szIntSS : ACode :=
  (.seq (.reg [⟨none, .asg 4 (.c (.int .i64 0))⟩])
  (.seq (.reg [⟨none, .mov 6 (.t 1)⟩,
      ⟨none, .mov 7 (.t 0)⟩,
      ⟨none, .len 8 (.t 7)⟩,
      ⟨none, .bin 9 .sub (.t 6) (.t 8)⟩,
      ⟨none, .asg 1 (.t 9)⟩])
   (.drop [6, 7, 8, 9] (.seq (.seq (.reg [⟨none, .mov 10 (.t 1)⟩,
        ⟨none, .bin 11 .lss (.t 10) (.c (.int .i64 0))⟩])
     (.drop [10] (.cond (.t 11) (.seq (.reg [⟨none, .asg 4 (.c (.int .i64 (-1)))⟩])
       .ret)
      .skip)))
    (.drop [10, 11] (.seq (.seq (.reg [⟨none, .asg 5 (.c (.int .i64 0))⟩])
      (.block 0 (.loop c_laws_szIntSS_l1)))
     (.drop [5, 12, 13, 14, 15, 18, 19, 20, 21, 22, 23, 24, 25, 16, 17] (.seq (.reg [⟨none, .mov 26 (.t 1)⟩,
         ⟨none, .asg 4 (.t 26)⟩])
      (.drop [26] .ret)))))))))
abbrev r_laws_szIntSS : List RS := [.t 4]
theorem k_laws_szIntSS : fitsF Try.prog f_laws_szIntSS 27 c_laws_szIntSS r_laws_szIntSS = true := by kernel_rfl

/- loop.example/g01078/laws.toIntSS: [a=0, a=1, out=3, i=4] -/
def c_laws_toIntSS_l1 : ACode :=
  (.seq (.seq (.reg [⟨none, .mov 8 (.t 4)⟩,
      ⟨none, .mov 9 (.t 0)⟩,
      ⟨none, .len 10 (.t 9)⟩,
      ⟨none, .bin 11 .lss (.t 8) (.t 10)⟩])
   (.drop [8, 9, 10] (.cond (.t 11) .skip
    (.exit 0))))
  (.drop [8, 9, 10, 11] (.seq (.block 1 (.reg [⟨none, .mov 14 (.t 3)⟩,
       ⟨none, .mov 15 (.t 4)⟩,
       ⟨none, .mov 16 (.t 0)⟩,
       ⟨none, .mov 17 (.t 4)⟩,
       ⟨none, .iad 18 1 (.t 16) (.t 17)⟩,
       ⟨none, .ld 19 1 false (.t 18)⟩,
       ⟨none, .call 20 f_laws_toIntS [((.t 19), false)]⟩,
       ⟨none, .iad 21 1 (.t 14) (.t 15)⟩,
       ⟨none, .st 1 (.t 21) (.t 20)⟩]))
   (.drop [14, 15, 16, 17, 18, 19, 20, 21] (.reg [⟨none, .mov 12 (.t 4)⟩,
      ⟨none, .bin 13 .add (.t 12) (.c (.int .i64 1))⟩,
      ⟨none, .asg 4 (.t 13)⟩])))))
def c_laws_toIntSS : ACode :=
  (.seq (.reg [⟨none, .asg 2 (.c (.nilsl 1))⟩])
  (.seq (.reg [⟨none, .mov 5 (.t 0)⟩,
      ⟨none, .len 6 (.t 5)⟩,
      ⟨none, .mk 7 1 (.nilsl 1) (.t 6)⟩,
      ⟨none, .asg 3 (.t 7)⟩])
   (.drop [5, 6, 7] (.seq (.seq (.reg [⟨none, .asg 4 (.c (.int .i64 0))⟩])
     (.block 0 (.loop c_laws_toIntSS_l1)))
    (.drop [4, 8, 9, 10, 11, 14, 15, 16, 17, 18, 19, 20, 21, 12, 13] (.seq (.reg [⟨none, .mov 22 (.t 3)⟩,
        ⟨none, .asg 2 (.t 22)⟩])
     (.drop [22] .ret)))))))
abbrev r_laws_toIntSS : List RS := [.t 2]
theorem k_laws_toIntSS : fitsF Try.prog f_laws_toIntSS 23 c_laws_toIntSS r_laws_toIntSS = true := by kernel_rfl

/- loop.example/g01078/spec.l10Meet: [n=0, list=1, n=2, list=3, out=5, i=6] -/
def c_spec_l10Meet_l1 : ACode :=
  (.seq (.seq (.reg [⟨none, .mov 9 (.t 6)⟩,
      ⟨none, .mov 10 (.t 1)⟩,
      ⟨none, .len 11 (.t 10)⟩,
      ⟨none, .bin 12 .lss (.t 9) (.t 11)⟩])
   (.drop [9, 10, 11] (.cond (.t 12) .skip
    (.exit 0))))
  (.drop [9, 10, 11, 12] (.seq (.block 1 (.reg [⟨none, .mov 15 (.t 5)⟩,
       ⟨none, .mov 16 (.t 1)⟩,
       ⟨none, .mov 17 (.t 6)⟩,
       ⟨none, .iad 18 1 (.t 16) (.t 17)⟩,
       ⟨none, .ld 19 1 false (.t 18)⟩,
       ⟨none, .call 20 f_spec_l6Meet [((.t 15), false), ((.t 19), false)]⟩,
       ⟨none, .asg 5 (.t 20)⟩]))
   (.drop [15, 16, 17, 18, 19, 20] (.reg [⟨none, .mov 13 (.t 6)⟩,
      ⟨none, .bin 14 .add (.t 13) (.c (.int .i64 1))⟩,
      ⟨none, .asg 6 (.t 14)⟩])))))
def c_spec_l10Meet : ACode :=
  (.seq (.reg [⟨none, .asg 4 (.c (.nilsl 1))⟩])
  (.seq (.reg [⟨none, .mov 7 (.t 0)⟩,
      ⟨none, .call 8 f_spec_l6Full [((.t 7), false)]⟩,
      ⟨none, .asg 5 (.t 8)⟩])
   (.drop [7, 8] (.seq (.seq (.reg [⟨none, .asg 6 (.c (.int .i64 0))⟩])
     (.block 0 (.loop c_spec_l10Meet_l1)))
    (.drop [6, 9, 10, 11, 12, 15, 16, 17, 18, 19, 20, 13, 14] (.seq (.reg [⟨none, .mov 21 (.t 5)⟩,
        ⟨none, .asg 4 (.t 21)⟩])
     (.drop [21] .ret)))))))
abbrev r_spec_l10Meet : List RS := [.t 4]
theorem k_spec_l10Meet : fitsF Try.prog f_spec_l10Meet 22 c_spec_l10Meet r_spec_l10Meet = true := by kernel_rfl

/- loop.example/g01078/laws.szOp: [a=0, left=1, a=2, left=3] -/
def c_laws_szOp : ACode :=
  (.seq (.reg [⟨none, .box 2 (.t 0)⟩,
     ⟨none, .asg 4 (.c (.int .i64 0))⟩])
  (.seq (.reg [⟨none, .fadr 5 1 (.t 2)⟩,
      ⟨none, .ld 6 1 false (.t 5)⟩,
      ⟨none, .mov 7 (.t 1)⟩,
      ⟨none, .call 8 f_laws_szIntS [((.t 6), false), ((.t 7), false)]⟩,
      ⟨none, .asg 1 (.t 8)⟩])
   (.drop [5, 6, 7, 8] (.seq (.seq (.reg [⟨none, .mov 9 (.t 1)⟩,
        ⟨none, .bin 10 .lss (.t 9) (.c (.int .i64 0))⟩])
     (.drop [9] (.cond (.t 10) (.seq (.reg [⟨none, .asg 4 (.c (.int .i64 (-1)))⟩])
       .ret)
      .skip)))
    (.drop [9, 10] (.seq (.reg [⟨none, .mov 11 (.t 1)⟩,
        ⟨none, .asg 4 (.t 11)⟩])
     (.drop [11] .ret)))))))
abbrev r_laws_szOp : List RS := [.t 4]
theorem k_laws_szOp : fitsF Try.prog f_laws_szOp 12 c_laws_szOp r_laws_szOp = true := by kernel_rfl

/- loop.example/g01078/spec.l2Op: [n=0, op=1, n=2, op=3, i=5] -/
def c_spec_l2Op_k1 : ACode :=
  (.seq (.dreg [(⟨none, .fadr 6 0 (.t 3)⟩, []),
       (⟨none, .ld 7 1 false (.t 6)⟩, []),
       (⟨none, .call 8 f_spec_l1In [((.t 7), false), ((.c (.int .i64 0)), false), ((.c (.int .i64 3)), false)]⟩, []),
       (⟨none, .un 9 .not (.t 8)⟩, []),
       (⟨none, .asg 10 (.t 9)⟩, []),
       (⟨some (10, false), .fadr 11 1 (.t 3)⟩, [9]),
       (⟨some (10, false), .ld 12 1 false (.t 11)⟩, [9]),
       (⟨some (10, false), .len 13 (.t 12)⟩, [9]),
       (⟨some (10, false), .mov 14 (.t 0)⟩, [11, 12, 13, 9]),
       (⟨some (10, false), .fadr 15 0 (.t 3)⟩, [11, 12, 13, 14, 9]),
       (⟨some (10, false), .ld 16 1 false (.t 15)⟩, [11, 12, 13, 14, 9]),
       (⟨some (10, false), .call 17 f_spec_l2Pow [((.t 14), false), ((.t 16), false)]⟩, [11, 12, 13, 9])]
      [⟨some (10, false), .bin 18 .neq (.t 13) (.t 17)⟩,
       ⟨none, .pick 19 (.t 10) (.c (.bool true)) (.t 18)⟩])
    (.drop [6, 7, 8, 9, 10, 11, 12, 13, 14, 15, 16, 17, 18] (.cond (.t 19) (.seq (.reg [⟨none, .asg 4 (.c (.bool false))⟩])
      .ret)
     .skip)))
def c_spec_l2Op_l1 : ACode :=
  (.seq (.seq (.reg [⟨none, .mov 20 (.t 5)⟩,
      ⟨none, .fadr 21 1 (.t 3)⟩,
      ⟨none, .ld 22 1 false (.t 21)⟩,
      ⟨none, .len 23 (.t 22)⟩,
      ⟨none, .bin 24 .lss (.t 20) (.t 23)⟩])
   (.drop [20, 21, 22, 23] (.cond (.t 24) .skip
    (.exit 0))))
  (.drop [20, 21, 22, 23, 24] (.seq (.block 1 (.seq (.reg [⟨none, .fadr 27 1 (.t 3)⟩,
        ⟨none, .ld 28 1 false (.t 27)⟩,
        ⟨none, .mov 29 (.t 5)⟩,
        ⟨none, .iad 30 1 (.t 28) (.t 29)⟩,
        ⟨none, .ld 31 1 false (.t 30)⟩,
        ⟨none, .mov 32 (.t 0)⟩,
        ⟨none, .bin 33 .sub (.t 32) (.c (.int .i64 1))⟩,
        ⟨none, .call 34 f_spec_l1In [((.t 31), false), ((.c (.int .i64 0)), false), ((.t 33), false)]⟩,
        ⟨none, .un 35 .not (.t 34)⟩])
     (.drop [27, 28, 29, 30, 31, 32, 33, 34] (.cond (.t 35) (.seq (.reg [⟨none, .asg 4 (.c (.bool false))⟩])
       .ret)
      .skip))))
   (.drop [27, 28, 29, 30, 31, 32, 33, 34, 35] (.reg [⟨none, .mov 25 (.t 5)⟩,
      ⟨none, .bin 26 .add (.t 25) (.c (.int .i64 1))⟩,
      ⟨none, .asg 5 (.t 26)⟩])))))
def c_spec_l2Op : ACode :=
  (.seq (.reg [⟨none, .box 3 (.t 1)⟩,
     ⟨none, .asg 4 (.c (.bool false))⟩])
  (.seq (.cut c_spec_l2Op_k1)
   (.drop [6, 7, 8, 9, 10, 11, 12, 13, 14, 15, 16, 17, 18, 19] (.seq (.seq (.reg [⟨none, .asg 5 (.c (.int .i64 0))⟩])
     (.block 0 (.loop c_spec_l2Op_l1)))
    (.drop [5, 20, 21, 22, 23, 24, 27, 28, 29, 30, 31, 32, 33, 34, 35, 25, 26] (.seq (.reg [⟨none, .asg 4 (.c (.bool true))⟩])
     .ret))))))
abbrev r_spec_l2Op : List RS := [.t 4]
theorem k_spec_l2Op : fitsF Try.prog f_spec_l2Op 36 c_spec_l2Op r_spec_l2Op = true := by kernel_rfl

/- loop.example/g01078/laws.toOp: [a=0, a=1, out=3] -/
def c_laws_toOp : ACode :=
  (.seq (.reg [⟨none, .box 1 (.t 0)⟩,
     ⟨none, .alc 2 (.agg [.int .i64 0, .nilsl 1])⟩])
  (.seq (.reg [⟨none, .alc 3 (.agg [.int .i64 0, .nilsl 1])⟩])
   (.seq (.reg [⟨none, .fadr 4 0 (.t 1)⟩,
       ⟨none, .ld 5 1 false (.t 4)⟩,
       ⟨none, .fadr 6 0 (.t 3)⟩,
       ⟨none, .st 1 (.t 6) (.t 5)⟩])
    (.drop [4, 5, 6] (.seq (.reg [⟨none, .fadr 7 1 (.t 1)⟩,
        ⟨none, .ld 8 1 false (.t 7)⟩,
        ⟨none, .call 9 f_laws_toIntS [((.t 8), false)]⟩,
        ⟨none, .fadr 10 1 (.t 3)⟩,
        ⟨none, .st 1 (.t 10) (.t 9)⟩])
     (.drop [7, 8, 9, 10] (.seq (.reg [⟨none, .ld 11 2 true (.t 3)⟩,
         ⟨none, .st 2 (.t 2) (.t 11)⟩])
      (.drop [11] .ret))))))))
abbrev r_laws_toOp : List RS := [.c 2 2 true]
theorem k_laws_toOp : fitsF Try.prog f_laws_toOp 12 c_laws_toOp r_laws_toOp = true := by kernel_rfl

/- loop.example/g01078/impl.isOp: [f=0, n=1, f=2, n=3] -/
def c_impl_isOp : ACode :=
  (.seq (.reg [⟨none, .box 2 (.t 0)⟩,
     ⟨none, .asg 4 (.c (.bool false))⟩])
  (.seq (.dreg [(⟨none, .fadr 5 0 (.t 2)⟩, []),
      (⟨none, .ld 6 1 false (.t 5)⟩, []),
      (⟨none, .bin 7 .geq (.t 6) (.c (.int .i64 0))⟩, []),
      (⟨none, .asg 8 (.t 7)⟩, []),
      (⟨some (8, true), .fadr 9 0 (.t 2)⟩, [7]),
      (⟨some (8, true), .ld 10 1 false (.t 9)⟩, [7]),
      (⟨some (8, true), .bin 11 .leq (.t 10) (.c (.int .i64 3))⟩, [7]),
      (⟨none, .pick 12 (.t 8) (.t 11) (.c (.bool false))⟩, [7]),
      (⟨none, .asg 13 (.t 12)⟩, [7]),
      (⟨some (13, true), .fadr 14 1 (.t 2)⟩, [7, 12]),
      (⟨some (13, true), .ld 15 1 false (.t 14)⟩, [7, 12]),
      (⟨some (13, true), .len 16 (.t 15)⟩, [7, 12]),
      (⟨some (13, true), .mov 17 (.t 1)⟩, [14, 15, 16, 7, 12]),
      (⟨some (13, true), .fadr 18 0 (.t 2)⟩, [14, 15, 16, 17, 7, 12]),
      (⟨some (13, true), .ld 19 1 false (.t 18)⟩, [14, 15, 16, 17, 7, 12]),
      (⟨some (13, true), .call 20 f_impl_power [((.t 17), false), ((.t 19), false)]⟩, [14, 15, 16, 7, 12]),
      (⟨some (13, true), .bin 21 .eql (.t 16) (.t 20)⟩, [7, 12]),
      (⟨none, .pick 22 (.t 13) (.t 21) (.c (.bool false))⟩, [7, 12]),
      (⟨none, .asg 23 (.t 22)⟩, [7, 12]),
      (⟨some (23, true), .fadr 24 1 (.t 2)⟩, [7, 12, 22]),
      (⟨some (23, true), .ld 25 1 false (.t 24)⟩, [7, 12, 22]),
      (⟨some (23, true), .mov 26 (.t 1)⟩, [24, 25, 7, 12, 22])]
     [⟨some (23, true), .call 27 f_impl_inSize [((.t 25), false), ((.t 26), false)]⟩,
      ⟨none, .pick 28 (.t 23) (.t 27) (.c (.bool false))⟩,
      ⟨none, .asg 4 (.t 28)⟩])
   (.drop [5, 6, 7, 8, 9, 10, 11, 12, 13, 14, 15, 16, 17, 18, 19, 20, 21, 22, 23, 24, 25, 26, 27, 28] .ret)))
abbrev r_impl_isOp : List RS := [.t 4]
theorem k_impl_isOp : fitsF Try.prog f_impl_isOp 29 c_impl_isOp r_impl_isOp = true := by kernel_rfl

/- loop.example/g01078/laws.eqOp: [a=0, b=1, a=2, b=3] -/
def c_laws_eqOp : ACode :=
  (.seq (.reg [⟨none, .box 2 (.t 0)⟩,
     ⟨none, .box 3 (.t 1)⟩,
     ⟨none, .asg 4 (.c (.bool false))⟩])
  (.seq (.seq (.reg [⟨none, .fadr 5 0 (.t 2)⟩,
       ⟨none, .ld 6 1 false (.t 5)⟩,
       ⟨none, .fadr 7 0 (.t 3)⟩,
       ⟨none, .ld 8 1 false (.t 7)⟩,
       ⟨none, .bin 9 .neq (.t 6) (.t 8)⟩])
    (.drop [5, 6, 7, 8] (.cond (.t 9) (.seq (.reg [⟨none, .asg 4 (.c (.bool false))⟩])
      .ret)
     .skip)))
   (.drop [5, 6, 7, 8, 9] (.seq (.seq (.reg [⟨none, .fadr 10 1 (.t 2)⟩,
        ⟨none, .ld 11 1 false (.t 10)⟩,
        ⟨none, .fadr 12 1 (.t 3)⟩,
        ⟨none, .ld 13 1 false (.t 12)⟩,
        ⟨none, .call 14 f_laws_eqIntS [((.t 11), false), ((.t 13), false)]⟩,
        ⟨none, .un 15 .not (.t 14)⟩])
     (.drop [10, 11, 12, 13, 14] (.cond (.t 15) (.seq (.reg [⟨none, .asg 4 (.c (.bool false))⟩])
       .ret)
      .skip)))
    (.drop [10, 11, 12, 13, 14, 15] (.seq (.reg [⟨none, .asg 4 (.c (.bool true))⟩])
     .ret))))))
abbrev r_laws_eqOp : List RS := [.t 4]
theorem k_laws_eqOp : fitsF Try.prog f_laws_eqOp 16 c_laws_eqOp r_laws_eqOp = true := by kernel_rfl

/- loop.example/g01078/impl.meet: [p=0, q=1, p=2, q=3, pairs=5, i=6] -/
def c_impl_meet_l1 : ACode :=
  (.seq (.reg [⟨none, .bin 13 .lss (.t 12) (.t 11)⟩])
  (.seq (.cond (.t 13) .skip
    (.exit 0))
   (.seq (.block 1 (.seq (.reg [⟨none, .mov 14 (.t 12)⟩,
         ⟨none, .asg 6 (.t 14)⟩])
      (.drop [14] (.dreg [(⟨none, .mov 15 (.t 5)⟩, []),
         (⟨none, .mov 16 (.t 6)⟩, [15]),
         (⟨none, .mov 17 (.t 0)⟩, [15, 16]),
         (⟨none, .mov 18 (.t 6)⟩, [15, 16, 17]),
         (⟨none, .iad 19 1 (.t 17) (.t 18)⟩, [15, 16]),
         (⟨none, .ld 20 1 false (.t 19)⟩, [15, 16]),
         (⟨none, .mov 21 (.t 0)⟩, [15, 16, 17, 18, 19, 20]),
         (⟨none, .len 22 (.t 21)⟩, [15, 16, 17, 18, 19, 20]),
         (⟨none, .bin 23 .mul (.t 20) (.t 22)⟩, [15, 16]),
         (⟨none, .mov 24 (.t 1)⟩, [15, 16, 17, 18, 19, 20, 21, 22, 23]),
         (⟨none, .mov 25 (.t 6)⟩, [15, 16, 17, 18, 19, 20, 21, 22, 23, 24]),
         (⟨none, .iad 26 1 (.t 24) (.t 25)⟩, [15, 16, 17, 18, 19, 20, 21, 22, 23]),
         (⟨none, .ld 27 1 false (.t 26)⟩, [15, 16, 17, 18, 19, 20, 21, 22, 23]),
         (⟨none, .bin 28 .add (.t 23) (.t 27)⟩, [15, 16])]
        [⟨none, .iad 29 1 (.t 15) (.t 16)⟩,
         ⟨none, .st 1 (.t 29) (.t 28)⟩]))))
    (.drop [14, 6, 15, 16, 17, 18, 19, 20, 21, 22, 23, 24, 25, 26, 27, 28, 29] (.reg [⟨none, .bin 30 .add (.t 12) (.c (.int .i64 1))⟩,
       ⟨none, .asg 12 (.t 30)⟩])))))
def c_impl_meet : ACode :=
  (.seq (.reg [⟨none, .asg 4 (.c (.nilsl 1))⟩])
  (.seq (.reg [⟨none, .mov 7 (.t 0)⟩,
      ⟨none, .len 8 (.t 7)⟩,
      ⟨none, .mk 9 1 (.int .i64 0) (.t 8)⟩,
      ⟨none, .asg 5 (.t 9)⟩])
   (.drop [7, 8, 9] (.seq (.seq (.reg [⟨none, .mov 10 (.t 0)⟩,
        ⟨none, .len 11 (.t 10)⟩,
        ⟨none, .mov 12 (.c (.int .i64 0))⟩])
     (.drop [10] (.block 0 (.loop c_impl_meet_l1))))
    (.drop [10, 11, 12, 13, 14, 6, 15, 16, 17, 18, 19, 20, 21, 22, 23, 24, 25, 26, 27, 28, 29, 30] (.seq (.reg [⟨none, .mov 31 (.t 5)⟩,
        ⟨none, .call 32 f_impl_kernelOf [((.t 31), false)]⟩,
        ⟨none, .asg 4 (.t 32)⟩])
     (.drop [31, 32] .ret)))))))
abbrev r_impl_meet : List RS := [.t 4]
theorem k_impl_meet : fitsF Try.prog f_impl_meet 33 c_impl_meet r_impl_meet = true := by kernel_rfl

/- loop.example/g01078/spec.l6Partition: [n=0, p=1, n=2, p=3, x=5] -/
def c_spec_l6Partition_l1 : ACode :=
  (.seq (.seq (.reg [⟨none, .mov 10 (.t 5)⟩,
      ⟨none, .mov 11 (.t 0)⟩,
      ⟨none, .bin 12 .lss (.t 10) (.t 11)⟩])
   (.drop [10, 11] (.cond (.t 12) .skip
    (.exit 0))))
  (.drop [10, 11, 12] (.seq (.block 1 (.seq (.dreg [(⟨none, .mov 15 (.t 1)⟩, []),
        (⟨none, .mov 16 (.t 5)⟩, [15]),
        (⟨none, .iad 17 1 (.t 15) (.t 16)⟩, []),
        (⟨none, .ld 18 1 false (.t 17)⟩, []),
        (⟨none, .mov 19 (.t 5)⟩, [15, 16, 17, 18]),
        (⟨none, .call 20 f_spec_l1In [((.t 18), false), ((.c (.int .i64 0)), false), ((.t 19), false)]⟩, []),
        (⟨none, .un 21 .not (.t 20)⟩, []),
        (⟨none, .asg 22 (.t 21)⟩, []),
        (⟨some (22, false), .mov 23 (.t 1)⟩, [21]),
        (⟨some (22, false), .mov 24 (.t 1)⟩, [23, 21]),
        (⟨some (22, false), .mov 25 (.t 5)⟩, [23, 24, 21]),
        (⟨some (22, false), .iad 26 1 (.t 24) (.t 25)⟩, [23, 21]),
        (⟨some (22, false), .ld 27 1 false (.t 26)⟩, [23, 21]),
        (⟨some (22, false), .iad 28 1 (.t 23) (.t 27)⟩, [21]),
        (⟨some (22, false), .ld 29 1 false (.t 28)⟩, [21]),
        (⟨some (22, false), .mov 30 (.t 1)⟩, [23, 24, 25, 26, 27, 28, 29, 21]),
        (⟨some (22, false), .mov 31 (.t 5)⟩, [23, 24, 25, 26, 27, 28, 29, 30, 21]),
        (⟨some (22, false), .iad 32 1 (.t 30) (.t 31)⟩, [23, 24, 25, 26, 27, 28, 29, 21]),
        (⟨some (22, false), .ld 33 1 false (.t 32)⟩, [23, 24, 25, 26, 27, 28, 29, 21])]
       [⟨some (22, false), .bin 34 .neq (.t 29) (.t 33)⟩,
        ⟨none, .pick 35 (.t 22) (.c (.bool true)) (.t 34)⟩])
     (.drop [15, 16, 17, 18, 19, 20, 21, 22, 23, 24, 25, 26, 27, 28, 29, 30, 31, 32, 33, 34] (.cond (.t 35) (.seq (.reg [⟨none, .asg 4 (.c (.bool false))⟩])
       .ret)
      .skip))))
   (.drop [15, 16, 17, 18, 19, 20, 21, 22, 23, 24, 25, 26, 27, 28, 29, 30, 31, 32, 33, 34, 35] (.reg [⟨none, .mov 13 (.t 5)⟩,
      ⟨none, .bin 14 .add (.t 13) (.c (.int .i64 1))⟩,
      ⟨none, .asg 5 (.t 14)⟩])))))
def c_spec_l6Partition : ACode :=
  (.seq (.reg [⟨none, .asg 4 (.c (.bool false))⟩])
  (.seq (.seq (.reg [⟨none, .mov 6 (.t 1)⟩,
       ⟨none, .len 7 (.t 6)⟩,
       ⟨none, .mov 8 (.t 0)⟩,
       ⟨none, .bin 9 .neq (.t 7) (.t 8)⟩])
    (.drop [6, 7, 8] (.cond (.t 9) (.seq (.reg [⟨none, .asg 4 (.c (.bool false))⟩])
      .ret)
     .skip)))
   (.drop [6, 7, 8, 9] (.seq (.seq (.reg [⟨none, .asg 5 (.c (.int .i64 0))⟩])
     (.block 0 (.loop c_spec_l6Partition_l1)))
    (.drop [5, 10, 11, 12, 15, 16, 17, 18, 19, 20, 21, 22, 23, 24, 25, 26, 27, 28, 29, 30, 31, 32, 33, 34, 35, 13, 14] (.seq (.reg [⟨none, .asg 4 (.c (.bool true))⟩])
     .ret))))))
abbrev r_spec_l6Partition : List RS := [.t 4]
theorem k_spec_l6Partition : fitsF Try.prog f_spec_l6Partition 36 c_spec_l6Partition r_spec_l6Partition = true := by kernel_rfl

/- loop.example/g01078/impl.closePartition: [a=0, p=1, a=2, p=3, was=5, changed=6, _=7, f=8, step=9, k=10, i=11, v=12, x=13] -/
def c_impl_closePartition_l1 : ACode :=
  (.seq (.reg [⟨none, .bin 32 .lss (.t 31) (.t 30)⟩])
  (.seq (.cond (.t 32) .skip
    (.exit 6))
   (.seq (.block 7 (.seq (.reg [⟨none, .mov 33 (.t 31)⟩,
         ⟨none, .iad 34 1 (.t 29) (.t 31)⟩,
         ⟨none, .ld 35 1 false (.t 34)⟩,
         ⟨none, .asg 11 (.t 33)⟩,
         ⟨none, .asg 12 (.t 35)⟩])
      (.drop [33, 34, 35] (.seq (.dreg [(⟨none, .mov 36 (.t 11)⟩, []),
          (⟨none, .mov 37 (.t 9)⟩, [36]),
          (⟨none, .bin 38 .quo (.t 36) (.t 37)⟩, []),
          (⟨none, .fadr 39 0 (.t 2)⟩, [36, 37, 38]),
          (⟨none, .ld 40 1 false (.t 39)⟩, [36, 37, 38])]
         [⟨none, .bin 41 .rem (.t 38) (.t 40)⟩,
          ⟨none, .asg 13 (.t 41)⟩])
       (.drop [36, 37, 38, 39, 40, 41] (.seq (.dreg [(⟨none, .mov 42 (.t 1)⟩, []),
           (⟨none, .mov 43 (.t 12)⟩, [42]),
           (⟨none, .fadr 44 1 (.t 8)⟩, [42, 43]),
           (⟨none, .ld 45 1 false (.t 44)⟩, [42, 43]),
           (⟨none, .mov 46 (.t 11)⟩, [42, 43, 44, 45]),
           (⟨none, .mov 47 (.t 1)⟩, [42, 43, 44, 45, 46]),
           (⟨none, .mov 48 (.t 13)⟩, [42, 43, 44, 45, 46, 47]),
           (⟨none, .iad 49 1 (.t 47) (.t 48)⟩, [42, 43, 44, 45, 46]),
           (⟨none, .ld 50 1 false (.t 49)⟩, [42, 43, 44, 45, 46]),
           (⟨none, .mov 51 (.t 13)⟩, [42, 43, 44, 45, 46, 47, 48, 49, 50]),
           (⟨none, .bin 52 .sub (.t 50) (.t 51)⟩, [42, 43, 44, 45, 46]),
           (⟨none, .mov 53 (.t 9)⟩, [42, 43, 44, 45, 46, 47, 48, 49, 50, 51, 52]),
           (⟨none, .bin 54 .mul (.t 52) (.t 53)⟩, [42, 43, 44, 45, 46]),
           (⟨none, .bin 55 .add (.t 46) (.t 54)⟩, [42, 43, 44, 45]),
           (⟨none, .iad 56 1 (.t 45) (.t 55)⟩, [42, 43]),
           (⟨none, .ld 57 1 false (.t 56)⟩, [42, 43])]
          [⟨none, .call 58 f_impl_unite [((.t 42), true), ((.t 43), false), ((.t 57), false)]⟩])
        (.drop [42, 43, 44, 45, 46, 47, 48, 49, 50, 51, 52, 53, 54, 55, 56, 57] (.cond (.t 58) (.reg [⟨none, .asg 6 (.c (.bool true))⟩,
            ⟨none, .asg 5 (.c (.bool true))⟩])
         .skip))))))))
    (.drop [33, 34, 35, 11, 12, 36, 37, 38, 39, 40, 41, 13, 42, 43, 44, 45, 46, 47, 48, 49, 50, 51, 52, 53, 54, 55, 56, 57, 58] (.reg [⟨none, .bin 59 .add (.t 31) (.c (.int .i64 1))⟩,
       ⟨none, .asg 31 (.t 59)⟩])))))
def c_impl_closePartition_l2 : ACode :=
  (.seq (.seq (.reg [⟨none, .mov 22 (.t 10)⟩,
      ⟨none, .fadr 23 0 (.t 8)⟩,
      ⟨none, .ld 24 1 false (.t 23)⟩,
      ⟨none, .bin 25 .lss (.t 22) (.t 24)⟩])
   (.drop [22, 23, 24] (.cond (.t 25) .skip
    (.exit 4))))
  (.drop [22, 23, 24, 25] (.seq (.block 5 (.seq (.seq (.reg [⟨none, .fadr 28 1 (.t 8)⟩,
         ⟨none, .ld 29 1 false (.t 28)⟩,
         ⟨none, .len 30 (.t 29)⟩,
         ⟨none, .mov 31 (.c (.int .i64 0))⟩])
      (.drop [28] (.block 6 (.loop c_impl_closePartition_l1))))
     (.drop [28, 29, 30, 31, 32, 33, 34, 35, 11, 12, 36, 37, 38, 39, 40, 41, 13, 42, 43, 44, 45, 46, 47, 48, 49, 50, 51, 52, 53, 54, 55, 56, 57, 58, 59] (.reg [⟨none, .mov 60 (.t 9)⟩,
        ⟨none, .fadr 61 0 (.t 2)⟩,
        ⟨none, .ld 62 1 false (.t 61)⟩,
        ⟨none, .bin 63 .mul (.t 60) (.t 62)⟩,
        ⟨none, .asg 9 (.t 63)⟩]))))
   (.drop [28, 29, 30, 31, 32, 33, 34, 35, 11, 12, 36, 37, 38, 39, 40, 41, 13, 42, 43, 44, 45, 46, 47, 48, 49, 50, 51, 52, 53, 54, 55, 56, 57, 58, 59, 60, 61, 62, 63] (.reg [⟨none, .mov 26 (.t 10)⟩,
      ⟨none, .bin 27 .add (.t 26) (.c (.int .i64 1))⟩,
      ⟨none, .asg 10 (.t 27)⟩])))))
def c_impl_closePartition_l3 : ACode :=
  (.seq (.reg [⟨none, .bin 19 .lss (.t 18) (.t 17)⟩])
  (.seq (.cond (.t 19) .skip
    (.exit 2))
   (.seq (.block 3 (.seq (.reg [⟨none, .iad 20 2 (.t 16) (.t 18)⟩,
         ⟨none, .ld 21 2 true (.t 20)⟩,
         ⟨none, .alc 8 (.agg [.int .i64 0, .nilsl 1])⟩,
         ⟨none, .st 2 (.t 8) (.t 21)⟩])
      (.drop [20, 21] (.seq (.reg [⟨none, .asg 9 (.c (.int .i64 1))⟩])
       (.seq (.reg [⟨none, .asg 10 (.c (.int .i64 0))⟩])
        (.block 4 (.loop c_impl_closePartition_l2)))))))
    (.drop [20, 21, 8, 9, 10, 22, 23, 24, 25, 28, 29, 30, 31, 32, 33, 34, 35, 11, 12, 36, 37, 38, 39, 40, 41, 13, 42, 43, 44, 45, 46, 47, 48, 49, 50, 51, 52, 53, 54, 55, 56, 57, 58, 59, 60, 61, 62, 63, 26, 27] (.reg [⟨none, .bin 64 .add (.t 18) (.c (.int .i64 1))⟩,
       ⟨none, .asg 18 (.t 64)⟩])))))
def c_impl_closePartition_l4 : ACode :=
  (.seq (.seq (.reg [⟨none, .mov 14 (.t 6)⟩])
   (.cond (.t 14) .skip
    (.exit 0)))
  (.drop [14] (.block 1 (.seq (.reg [⟨none, .asg 6 (.c (.bool false))⟩])
    (.seq (.reg [⟨none, .fadr 15 1 (.t 2)⟩,
        ⟨none, .ld 16 1 false (.t 15)⟩,
        ⟨none, .len 17 (.t 16)⟩,
        ⟨none, .mov 18 (.c (.int .i64 0))⟩])
     (.drop [15] (.block 2 (.loop c_impl_closePartition_l3))))))))
def c_impl_closePartition : ACode :=
  (.seq (.reg [⟨none, .box 2 (.t 0)⟩,
     ⟨none, .asg 4 (.c (.bool false))⟩])
  (.seq (.reg [⟨none, .asg 5 (.c (.bool false))⟩])
   (.seq (.seq (.reg [⟨none, .asg 6 (.c (.bool true))⟩])
     (.block 0 (.loop c_impl_closePartition_l4)))
    (.drop [6, 14, 15, 16, 17, 18, 19, 20, 21, 8, 9, 10, 22, 23, 24, 25, 28, 29, 30, 31, 32, 33, 34, 35, 11, 12, 36, 37, 38, 39, 40, 41, 13, 42, 43, 44, 45, 46, 47, 48, 49, 50, 51, 52, 53, 54, 55, 56, 57, 58, 59, 60, 61, 62, 63, 26, 27, 64] (.seq (.reg [⟨none, .mov 65 (.t 5)⟩,
        ⟨none, .asg 4 (.t 65)⟩])
     (.drop [65] .ret))))))
abbrev r_impl_closePartition : List RS := [.t 4]
theorem k_impl_closePartition : fitsF Try.prog f_impl_closePartition 66 c_impl_closePartition r_impl_closePartition = true := by kernel_rfl

/- loop.example/g01078/spec.l6Unite: [p=0, x=1, y=2, p=3, x=4, y=5, low=7, high=8, out=9, z=10] -/
def c_spec_l6Unite_l1 : ACode :=
  (.seq (.seq (.reg [⟨none, .mov 30 (.t 10)⟩,
      ⟨none, .mov 31 (.t 0)⟩,
      ⟨none, .len 32 (.t 31)⟩,
      ⟨none, .bin 33 .lss (.t 30) (.t 32)⟩])
   (.drop [30, 31, 32] (.cond (.t 33) .skip
    (.exit 0))))
  (.drop [30, 31, 32, 33] (.seq (.block 1 (.seq (.reg [⟨none, .mov 36 (.t 0)⟩,
        ⟨none, .mov 37 (.t 10)⟩,
        ⟨none, .iad 38 1 (.t 36) (.t 37)⟩,
        ⟨none, .ld 39 1 false (.t 38)⟩,
        ⟨none, .mov 40 (.t 8)⟩,
        ⟨none, .bin 41 .eql (.t 39) (.t 40)⟩])
     (.drop [36, 37, 38, 39, 40] (.cond (.t 41) (.reg [⟨none, .mov 42 (.t 9)⟩,
         ⟨none, .mov 43 (.t 7)⟩,
         ⟨none, .bsl 44 1 [(.t 43)]⟩,
         ⟨none, .app 45 1 (.t 42) (.t 44)⟩,
         ⟨none, .asg 9 (.t 45)⟩])
      (.reg [⟨none, .mov 46 (.t 9)⟩,
         ⟨none, .mov 47 (.t 0)⟩,
         ⟨none, .mov 48 (.t 10)⟩,
         ⟨none, .iad 49 1 (.t 47) (.t 48)⟩,
         ⟨none, .ld 50 1 false (.t 49)⟩,
         ⟨none, .bsl 51 1 [(.t 50)]⟩,
         ⟨none, .app 52 1 (.t 46) (.t 51)⟩,
         ⟨none, .asg 9 (.t 52)⟩])))))
   (.drop [36, 37, 38, 39, 40, 41, 42, 43, 44, 45, 46, 47, 48, 49, 50, 51, 52] (.reg [⟨none, .mov 34 (.t 10)⟩,
      ⟨none, .bin 35 .add (.t 34) (.c (.int .i64 1))⟩,
      ⟨none, .asg 10 (.t 35)⟩])))))
def c_spec_l6Unite : ACode :=
  (.seq (.reg [⟨none, .asg 6 (.c (.nilsl 1))⟩])
  (.seq (.dreg [(⟨none, .mov 11 (.t 0)⟩, []),
      (⟨none, .mov 12 (.t 1)⟩, [11]),
      (⟨none, .iad 13 1 (.t 11) (.t 12)⟩, []),
      (⟨none, .ld 14 1 false (.t 13)⟩, []),
      (⟨none, .mov 15 (.t 0)⟩, [11, 12, 13, 14]),
      (⟨none, .mov 16 (.t 2)⟩, [11, 12, 13, 14, 15]),
      (⟨none, .iad 17 1 (.t 15) (.t 16)⟩, [11, 12, 13, 14]),
      (⟨none, .ld 18 1 false (.t 17)⟩, [11, 12, 13, 14]),
      (⟨none, .call 19 f_spec_l1Least [((.t 14), false), ((.t 18), false)]⟩, []),
      (⟨none, .mov 20 (.t 0)⟩, [11, 12, 13, 14, 15, 16, 17, 18, 19]),
      (⟨none, .mov 21 (.t 1)⟩, [11, 12, 13, 14, 15, 16, 17, 18, 19, 20]),
      (⟨none, .iad 22 1 (.t 20) (.t 21)⟩, [11, 12, 13, 14, 15, 16, 17, 18, 19]),
      (⟨none, .ld 23 1 false (.t 22)⟩, [11, 12, 13, 14, 15, 16, 17, 18, 19]),
      (⟨none, .mov 24 (.t 0)⟩, [11, 12, 13, 14, 15, 16, 17, 18, 19, 20, 21, 22, 23]),
      (⟨none, .mov 25 (.t 2)⟩, [11, 12, 13, 14, 15, 16, 17, 18, 19, 20, 21, 22, 23, 24]),
      (⟨none, .iad 26 1 (.t 24) (.t 25)⟩, [11, 12, 13, 14, 15, 16, 17, 18, 19, 20, 21, 22, 23]),
      (⟨none, .ld 27 1 false (.t 26)⟩, [11, 12, 13, 14, 15, 16, 17, 18, 19, 20, 21, 22, 23])]
     [⟨none, .call 28 f_spec_l1Most [((.t 23), false), ((.t 27), false)]⟩,
      ⟨none, .asg 7 (.t 19)⟩,
      ⟨none, .asg 8 (.t 28)⟩])
   (.drop [11, 12, 13, 14, 15, 16, 17, 18, 19, 20, 21, 22, 23, 24, 25, 26, 27, 28] (.seq (.reg [⟨none, .bsl 29 1 []⟩,
       ⟨none, .asg 9 (.t 29)⟩])
    (.drop [29] (.seq (.seq (.reg [⟨none, .asg 10 (.c (.int .i64 0))⟩])
      (.block 0 (.loop c_spec_l6Unite_l1)))
     (.drop [10, 30, 31, 32, 33, 36, 37, 38, 39, 40, 41, 42, 43, 44, 45, 46, 47, 48, 49, 50, 51, 52, 34, 35] (.seq (.reg [⟨none, .mov 53 (.t 9)⟩,
         ⟨none, .asg 6 (.t 53)⟩])
      (.drop [53] .ret)))))))))
abbrev r_spec_l6Unite : List RS := [.t 6]
theorem k_spec_l6Unite : fitsF Try.prog f_spec_l6Unite 54 c_spec_l6Unite r_spec_l6Unite = true := by kernel_rfl

/- loop.example/g01078/laws.szOpS: [a=0, left=1, a=2, left=3, i=5] -/
def c_laws_szOpS_l1 : ACode :=
  (.seq (.seq (.reg [⟨none, .mov 12 (.t 5)⟩,
      ⟨none, .mov 13 (.t 0)⟩,
      ⟨none, .len 14 (.t 13)⟩,
      ⟨none, .bin 15 .lss (.t 12) (.t 14)⟩])
   (.drop [12, 13, 14] (.cond (.t 15) .skip
    (.exit 0))))
  (.drop [12, 13, 14, 15] (.seq (.block 1 (.seq (.reg [⟨none, .mov 18 (.t 0)⟩,
        ⟨none, .mov 19 (.t 5)⟩,
        ⟨none, .iad 20 2 (.t 18) (.t 19)⟩,
        ⟨none, .ld 21 2 true (.t 20)⟩,
        ⟨none, .mov 22 (.t 1)⟩,
        ⟨none, .call 23 f_laws_szOp [((.t 21), false), ((.t 22), false)]⟩,
        ⟨none, .asg 1 (.t 23)⟩])
     (.drop [18, 19, 20, 21, 22, 23] (.seq (.reg [⟨none, .mov 24 (.t 1)⟩,
         ⟨none, .bin 25 .lss (.t 24) (.c (.int .i64 0))⟩])
      (.drop [24] (.cond (.t 25) (.seq (.reg [⟨none, .asg 4 (.c (.int .i64 (-1)))⟩])
        .ret)
       .skip))))))
   (.drop [18, 19, 20, 21, 22, 23, 24, 25] (.reg [⟨none, .mov 16 (.t 5)⟩,
      ⟨none, .bin 17 .add (.t 16) (.c (.int .i64 1))⟩,
      ⟨none, .asg 5 (.t 17)⟩])))))
def c_laws_szOpS : ACode :=
  (.seq (.reg [⟨none, .asg 4 (.c (.int .i64 0))⟩])
  (.seq (.reg [⟨none, .mov 6 (.t 1)⟩,
      ⟨none, .mov 7 (.t 0)⟩,
      ⟨none, .len 8 (.t 7)⟩,
      ⟨none, .bin 9 .sub (.t 6) (.t 8)⟩,
      ⟨none, .asg 1 (.t 9)⟩])
   (.drop [6, 7, 8, 9] (.seq (.seq (.reg [⟨none, .mov 10 (.t 1)⟩,
        ⟨none, .bin 11 .lss (.t 10) (.c (.int .i64 0))⟩])
     (.drop [10] (.cond (.t 11) (.seq (.reg [⟨none, .asg 4 (.c (.int .i64 (-1)))⟩])
       .ret)
      .skip)))
    (.drop [10, 11] (.seq (.seq (.reg [⟨none, .asg 5 (.c (.int .i64 0))⟩])
      (.block 0 (.loop c_laws_szOpS_l1)))
     (.drop [5, 12, 13, 14, 15, 18, 19, 20, 21, 22, 23, 24, 25, 16, 17] (.seq (.reg [⟨none, .mov 26 (.t 1)⟩,
         ⟨none, .asg 4 (.t 26)⟩])
      (.drop [26] .ret)))))))))
abbrev r_laws_szOpS : List RS := [.t 4]
theorem k_laws_szOpS : fitsF Try.prog f_laws_szOpS 27 c_laws_szOpS r_laws_szOpS = true := by kernel_rfl

/- loop.example/g01078/spec.l2Good: [a=0, a=1, i=3] -/
def c_spec_l2Good_k1 : ACode :=
  (.seq (.reg [⟨none, .fadr 4 0 (.t 1)⟩,
       ⟨none, .ld 5 1 false (.t 4)⟩,
       ⟨none, .call 6 f_spec_l1In [((.t 5), false), ((.c (.int .i64 1)), false), ((.c (.int .i64 8)), false)]⟩,
       ⟨none, .un 7 .not (.t 6)⟩,
       ⟨none, .asg 8 (.t 7)⟩,
       ⟨some (8, false), .fadr 9 1 (.t 1)⟩,
       ⟨some (8, false), .ld 10 1 false (.t 9)⟩,
       ⟨some (8, false), .len 11 (.t 10)⟩,
       ⟨some (8, false), .bin 12 .gtr (.t 11) (.c (.int .i64 4))⟩,
       ⟨none, .pick 13 (.t 8) (.c (.bool true)) (.t 12)⟩])
    (.drop [4, 5, 6, 7, 8, 9, 10, 11, 12] (.cond (.t 13) (.seq (.reg [⟨none, .asg 2 (.c (.bool false))⟩])
      .ret)
     .skip)))
def c_spec_l2Good_l1 : ACode :=
  (.seq (.seq (.reg [⟨none, .mov 14 (.t 3)⟩,
      ⟨none, .fadr 15 1 (.t 1)⟩,
      ⟨none, .ld 16 1 false (.t 15)⟩,
      ⟨none, .len 17 (.t 16)⟩,
      ⟨none, .bin 18 .lss (.t 14) (.t 17)⟩])
   (.drop [14, 15, 16, 17] (.cond (.t 18) .skip
    (.exit 0))))
  (.drop [14, 15, 16, 17, 18] (.seq (.block 1 (.seq (.dreg [(⟨none, .fadr 21 0 (.t 1)⟩, []),
        (⟨none, .ld 22 1 false (.t 21)⟩, []),
        (⟨none, .fadr 23 1 (.t 1)⟩, [21, 22]),
        (⟨none, .ld 24 1 false (.t 23)⟩, [21, 22]),
        (⟨none, .mov 25 (.t 3)⟩, [21, 22, 23, 24]),
        (⟨none, .iad 26 2 (.t 24) (.t 25)⟩, [21, 22]),
        (⟨none, .ld 27 2 true (.t 26)⟩, [21, 22])]
       [⟨none, .call 28 f_spec_l2Op [((.t 22), false), ((.t 27), false)]⟩,
        ⟨none, .un 29 .not (.t 28)⟩])
     (.drop [21, 22, 23, 24, 25, 26, 27, 28] (.cond (.t 29) (.seq (.reg [⟨none, .asg 2 (.c (.bool false))⟩])
       .ret)
      .skip))))
   (.drop [21, 22, 23, 24, 25, 26, 27, 28, 29] (.reg [⟨none, .mov 19 (.t 3)⟩,
      ⟨none, .bin 20 .add (.t 19) (.c (.int .i64 1))⟩,
      ⟨none, .asg 3 (.t 20)⟩])))))
def c_spec_l2Good : ACode :=
  (.seq (.reg [⟨none, .box 1 (.t 0)⟩,
     ⟨none, .asg 2 (.c (.bool false))⟩])
  (.seq (.cut c_spec_l2Good_k1)
   (.drop [4, 5, 6, 7, 8, 9, 10, 11, 12, 13] (.seq (.seq (.reg [⟨none, .asg 3 (.c (.int .i64 0))⟩])
     (.block 0 (.loop c_spec_l2Good_l1)))
    (.drop [3, 14, 15, 16, 17, 18, 21, 22, 23, 24, 25, 26, 27, 28, 29, 19, 20] (.seq (.reg [⟨none, .asg 2 (.c (.bool true))⟩])
     .ret))))))
abbrev r_spec_l2Good : List RS := [.t 2]
theorem k_spec_l2Good : fitsF Try.prog f_spec_l2Good 30 c_spec_l2Good r_spec_l2Good = true := by kernel_rfl

/- loop.example/g01078/laws.toOpS: [a=0, a=1, out=3, i=4] -/
def c_laws_toOpS_l1 : ACode :=
  (.seq (.seq (.reg [⟨none, .mov 8 (.t 4)⟩,
      ⟨none, .mov 9 (.t 0)⟩,
      ⟨none, .len 10 (.t 9)⟩,
      ⟨none, .bin 11 .lss (.t 8) (.t 10)⟩])
   (.drop [8, 9, 10] (.cond (.t 11) .skip
    (.exit 0))))
  (.drop [8, 9, 10, 11] (.seq (.block 1 (.reg [⟨none, .mov 14 (.t 3)⟩,
       ⟨none, .mov 15 (.t 4)⟩,
       ⟨none, .mov 16 (.t 0)⟩,
       ⟨none, .mov 17 (.t 4)⟩,
       ⟨none, .iad 18 2 (.t 16) (.t 17)⟩,
       ⟨none, .ld 19 2 true (.t 18)⟩,
       ⟨none, .call 20 f_laws_toOp [((.t 19), false)]⟩,
       ⟨none, .iad 21 2 (.t 14) (.t 15)⟩,
       ⟨none, .st 2 (.t 21) (.t 20)⟩]))
   (.drop [14, 15, 16, 17, 18, 19, 20, 21] (.reg [⟨none, .mov 12 (.t 4)⟩,
      ⟨none, .bin 13 .add (.t 12) (.c (.int .i64 1))⟩,
      ⟨none, .asg 4 (.t 13)⟩])))))
def c_laws_toOpS : ACode :=
  (.seq (.reg [⟨none, .asg 2 (.c (.nilsl 2))⟩])
  (.seq (.reg [⟨none, .mov 5 (.t 0)⟩,
      ⟨none, .len 6 (.t 5)⟩,
      ⟨none, .mk 7 2 (.agg [.int .i64 0, .nilsl 1]) (.t 6)⟩,
      ⟨none, .asg 3 (.t 7)⟩])
   (.drop [5, 6, 7] (.seq (.seq (.reg [⟨none, .asg 4 (.c (.int .i64 0))⟩])
     (.block 0 (.loop c_laws_toOpS_l1)))
    (.drop [4, 8, 9, 10, 11, 14, 15, 16, 17, 18, 19, 20, 21, 12, 13] (.seq (.reg [⟨none, .mov 22 (.t 3)⟩,
        ⟨none, .asg 2 (.t 22)⟩])
     (.drop [22] .ret)))))))
abbrev r_laws_toOpS : List RS := [.t 2]
theorem k_laws_toOpS : fitsF Try.prog f_laws_toOpS 23 c_laws_toOpS r_laws_toOpS = true := by kernel_rfl

/- loop.example/g01078/impl.IsAlgebra: [a=0, a=1, _=3, f=4] -/
def c_impl_IsAlgebra_k1 : ACode :=
  (.seq (.reg [⟨none, .fadr 5 0 (.t 1)⟩,
       ⟨none, .ld 6 1 false (.t 5)⟩,
       ⟨none, .bin 7 .lss (.t 6) (.c (.int .i64 1))⟩,
       ⟨none, .asg 8 (.t 7)⟩,
       ⟨some (8, false), .fadr 9 0 (.t 1)⟩,
       ⟨some (8, false), .ld 10 1 false (.t 9)⟩,
       ⟨some (8, false), .bin 11 .gtr (.t 10) (.c (.int .i64 8))⟩,
       ⟨none, .pick 12 (.t 8) (.c (.bool true)) (.t 11)⟩,
       ⟨none, .asg 13 (.t 12)⟩,
       ⟨some (13, false), .fadr 14 1 (.t 1)⟩,
       ⟨some (13, false), .ld 15 1 false (.t 14)⟩,
       ⟨some (13, false), .len 16 (.t 15)⟩,
       ⟨some (13, false), .bin 17 .gtr (.t 16) (.c (.int .i64 4))⟩,
       ⟨none, .pick 18 (.t 13) (.c (.bool true)) (.t 17)⟩])
    (.drop [5, 6, 7, 8, 9, 10, 11, 12, 13, 14, 15, 16, 17] (.cond (.t 18) (.seq (.reg [⟨none, .asg 2 (.c (.bool false))⟩])
      .ret)
     .skip)))
def c_impl_IsAlgebra_l1 : ACode :=
  (.seq (.reg [⟨none, .bin 23 .lss (.t 22) (.t 21)⟩])
  (.seq (.cond (.t 23) .skip
    (.exit 0))
   (.seq (.block 1 (.seq (.reg [⟨none, .iad 24 2 (.t 20) (.t 22)⟩,
         ⟨none, .ld 25 2 true (.t 24)⟩,
         ⟨none, .alc 4 (.agg [.int .i64 0, .nilsl 1])⟩,
         ⟨none, .st 2 (.t 4) (.t 25)⟩])
      (.drop [24, 25] (.seq (.reg [⟨none, .ld 26 2 true (.t 4)⟩,
          ⟨none, .fadr 27 0 (.t 1)⟩,
          ⟨none, .ld 28 1 false (.t 27)⟩,
          ⟨none, .call 29 f_impl_isOp [((.t 26), false), ((.t 28), false)]⟩,
          ⟨none, .un 30 .not (.t 29)⟩])
       (.drop [26, 27, 28, 29] (.cond (.t 30) (.seq (.reg [⟨none, .asg 2 (.c (.bool false))⟩])
         .ret)
        .skip))))))
    (.drop [24, 25, 4, 26, 27, 28, 29, 30] (.reg [⟨none, .bin 31 .add (.t 22) (.c (.int .i64 1))⟩,
       ⟨none, .asg 22 (.t 31)⟩])))))
def c_impl_IsAlgebra : ACode :=
  (.seq (.reg [⟨none, .box 1 (.t 0)⟩,
     ⟨none, .asg 2 (.c (.bool false))⟩])
  (.seq (.cut c_impl_IsAlgebra_k1)
   (.drop [5, 6, 7, 8, 9, 10, 11, 12, 13, 14, 15, 16, 17, 18] (.seq (.seq (.reg [⟨none, .fadr 19 1 (.t 1)⟩,
        ⟨none, .ld 20 1 false (.t 19)⟩,
        ⟨none, .len 21 (.t 20)⟩,
        ⟨none, .mov 22 (.c (.int .i64 0))⟩])
     (.drop [19] (.block 0 (.loop c_impl_IsAlgebra_l1))))
    (.drop [19, 20, 21, 22, 23, 24, 25, 4, 26, 27, 28, 29, 30, 31] (.seq (.reg [⟨none, .asg 2 (.c (.bool true))⟩])
     .ret))))))
abbrev r_impl_IsAlgebra : List RS := [.t 2]
theorem k_impl_IsAlgebra : fitsF Try.prog f_impl_IsAlgebra 32 c_impl_IsAlgebra r_impl_IsAlgebra = true := by kernel_rfl

/- loop.example/g01078/laws.eqOpS: [a=0, b=1, a=2, b=3, i=5] -/
def c_laws_eqOpS_l1 : ACode :=
  (.seq (.seq (.reg [⟨none, .mov 11 (.t 5)⟩,
      ⟨none, .mov 12 (.t 0)⟩,
      ⟨none, .len 13 (.t 12)⟩,
      ⟨none, .bin 14 .lss (.t 11) (.t 13)⟩])
   (.drop [11, 12, 13] (.cond (.t 14) .skip
    (.exit 0))))
  (.drop [11, 12, 13, 14] (.seq (.block 1 (.seq (.dreg [(⟨none, .mov 17 (.t 0)⟩, []),
        (⟨none, .mov 18 (.t 5)⟩, [17]),
        (⟨none, .iad 19 2 (.t 17) (.t 18)⟩, []),
        (⟨none, .ld 20 2 true (.t 19)⟩, []),
        (⟨none, .mov 21 (.t 1)⟩, [17, 18, 19, 20]),
        (⟨none, .mov 22 (.t 5)⟩, [17, 18, 19, 20, 21]),
        (⟨none, .iad 23 2 (.t 21) (.t 22)⟩, [17, 18, 19, 20]),
        (⟨none, .ld 24 2 true (.t 23)⟩, [17, 18, 19, 20])]
       [⟨none, .call 25 f_laws_eqOp [((.t 20), false), ((.t 24), false)]⟩,
        ⟨none, .un 26 .not (.t 25)⟩])
     (.drop [17, 18, 19, 20, 21, 22, 23, 24, 25] (.cond (.t 26) (.seq (.reg [⟨none, .asg 4 (.c (.bool false))⟩])
       .ret)
      .skip))))
   (.drop [17, 18, 19, 20, 21, 22, 23, 24, 25, 26] (.reg [⟨none, .mov 15 (.t 5)⟩,
      ⟨none, .bin 16 .add (.t 15) (.c (.int .i64 1))⟩,
      ⟨none, .asg 5 (.t 16)⟩])))))
def c_laws_eqOpS : ACode :=
  (.seq (.reg [⟨none, .asg 4 (.c (.bool false))⟩])
  (.seq (.seq (.reg [⟨none, .mov 6 (.t 0)⟩,
       ⟨none, .len 7 (.t 6)⟩,
       ⟨none, .mov 8 (.t 1)⟩,
       ⟨none, .len 9 (.t 8)⟩,
       ⟨none, .bin 10 .neq (.t 7) (.t 9)⟩])
    (.drop [6, 7, 8, 9] (.cond (.t 10) (.seq (.reg [⟨none, .asg 4 (.c (.bool false))⟩])
      .ret)
     .skip)))
   (.drop [6, 7, 8, 9, 10] (.seq (.seq (.reg [⟨none, .asg 5 (.c (.int .i64 0))⟩])
     (.block 0 (.loop c_laws_eqOpS_l1)))
    (.drop [5, 11, 12, 13, 14, 17, 18, 19, 20, 21, 22, 23, 24, 25, 26, 15, 16] (.seq (.reg [⟨none, .asg 4 (.c (.bool true))⟩])
     .ret))))))
abbrev r_laws_eqOpS : List RS := [.t 4]
theorem k_laws_eqOpS : fitsF Try.prog f_laws_eqOpS 27 c_laws_eqOpS r_laws_eqOpS = true := by kernel_rfl

/- loop.example/g01078/impl.meetAll: [n=0, list=1, n=2, list=3, p=5, _=6, q=7] -/
def c_impl_meetAll_l1 : ACode :=
  (.seq (.reg [⟨none, .bin 13 .lss (.t 12) (.t 11)⟩])
  (.seq (.cond (.t 13) .skip
    (.exit 0))
   (.seq (.block 1 (.seq (.reg [⟨none, .iad 14 1 (.t 10) (.t 12)⟩,
         ⟨none, .ld 15 1 false (.t 14)⟩,
         ⟨none, .asg 7 (.t 15)⟩])
      (.drop [14, 15] (.reg [⟨none, .mov 16 (.t 5)⟩,
         ⟨none, .mov 17 (.t 7)⟩,
         ⟨none, .call 18 f_impl_meet [((.t 16), false), ((.t 17), false)]⟩,
         ⟨none, .asg 5 (.t 18)⟩]))))
    (.drop [14, 15, 7, 16, 17, 18] (.reg [⟨none, .bin 19 .add (.t 12) (.c (.int .i64 1))⟩,
       ⟨none, .asg 12 (.t 19)⟩])))))
def c_impl_meetAll : ACode :=
  (.seq (.reg [⟨none, .asg 4 (.c (.nilsl 1))⟩])
  (.seq (.reg [⟨none, .mov 8 (.t 0)⟩,
      ⟨none, .mk 9 1 (.int .i64 0) (.t 8)⟩,
      ⟨none, .asg 5 (.t 9)⟩])
   (.drop [8, 9] (.seq (.seq (.reg [⟨none, .mov 10 (.t 1)⟩,
        ⟨none, .len 11 (.t 10)⟩,
        ⟨none, .mov 12 (.c (.int .i64 0))⟩])
     (.block 0 (.loop c_impl_meetAll_l1)))
    (.drop [10, 11, 12, 13, 14, 15, 7, 16, 17, 18, 19] (.seq (.reg [⟨none, .mov 20 (.t 5)⟩,
        ⟨none, .asg 4 (.t 20)⟩])
     (.drop [20] .ret)))))))
abbrev r_impl_meetAll : List RS := [.t 4]
theorem k_impl_meetAll : fitsF Try.prog f_impl_meetAll 21 c_impl_meetAll r_impl_meetAll = true := by kernel_rfl

/- loop.example/g01078/impl.isCongruence: [a=0, p=1, a=2, p=3] -/
def c_impl_isCongruence : ACode :=
  (.seq (.reg [⟨none, .box 2 (.t 0)⟩,
     ⟨none, .asg 4 (.c (.bool false))⟩])
  (.seq (.dreg [(⟨none, .fadr 5 0 (.t 2)⟩, []),
      (⟨none, .ld 6 1 false (.t 5)⟩, []),
      (⟨none, .mov 7 (.t 1)⟩, [5, 6]),
      (⟨none, .call 8 f_impl_isPartition [((.t 6), false), ((.t 7), false)]⟩, []),
      (⟨none, .asg 9 (.t 8)⟩, []),
      (⟨some (9, true), .ld 10 2 true (.t 2)⟩, [8]),
      (⟨some (9, true), .mov 11 (.t 1)⟩, [10, 8]),
      (⟨some (9, true), .call 12 f_impl_clone [((.t 11), false)]⟩, [10, 8])]
     [⟨some (9, true), .call 13 f_impl_closePartition [((.t 10), false), ((.t 12), true)]⟩,
      ⟨some (9, true), .un 14 .not (.t 13)⟩,
      ⟨none, .pick 15 (.t 9) (.t 14) (.c (.bool false))⟩,
      ⟨none, .asg 4 (.t 15)⟩])
   (.drop [5, 6, 7, 8, 9, 10, 11, 12, 13, 14, 15] .ret)))
abbrev r_impl_isCongruence : List RS := [.t 4]
theorem k_impl_isCongruence : fitsF Try.prog f_impl_isCongruence 16 c_impl_isCongruence r_impl_isCongruence = true := by kernel_rfl

/- loop.example/g01078/spec.l6Push: [a=0, p=1, a=2, p=3, out=5, op=6, at=7, args=8, k=9, other=10] -/
def c_spec_l6Push_l1 : ACode :=
  (.seq (.seq (.reg [⟨none, .mov 41 (.t 9)⟩,
      ⟨none, .mov 42 (.t 8)⟩,
      ⟨none, .len 43 (.t 42)⟩,
      ⟨none, .bin 44 .lss (.t 41) (.t 43)⟩])
   (.drop [41, 42, 43] (.cond (.t 44) .skip
    (.exit 4))))
  (.drop [41, 42, 43, 44] (.seq (.block 5 (.seq (.reg [⟨none, .mov 47 (.t 8)⟩,
        ⟨none, .call 48 f_spec_l1Own [((.t 47), false)]⟩,
        ⟨none, .asg 10 (.t 48)⟩])
     (.drop [47, 48] (.seq (.reg [⟨none, .mov 49 (.t 10)⟩,
         ⟨none, .mov 50 (.t 9)⟩,
         ⟨none, .mov 51 (.t 1)⟩,
         ⟨none, .mov 52 (.t 8)⟩,
         ⟨none, .mov 53 (.t 9)⟩,
         ⟨none, .iad 54 1 (.t 52) (.t 53)⟩,
         ⟨none, .ld 55 1 false (.t 54)⟩,
         ⟨none, .iad 56 1 (.t 51) (.t 55)⟩,
         ⟨none, .ld 57 1 false (.t 56)⟩,
         ⟨none, .iad 58 1 (.t 49) (.t 50)⟩,
         ⟨none, .st 1 (.t 58) (.t 57)⟩])
      (.drop [49, 50, 51, 52, 53, 54, 55, 56, 57, 58] (.dreg [(⟨none, .mov 59 (.t 5)⟩, []),
         (⟨none, .fadr 60 1 (.t 2)⟩, [59]),
         (⟨none, .ld 61 1 false (.t 60)⟩, [59]),
         (⟨none, .mov 62 (.t 6)⟩, [59, 60, 61]),
         (⟨none, .iad 63 2 (.t 61) (.t 62)⟩, [59]),
         (⟨none, .fadr 64 1 (.t 63)⟩, [59]),
         (⟨none, .ld 65 1 false (.t 64)⟩, [59]),
         (⟨none, .mov 66 (.t 7)⟩, [59, 60, 61, 62, 63, 64, 65]),
         (⟨none, .iad 67 1 (.t 65) (.t 66)⟩, [59]),
         (⟨none, .ld 68 1 false (.t 67)⟩, [59]),
         (⟨none, .ld 69 2 true (.t 2)⟩, [59, 60, 61, 62, 63, 64, 65, 66, 67, 68]),
         (⟨none, .mov 70 (.t 6)⟩, [59, 60, 61, 62, 63, 64, 65, 66, 67, 68, 69]),
         (⟨none, .mov 71 (.t 10)⟩, [59, 60, 61, 62, 63, 64, 65, 66, 67, 68, 69, 70]),
         (⟨none, .call 72 f_spec_l2Value [((.t 69), false), ((.t 70), false), ((.t 71), false)]⟩, [59, 60, 61, 62, 63, 64, 65, 66, 67, 68])]
        [⟨none, .call 73 f_spec_l6Unite [((.t 59), false), ((.t 68), false), ((.t 72), false)]⟩,
         ⟨none, .asg 5 (.t 73)⟩]))))))
   (.drop [47, 48, 10, 49, 50, 51, 52, 53, 54, 55, 56, 57, 58, 59, 60, 61, 62, 63, 64, 65, 66, 67, 68, 69, 70, 71, 72, 73] (.reg [⟨none, .mov 45 (.t 9)⟩,
      ⟨none, .bin 46 .add (.t 45) (.c (.int .i64 1))⟩,
      ⟨none, .asg 9 (.t 46)⟩])))))
def c_spec_l6Push_l2 : ACode :=
  (.seq (.seq (.reg [⟨none, .mov 20 (.t 7)⟩,
      ⟨none, .fadr 21 1 (.t 2)⟩,
      ⟨none, .ld 22 1 false (.t 21)⟩,
      ⟨none, .mov 23 (.t 6)⟩,
      ⟨none, .iad 24 2 (.t 22) (.t 23)⟩,
      ⟨none, .fadr 25 1 (.t 24)⟩,
      ⟨none, .ld 26 1 false (.t 25)⟩,
      ⟨none, .len 27 (.t 26)⟩,
      ⟨none, .bin 28 .lss (.t 20) (.t 27)⟩])
   (.drop [20, 21, 22, 23, 24, 25, 26, 27] (.cond (.t 28) .skip
    (.exit 2))))
  (.drop [20, 21, 22, 23, 24, 25, 26, 27, 28] (.seq (.block 3 (.seq (.dreg [(⟨none, .fadr 31 0 (.t 2)⟩, []),
        (⟨none, .ld 32 1 false (.t 31)⟩, []),
        (⟨none, .fadr 33 1 (.t 2)⟩, [31, 32]),
        (⟨none, .ld 34 1 false (.t 33)⟩, [31, 32]),
        (⟨none, .mov 35 (.t 6)⟩, [31, 32, 33, 34]),
        (⟨none, .iad 36 2 (.t 34) (.t 35)⟩, [31, 32]),
        (⟨none, .fadr 37 0 (.t 36)⟩, [31, 32]),
        (⟨none, .ld 38 1 false (.t 37)⟩, [31, 32]),
        (⟨none, .mov 39 (.t 7)⟩, [31, 32, 33, 34, 35, 36, 37, 38])]
       [⟨none, .call 40 f_spec_l2Args [((.t 32), false), ((.t 38), false), ((.t 39), false)]⟩,
        ⟨none, .asg 8 (.t 40)⟩])
     (.drop [31, 32, 33, 34, 35, 36, 37, 38, 39, 40] (.seq (.reg [⟨none, .asg 9 (.c (.int .i64 0))⟩])
      (.block 4 (.loop c_spec_l6Push_l1))))))
   (.drop [31, 32, 33, 34, 35, 36, 37, 38, 39, 40, 8, 9, 41, 42, 43, 44, 47, 48, 10, 49, 50, 51, 52, 53, 54, 55, 56, 57, 58, 59, 60, 61, 62, 63, 64, 65, 66, 67, 68, 69, 70, 71, 72, 73, 45, 46] (.reg [⟨none, .mov 29 (.t 7)⟩,
      ⟨none, .bin 30 .add (.t 29) (.c (.int .i64 1))⟩,
      ⟨none, .asg 7 (.t 30)⟩])))))
def c_spec_l6Push_l3 : ACode :=
  (.seq (.seq (.reg [⟨none, .mov 13 (.t 6)⟩,
      ⟨none, .fadr 14 1 (.t 2)⟩,
      ⟨none, .ld 15 1 false (.t 14)⟩,
      ⟨none, .len 16 (.t 15)⟩,
      ⟨none, .bin 17 .lss (.t 13) (.t 16)⟩])
   (.drop [13, 14, 15, 16] (.cond (.t 17) .skip
    (.exit 0))))
  (.drop [13, 14, 15, 16, 17] (.seq (.block 1 (.seq (.reg [⟨none, .asg 7 (.c (.int .i64 0))⟩])
     (.block 2 (.loop c_spec_l6Push_l2))))
   (.drop [7, 20, 21, 22, 23, 24, 25, 26, 27, 28, 31, 32, 33, 34, 35, 36, 37, 38, 39, 40, 8, 9, 41, 42, 43, 44, 47, 48, 10, 49, 50, 51, 52, 53, 54, 55, 56, 57, 58, 59, 60, 61, 62, 63, 64, 65, 66, 67, 68, 69, 70, 71, 72, 73, 45, 46, 29, 30] (.reg [⟨none, .mov 18 (.t 6)⟩,
      ⟨none, .bin 19 .add (.t 18) (.c (.int .i64 1))⟩,
      ⟨none, .asg 6 (.t 19)⟩])))))
def c_spec_l6Push : ACode :=
  (.seq (.reg [⟨none, .box 2 (.t 0)⟩,
     ⟨none, .asg 4 (.c (.nilsl 1))⟩])
  (.seq (.reg [⟨none, .mov 11 (.t 1)⟩,
      ⟨none, .call 12 f_spec_l1Own [((.t 11), false)]⟩,
      ⟨none, .asg 5 (.t 12)⟩])
   (.drop [11, 12] (.seq (.seq (.reg [⟨none, .asg 6 (.c (.int .i64 0))⟩])
     (.block 0 (.loop c_spec_l6Push_l3)))
    (.drop [6, 13, 14, 15, 16, 17, 7, 20, 21, 22, 23, 24, 25, 26, 27, 28, 31, 32, 33, 34, 35, 36, 37, 38, 39, 40, 8, 9, 41, 42, 43, 44, 47, 48, 10, 49, 50, 51, 52, 53, 54, 55, 56, 57, 58, 59, 60, 61, 62, 63, 64, 65, 66, 67, 68, 69, 70, 71, 72, 73, 45, 46, 29, 30, 18, 19] (.seq (.reg [⟨none, .mov 74 (.t 5)⟩,
        ⟨none, .asg 4 (.t 74)⟩])
     (.drop [74] .ret)))))))
abbrev r_spec_l6Push : List RS := [.t 4]
theorem k_spec_l6Push : fitsF Try.prog f_spec_l6Push 75 c_spec_l6Push r_spec_l6Push = true := by kernel_rfl

/- loop.example/g01078/laws.szAlgebra: [a=0, left=1, a=2, left=3] -/
def c_laws_szAlgebra : ACode :=
  (.seq (.reg [⟨none, .box 2 (.t 0)⟩,
     ⟨none, .asg 4 (.c (.int .i64 0))⟩])
  (.seq (.reg [⟨none, .fadr 5 1 (.t 2)⟩,
      ⟨none, .ld 6 1 false (.t 5)⟩,
      ⟨none, .mov 7 (.t 1)⟩,
      ⟨none, .call 8 f_laws_szOpS [((.t 6), false), ((.t 7), false)]⟩,
      ⟨none, .asg 1 (.t 8)⟩])
   (.drop [5, 6, 7, 8] (.seq (.seq (.reg [⟨none, .mov 9 (.t 1)⟩,
        ⟨none, .bin 10 .lss (.t 9) (.c (.int .i64 0))⟩])
     (.drop [9] (.cond (.t 10) (.seq (.reg [⟨none, .asg 4 (.c (.int .i64 (-1)))⟩])
       .ret)
      .skip)))
    (.drop [9, 10] (.seq (.reg [⟨none, .mov 11 (.t 1)⟩,
        ⟨none, .asg 4 (.t 11)⟩])
     (.drop [11] .ret)))))))
abbrev r_laws_szAlgebra : List RS := [.t 4]
theorem k_laws_szAlgebra : fitsF Try.prog f_laws_szAlgebra 12 c_laws_szAlgebra r_laws_szAlgebra = true := by kernel_rfl

/- loop.example/g01078/laws.toAlgebra: [a=0, a=1, out=3] -/
def c_laws_toAlgebra : ACode :=
  (.seq (.reg [⟨none, .box 1 (.t 0)⟩,
     ⟨none, .alc 2 (.agg [.int .i64 0, .nilsl 2])⟩])
  (.seq (.reg [⟨none, .alc 3 (.agg [.int .i64 0, .nilsl 2])⟩])
   (.seq (.reg [⟨none, .fadr 4 0 (.t 1)⟩,
       ⟨none, .ld 5 1 false (.t 4)⟩,
       ⟨none, .fadr 6 0 (.t 3)⟩,
       ⟨none, .st 1 (.t 6) (.t 5)⟩])
    (.drop [4, 5, 6] (.seq (.reg [⟨none, .fadr 7 1 (.t 1)⟩,
        ⟨none, .ld 8 1 false (.t 7)⟩,
        ⟨none, .call 9 f_laws_toOpS [((.t 8), false)]⟩,
        ⟨none, .fadr 10 1 (.t 3)⟩,
        ⟨none, .st 1 (.t 10) (.t 9)⟩])
     (.drop [7, 8, 9, 10] (.seq (.reg [⟨none, .ld 11 2 true (.t 3)⟩,
         ⟨none, .st 2 (.t 2) (.t 11)⟩])
      (.drop [11] .ret))))))))
abbrev r_laws_toAlgebra : List RS := [.c 2 2 true]
theorem k_laws_toAlgebra : fitsF Try.prog f_laws_toAlgebra 12 c_laws_toAlgebra r_laws_toAlgebra = true := by kernel_rfl

/- loop.example/g01078/laws.eqAlgebra: [a=0, b=1, a=2, b=3] -/
def c_laws_eqAlgebra : ACode :=
  (.seq (.reg [⟨none, .box 2 (.t 0)⟩,
     ⟨none, .box 3 (.t 1)⟩,
     ⟨none, .asg 4 (.c (.bool false))⟩])
  (.seq (.seq (.reg [⟨none, .fadr 5 0 (.t 2)⟩,
       ⟨none, .ld 6 1 false (.t 5)⟩,
       ⟨none, .fadr 7 0 (.t 3)⟩,
       ⟨none, .ld 8 1 false (.t 7)⟩,
       ⟨none, .bin 9 .neq (.t 6) (.t 8)⟩])
    (.drop [5, 6, 7, 8] (.cond (.t 9) (.seq (.reg [⟨none, .asg 4 (.c (.bool false))⟩])
      .ret)
     .skip)))
   (.drop [5, 6, 7, 8, 9] (.seq (.seq (.reg [⟨none, .fadr 10 1 (.t 2)⟩,
        ⟨none, .ld 11 1 false (.t 10)⟩,
        ⟨none, .fadr 12 1 (.t 3)⟩,
        ⟨none, .ld 13 1 false (.t 12)⟩,
        ⟨none, .call 14 f_laws_eqOpS [((.t 11), false), ((.t 13), false)]⟩,
        ⟨none, .un 15 .not (.t 14)⟩])
     (.drop [10, 11, 12, 13, 14] (.cond (.t 15) (.seq (.reg [⟨none, .asg 4 (.c (.bool false))⟩])
       .ret)
      .skip)))
    (.drop [10, 11, 12, 13, 14, 15] (.seq (.reg [⟨none, .asg 4 (.c (.bool true))⟩])
     .ret))))))
abbrev r_laws_eqAlgebra : List RS := [.t 4]
theorem k_laws_eqAlgebra : fitsF Try.prog f_laws_eqAlgebra 16 c_laws_eqAlgebra r_laws_eqAlgebra = true := by kernel_rfl

/- loop.example/g01078/impl.areCongruences: [a=0, list=1, a=2, list=3, _=5, p=6] -/
def c_impl_areCongruences_k1 : ACode :=
  (.seq (.reg [⟨none, .ld 7 2 true (.t 2)⟩,
       ⟨none, .call 8 f_impl_IsAlgebra [((.t 7), false)]⟩,
       ⟨none, .un 9 .not (.t 8)⟩,
       ⟨none, .asg 10 (.t 9)⟩,
       ⟨some (10, false), .mov 11 (.t 1)⟩,
       ⟨some (10, false), .len 12 (.t 11)⟩,
       ⟨some (10, false), .bin 13 .gtr (.t 12) (.c (.int .i64 20))⟩,
       ⟨none, .pick 14 (.t 10) (.c (.bool true)) (.t 13)⟩])
    (.drop [7, 8, 9, 10, 11, 12, 13] (.cond (.t 14) (.seq (.reg [⟨none, .asg 4 (.c (.bool false))⟩])
      .ret)
     .skip)))
def c_impl_areCongruences_l1 : ACode :=
  (.seq (.reg [⟨none, .bin 18 .lss (.t 17) (.t 16)⟩])
  (.seq (.cond (.t 18) .skip
    (.exit 0))
   (.seq (.block 1 (.seq (.reg [⟨none, .iad 19 1 (.t 15) (.t 17)⟩,
         ⟨none, .ld 20 1 false (.t 19)⟩,
         ⟨none, .asg 6 (.t 20)⟩])
      (.drop [19, 20] (.seq (.reg [⟨none, .ld 21 2 true (.t 2)⟩,
          ⟨none, .mov 22 (.t 6)⟩,
          ⟨none, .call 23 f_impl_isCongruence [((.t 21), false), ((.t 22), false)]⟩,
          ⟨none, .un 24 .not (.t 23)⟩])
       (.drop [21, 22, 23] (.cond (.t 24) (.seq (.reg [⟨none, .asg 4 (.c (.bool false))⟩])
         .ret)
        .skip))))))
    (.drop [19, 20, 6, 21, 22, 23, 24] (.reg [⟨none, .bin 25 .add (.t 17) (.c (.int .i64 1))⟩,
       ⟨none, .asg 17 (.t 25)⟩])))))
def c_impl_areCongruences : ACode :=
  (.seq (.reg [⟨none, .box 2 (.t 0)⟩,
     ⟨none, .asg 4 (.c (.bool false))⟩])
  (.seq (.cut c_impl_areCongruences_k1)
   (.drop [7, 8, 9, 10, 11, 12, 13, 14] (.seq (.seq (.reg [⟨none, .mov 15 (.t 1)⟩,
        ⟨none, .len 16 (.t 15)⟩,
        ⟨none, .mov 17 (.c (.int .i64 0))⟩])
     (.block 0 (.loop c_impl_areCongruences_l1)))
    (.drop [15, 16, 17, 18, 19, 20, 6, 21, 22, 23, 24, 25] (.seq (.reg [⟨none, .asg 4 (.c (.bool true))⟩])
     .ret))))))
abbrev r_impl_areCongruences : List RS := [.t 4]
theorem k_impl_areCongruences : fitsF Try.prog f_impl_areCongruences 26 c_impl_areCongruences r_impl_areCongruences = true := by kernel_rfl

/- loop.example/g01078/spec.l6Is: [a=0, p=1, a=2, p=3] -/
def c_spec_l6Is : ACode :=
  (.seq (.reg [⟨none, .box 2 (.t 0)⟩,
     ⟨none, .asg 4 (.c (.bool false))⟩])
  (.seq (.reg [⟨none, .fadr 5 0 (.t 2)⟩,
      ⟨none, .ld 6 1 false (.t 5)⟩,
      ⟨none, .mov 7 (.t 1)⟩,
      ⟨none, .call 8 f_spec_l6Partition [((.t 6), false), ((.t 7), false)]⟩,
      ⟨none, .asg 9 (.t 8)⟩,
      ⟨some (9, true), .ld 10 2 true (.t 2)⟩,
      ⟨some (9, true), .mov 11 (.t 1)⟩,
      ⟨some (9, true), .call 12 f_spec_l6Push [((.t 10), false), ((.t 11), false)]⟩,
      ⟨some (9, true), .mov 13 (.t 1)⟩,
      ⟨some (9, true), .call 14 f_spec_l1Same [((.t 12), false), ((.t 13), false)]⟩,
      ⟨none, .pick 15 (.t 9) (.t 14) (.c (.bool false))⟩,
      ⟨none, .asg 4 (.t 15)⟩])
   (.drop [5, 6, 7, 8, 9, 10, 11, 12, 13, 14, 15] .ret)))
abbrev r_spec_l6Is : List RS := [.t 4]
theorem k_spec_l6Is : fitsF Try.prog f_spec_l6Is 16 c_spec_l6Is r_spec_l6Is = true := by kernel_rfl

/- loop.example/g01078/impl.IsSeparating: [a=0, list=1, a=2, list=3] -/
def c_impl_IsSeparating : ACode :=
  (.seq (.reg [⟨none, .box 2 (.t 0)⟩,
     ⟨none, .asg 4 (.c (.bool false))⟩,
     ⟨none, .asg 5 (.c (.bool false))⟩])
  (.seq (.seq (.reg [⟨none, .ld 6 2 true (.t 2)⟩,
       ⟨none, .mov 7 (.t 1)⟩,
       ⟨none, .call 8 f_impl_areCongruences [((.t 6), false), ((.t 7), false)]⟩,
       ⟨none, .un 9 .not (.t 8)⟩])
    (.drop [6, 7, 8] (.cond (.t 9) (.seq (.reg [⟨none, .asg 4 (.c (.bool false))⟩,
         ⟨none, .asg 5 (.c (.bool false))⟩])
      .ret)
     .skip)))
   (.drop [6, 7, 8, 9] (.seq (.dreg [(⟨none, .fadr 10 0 (.t 2)⟩, []),
       (⟨none, .ld 11 1 false (.t 10)⟩, []),
       (⟨none, .mov 12 (.t 1)⟩, [10, 11]),
       (⟨none, .call 13 f_impl_meetAll [((.t 11), false), ((.t 12), false)]⟩, []),
       (⟨none, .call 14 f_impl_blockCount [((.t 13), false)]⟩, []),
       (⟨none, .fadr 15 0 (.t 2)⟩, [10, 11, 12, 13, 14]),
       (⟨none, .ld 16 1 false (.t 15)⟩, [10, 11, 12, 13, 14])]
      [⟨none, .bin 17 .eql (.t 14) (.t 16)⟩,
       ⟨none, .asg 4 (.t 17)⟩,
       ⟨none, .asg 5 (.c (.bool true))⟩])
    (.drop [10, 11, 12, 13, 14, 15, 16, 17] .ret)))))
abbrev r_impl_IsSeparating : List RS := [.t 4, .t 5]
theorem k_impl_IsSeparating : fitsF Try.prog f_impl_IsSeparating 18 c_impl_IsSeparating r_impl_IsSeparating = true := by kernel_rfl

/- loop.example/g01078/spec.l10List: [a=0, list=1, a=2, list=3, i=5] -/
def c_spec_l10List_k1 : ACode :=
  (.seq (.reg [⟨none, .ld 6 2 true (.t 2)⟩,
       ⟨none, .call 7 f_spec_l2Good [((.t 6), false)]⟩,
       ⟨none, .un 8 .not (.t 7)⟩,
       ⟨none, .asg 9 (.t 8)⟩,
       ⟨some (9, false), .mov 10 (.t 1)⟩,
       ⟨some (9, false), .len 11 (.t 10)⟩,
       ⟨some (9, false), .bin 12 .gtr (.t 11) (.c (.int .i64 20))⟩,
       ⟨none, .pick 13 (.t 9) (.c (.bool true)) (.t 12)⟩])
    (.drop [6, 7, 8, 9, 10, 11, 12] (.cond (.t 13) (.seq (.reg [⟨none, .asg 4 (.c (.bool false))⟩])
      .ret)
     .skip)))
def c_spec_l10List_l1 : ACode :=
  (.seq (.seq (.reg [⟨none, .mov 14 (.t 5)⟩,
      ⟨none, .mov 15 (.t 1)⟩,
      ⟨none, .len 16 (.t 15)⟩,
      ⟨none, .bin 17 .lss (.t 14) (.t 16)⟩])
   (.drop [14, 15, 16] (.cond (.t 17) .skip
    (.exit 0))))
  (.drop [14, 15, 16, 17] (.seq (.block 1 (.seq (.dreg [(⟨none, .ld 20 2 true (.t 2)⟩, []),
        (⟨none, .mov 21 (.t 1)⟩, [20]),
        (⟨none, .mov 22 (.t 5)⟩, [20, 21]),
        (⟨none, .iad 23 1 (.t 21) (.t 22)⟩, [20]),
        (⟨none, .ld 24 1 false (.t 23)⟩, [20])]
       [⟨none, .call 25 f_spec_l6Is [((.t 20), false), ((.t 24), false)]⟩,
        ⟨none, .un 26 .not (.t 25)⟩])
     (.drop [20, 21, 22, 23, 24, 25] (.cond (.t 26) (.seq (.reg [⟨none, .asg 4 (.c (.bool false))⟩])
       .ret)
      .skip))))
   (.drop [20, 21, 22, 23, 24, 25, 26] (.reg [⟨none, .mov 18 (.t 5)⟩,
      ⟨none, .bin 19 .add (.t 18) (.c (.int .i64 1))⟩,
      ⟨none, .asg 5 (.t 19)⟩])))))
def c_spec_l10List : ACode :=
  (.seq (.reg [⟨none, .box 2 (.t 0)⟩,
     ⟨none, .asg 4 (.c (.bool false))⟩])
  (.seq (.cut c_spec_l10List_k1)
   (.drop [6, 7, 8, 9, 10, 11, 12, 13] (.seq (.seq (.reg [⟨none, .asg 5 (.c (.int .i64 0))⟩])
     (.block 0 (.loop c_spec_l10List_l1)))
    (.drop [5, 14, 15, 16, 17, 20, 21, 22, 23, 24, 25, 26, 18, 19] (.seq (.reg [⟨none, .asg 4 (.c (.bool true))⟩])
     .ret))))))
abbrev r_spec_l10List : List RS := [.t 4]
theorem k_spec_l10List : fitsF Try.prog f_spec_l10List 27 c_spec_l10List r_spec_l10List = true := by kernel_rfl

/- loop.example/g01078/spec.IsSeparating: [a=0, list=1, a=2, list=3] -/
def c_spec_IsSeparating : ACode :=
  (.seq (.reg [⟨none, .box 2 (.t 0)⟩,
     ⟨none, .asg 4 (.c (.bool false))⟩,
     ⟨none, .asg 5 (.c (.bool false))⟩])
  (.seq (.seq (.reg [⟨none, .ld 6 2 true (.t 2)⟩,
       ⟨none, .mov 7 (.t 1)⟩,
       ⟨none, .call 8 f_spec_l10List [((.t 6), false), ((.t 7), false)]⟩,
       ⟨none, .un 9 .not (.t 8)⟩])
    (.drop [6, 7, 8] (.cond (.t 9) (.seq (.reg [⟨none, .asg 4 (.c (.bool false))⟩,
         ⟨none, .asg 5 (.c (.bool false))⟩])
      .ret)
     .skip)))
   (.drop [6, 7, 8, 9] (.seq (.dreg [(⟨none, .fadr 10 0 (.t 2)⟩, []),
       (⟨none, .ld 11 1 false (.t 10)⟩, []),
       (⟨none, .mov 12 (.t 1)⟩, [10, 11]),
       (⟨none, .call 13 f_spec_l10Meet [((.t 11), false), ((.t 12), false)]⟩, []),
       (⟨none, .call 14 f_spec_l6Count [((.t 13), false)]⟩, []),
       (⟨none, .fadr 15 0 (.t 2)⟩, [10, 11, 12, 13, 14]),
       (⟨none, .ld 16 1 false (.t 15)⟩, [10, 11, 12, 13, 14])]
      [⟨none, .bin 17 .eql (.t 14) (.t 16)⟩,
       ⟨none, .asg 4 (.t 17)⟩,
       ⟨none, .asg 5 (.c (.bool true))⟩])
    (.drop [10, 11, 12, 13, 14, 15, 16, 17] .ret)))))
abbrev r_spec_IsSeparating : List RS := [.t 4, .t 5]
theorem k_spec_IsSeparating : fitsF Try.prog f_spec_IsSeparating 18 c_spec_IsSeparating r_spec_IsSeparating = true := by kernel_rfl

/- loop.example/g01078/laws.FnExactIsSeparating: [aA=0, aList=1, aA=2, aList=3, left=5, w0=6, w1=7, x0=8, x1=9, g0=10, g1=11] -/
def c_laws_FnExactIsSeparating_k1 : ACode :=
  (.seq (.reg [⟨none, .mov 40 (.t 10)⟩,
                ⟨none, .mov 41 (.t 6)⟩,
                ⟨none, .binb 42 .neq (.t 40) (.t 41)⟩,
                ⟨none, .asg 43 (.t 42)⟩,
                ⟨some (43, false), .mov 44 (.t 11)⟩,
                ⟨some (43, false), .mov 45 (.t 7)⟩,
                ⟨some (43, false), .binb 46 .neq (.t 44) (.t 45)⟩,
                ⟨none, .pick 47 (.t 43) (.c (.bool true)) (.t 46)⟩])
             (.drop [40, 41, 42, 43, 44, 45, 46] (.cond (.t 47) (.seq (.reg [⟨none, .asg 4 (.c (.bool false))⟩])
               .ret)
              .skip)))
def c_laws_FnExactIsSeparating : ACode :=
  (.seq (.reg [⟨none, .box 2 (.t 0)⟩,
     ⟨none, .asg 4 (.c (.bool false))⟩])
  (.seq (.reg [⟨none, .asg 5 (.c (.int .i64 1048576))⟩])
   (.seq (.reg [⟨none, .ld 12 2 true (.t 2)⟩,
       ⟨none, .mov 13 (.t 5)⟩,
       ⟨none, .call 14 f_laws_szAlgebra [((.t 12), false), ((.t 13), false)]⟩,
       ⟨none, .asg 5 (.t 14)⟩])
    (.drop [12, 13, 14] (.seq (.seq (.reg [⟨none, .mov 15 (.t 5)⟩,
         ⟨none, .bin 16 .lss (.t 15) (.c (.int .i64 0))⟩])
      (.drop [15] (.cond (.t 16) (.seq (.reg [⟨none, .asg 4 (.c (.bool true))⟩])
        .ret)
       .skip)))
     (.drop [15, 16] (.seq (.reg [⟨none, .mov 17 (.t 1)⟩,
         ⟨none, .mov 18 (.t 5)⟩,
         ⟨none, .call 19 f_laws_szIntSS [((.t 17), false), ((.t 18), false)]⟩,
         ⟨none, .asg 5 (.t 19)⟩])
      (.drop [17, 18, 19] (.seq (.seq (.reg [⟨none, .mov 20 (.t 5)⟩,
           ⟨none, .bin 21 .lss (.t 20) (.c (.int .i64 0))⟩])
        (.drop [20] (.cond (.t 21) (.seq (.reg [⟨none, .asg 4 (.c (.bool true))⟩])
          .ret)
         .skip)))
       (.drop [20, 21] (.seq (.reg [⟨none, .ld 23 2 true (.t 2)⟩,
           ⟨none, .call 24 f_laws_toAlgebra [((.t 23), false)]⟩,
           ⟨none, .mov 25 (.t 1)⟩,
           ⟨none, .call 26 f_laws_toIntSS [((.t 25), false)]⟩,
           ⟨none, .call 27 f_spec_IsSeparating [((.t 24), false), ((.t 26), false)]⟩,
           ⟨none, .asg 22 (.t 27)⟩,
           ⟨none, .ext 28 (.t 22) 0⟩,
           ⟨none, .ext 29 (.t 22) 1⟩,
           ⟨none, .asg 6 (.t 28)⟩,
           ⟨none, .asg 7 (.t 29)⟩])
        (.drop [23, 24, 25, 26, 27, 22, 28, 29] (.seq (.reg [⟨none, .ld 30 2 true (.t 2)⟩,
            ⟨none, .call 31 f_laws_toAlgebra [((.t 30), false)]⟩,
            ⟨none, .alc 8 (.agg [.int .i64 0, .nilsl 2])⟩,
            ⟨none, .st 2 (.t 8) (.t 31)⟩])
         (.drop [30, 31] (.seq (.reg [⟨none, .mov 32 (.t 1)⟩,
             ⟨none, .call 33 f_laws_toIntSS [((.t 32), false)]⟩,
             ⟨none, .asg 9 (.t 33)⟩])
          (.drop [32, 33] (.seq (.reg [⟨none, .ld 35 2 true (.t 8)⟩,
              ⟨none, .mov 36 (.t 9)⟩,
              ⟨none, .call 37 f_impl_IsSeparating [((.t 35), false), ((.t 36), false)]⟩,
              ⟨none, .asg 34 (.t 37)⟩,
              ⟨none, .ext 38 (.t 34) 0⟩,
              ⟨none, .ext 39 (.t 34) 1⟩,
              ⟨none, .asg 10 (.t 38)⟩,
              ⟨none, .asg 11 (.t 39)⟩])
           (.drop [35, 36, 37, 34, 38, 39] (.seq (.cut c_laws_FnExactIsSeparating_k1)
            (.drop [40, 41, 42, 43, 44, 45, 46, 47] (.seq (.seq (.dreg [(⟨none, .ld 48 2 true (.t 8)⟩, []),
                 (⟨none, .ld 49 2 true (.t 2)⟩, [48]),
                 (⟨none, .call 50 f_laws_toAlgebra [((.t 49), false)]⟩, [48])]
                [⟨none, .call 51 f_laws_eqAlgebra [((.t 48), false), ((.t 50), false)]⟩,
                 ⟨none, .un 52 .not (.t 51)⟩])
              (.drop [48, 49, 50, 51] (.cond (.t 52) (.seq (.reg [⟨none, .asg 4 (.c (.bool false))⟩])
                .ret)
               .skip)))
             (.drop [48, 49, 50, 51, 52] (.seq (.seq (.reg [⟨none, .mov 53 (.t 9)⟩,
                  ⟨none, .mov 54 (.t 1)⟩,
                  ⟨none, .call 55 f_laws_toIntSS [((.t 54), false)]⟩,
                  ⟨none, .call 56 f_laws_eqIntSS [((.t 53), false), ((.t 55), false)]⟩,
                  ⟨none, .un 57 .not (.t 56)⟩])
               (.drop [53, 54, 55, 56] (.cond (.t 57) (.seq (.reg [⟨none, .asg 4 (.c (.bool false))⟩])
                 .ret)
                .skip)))
              (.drop [53, 54, 55, 56, 57] (.seq (.reg [⟨none, .asg 4 (.c (.bool true))⟩])
               .ret)))))))))))))))))))))))))
abbrev r_laws_FnExactIsSeparating : List RS := [.t 4]
theorem k_laws_FnExactIsSeparating : fitsF Try.prog f_laws_FnExactIsSeparating 58 c_laws_FnExactIsSeparating r_laws_FnExactIsSeparating = true := by kernel_rfl

end Go.Proofs.Ytdodfnbbfkcgnaa.Ax
