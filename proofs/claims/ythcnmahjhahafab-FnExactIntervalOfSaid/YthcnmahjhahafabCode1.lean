/-
  The small code of the functions, written by program; that the program's code is this one, the kernel looks at.
-/
import Derived.Test.YthcnmahjhahafabAx3
import Derived.Test.YthcnmahjhahafabProg
import Derived.KernelRfl
import Derived.Test.YthcnmahjhahafabNum
namespace Go.Proofs.Ythcnmahjhahafab.Ax
open Go
set_option maxRecDepth 100000

/- loop.example/g01078/laws.markIntA2S: [a=0, k=1, a=2, k=3, i=5, j=6] -/
def c_laws_markIntA2S_l1 : ACode :=
  (.seq (.seq (.reg [⟨none, .mov 13 (.t 6)⟩,
      ⟨none, .bin 14 .lss (.t 13) (.c (.int .i64 2))⟩])
   (.drop [13] (.cond (.t 14) .skip
    (.exit 2))))
  (.drop [13, 14] (.seq (.block 3 (.seq (.reg [⟨none, .mov 17 (.t 0)⟩,
        ⟨none, .mov 18 (.t 5)⟩,
        ⟨none, .mov 19 (.t 6)⟩,
        ⟨none, .mov 20 (.t 1)⟩,
        ⟨none, .iad 21 2 (.t 17) (.t 18)⟩,
        ⟨none, .aad 22 1 2 (.t 21) (.t 19)⟩,
        ⟨none, .st 1 (.t 22) (.t 20)⟩])
     (.drop [17, 18, 19, 20, 21, 22] (.reg [⟨none, .mov 23 (.t 1)⟩,
        ⟨none, .bin 24 .add (.t 23) (.c (.int .i64 1))⟩,
        ⟨none, .asg 1 (.t 24)⟩]))))
   (.drop [17, 18, 19, 20, 21, 22, 23, 24] (.reg [⟨none, .mov 15 (.t 6)⟩,
      ⟨none, .bin 16 .add (.t 15) (.c (.int .i64 1))⟩,
      ⟨none, .asg 6 (.t 16)⟩])))))
def c_laws_markIntA2S_l2 : ACode :=
  (.seq (.seq (.reg [⟨none, .mov 7 (.t 5)⟩,
      ⟨none, .mov 8 (.t 0)⟩,
      ⟨none, .len 9 (.t 8)⟩,
      ⟨none, .bin 10 .lss (.t 7) (.t 9)⟩])
   (.drop [7, 8, 9] (.cond (.t 10) .skip
    (.exit 0))))
  (.drop [7, 8, 9, 10] (.seq (.block 1 (.seq (.reg [⟨none, .asg 6 (.c (.int .i64 0))⟩])
     (.block 2 (.loop c_laws_markIntA2S_l1))))
   (.drop [6, 13, 14, 17, 18, 19, 20, 21, 22, 23, 24, 15, 16] (.reg [⟨none, .mov 11 (.t 5)⟩,
      ⟨none, .bin 12 .add (.t 11) (.c (.int .i64 1))⟩,
      ⟨none, .asg 5 (.t 12)⟩])))))
def c_laws_markIntA2S : ACode :=
  (.seq (.reg [⟨none, .asg 4 (.c (.int .i64 0))⟩])
  (.seq (.seq (.reg [⟨none, .asg 5 (.c (.int .i64 0))⟩])
    (.block 0 (.loop c_laws_markIntA2S_l2)))
   (.drop [5, 7, 8, 9, 10, 6, 13, 14, 17, 18, 19, 20, 21, 22, 23, 24, 15, 16, 11, 12] (.seq (.reg [⟨none, .mov 25 (.t 1)⟩,
       ⟨none, .asg 4 (.t 25)⟩])
    (.drop [25] .ret)))))
abbrev r_laws_markIntA2S : List RS := [.t 4]
theorem k_laws_markIntA2S : fitsF Try.prog f_laws_markIntA2S 26 c_laws_markIntA2S r_laws_markIntA2S = true := by kernel_rfl

/- loop.example/g01078/laws.heldIntA2S: [a=0, k=1, a=2, k=3, i=5, j=6] -/
def c_laws_heldIntA2S_l1 : ACode :=
  (.seq (.seq (.reg [⟨none, .mov 13 (.t 6)⟩,
      ⟨none, .bin 14 .lss (.t 13) (.c (.int .i64 2))⟩])
   (.drop [13] (.cond (.t 14) .skip
    (.exit 2))))
  (.drop [13, 14] (.seq (.block 3 (.seq (.seq (.reg [⟨none, .mov 17 (.t 0)⟩,
         ⟨none, .mov 18 (.t 5)⟩,
         ⟨none, .mov 19 (.t 6)⟩,
         ⟨none, .iad 20 2 (.t 17) (.t 18)⟩,
         ⟨none, .aad 21 1 2 (.t 20) (.t 19)⟩,
         ⟨none, .ld 22 1 false (.t 21)⟩,
         ⟨none, .mov 23 (.t 1)⟩,
         ⟨none, .bin 24 .neq (.t 22) (.t 23)⟩])
      (.drop [17, 18, 19, 20, 21, 22, 23] (.cond (.t 24) (.seq (.reg [⟨none, .asg 4 (.c (.int .i64 (-1)))⟩])
        .ret)
       .skip)))
     (.drop [17, 18, 19, 20, 21, 22, 23, 24] (.reg [⟨none, .mov 25 (.t 1)⟩,
        ⟨none, .bin 26 .add (.t 25) (.c (.int .i64 1))⟩,
        ⟨none, .asg 1 (.t 26)⟩]))))
   (.drop [17, 18, 19, 20, 21, 22, 23, 24, 25, 26] (.reg [⟨none, .mov 15 (.t 6)⟩,
      ⟨none, .bin 16 .add (.t 15) (.c (.int .i64 1))⟩,
      ⟨none, .asg 6 (.t 16)⟩])))))
def c_laws_heldIntA2S_l2 : ACode :=
  (.seq (.seq (.reg [⟨none, .mov 7 (.t 5)⟩,
      ⟨none, .mov 8 (.t 0)⟩,
      ⟨none, .len 9 (.t 8)⟩,
      ⟨none, .bin 10 .lss (.t 7) (.t 9)⟩])
   (.drop [7, 8, 9] (.cond (.t 10) .skip
    (.exit 0))))
  (.drop [7, 8, 9, 10] (.seq (.block 1 (.seq (.reg [⟨none, .asg 6 (.c (.int .i64 0))⟩])
     (.block 2 (.loop c_laws_heldIntA2S_l1))))
   (.drop [6, 13, 14, 17, 18, 19, 20, 21, 22, 23, 24, 25, 26, 15, 16] (.reg [⟨none, .mov 11 (.t 5)⟩,
      ⟨none, .bin 12 .add (.t 11) (.c (.int .i64 1))⟩,
      ⟨none, .asg 5 (.t 12)⟩])))))
def c_laws_heldIntA2S : ACode :=
  (.seq (.reg [⟨none, .asg 4 (.c (.int .i64 0))⟩])
  (.seq (.seq (.reg [⟨none, .asg 5 (.c (.int .i64 0))⟩])
    (.block 0 (.loop c_laws_heldIntA2S_l2)))
   (.drop [5, 7, 8, 9, 10, 6, 13, 14, 17, 18, 19, 20, 21, 22, 23, 24, 25, 26, 15, 16, 11, 12] (.seq (.reg [⟨none, .mov 27 (.t 1)⟩,
       ⟨none, .asg 4 (.t 27)⟩])
    (.drop [27] .ret)))))
abbrev r_laws_heldIntA2S : List RS := [.t 4]
theorem k_laws_heldIntA2S : fitsF Try.prog f_laws_heldIntA2S 28 c_laws_heldIntA2S r_laws_heldIntA2S = true := by kernel_rfl

/- loop.example/g01078/laws.eqIntS: [a=0, b=1, a=2, b=3, i=5] -/
def c_laws_eqIntS_l1 : ACode :=
  (.seq (.seq (.reg [⟨none, .mov 11 (.t 5)⟩,
      ⟨none, .mov 12 (.t 0)⟩,
      ⟨none, .len 13 (.t 12)⟩,
      ⟨none, .bin 14 .lss (.t 11) (.t 13)⟩])
   (.drop [11, 12, 13] (.cond (.t 14) .skip
    (.exit 0))))
  (.drop [11, 12, 13, 14] (.seq (.block 1 (.seq (.dreg [(⟨none, .mov 17 (.t 0)⟩, []),
        (⟨none, .mov 18 (.t 5)⟩, [17]),
        (⟨none, .iad 19 1 (.t 17) (.t 18)⟩, []),
        (⟨none, .ld 20 1 false (.t 19)⟩, []),
        (⟨none, .mov 21 (.t 1)⟩, [17, 18, 19, 20]),
        (⟨none, .mov 22 (.t 5)⟩, [17, 18, 19, 20, 21]),
        (⟨none, .iad 23 1 (.t 21) (.t 22)⟩, [17, 18, 19, 20]),
        (⟨none, .ld 24 1 false (.t 23)⟩, [17, 18, 19, 20])]
       [⟨none, .bin 25 .neq (.t 20) (.t 24)⟩])
     (.drop [17, 18, 19, 20, 21, 22, 23, 24] (.cond (.t 25) (.seq (.reg [⟨none, .asg 4 (.c (.bool false))⟩])
       .ret)
      .skip))))
   (.drop [17, 18, 19, 20, 21, 22, 23, 24, 25] (.reg [⟨none, .mov 15 (.t 5)⟩,
      ⟨none, .bin 16 .add (.t 15) (.c (.int .i64 1))⟩,
      ⟨none, .asg 5 (.t 16)⟩])))))
def c_laws_eqIntS : ACode :=
  (.seq (.reg [⟨none, .asg 4 (.c (.bool false))⟩])
  (.seq (.seq (.reg [⟨none, .mov 6 (.t 0)⟩,
       ⟨none, .len 7 (.t 6)⟩,
       ⟨none, .mov 8 (.t 1)⟩,
       ⟨none, .len 9 (.t 8)⟩,
       ⟨none, .bin 10 .neq (.t 7) (.t 9)⟩])
    (.drop [6, 7, 8, 9] (.cond (.t 10) (.seq (.reg [⟨none, .asg 4 (.c (.bool false))⟩])
      .ret)
     .skip)))
   (.drop [6, 7, 8, 9, 10] (.seq (.seq (.reg [⟨none, .asg 5 (.c (.int .i64 0))⟩])
     (.block 0 (.loop c_laws_eqIntS_l1)))
    (.drop [5, 11, 12, 13, 14, 17, 18, 19, 20, 21, 22, 23, 24, 25, 15, 16] (.seq (.reg [⟨none, .asg 4 (.c (.bool true))⟩])
     .ret))))))
abbrev r_laws_eqIntS : List RS := [.t 4]
theorem k_laws_eqIntS : fitsF Try.prog f_laws_eqIntS 26 c_laws_eqIntS r_laws_eqIntS = true := by kernel_rfl

/- loop.example/g01078/laws.markIntS: [a=0, k=1, a=2, k=3, i=5] -/
def c_laws_markIntS_l1 : ACode :=
  (.seq (.seq (.reg [⟨none, .mov 6 (.t 5)⟩,
      ⟨none, .mov 7 (.t 0)⟩,
      ⟨none, .len 8 (.t 7)⟩,
      ⟨none, .bin 9 .lss (.t 6) (.t 8)⟩])
   (.drop [6, 7, 8] (.cond (.t 9) .skip
    (.exit 0))))
  (.drop [6, 7, 8, 9] (.seq (.block 1 (.seq (.reg [⟨none, .mov 12 (.t 0)⟩,
        ⟨none, .mov 13 (.t 5)⟩,
        ⟨none, .mov 14 (.t 1)⟩,
        ⟨none, .iad 15 1 (.t 12) (.t 13)⟩,
        ⟨none, .st 1 (.t 15) (.t 14)⟩])
     (.drop [12, 13, 14, 15] (.reg [⟨none, .mov 16 (.t 1)⟩,
        ⟨none, .bin 17 .add (.t 16) (.c (.int .i64 1))⟩,
        ⟨none, .asg 1 (.t 17)⟩]))))
   (.drop [12, 13, 14, 15, 16, 17] (.reg [⟨none, .mov 10 (.t 5)⟩,
      ⟨none, .bin 11 .add (.t 10) (.c (.int .i64 1))⟩,
      ⟨none, .asg 5 (.t 11)⟩])))))
def c_laws_markIntS : ACode :=
  (.seq (.reg [⟨none, .asg 4 (.c (.int .i64 0))⟩])
  (.seq (.seq (.reg [⟨none, .asg 5 (.c (.int .i64 0))⟩])
    (.block 0 (.loop c_laws_markIntS_l1)))
   (.drop [5, 6, 7, 8, 9, 12, 13, 14, 15, 16, 17, 10, 11] (.seq (.reg [⟨none, .mov 18 (.t 1)⟩,
       ⟨none, .asg 4 (.t 18)⟩])
    (.drop [18] .ret)))))
abbrev r_laws_markIntS : List RS := [.t 4]
theorem k_laws_markIntS : fitsF Try.prog f_laws_markIntS 19 c_laws_markIntS r_laws_markIntS = true := by kernel_rfl

/- loop.example/g01078/laws.heldIntS: [a=0, k=1, a=2, k=3, i=5] -/
def c_laws_heldIntS_l1 : ACode :=
  (.seq (.seq (.reg [⟨none, .mov 6 (.t 5)⟩,
      ⟨none, .mov 7 (.t 0)⟩,
      ⟨none, .len 8 (.t 7)⟩,
      ⟨none, .bin 9 .lss (.t 6) (.t 8)⟩])
   (.drop [6, 7, 8] (.cond (.t 9) .skip
    (.exit 0))))
  (.drop [6, 7, 8, 9] (.seq (.block 1 (.seq (.seq (.reg [⟨none, .mov 12 (.t 0)⟩,
         ⟨none, .mov 13 (.t 5)⟩,
         ⟨none, .iad 14 1 (.t 12) (.t 13)⟩,
         ⟨none, .ld 15 1 false (.t 14)⟩,
         ⟨none, .mov 16 (.t 1)⟩,
         ⟨none, .bin 17 .neq (.t 15) (.t 16)⟩])
      (.drop [12, 13, 14, 15, 16] (.cond (.t 17) (.seq (.reg [⟨none, .asg 4 (.c (.int .i64 (-1)))⟩])
        .ret)
       .skip)))
     (.drop [12, 13, 14, 15, 16, 17] (.reg [⟨none, .mov 18 (.t 1)⟩,
        ⟨none, .bin 19 .add (.t 18) (.c (.int .i64 1))⟩,
        ⟨none, .asg 1 (.t 19)⟩]))))
   (.drop [12, 13, 14, 15, 16, 17, 18, 19] (.reg [⟨none, .mov 10 (.t 5)⟩,
      ⟨none, .bin 11 .add (.t 10) (.c (.int .i64 1))⟩,
      ⟨none, .asg 5 (.t 11)⟩])))))
def c_laws_heldIntS : ACode :=
  (.seq (.reg [⟨none, .asg 4 (.c (.int .i64 0))⟩])
  (.seq (.seq (.reg [⟨none, .asg 5 (.c (.int .i64 0))⟩])
    (.block 0 (.loop c_laws_heldIntS_l1)))
   (.drop [5, 6, 7, 8, 9, 12, 13, 14, 15, 16, 17, 18, 19, 10, 11] (.seq (.reg [⟨none, .mov 20 (.t 1)⟩,
       ⟨none, .asg 4 (.t 20)⟩])
    (.drop [20] .ret)))))
abbrev r_laws_heldIntS : List RS := [.t 4]
theorem k_laws_heldIntS : fitsF Try.prog f_laws_heldIntS 21 c_laws_heldIntS r_laws_heldIntS = true := by kernel_rfl

/- loop.example/g01078/laws.toIntS: [a=0, a=1, out=3, i=4] -/
def c_laws_toIntS_l1 : ACode :=
  (.seq (.seq (.reg [⟨none, .mov 8 (.t 4)⟩,
      ⟨none, .mov 9 (.t 0)⟩,
      ⟨none, .len 10 (.t 9)⟩,
      ⟨none, .bin 11 .lss (.t 8) (.t 10)⟩])
   (.drop [8, 9, 10] (.cond (.t 11) .skip
    (.exit 0))))
  (.drop [8, 9, 10, 11] (.seq (.block 1 (.reg [⟨none, .mov 14 (.t 3)⟩,
       ⟨none, .mov 15 (.t 4)⟩,
       ⟨none, .mov 16 (.t 0)⟩,
       ⟨none, .mov 17 (.t 4)⟩,
       ⟨none, .iad 18 1 (.t 16) (.t 17)⟩,
       ⟨none, .ld 19 1 false (.t 18)⟩,
       ⟨none, .iad 20 1 (.t 14) (.t 15)⟩,
       ⟨none, .st 1 (.t 20) (.t 19)⟩]))
   (.drop [14, 15, 16, 17, 18, 19, 20] (.reg [⟨none, .mov 12 (.t 4)⟩,
      ⟨none, .bin 13 .add (.t 12) (.c (.int .i64 1))⟩,
      ⟨none, .asg 4 (.t 13)⟩])))))
def c_laws_toIntS : ACode :=
  (.seq (.reg [⟨none, .asg 2 (.c (.nilsl 1))⟩])
  (.seq (.reg [⟨none, .mov 5 (.t 0)⟩,
      ⟨none, .len 6 (.t 5)⟩,
      ⟨none, .mk 7 1 (.int .i64 0) (.t 6)⟩,
      ⟨none, .asg 3 (.t 7)⟩])
   (.drop [5, 6, 7] (.seq (.seq (.reg [⟨none, .asg 4 (.c (.int .i64 0))⟩])
     (.block 0 (.loop c_laws_toIntS_l1)))
    (.drop [4, 8, 9, 10, 11, 14, 15, 16, 17, 18, 19, 20, 12, 13] (.seq (.reg [⟨none, .mov 21 (.t 3)⟩,
        ⟨none, .asg 2 (.t 21)⟩])
     (.drop [21] .ret)))))))
abbrev r_laws_toIntS : List RS := [.t 2]
theorem k_laws_toIntS : fitsF Try.prog f_laws_toIntS 22 c_laws_toIntS r_laws_toIntS = true := by kernel_rfl

/- loop.example/g01078/laws.eqIntA2: [a=0, b=1, a=2, b=3, i=5] -/
def c_laws_eqIntA2_l1 : ACode :=
  (.seq (.seq (.reg [⟨none, .mov 6 (.t 5)⟩,
      ⟨none, .bin 7 .lss (.t 6) (.c (.int .i64 2))⟩])
   (.drop [6] (.cond (.t 7) .skip
    (.exit 0))))
  (.drop [6, 7] (.seq (.block 1 (.seq (.dreg [(⟨none, .mov 10 (.t 5)⟩, []),
        (⟨none, .aad 11 1 2 (.t 2) (.t 10)⟩, []),
        (⟨none, .ld 12 1 false (.t 11)⟩, []),
        (⟨none, .mov 13 (.t 5)⟩, [10, 11, 12]),
        (⟨none, .aad 14 1 2 (.t 3) (.t 13)⟩, [10, 11, 12]),
        (⟨none, .ld 15 1 false (.t 14)⟩, [10, 11, 12])]
       [⟨none, .bin 16 .neq (.t 12) (.t 15)⟩])
     (.drop [10, 11, 12, 13, 14, 15] (.cond (.t 16) (.seq (.reg [⟨none, .asg 4 (.c (.bool false))⟩])
       .ret)
      .skip))))
   (.drop [10, 11, 12, 13, 14, 15, 16] (.reg [⟨none, .mov 8 (.t 5)⟩,
      ⟨none, .bin 9 .add (.t 8) (.c (.int .i64 1))⟩,
      ⟨none, .asg 5 (.t 9)⟩])))))
def c_laws_eqIntA2 : ACode :=
  (.seq (.reg [⟨none, .box 2 (.t 0)⟩,
     ⟨none, .box 3 (.t 1)⟩,
     ⟨none, .asg 4 (.c (.bool false))⟩])
  (.seq (.seq (.reg [⟨none, .asg 5 (.c (.int .i64 0))⟩])
    (.block 0 (.loop c_laws_eqIntA2_l1)))
   (.drop [5, 6, 7, 10, 11, 12, 13, 14, 15, 16, 8, 9] (.seq (.reg [⟨none, .asg 4 (.c (.bool true))⟩])
    .ret))))
abbrev r_laws_eqIntA2 : List RS := [.t 4]
theorem k_laws_eqIntA2 : fitsF Try.prog f_laws_eqIntA2 17 c_laws_eqIntA2 r_laws_eqIntA2 = true := by kernel_rfl

/- loop.example/g01078/impl.bitsOf: [mask=0, mask=1, list=3, x=4] -/
def c_impl_bitsOf_l1 : ACode :=
  (.seq (.seq (.reg [⟨none, .mov 6 (.t 0)⟩,
      ⟨none, .mov 7 (.t 4)⟩,
      ⟨none, .bin 8 .shr (.t 6) (.t 7)⟩,
      ⟨none, .bin 9 .gtr (.t 8) (.c (.int .i64 0))⟩])
   (.drop [6, 7, 8] (.cond (.t 9) .skip
    (.exit 0))))
  (.drop [6, 7, 8, 9] (.seq (.block 1 (.seq (.reg [⟨none, .mov 12 (.t 0)⟩,
        ⟨none, .mov 13 (.t 4)⟩,
        ⟨none, .bin 14 .shr (.t 12) (.t 13)⟩,
        ⟨none, .bin 15 .and (.t 14) (.c (.int .i64 1))⟩,
        ⟨none, .bin 16 .eql (.t 15) (.c (.int .i64 1))⟩])
     (.drop [12, 13, 14, 15] (.cond (.t 16) (.reg [⟨none, .mov 17 (.t 3)⟩,
         ⟨none, .mov 18 (.t 4)⟩,
         ⟨none, .bsl 19 1 [(.t 18)]⟩,
         ⟨none, .app 20 1 (.t 17) (.t 19)⟩,
         ⟨none, .asg 3 (.t 20)⟩])
      .skip))))
   (.drop [12, 13, 14, 15, 16, 17, 18, 19, 20] (.reg [⟨none, .mov 10 (.t 4)⟩,
      ⟨none, .bin 11 .add (.t 10) (.c (.int .i64 1))⟩,
      ⟨none, .asg 4 (.t 11)⟩])))))
def c_impl_bitsOf : ACode :=
  (.seq (.reg [⟨none, .asg 2 (.c (.nilsl 1))⟩])
  (.seq (.reg [⟨none, .bsl 5 1 []⟩,
      ⟨none, .asg 3 (.t 5)⟩])
   (.drop [5] (.seq (.seq (.reg [⟨none, .asg 4 (.c (.int .i64 0))⟩])
     (.block 0 (.loop c_impl_bitsOf_l1)))
    (.drop [4, 6, 7, 8, 9, 12, 13, 14, 15, 16, 17, 18, 19, 20, 10, 11] (.seq (.reg [⟨none, .mov 21 (.t 3)⟩,
        ⟨none, .asg 2 (.t 21)⟩])
     (.drop [21] .ret)))))))
abbrev r_impl_bitsOf : List RS := [.t 2]
theorem k_impl_bitsOf : fitsF Try.prog f_impl_bitsOf 22 c_impl_bitsOf r_impl_bitsOf = true := by kernel_rfl

/- loop.example/g01078/impl.compareLists: [s=0, t=1, s=2, t=3, i=5] -/
def c_impl_compareLists_k1 : ACode :=
  (.seq (.reg [⟨none, .mov 6 (.t 5)⟩,
      ⟨none, .mov 7 (.t 0)⟩,
      ⟨none, .len 8 (.t 7)⟩,
      ⟨none, .bin 9 .lss (.t 6) (.t 8)⟩,
      ⟨none, .asg 10 (.t 9)⟩,
      ⟨some (10, true), .mov 11 (.t 5)⟩,
      ⟨some (10, true), .mov 12 (.t 1)⟩,
      ⟨some (10, true), .len 13 (.t 12)⟩,
      ⟨some (10, true), .bin 14 .lss (.t 11) (.t 13)⟩,
      ⟨none, .pick 15 (.t 10) (.t 14) (.c (.bool false))⟩])
   (.drop [6, 7, 8, 9, 10, 11, 12, 13, 14] (.cond (.t 15) .skip
    (.exit 0))))
def c_impl_compareLists_l1 : ACode :=
  (.seq (.cut c_impl_compareLists_k1)
  (.drop [6, 7, 8, 9, 10, 11, 12, 13, 14, 15] (.seq (.block 1 (.seq (.dreg [(⟨none, .mov 18 (.t 0)⟩, []),
        (⟨none, .mov 19 (.t 5)⟩, [18]),
        (⟨none, .iad 20 1 (.t 18) (.t 19)⟩, []),
        (⟨none, .ld 21 1 false (.t 20)⟩, []),
        (⟨none, .mov 22 (.t 1)⟩, [18, 19, 20, 21]),
        (⟨none, .mov 23 (.t 5)⟩, [18, 19, 20, 21, 22]),
        (⟨none, .iad 24 1 (.t 22) (.t 23)⟩, [18, 19, 20, 21]),
        (⟨none, .ld 25 1 false (.t 24)⟩, [18, 19, 20, 21])]
       [⟨none, .bin 26 .neq (.t 21) (.t 25)⟩])
     (.drop [18, 19, 20, 21, 22, 23, 24, 25] (.cond (.t 26) (.seq (.seq (.dreg [(⟨none, .mov 27 (.t 0)⟩, []),
           (⟨none, .mov 28 (.t 5)⟩, [27]),
           (⟨none, .iad 29 1 (.t 27) (.t 28)⟩, []),
           (⟨none, .ld 30 1 false (.t 29)⟩, []),
           (⟨none, .mov 31 (.t 1)⟩, [27, 28, 29, 30]),
           (⟨none, .mov 32 (.t 5)⟩, [27, 28, 29, 30, 31]),
           (⟨none, .iad 33 1 (.t 31) (.t 32)⟩, [27, 28, 29, 30]),
           (⟨none, .ld 34 1 false (.t 33)⟩, [27, 28, 29, 30])]
          [⟨none, .bin 35 .lss (.t 30) (.t 34)⟩])
        (.drop [27, 28, 29, 30, 31, 32, 33, 34] (.cond (.t 35) (.seq (.reg [⟨none, .asg 4 (.c (.int .i64 (-1)))⟩])
          .ret)
         .skip)))
       (.drop [27, 28, 29, 30, 31, 32, 33, 34, 35] (.seq (.reg [⟨none, .asg 4 (.c (.int .i64 1))⟩])
        .ret)))
      .skip))))
   (.drop [18, 19, 20, 21, 22, 23, 24, 25, 26, 27, 28, 29, 30, 31, 32, 33, 34, 35] (.reg [⟨none, .mov 16 (.t 5)⟩,
      ⟨none, .bin 17 .add (.t 16) (.c (.int .i64 1))⟩,
      ⟨none, .asg 5 (.t 17)⟩])))))
def c_impl_compareLists : ACode :=
  (.seq (.reg [⟨none, .asg 4 (.c (.int .i64 0))⟩])
  (.seq (.seq (.reg [⟨none, .asg 5 (.c (.int .i64 0))⟩])
    (.block 0 (.loop c_impl_compareLists_l1)))
   (.drop [5, 6, 7, 8, 9, 10, 11, 12, 13, 14, 15, 18, 19, 20, 21, 22, 23, 24, 25, 26, 27, 28, 29, 30, 31, 32, 33, 34, 35, 16, 17] (.seq (.block 2 (.seq (.reg [⟨none, .mov 37 (.t 0)⟩,
         ⟨none, .len 38 (.t 37)⟩,
         ⟨none, .mov 39 (.t 1)⟩,
         ⟨none, .len 40 (.t 39)⟩,
         ⟨none, .bin 41 .lss (.t 38) (.t 40)⟩,
         ⟨none, .asg 36 (.t 41)⟩])
      (.drop [37, 38, 39, 40, 41] (.cond (.t 36) (.seq (.reg [⟨none, .asg 4 (.c (.int .i64 (-1)))⟩])
        .ret)
       (.seq (.reg [⟨none, .mov 43 (.t 0)⟩,
           ⟨none, .len 44 (.t 43)⟩,
           ⟨none, .mov 45 (.t 1)⟩,
           ⟨none, .len 46 (.t 45)⟩,
           ⟨none, .bin 47 .gtr (.t 44) (.t 46)⟩,
           ⟨none, .asg 42 (.t 47)⟩])
        (.drop [43, 44, 45, 46, 47] (.cond (.t 42) (.seq (.reg [⟨none, .asg 4 (.c (.int .i64 1))⟩])
          .ret)
         .skip)))))))
    (.drop [37, 38, 39, 40, 41, 36, 43, 44, 45, 46, 47, 42] (.seq (.reg [⟨none, .asg 4 (.c (.int .i64 0))⟩])
     .ret))))))
abbrev r_impl_compareLists : List RS := [.t 4]
theorem k_impl_compareLists : fitsF Try.prog f_impl_compareLists 48 c_impl_compareLists r_impl_compareLists = true := by kernel_rfl

/- (loop.example/g01078/impl.order).less: [o=0, x=1, y=2, o=3, x=4, y=5] -/
def c_impl_order_less : ACode :=
  (.seq (.reg [⟨none, .asg 6 (.c (.bool false))⟩])
  (.seq (.reg [⟨none, .mov 7 (.t 1)⟩,
      ⟨none, .mov 8 (.t 2)⟩,
      ⟨none, .bin 9 .neq (.t 7) (.t 8)⟩,
      ⟨none, .asg 10 (.t 9)⟩,
      ⟨some (10, true), .mov 11 (.t 0)⟩,
      ⟨some (10, true), .mov 12 (.t 1)⟩,
      ⟨some (10, true), .iad 13 1 (.t 11) (.t 12)⟩,
      ⟨some (10, true), .ld 14 1 false (.t 13)⟩,
      ⟨some (10, true), .mov 15 (.t 2)⟩,
      ⟨some (10, true), .iad 16 1 (.t 14) (.t 15)⟩,
      ⟨some (10, true), .ld 17 1 false (.t 16)⟩,
      ⟨none, .pick 18 (.t 10) (.t 17) (.c (.bool false))⟩,
      ⟨none, .asg 6 (.t 18)⟩])
   (.drop [7, 8, 9, 10, 11, 12, 13, 14, 15, 16, 17, 18] .ret)))
abbrev r_impl_order_less : List RS := [.t 6]
theorem k_impl_order_less : fitsF Try.prog f_impl_order_less 19 c_impl_order_less r_impl_order_less = true := by kernel_rfl

/- (*loop.example/g01078/impl.lattice).bottom: [l=0, l=1, b=3, x=4] -/
def c_impl_lattice_bottom_l1 : ACode :=
  (.seq (.reg [⟨none, .bin 11 .lss (.t 10) (.t 9)⟩])
  (.seq (.cond (.t 11) .skip
    (.exit 0))
   (.seq (.block 1 (.seq (.reg [⟨none, .mov 12 (.t 10)⟩,
         ⟨none, .asg 4 (.t 12)⟩])
      (.drop [12] (.reg [⟨none, .mov 13 (.t 0)⟩,
         ⟨none, .nck 14 (.t 13)⟩,
         ⟨none, .fadr 15 1 (.t 14)⟩,
         ⟨none, .ld 16 1 false (.t 15)⟩,
         ⟨none, .mov 17 (.t 3)⟩,
         ⟨none, .iad 18 1 (.t 16) (.t 17)⟩,
         ⟨none, .ld 19 1 false (.t 18)⟩,
         ⟨none, .mov 20 (.t 4)⟩,
         ⟨none, .iad 21 1 (.t 19) (.t 20)⟩,
         ⟨none, .ld 22 1 false (.t 21)⟩,
         ⟨none, .asg 3 (.t 22)⟩]))))
    (.drop [12, 4, 13, 14, 15, 16, 17, 18, 19, 20, 21, 22] (.reg [⟨none, .bin 23 .add (.t 10) (.c (.int .i64 1))⟩,
       ⟨none, .asg 10 (.t 23)⟩])))))
def c_impl_lattice_bottom : ACode :=
  (.seq (.reg [⟨none, .asg 2 (.c (.int .i64 0))⟩])
  (.seq (.reg [⟨none, .asg 3 (.c (.int .i64 0))⟩])
   (.seq (.seq (.reg [⟨none, .mov 5 (.t 0)⟩,
        ⟨none, .nck 6 (.t 5)⟩,
        ⟨none, .fadr 7 0 (.t 6)⟩,
        ⟨none, .ld 8 1 false (.t 7)⟩,
        ⟨none, .len 9 (.t 8)⟩,
        ⟨none, .mov 10 (.c (.int .i64 0))⟩])
     (.drop [5, 6, 7, 8] (.block 0 (.loop c_impl_lattice_bottom_l1))))
    (.drop [5, 6, 7, 8, 9, 10, 11, 12, 4, 13, 14, 15, 16, 17, 18, 19, 20, 21, 22, 23] (.seq (.reg [⟨none, .mov 24 (.t 3)⟩,
        ⟨none, .asg 2 (.t 24)⟩])
     (.drop [24] .ret))))))
abbrev r_impl_lattice_bottom : List RS := [.t 2]
theorem k_impl_lattice_bottom : fitsF Try.prog f_impl_lattice_bottom 25 c_impl_lattice_bottom r_impl_lattice_bottom = true := by kernel_rfl

/- (*loop.example/g01078/impl.lattice).top: [l=0, l=1, t=3, x=4] -/
def c_impl_lattice_top_l1 : ACode :=
  (.seq (.reg [⟨none, .bin 11 .lss (.t 10) (.t 9)⟩])
  (.seq (.cond (.t 11) .skip
    (.exit 0))
   (.seq (.block 1 (.seq (.reg [⟨none, .mov 12 (.t 10)⟩,
         ⟨none, .asg 4 (.t 12)⟩])
      (.drop [12] (.reg [⟨none, .mov 13 (.t 0)⟩,
         ⟨none, .nck 14 (.t 13)⟩,
         ⟨none, .fadr 15 2 (.t 14)⟩,
         ⟨none, .ld 16 1 false (.t 15)⟩,
         ⟨none, .mov 17 (.t 3)⟩,
         ⟨none, .iad 18 1 (.t 16) (.t 17)⟩,
         ⟨none, .ld 19 1 false (.t 18)⟩,
         ⟨none, .mov 20 (.t 4)⟩,
         ⟨none, .iad 21 1 (.t 19) (.t 20)⟩,
         ⟨none, .ld 22 1 false (.t 21)⟩,
         ⟨none, .asg 3 (.t 22)⟩]))))
    (.drop [12, 4, 13, 14, 15, 16, 17, 18, 19, 20, 21, 22] (.reg [⟨none, .bin 23 .add (.t 10) (.c (.int .i64 1))⟩,
       ⟨none, .asg 10 (.t 23)⟩])))))
def c_impl_lattice_top : ACode :=
  (.seq (.reg [⟨none, .asg 2 (.c (.int .i64 0))⟩])
  (.seq (.reg [⟨none, .asg 3 (.c (.int .i64 0))⟩])
   (.seq (.seq (.reg [⟨none, .mov 5 (.t 0)⟩,
        ⟨none, .nck 6 (.t 5)⟩,
        ⟨none, .fadr 7 0 (.t 6)⟩,
        ⟨none, .ld 8 1 false (.t 7)⟩,
        ⟨none, .len 9 (.t 8)⟩,
        ⟨none, .mov 10 (.c (.int .i64 0))⟩])
     (.drop [5, 6, 7, 8] (.block 0 (.loop c_impl_lattice_top_l1))))
    (.drop [5, 6, 7, 8, 9, 10, 11, 12, 4, 13, 14, 15, 16, 17, 18, 19, 20, 21, 22, 23] (.seq (.reg [⟨none, .mov 24 (.t 3)⟩,
        ⟨none, .asg 2 (.t 24)⟩])
     (.drop [24] .ret))))))
abbrev r_impl_lattice_top : List RS := [.t 2]
theorem k_impl_lattice_top : fitsF Try.prog f_impl_lattice_top 25 c_impl_lattice_top r_impl_lattice_top = true := by kernel_rfl

/- (loop.example/g01078/impl.order).those: [o=0, so=1, o=2, so=3, list=5, x=6] -/
def c_impl_order_those_l1 : ACode :=
  (.seq (.reg [⟨none, .bin 11 .lss (.t 10) (.t 9)⟩])
  (.seq (.cond (.t 11) .skip
    (.exit 0))
   (.seq (.block 1 (.seq (.reg [⟨none, .mov 12 (.t 10)⟩,
         ⟨none, .asg 6 (.t 12)⟩])
      (.drop [12] (.seq (.reg [⟨none, .mov 13 (.t 1)⟩,
          ⟨none, .mov 14 (.t 6)⟩,
          ⟨none, .cally 15 (.t 13) [(.t 14)]⟩])
       (.drop [13, 14] (.cond (.t 15) (.reg [⟨none, .mov 16 (.t 5)⟩,
           ⟨none, .mov 17 (.t 6)⟩,
           ⟨none, .bsl 18 1 [(.t 17)]⟩,
           ⟨none, .app 19 1 (.t 16) (.t 18)⟩,
           ⟨none, .asg 5 (.t 19)⟩])
        .skip))))))
    (.drop [12, 6, 13, 14, 15, 16, 17, 18, 19] (.reg [⟨none, .bin 20 .add (.t 10) (.c (.int .i64 1))⟩,
       ⟨none, .asg 10 (.t 20)⟩])))))
def c_impl_order_those : ACode :=
  (.seq (.reg [⟨none, .asg 4 (.c (.nilsl 1))⟩])
  (.seq (.reg [⟨none, .bsl 7 1 []⟩,
      ⟨none, .asg 5 (.t 7)⟩])
   (.drop [7] (.seq (.seq (.reg [⟨none, .mov 8 (.t 0)⟩,
        ⟨none, .len 9 (.t 8)⟩,
        ⟨none, .mov 10 (.c (.int .i64 0))⟩])
     (.drop [8] (.block 0 (.loop c_impl_order_those_l1))))
    (.drop [8, 9, 10, 11, 12, 6, 13, 14, 15, 16, 17, 18, 19, 20] (.seq (.reg [⟨none, .mov 21 (.t 5)⟩,
        ⟨none, .asg 4 (.t 21)⟩])
     (.drop [21] .ret)))))))
abbrev r_impl_order_those : List RS := [.t 4]
theorem k_impl_order_those : fitsF Try.prog f_impl_order_those 22 c_impl_order_those r_impl_order_those = true := by kernel_rfl

/- loop.example/g01078/laws.szIntS: [a=0, left=1, a=2, left=3] -/
def c_laws_szIntS : ACode :=
  (.seq (.reg [⟨none, .asg 4 (.c (.int .i64 0))⟩])
  (.seq (.reg [⟨none, .mov 5 (.t 1)⟩,
      ⟨none, .mov 6 (.t 0)⟩,
      ⟨none, .len 7 (.t 6)⟩,
      ⟨none, .bin 8 .sub (.t 5) (.t 7)⟩,
      ⟨none, .asg 1 (.t 8)⟩])
   (.drop [5, 6, 7, 8] (.seq (.seq (.reg [⟨none, .mov 9 (.t 1)⟩,
        ⟨none, .bin 10 .lss (.t 9) (.c (.int .i64 0))⟩])
     (.drop [9] (.cond (.t 10) (.seq (.reg [⟨none, .asg 4 (.c (.int .i64 (-1)))⟩])
       .ret)
      .skip)))
    (.drop [9, 10] (.seq (.reg [⟨none, .mov 11 (.t 1)⟩,
        ⟨none, .asg 4 (.t 11)⟩])
     (.drop [11] .ret)))))))
abbrev r_laws_szIntS : List RS := [.t 4]
theorem k_laws_szIntS : fitsF Try.prog f_laws_szIntS 12 c_laws_szIntS r_laws_szIntS = true := by kernel_rfl

/- loop.example/g01078/spec.l1Has: [l=0, n=1, l=2, n=3, i=5] -/
def c_spec_l1Has_l1 : ACode :=
  (.seq (.seq (.reg [⟨none, .mov 6 (.t 5)⟩,
      ⟨none, .mov 7 (.t 0)⟩,
      ⟨none, .len 8 (.t 7)⟩,
      ⟨none, .bin 9 .lss (.t 6) (.t 8)⟩])
   (.drop [6, 7, 8] (.cond (.t 9) .skip
    (.exit 0))))
  (.drop [6, 7, 8, 9] (.seq (.block 1 (.seq (.reg [⟨none, .mov 12 (.t 0)⟩,
        ⟨none, .mov 13 (.t 5)⟩,
        ⟨none, .iad 14 1 (.t 12) (.t 13)⟩,
        ⟨none, .ld 15 1 false (.t 14)⟩,
        ⟨none, .mov 16 (.t 1)⟩,
        ⟨none, .bin 17 .eql (.t 15) (.t 16)⟩])
     (.drop [12, 13, 14, 15, 16] (.cond (.t 17) (.seq (.reg [⟨none, .asg 4 (.c (.bool true))⟩])
       .ret)
      .skip))))
   (.drop [12, 13, 14, 15, 16, 17] (.reg [⟨none, .mov 10 (.t 5)⟩,
      ⟨none, .bin 11 .add (.t 10) (.c (.int .i64 1))⟩,
      ⟨none, .asg 5 (.t 11)⟩])))))
def c_spec_l1Has : ACode :=
  (.seq (.reg [⟨none, .asg 4 (.c (.bool false))⟩])
  (.seq (.seq (.reg [⟨none, .asg 5 (.c (.int .i64 0))⟩])
    (.block 0 (.loop c_spec_l1Has_l1)))
   (.drop [5, 6, 7, 8, 9, 12, 13, 14, 15, 16, 17, 10, 11] (.seq (.reg [⟨none, .asg 4 (.c (.bool false))⟩])
    .ret))))
abbrev r_spec_l1Has : List RS := [.t 4]
theorem k_spec_l1Has : fitsF Try.prog f_spec_l1Has 18 c_spec_l1Has r_spec_l1Has = true := by kernel_rfl

/- loop.example/g01078/impl.newOrder: [n=0, n=1, o=3, x=4] -/
def c_impl_newOrder_l1 : ACode :=
  (.seq (.reg [⟨none, .bin 10 .lss (.t 9) (.t 8)⟩])
  (.seq (.cond (.t 10) .skip
    (.exit 0))
   (.seq (.block 1 (.seq (.reg [⟨none, .mov 11 (.t 9)⟩,
         ⟨none, .asg 4 (.t 11)⟩])
      (.drop [11] (.reg [⟨none, .mov 12 (.t 3)⟩,
         ⟨none, .mov 13 (.t 4)⟩,
         ⟨none, .mov 14 (.t 0)⟩,
         ⟨none, .mk 15 1 (.bool false) (.t 14)⟩,
         ⟨none, .iad 16 1 (.t 12) (.t 13)⟩,
         ⟨none, .st 1 (.t 16) (.t 15)⟩]))))
    (.drop [11, 4, 12, 13, 14, 15, 16] (.reg [⟨none, .bin 17 .add (.t 9) (.c (.int .i64 1))⟩,
       ⟨none, .asg 9 (.t 17)⟩])))))
def c_impl_newOrder : ACode :=
  (.seq (.reg [⟨none, .asg 2 (.c (.nilsl 1))⟩])
  (.seq (.reg [⟨none, .mov 5 (.t 0)⟩,
      ⟨none, .mk 6 1 (.nilsl 1) (.t 5)⟩,
      ⟨none, .asg 3 (.t 6)⟩])
   (.drop [5, 6] (.seq (.seq (.reg [⟨none, .mov 7 (.t 3)⟩,
        ⟨none, .len 8 (.t 7)⟩,
        ⟨none, .mov 9 (.c (.int .i64 0))⟩])
     (.drop [7] (.block 0 (.loop c_impl_newOrder_l1))))
    (.drop [7, 8, 9, 10, 11, 4, 12, 13, 14, 15, 16, 17] (.seq (.reg [⟨none, .mov 18 (.t 3)⟩,
        ⟨none, .asg 2 (.t 18)⟩])
     (.drop [18] .ret)))))))
abbrev r_impl_newOrder : List RS := [.t 2]
theorem k_impl_newOrder : fitsF Try.prog f_impl_newOrder 19 c_impl_newOrder r_impl_newOrder = true := by kernel_rfl

/- loop.example/g01078/impl.rises: [list=0, list=1, i=3] -/
def c_impl_rises_l1 : ACode :=
  (.seq (.seq (.reg [⟨none, .mov 4 (.t 3)⟩,
      ⟨none, .mov 5 (.t 0)⟩,
      ⟨none, .len 6 (.t 5)⟩,
      ⟨none, .bin 7 .lss (.t 4) (.t 6)⟩])
   (.drop [4, 5, 6] (.cond (.t 7) .skip
    (.exit 0))))
  (.drop [4, 5, 6, 7] (.seq (.block 1 (.seq (.dreg [(⟨none, .mov 10 (.t 0)⟩, []),
        (⟨none, .mov 11 (.t 3)⟩, [10]),
        (⟨none, .bin 12 .sub (.t 11) (.c (.int .i64 1))⟩, [10]),
        (⟨none, .iad 13 1 (.t 10) (.t 12)⟩, []),
        (⟨none, .ld 14 1 false (.t 13)⟩, []),
        (⟨none, .mov 15 (.t 0)⟩, [10, 11, 12, 13, 14]),
        (⟨none, .mov 16 (.t 3)⟩, [10, 11, 12, 13, 14, 15]),
        (⟨none, .iad 17 1 (.t 15) (.t 16)⟩, [10, 11, 12, 13, 14]),
        (⟨none, .ld 18 1 false (.t 17)⟩, [10, 11, 12, 13, 14])]
       [⟨none, .bin 19 .geq (.t 14) (.t 18)⟩])
     (.drop [10, 11, 12, 13, 14, 15, 16, 17, 18] (.cond (.t 19) (.seq (.reg [⟨none, .asg 2 (.c (.bool false))⟩])
       .ret)
      .skip))))
   (.drop [10, 11, 12, 13, 14, 15, 16, 17, 18, 19] (.reg [⟨none, .mov 8 (.t 3)⟩,
      ⟨none, .bin 9 .add (.t 8) (.c (.int .i64 1))⟩,
      ⟨none, .asg 3 (.t 9)⟩])))))
def c_impl_rises : ACode :=
  (.seq (.reg [⟨none, .asg 2 (.c (.bool false))⟩])
  (.seq (.seq (.reg [⟨none, .asg 3 (.c (.int .i64 1))⟩])
    (.block 0 (.loop c_impl_rises_l1)))
   (.drop [3, 4, 5, 6, 7, 10, 11, 12, 13, 14, 15, 16, 17, 18, 19, 8, 9] (.seq (.reg [⟨none, .asg 2 (.c (.bool true))⟩])
    .ret))))
abbrev r_impl_rises : List RS := [.t 2]
theorem k_impl_rises : fitsF Try.prog f_impl_rises 20 c_impl_rises r_impl_rises = true := by kernel_rfl

/- loop.example/g01078/impl.inSize: [list=0, n=1, list=2, n=3, _=5, x=6] -/
def c_impl_inSize_l1 : ACode :=
  (.seq (.reg [⟨none, .bin 10 .lss (.t 9) (.t 8)⟩])
  (.seq (.cond (.t 10) .skip
    (.exit 0))
   (.seq (.block 1 (.seq (.reg [⟨none, .iad 11 1 (.t 7) (.t 9)⟩,
         ⟨none, .ld 12 1 false (.t 11)⟩,
         ⟨none, .asg 6 (.t 12)⟩])
      (.drop [11, 12] (.seq (.reg [⟨none, .mov 13 (.t 6)⟩,
          ⟨none, .bin 14 .lss (.t 13) (.c (.int .i64 0))⟩,
          ⟨none, .asg 15 (.t 14)⟩,
          ⟨some (15, false), .mov 16 (.t 6)⟩,
          ⟨some (15, false), .mov 17 (.t 1)⟩,
          ⟨some (15, false), .bin 18 .geq (.t 16) (.t 17)⟩,
          ⟨none, .pick 19 (.t 15) (.c (.bool true)) (.t 18)⟩])
       (.drop [13, 14, 15, 16, 17, 18] (.cond (.t 19) (.seq (.reg [⟨none, .asg 4 (.c (.bool false))⟩])
         .ret)
        .skip))))))
    (.drop [11, 12, 6, 13, 14, 15, 16, 17, 18, 19] (.reg [⟨none, .bin 20 .add (.t 9) (.c (.int .i64 1))⟩,
       ⟨none, .asg 9 (.t 20)⟩])))))
def c_impl_inSize : ACode :=
  (.seq (.reg [⟨none, .asg 4 (.c (.bool false))⟩])
  (.seq (.seq (.reg [⟨none, .mov 7 (.t 0)⟩,
       ⟨none, .len 8 (.t 7)⟩,
       ⟨none, .mov 9 (.c (.int .i64 0))⟩])
    (.block 0 (.loop c_impl_inSize_l1)))
   (.drop [7, 8, 9, 10, 11, 12, 6, 13, 14, 15, 16, 17, 18, 19, 20] (.seq (.reg [⟨none, .asg 4 (.c (.bool true))⟩])
    .ret))))
abbrev r_impl_inSize : List RS := [.t 4]
theorem k_impl_inSize : fitsF Try.prog f_impl_inSize 21 c_impl_inSize r_impl_inSize = true := by kernel_rfl

/- (loop.example/g01078/impl.order).isOrder: [o=0, o=1, x=3, y=4, z=5] -/
def c_impl_order_isOrder_k1 : ACode :=
  (.seq (.reg [⟨none, .mov 24 (.t 3)⟩,
           ⟨none, .mov 25 (.t 4)⟩,
           ⟨none, .bin 26 .neq (.t 24) (.t 25)⟩,
           ⟨none, .asg 27 (.t 26)⟩,
           ⟨some (27, true), .mov 28 (.t 0)⟩,
           ⟨some (27, true), .mov 29 (.t 3)⟩,
           ⟨some (27, true), .iad 30 1 (.t 28) (.t 29)⟩,
           ⟨some (27, true), .ld 31 1 false (.t 30)⟩,
           ⟨some (27, true), .mov 32 (.t 4)⟩,
           ⟨some (27, true), .iad 33 1 (.t 31) (.t 32)⟩,
           ⟨some (27, true), .ld 34 1 false (.t 33)⟩,
           ⟨none, .pick 35 (.t 27) (.t 34) (.c (.bool false))⟩,
           ⟨none, .asg 36 (.t 35)⟩,
           ⟨some (36, true), .mov 37 (.t 0)⟩,
           ⟨some (36, true), .mov 38 (.t 4)⟩,
           ⟨some (36, true), .iad 39 1 (.t 37) (.t 38)⟩,
           ⟨some (36, true), .ld 40 1 false (.t 39)⟩,
           ⟨some (36, true), .mov 41 (.t 3)⟩,
           ⟨some (36, true), .iad 42 1 (.t 40) (.t 41)⟩,
           ⟨some (36, true), .ld 43 1 false (.t 42)⟩,
           ⟨none, .pick 44 (.t 36) (.t 43) (.c (.bool false))⟩])
        (.drop [24, 25, 26, 27, 28, 29, 30, 31, 32, 33, 34, 35, 36, 37, 38, 39, 40, 41, 42, 43] (.cond (.t 44) (.seq (.reg [⟨none, .asg 2 (.c (.bool false))⟩])
          .ret)
         .skip)))
def c_impl_order_isOrder_l1 : ACode :=
  (.seq (.reg [⟨none, .bin 48 .lss (.t 47) (.t 46)⟩])
  (.seq (.cond (.t 48) .skip
    (.exit 4))
   (.seq (.block 5 (.seq (.reg [⟨none, .mov 49 (.t 47)⟩,
         ⟨none, .asg 5 (.t 49)⟩])
      (.drop [49] (.seq (.reg [⟨none, .mov 50 (.t 0)⟩,
          ⟨none, .mov 51 (.t 3)⟩,
          ⟨none, .iad 52 1 (.t 50) (.t 51)⟩,
          ⟨none, .ld 53 1 false (.t 52)⟩,
          ⟨none, .mov 54 (.t 4)⟩,
          ⟨none, .iad 55 1 (.t 53) (.t 54)⟩,
          ⟨none, .ld 56 1 false (.t 55)⟩,
          ⟨none, .asg 57 (.t 56)⟩,
          ⟨some (57, true), .mov 58 (.t 0)⟩,
          ⟨some (57, true), .mov 59 (.t 4)⟩,
          ⟨some (57, true), .iad 60 1 (.t 58) (.t 59)⟩,
          ⟨some (57, true), .ld 61 1 false (.t 60)⟩,
          ⟨some (57, true), .mov 62 (.t 5)⟩,
          ⟨some (57, true), .iad 63 1 (.t 61) (.t 62)⟩,
          ⟨some (57, true), .ld 64 1 false (.t 63)⟩,
          ⟨none, .pick 65 (.t 57) (.t 64) (.c (.bool false))⟩,
          ⟨none, .asg 66 (.t 65)⟩,
          ⟨some (66, true), .mov 67 (.t 0)⟩,
          ⟨some (66, true), .mov 68 (.t 3)⟩,
          ⟨some (66, true), .iad 69 1 (.t 67) (.t 68)⟩,
          ⟨some (66, true), .ld 70 1 false (.t 69)⟩,
          ⟨some (66, true), .mov 71 (.t 5)⟩,
          ⟨some (66, true), .iad 72 1 (.t 70) (.t 71)⟩,
          ⟨some (66, true), .ld 73 1 false (.t 72)⟩,
          ⟨some (66, true), .un 74 .not (.t 73)⟩,
          ⟨none, .pick 75 (.t 66) (.t 74) (.c (.bool false))⟩])
       (.drop [50, 51, 52, 53, 54, 55, 56, 57, 58, 59, 60, 61, 62, 63, 64, 65, 66, 67, 68, 69, 70, 71, 72, 73, 74] (.cond (.t 75) (.seq (.reg [⟨none, .asg 2 (.c (.bool false))⟩])
         .ret)
        .skip))))))
    (.drop [49, 5, 50, 51, 52, 53, 54, 55, 56, 57, 58, 59, 60, 61, 62, 63, 64, 65, 66, 67, 68, 69, 70, 71, 72, 73, 74, 75] (.reg [⟨none, .bin 76 .add (.t 47) (.c (.int .i64 1))⟩,
       ⟨none, .asg 47 (.t 76)⟩])))))
def c_impl_order_isOrder_l2 : ACode :=
  (.seq (.reg [⟨none, .bin 22 .lss (.t 21) (.t 20)⟩])
  (.seq (.cond (.t 22) .skip
    (.exit 2))
   (.seq (.block 3 (.seq (.reg [⟨none, .mov 23 (.t 21)⟩,
         ⟨none, .asg 4 (.t 23)⟩])
      (.drop [23] (.seq (.cut c_impl_order_isOrder_k1)
       (.drop [24, 25, 26, 27, 28, 29, 30, 31, 32, 33, 34, 35, 36, 37, 38, 39, 40, 41, 42, 43, 44] (.seq (.reg [⟨none, .mov 45 (.t 0)⟩,
           ⟨none, .len 46 (.t 45)⟩,
           ⟨none, .mov 47 (.c (.int .i64 0))⟩])
        (.drop [45] (.block 4 (.loop c_impl_order_isOrder_l1)))))))))
    (.drop [23, 4, 24, 25, 26, 27, 28, 29, 30, 31, 32, 33, 34, 35, 36, 37, 38, 39, 40, 41, 42, 43, 44, 45, 46, 47, 48, 49, 5, 50, 51, 52, 53, 54, 55, 56, 57, 58, 59, 60, 61, 62, 63, 64, 65, 66, 67, 68, 69, 70, 71, 72, 73, 74, 75, 76] (.reg [⟨none, .bin 77 .add (.t 21) (.c (.int .i64 1))⟩,
       ⟨none, .asg 21 (.t 77)⟩])))))
def c_impl_order_isOrder_l3 : ACode :=
  (.seq (.reg [⟨none, .bin 9 .lss (.t 8) (.t 7)⟩])
  (.seq (.cond (.t 9) .skip
    (.exit 0))
   (.seq (.block 1 (.seq (.reg [⟨none, .mov 10 (.t 8)⟩,
         ⟨none, .asg 3 (.t 10)⟩])
      (.drop [10] (.seq (.seq (.reg [⟨none, .mov 11 (.t 0)⟩,
           ⟨none, .mov 12 (.t 3)⟩,
           ⟨none, .iad 13 1 (.t 11) (.t 12)⟩,
           ⟨none, .ld 14 1 false (.t 13)⟩,
           ⟨none, .mov 15 (.t 3)⟩,
           ⟨none, .iad 16 1 (.t 14) (.t 15)⟩,
           ⟨none, .ld 17 1 false (.t 16)⟩,
           ⟨none, .un 18 .not (.t 17)⟩])
        (.drop [11, 12, 13, 14, 15, 16, 17] (.cond (.t 18) (.seq (.reg [⟨none, .asg 2 (.c (.bool false))⟩])
          .ret)
         .skip)))
       (.drop [11, 12, 13, 14, 15, 16, 17, 18] (.seq (.reg [⟨none, .mov 19 (.t 0)⟩,
           ⟨none, .len 20 (.t 19)⟩,
           ⟨none, .mov 21 (.c (.int .i64 0))⟩])
        (.drop [19] (.block 2 (.loop c_impl_order_isOrder_l2)))))))))
    (.drop [10, 3, 11, 12, 13, 14, 15, 16, 17, 18, 19, 20, 21, 22, 23, 4, 24, 25, 26, 27, 28, 29, 30, 31, 32, 33, 34, 35, 36, 37, 38, 39, 40, 41, 42, 43, 44, 45, 46, 47, 48, 49, 5, 50, 51, 52, 53, 54, 55, 56, 57, 58, 59, 60, 61, 62, 63, 64, 65, 66, 67, 68, 69, 70, 71, 72, 73, 74, 75, 76, 77] (.reg [⟨none, .bin 78 .add (.t 8) (.c (.int .i64 1))⟩,
       ⟨none, .asg 8 (.t 78)⟩])))))
def c_impl_order_isOrder : ACode :=
  (.seq (.reg [⟨none, .asg 2 (.c (.bool false))⟩])
  (.seq (.seq (.reg [⟨none, .mov 6 (.t 0)⟩,
       ⟨none, .len 7 (.t 6)⟩,
       ⟨none, .mov 8 (.c (.int .i64 0))⟩])
    (.drop [6] (.block 0 (.loop c_impl_order_isOrder_l3))))
   (.drop [6, 7, 8, 9, 10, 3, 11, 12, 13, 14, 15, 16, 17, 18, 19, 20, 21, 22, 23, 4, 24, 25, 26, 27, 28, 29, 30, 31, 32, 33, 34, 35, 36, 37, 38, 39, 40, 41, 42, 43, 44, 45, 46, 47, 48, 49, 5, 50, 51, 52, 53, 54, 55, 56, 57, 58, 59, 60, 61, 62, 63, 64, 65, 66, 67, 68, 69, 70, 71, 72, 73, 74, 75, 76, 77, 78] (.seq (.reg [⟨none, .asg 2 (.c (.bool true))⟩])
    .ret))))
abbrev r_impl_order_isOrder : List RS := [.t 2]
theorem k_impl_order_isOrder : fitsF Try.prog f_impl_order_isOrder 79 c_impl_order_isOrder r_impl_order_isOrder = true := by kernel_rfl

/- loop.example/g01078/spec.l23Is: [p=0, x=1, p=2, x=3] -/
def c_spec_l23Is : ACode :=
  (.seq (.reg [⟨none, .box 2 (.t 0)⟩,
     ⟨none, .asg 4 (.c (.bool false))⟩])
  (.seq (.reg [⟨none, .mov 5 (.t 1)⟩,
      ⟨none, .bin 6 .geq (.t 5) (.c (.int .i64 0))⟩,
      ⟨none, .asg 7 (.t 6)⟩,
      ⟨some (7, true), .mov 8 (.t 1)⟩,
      ⟨some (7, true), .fadr 9 0 (.t 2)⟩,
      ⟨some (7, true), .ld 10 1 false (.t 9)⟩,
      ⟨some (7, true), .len 11 (.t 10)⟩,
      ⟨some (7, true), .bin 12 .lss (.t 8) (.t 11)⟩,
      ⟨none, .pick 13 (.t 7) (.t 12) (.c (.bool false))⟩,
      ⟨none, .asg 4 (.t 13)⟩])
   (.drop [5, 6, 7, 8, 9, 10, 11, 12, 13] .ret)))
abbrev r_spec_l23Is : List RS := [.t 4]
theorem k_spec_l23Is : fitsF Try.prog f_spec_l23Is 14 c_spec_l23Is r_spec_l23Is = true := by kernel_rfl

/- loop.example/g01078/spec.l5Bits: [bits=0, bits=1, out=3, x=4] -/
def c_spec_l5Bits_l1 : ACode :=
  (.seq (.seq (.reg [⟨none, .mov 6 (.t 0)⟩,
      ⟨none, .mov 7 (.t 4)⟩,
      ⟨none, .bin 8 .shr (.t 6) (.t 7)⟩,
      ⟨none, .bin 9 .gtr (.t 8) (.c (.int .i64 0))⟩])
   (.drop [6, 7, 8] (.cond (.t 9) .skip
    (.exit 0))))
  (.drop [6, 7, 8, 9] (.seq (.block 1 (.seq (.reg [⟨none, .mov 12 (.t 0)⟩,
        ⟨none, .mov 13 (.t 4)⟩,
        ⟨none, .bin 14 .shr (.t 12) (.t 13)⟩,
        ⟨none, .bin 15 .and (.t 14) (.c (.int .i64 1))⟩,
        ⟨none, .bin 16 .eql (.t 15) (.c (.int .i64 1))⟩])
     (.drop [12, 13, 14, 15] (.cond (.t 16) (.reg [⟨none, .mov 17 (.t 3)⟩,
         ⟨none, .mov 18 (.t 4)⟩,
         ⟨none, .bsl 19 1 [(.t 18)]⟩,
         ⟨none, .app 20 1 (.t 17) (.t 19)⟩,
         ⟨none, .asg 3 (.t 20)⟩])
      .skip))))
   (.drop [12, 13, 14, 15, 16, 17, 18, 19, 20] (.reg [⟨none, .mov 10 (.t 4)⟩,
      ⟨none, .bin 11 .add (.t 10) (.c (.int .i64 1))⟩,
      ⟨none, .asg 4 (.t 11)⟩])))))
def c_spec_l5Bits : ACode :=
  (.seq (.reg [⟨none, .asg 2 (.c (.nilsl 1))⟩])
  (.seq (.reg [⟨none, .bsl 5 1 []⟩,
      ⟨none, .asg 3 (.t 5)⟩])
   (.drop [5] (.seq (.seq (.reg [⟨none, .asg 4 (.c (.int .i64 0))⟩])
     (.block 0 (.loop c_spec_l5Bits_l1)))
    (.drop [4, 6, 7, 8, 9, 12, 13, 14, 15, 16, 17, 18, 19, 20, 10, 11] (.seq (.reg [⟨none, .mov 21 (.t 3)⟩,
        ⟨none, .asg 2 (.t 21)⟩])
     (.drop [21] .ret)))))))
abbrev r_spec_l5Bits : List RS := [.t 2]
theorem k_spec_l5Bits : fitsF Try.prog f_spec_l5Bits 22 c_spec_l5Bits r_spec_l5Bits = true := by kernel_rfl

/- loop.example/g01078/spec.l5Less: [a=0, b=1, a=2, b=3, i=5] -/
def c_spec_l5Less_l1 : ACode :=
  (.seq (.seq (.reg [⟨none, .mov 6 (.t 5)⟩,
      ⟨none, .mov 7 (.t 0)⟩,
      ⟨none, .len 8 (.t 7)⟩,
      ⟨none, .bin 9 .lss (.t 6) (.t 8)⟩])
   (.drop [6, 7, 8] (.cond (.t 9) .skip
    (.exit 0))))
  (.drop [6, 7, 8, 9] (.seq (.block 1 (.seq (.dreg [(⟨none, .mov 12 (.t 0)⟩, []),
        (⟨none, .mov 13 (.t 5)⟩, [12]),
        (⟨none, .iad 14 1 (.t 12) (.t 13)⟩, []),
        (⟨none, .ld 15 1 false (.t 14)⟩, []),
        (⟨none, .mov 16 (.t 1)⟩, [12, 13, 14, 15]),
        (⟨none, .mov 17 (.t 5)⟩, [12, 13, 14, 15, 16]),
        (⟨none, .iad 18 1 (.t 16) (.t 17)⟩, [12, 13, 14, 15]),
        (⟨none, .ld 19 1 false (.t 18)⟩, [12, 13, 14, 15])]
       [⟨none, .bin 20 .neq (.t 15) (.t 19)⟩])
     (.drop [12, 13, 14, 15, 16, 17, 18, 19] (.cond (.t 20) (.seq (.dreg [(⟨none, .mov 21 (.t 0)⟩, []),
          (⟨none, .mov 22 (.t 5)⟩, [21]),
          (⟨none, .iad 23 1 (.t 21) (.t 22)⟩, []),
          (⟨none, .ld 24 1 false (.t 23)⟩, []),
          (⟨none, .mov 25 (.t 1)⟩, [21, 22, 23, 24]),
          (⟨none, .mov 26 (.t 5)⟩, [21, 22, 23, 24, 25]),
          (⟨none, .iad 27 1 (.t 25) (.t 26)⟩, [21, 22, 23, 24]),
          (⟨none, .ld 28 1 false (.t 27)⟩, [21, 22, 23, 24])]
         [⟨none, .bin 29 .lss (.t 24) (.t 28)⟩,
          ⟨none, .asg 4 (.t 29)⟩])
       (.drop [21, 22, 23, 24, 25, 26, 27, 28, 29] .ret))
      .skip))))
   (.drop [12, 13, 14, 15, 16, 17, 18, 19, 20, 21, 22, 23, 24, 25, 26, 27, 28, 29] (.reg [⟨none, .mov 10 (.t 5)⟩,
      ⟨none, .bin 11 .add (.t 10) (.c (.int .i64 1))⟩,
      ⟨none, .asg 5 (.t 11)⟩])))))
def c_spec_l5Less : ACode :=
  (.seq (.reg [⟨none, .asg 4 (.c (.bool false))⟩])
  (.seq (.seq (.reg [⟨none, .asg 5 (.c (.int .i64 0))⟩])
    (.block 0 (.loop c_spec_l5Less_l1)))
   (.drop [5, 6, 7, 8, 9, 12, 13, 14, 15, 16, 17, 18, 19, 20, 21, 22, 23, 24, 25, 26, 27, 28, 29, 10, 11] (.seq (.reg [⟨none, .asg 4 (.c (.bool false))⟩])
    .ret))))
abbrev r_spec_l5Less : List RS := [.t 4]
theorem k_spec_l5Less : fitsF Try.prog f_spec_l5Less 30 c_spec_l5Less r_spec_l5Less = true := by kernel_rfl

/- loop.example/g01078/spec.l1In: [x=0, a=1, b=2, x=3, a=4, b=5] -/
def c_spec_l1In : ACode :=
  (.seq (.reg [⟨none, .asg 6 (.c (.bool false))⟩])
  (.seq (.reg [⟨none, .mov 7 (.t 0)⟩,
      ⟨none, .mov 8 (.t 1)⟩,
      ⟨none, .bin 9 .geq (.t 7) (.t 8)⟩,
      ⟨none, .asg 10 (.t 9)⟩,
      ⟨some (10, true), .mov 11 (.t 0)⟩,
      ⟨some (10, true), .mov 12 (.t 2)⟩,
      ⟨some (10, true), .bin 13 .leq (.t 11) (.t 12)⟩,
      ⟨none, .pick 14 (.t 10) (.t 13) (.c (.bool false))⟩,
      ⟨none, .asg 6 (.t 14)⟩])
   (.drop [7, 8, 9, 10, 11, 12, 13, 14] .ret)))
abbrev r_spec_l1In : List RS := [.t 6]
theorem k_spec_l1In : fitsF Try.prog f_spec_l1In 15 c_spec_l1In r_spec_l1In = true := by kernel_rfl

/- loop.example/g01078/spec.l2Args: [n=0, arity=1, at=2, n=3, arity=4, at=5, out=7, i=8] -/
def c_spec_l2Args_l1 : ACode :=
  (.seq (.seq (.reg [⟨none, .mov 13 (.t 8)⟩,
      ⟨none, .bin 14 .geq (.t 13) (.c (.int .i64 0))⟩])
   (.drop [13] (.cond (.t 14) .skip
    (.exit 0))))
  (.drop [13, 14] (.seq (.block 1 (.seq (.reg [⟨none, .mov 17 (.t 7)⟩,
        ⟨none, .mov 18 (.t 8)⟩,
        ⟨none, .mov 19 (.t 2)⟩,
        ⟨none, .mov 20 (.t 0)⟩,
        ⟨none, .bin 21 .rem (.t 19) (.t 20)⟩,
        ⟨none, .iad 22 1 (.t 17) (.t 18)⟩,
        ⟨none, .st 1 (.t 22) (.t 21)⟩])
     (.drop [17, 18, 19, 20, 21, 22] (.reg [⟨none, .mov 23 (.t 2)⟩,
        ⟨none, .mov 24 (.t 0)⟩,
        ⟨none, .bin 25 .quo (.t 23) (.t 24)⟩,
        ⟨none, .asg 2 (.t 25)⟩]))))
   (.drop [17, 18, 19, 20, 21, 22, 23, 24, 25] (.reg [⟨none, .mov 15 (.t 8)⟩,
      ⟨none, .bin 16 .sub (.t 15) (.c (.int .i64 1))⟩,
      ⟨none, .asg 8 (.t 16)⟩])))))
def c_spec_l2Args : ACode :=
  (.seq (.reg [⟨none, .asg 6 (.c (.nilsl 1))⟩])
  (.seq (.reg [⟨none, .mov 9 (.t 1)⟩,
      ⟨none, .mk 10 1 (.int .i64 0) (.t 9)⟩,
      ⟨none, .asg 7 (.t 10)⟩])
   (.drop [9, 10] (.seq (.seq (.reg [⟨none, .mov 11 (.t 1)⟩,
        ⟨none, .bin 12 .sub (.t 11) (.c (.int .i64 1))⟩,
        ⟨none, .asg 8 (.t 12)⟩])
     (.drop [11, 12] (.block 0 (.loop c_spec_l2Args_l1))))
    (.drop [11, 12, 8, 13, 14, 17, 18, 19, 20, 21, 22, 23, 24, 25, 15, 16] (.seq (.reg [⟨none, .mov 26 (.t 7)⟩,
        ⟨none, .asg 6 (.t 26)⟩])
     (.drop [26] .ret)))))))
abbrev r_spec_l2Args : List RS := [.t 6]
theorem k_spec_l2Args : fitsF Try.prog f_spec_l2Args 27 c_spec_l2Args r_spec_l2Args = true := by kernel_rfl

/- loop.example/g01078/impl.argsAt: [i=0, k=1, n=2, i=3, k=4, n=5, args=7, j=8] -/
def c_impl_argsAt_l1 : ACode :=
  (.seq (.seq (.reg [⟨none, .mov 13 (.t 8)⟩,
      ⟨none, .bin 14 .geq (.t 13) (.c (.int .i64 0))⟩])
   (.drop [13] (.cond (.t 14) .skip
    (.exit 0))))
  (.drop [13, 14] (.seq (.block 1 (.seq (.reg [⟨none, .mov 17 (.t 7)⟩,
        ⟨none, .mov 18 (.t 8)⟩,
        ⟨none, .mov 19 (.t 0)⟩,
        ⟨none, .mov 20 (.t 2)⟩,
        ⟨none, .bin 21 .rem (.t 19) (.t 20)⟩,
        ⟨none, .iad 22 1 (.t 17) (.t 18)⟩,
        ⟨none, .st 1 (.t 22) (.t 21)⟩])
     (.drop [17, 18, 19, 20, 21, 22] (.reg [⟨none, .mov 23 (.t 0)⟩,
        ⟨none, .mov 24 (.t 2)⟩,
        ⟨none, .bin 25 .quo (.t 23) (.t 24)⟩,
        ⟨none, .asg 0 (.t 25)⟩]))))
   (.drop [17, 18, 19, 20, 21, 22, 23, 24, 25] (.reg [⟨none, .mov 15 (.t 8)⟩,
      ⟨none, .bin 16 .sub (.t 15) (.c (.int .i64 1))⟩,
      ⟨none, .asg 8 (.t 16)⟩])))))
def c_impl_argsAt : ACode :=
  (.seq (.reg [⟨none, .asg 6 (.c (.nilsl 1))⟩])
  (.seq (.reg [⟨none, .mov 9 (.t 1)⟩,
      ⟨none, .mk 10 1 (.int .i64 0) (.t 9)⟩,
      ⟨none, .asg 7 (.t 10)⟩])
   (.drop [9, 10] (.seq (.seq (.reg [⟨none, .mov 11 (.t 1)⟩,
        ⟨none, .bin 12 .sub (.t 11) (.c (.int .i64 1))⟩,
        ⟨none, .asg 8 (.t 12)⟩])
     (.drop [11, 12] (.block 0 (.loop c_impl_argsAt_l1))))
    (.drop [11, 12, 8, 13, 14, 17, 18, 19, 20, 21, 22, 23, 24, 25, 15, 16] (.seq (.reg [⟨none, .mov 26 (.t 7)⟩,
        ⟨none, .asg 6 (.t 26)⟩])
     (.drop [26] .ret)))))))
abbrev r_impl_argsAt : List RS := [.t 6]
theorem k_impl_argsAt : fitsF Try.prog f_impl_argsAt 27 c_impl_argsAt r_impl_argsAt = true := by kernel_rfl

/- loop.example/g01078/impl.indexOf: [args=0, n=1, args=2, n=3, i=5, _=6, x=7] -/
def c_impl_indexOf_l1 : ACode :=
  (.seq (.reg [⟨none, .bin 11 .lss (.t 10) (.t 9)⟩])
  (.seq (.cond (.t 11) .skip
    (.exit 0))
   (.seq (.block 1 (.seq (.reg [⟨none, .iad 12 1 (.t 8) (.t 10)⟩,
         ⟨none, .ld 13 1 false (.t 12)⟩,
         ⟨none, .asg 7 (.t 13)⟩])
      (.drop [12, 13] (.reg [⟨none, .mov 14 (.t 5)⟩,
         ⟨none, .mov 15 (.t 1)⟩,
         ⟨none, .bin 16 .mul (.t 14) (.t 15)⟩,
         ⟨none, .mov 17 (.t 7)⟩,
         ⟨none, .bin 18 .add (.t 16) (.t 17)⟩,
         ⟨none, .asg 5 (.t 18)⟩]))))
    (.drop [12, 13, 7, 14, 15, 16, 17, 18] (.reg [⟨none, .bin 19 .add (.t 10) (.c (.int .i64 1))⟩,
       ⟨none, .asg 10 (.t 19)⟩])))))
def c_impl_indexOf : ACode :=
  (.seq (.reg [⟨none, .asg 4 (.c (.int .i64 0))⟩])
  (.seq (.reg [⟨none, .asg 5 (.c (.int .i64 0))⟩])
   (.seq (.seq (.reg [⟨none, .mov 8 (.t 0)⟩,
        ⟨none, .len 9 (.t 8)⟩,
        ⟨none, .mov 10 (.c (.int .i64 0))⟩])
     (.block 0 (.loop c_impl_indexOf_l1)))
    (.drop [8, 9, 10, 11, 12, 13, 7, 14, 15, 16, 17, 18, 19] (.seq (.reg [⟨none, .mov 20 (.t 5)⟩,
        ⟨none, .asg 4 (.t 20)⟩])
     (.drop [20] .ret))))))
abbrev r_impl_indexOf : List RS := [.t 4]
theorem k_impl_indexOf : fitsF Try.prog f_impl_indexOf 21 c_impl_indexOf r_impl_indexOf = true := by kernel_rfl

/- (loop.example/g01078/impl.order).interval$1: [z=0, z=4] -/
def c_impl_order_interval_1 : ACode :=
  (.seq (.reg [⟨none, .asg 5 (.c (.bool false))⟩])
  (.seq (.dreg [(⟨none, .ld 6 1 false (.t 1)⟩, []),
      (⟨none, .ld 7 1 false (.t 2)⟩, [6]),
      (⟨none, .iad 8 1 (.t 6) (.t 7)⟩, []),
      (⟨none, .ld 9 1 false (.t 8)⟩, []),
      (⟨none, .mov 10 (.t 0)⟩, [6, 7, 8, 9]),
      (⟨none, .iad 11 1 (.t 9) (.t 10)⟩, []),
      (⟨none, .ld 12 1 false (.t 11)⟩, []),
      (⟨none, .asg 13 (.t 12)⟩, []),
      (⟨some (13, true), .ld 14 1 false (.t 1)⟩, []),
      (⟨some (13, true), .mov 15 (.t 0)⟩, [14]),
      (⟨some (13, true), .iad 16 1 (.t 14) (.t 15)⟩, []),
      (⟨some (13, true), .ld 17 1 false (.t 16)⟩, []),
      (⟨some (13, true), .ld 18 1 false (.t 3)⟩, [14, 15, 16, 17])]
     [⟨some (13, true), .iad 19 1 (.t 17) (.t 18)⟩,
      ⟨some (13, true), .ld 20 1 false (.t 19)⟩,
      ⟨none, .pick 21 (.t 13) (.t 20) (.c (.bool false))⟩,
      ⟨none, .asg 5 (.t 21)⟩])
   (.drop [6, 7, 8, 9, 10, 11, 12, 13, 14, 15, 16, 17, 18, 19, 20, 21] .ret)))
abbrev r_impl_order_interval_1 : List RS := [.t 5]
theorem k_impl_order_interval_1 : fitsF Try.prog f_impl_order_interval_1 22 c_impl_order_interval_1 r_impl_order_interval_1 = true := by kernel_rfl

/- (loop.example/g01078/impl.order).greatest: [o=0, list=1, o=2, list=3, _=5, x=6, top=7, _=8, y=9] -/
def c_impl_order_greatest_l1 : ACode :=
  (.seq (.reg [⟨none, .bin 19 .lss (.t 18) (.t 17)⟩])
  (.seq (.cond (.t 19) .skip
    (.exit 2))
   (.seq (.block 3 (.seq (.reg [⟨none, .iad 20 1 (.t 16) (.t 18)⟩,
         ⟨none, .ld 21 1 false (.t 20)⟩,
         ⟨none, .asg 9 (.t 21)⟩])
      (.drop [20, 21] (.reg [⟨none, .mov 22 (.t 7)⟩,
         ⟨none, .asg 23 (.t 22)⟩,
         ⟨some (23, true), .mov 24 (.t 0)⟩,
         ⟨some (23, true), .mov 25 (.t 9)⟩,
         ⟨some (23, true), .iad 26 1 (.t 24) (.t 25)⟩,
         ⟨some (23, true), .ld 27 1 false (.t 26)⟩,
         ⟨some (23, true), .mov 28 (.t 6)⟩,
         ⟨some (23, true), .iad 29 1 (.t 27) (.t 28)⟩,
         ⟨some (23, true), .ld 30 1 false (.t 29)⟩,
         ⟨none, .pick 31 (.t 23) (.t 30) (.c (.bool false))⟩,
         ⟨none, .asg 7 (.t 31)⟩]))))
    (.drop [20, 21, 9, 22, 23, 24, 25, 26, 27, 28, 29, 30, 31] (.reg [⟨none, .bin 32 .add (.t 18) (.c (.int .i64 1))⟩,
       ⟨none, .asg 18 (.t 32)⟩])))))
def c_impl_order_greatest_l2 : ACode :=
  (.seq (.reg [⟨none, .bin 13 .lss (.t 12) (.t 11)⟩])
  (.seq (.cond (.t 13) .skip
    (.exit 0))
   (.seq (.block 1 (.seq (.reg [⟨none, .iad 14 1 (.t 10) (.t 12)⟩,
         ⟨none, .ld 15 1 false (.t 14)⟩,
         ⟨none, .asg 6 (.t 15)⟩])
      (.drop [14, 15] (.seq (.reg [⟨none, .asg 7 (.c (.bool true))⟩])
       (.seq (.seq (.reg [⟨none, .mov 16 (.t 1)⟩,
            ⟨none, .len 17 (.t 16)⟩,
            ⟨none, .mov 18 (.c (.int .i64 0))⟩])
         (.block 2 (.loop c_impl_order_greatest_l1)))
        (.drop [16, 17, 18, 19, 20, 21, 9, 22, 23, 24, 25, 26, 27, 28, 29, 30, 31, 32] (.seq (.reg [⟨none, .mov 33 (.t 7)⟩])
         (.cond (.t 33) (.seq (.reg [⟨none, .mov 34 (.t 6)⟩,
              ⟨none, .asg 4 (.t 34)⟩])
           (.drop [34] .ret))
          .skip))))))))
    (.drop [14, 15, 6, 7, 16, 17, 18, 19, 20, 21, 9, 22, 23, 24, 25, 26, 27, 28, 29, 30, 31, 32, 33, 34] (.reg [⟨none, .bin 35 .add (.t 12) (.c (.int .i64 1))⟩,
       ⟨none, .asg 12 (.t 35)⟩])))))
def c_impl_order_greatest : ACode :=
  (.seq (.reg [⟨none, .asg 4 (.c (.int .i64 0))⟩])
  (.seq (.seq (.reg [⟨none, .mov 10 (.t 1)⟩,
       ⟨none, .len 11 (.t 10)⟩,
       ⟨none, .mov 12 (.c (.int .i64 0))⟩])
    (.block 0 (.loop c_impl_order_greatest_l2)))
   (.drop [10, 11, 12, 13, 14, 15, 6, 7, 16, 17, 18, 19, 20, 21, 9, 22, 23, 24, 25, 26, 27, 28, 29, 30, 31, 32, 33, 34, 35] (.seq (.reg [⟨none, .asg 4 (.c (.int .i64 (-1)))⟩])
    .ret))))
abbrev r_impl_order_greatest : List RS := [.t 4]
theorem k_impl_order_greatest : fitsF Try.prog f_impl_order_greatest 36 c_impl_order_greatest r_impl_order_greatest = true := by kernel_rfl

/- (loop.example/g01078/impl.order).meetTable$1: [z=0, z=4] -/
def c_impl_order_meetTable_1 : ACode :=
  (.seq (.reg [⟨none, .asg 5 (.c (.bool false))⟩])
  (.seq (.dreg [(⟨none, .ld 6 1 false (.t 1)⟩, []),
      (⟨none, .mov 7 (.t 0)⟩, [6]),
      (⟨none, .iad 8 1 (.t 6) (.t 7)⟩, []),
      (⟨none, .ld 9 1 false (.t 8)⟩, []),
      (⟨none, .ld 10 1 false (.t 2)⟩, [6, 7, 8, 9]),
      (⟨none, .iad 11 1 (.t 9) (.t 10)⟩, []),
      (⟨none, .ld 12 1 false (.t 11)⟩, []),
      (⟨none, .asg 13 (.t 12)⟩, []),
      (⟨some (13, true), .ld 14 1 false (.t 1)⟩, []),
      (⟨some (13, true), .mov 15 (.t 0)⟩, [14]),
      (⟨some (13, true), .iad 16 1 (.t 14) (.t 15)⟩, []),
      (⟨some (13, true), .ld 17 1 false (.t 16)⟩, []),
      (⟨some (13, true), .ld 18 1 false (.t 3)⟩, [14, 15, 16, 17])]
     [⟨some (13, true), .iad 19 1 (.t 17) (.t 18)⟩,
      ⟨some (13, true), .ld 20 1 false (.t 19)⟩,
      ⟨none, .pick 21 (.t 13) (.t 20) (.c (.bool false))⟩,
      ⟨none, .asg 5 (.t 21)⟩])
   (.drop [6, 7, 8, 9, 10, 11, 12, 13, 14, 15, 16, 17, 18, 19, 20, 21] .ret)))
abbrev r_impl_order_meetTable_1 : List RS := [.t 5]
theorem k_impl_order_meetTable_1 : fitsF Try.prog f_impl_order_meetTable_1 22 c_impl_order_meetTable_1 r_impl_order_meetTable_1 = true := by kernel_rfl

/- loop.example/g01078/spec.l2Pow: [n=0, k=1, n=2, k=3, out=5] -/
def c_spec_l2Pow_l1 : ACode :=
  (.seq (.seq (.reg [⟨none, .mov 6 (.t 1)⟩,
      ⟨none, .bin 7 .gtr (.t 6) (.c (.int .i64 0))⟩])
   (.drop [6] (.cond (.t 7) .skip
    (.exit 0))))
  (.drop [6, 7] (.seq (.block 1 (.reg [⟨none, .mov 10 (.t 5)⟩,
       ⟨none, .mov 11 (.t 0)⟩,
       ⟨none, .bin 12 .mul (.t 10) (.t 11)⟩,
       ⟨none, .asg 5 (.t 12)⟩]))
   (.drop [10, 11, 12] (.reg [⟨none, .mov 8 (.t 1)⟩,
      ⟨none, .bin 9 .sub (.t 8) (.c (.int .i64 1))⟩,
      ⟨none, .asg 1 (.t 9)⟩])))))
def c_spec_l2Pow : ACode :=
  (.seq (.reg [⟨none, .asg 4 (.c (.int .i64 0))⟩])
  (.seq (.reg [⟨none, .asg 5 (.c (.int .i64 1))⟩])
   (.seq (.block 0 (.loop c_spec_l2Pow_l1))
    (.drop [6, 7, 10, 11, 12, 8, 9] (.seq (.reg [⟨none, .mov 13 (.t 5)⟩,
        ⟨none, .asg 4 (.t 13)⟩])
     (.drop [13] .ret))))))
abbrev r_spec_l2Pow : List RS := [.t 4]
theorem k_spec_l2Pow : fitsF Try.prog f_spec_l2Pow 14 c_spec_l2Pow r_spec_l2Pow = true := by kernel_rfl

/- loop.example/g01078/impl.power: [n=0, k=1, n=2, k=3, p=5] -/
def c_impl_power_l1 : ACode :=
  (.seq (.seq (.reg [⟨none, .mov 6 (.t 1)⟩,
      ⟨none, .bin 7 .gtr (.t 6) (.c (.int .i64 0))⟩])
   (.drop [6] (.cond (.t 7) .skip
    (.exit 0))))
  (.drop [6, 7] (.seq (.block 1 (.reg [⟨none, .mov 10 (.t 5)⟩,
       ⟨none, .mov 11 (.t 0)⟩,
       ⟨none, .bin 12 .mul (.t 10) (.t 11)⟩,
       ⟨none, .asg 5 (.t 12)⟩]))
   (.drop [10, 11, 12] (.reg [⟨none, .mov 8 (.t 1)⟩,
      ⟨none, .bin 9 .sub (.t 8) (.c (.int .i64 1))⟩,
      ⟨none, .asg 1 (.t 9)⟩])))))
def c_impl_power : ACode :=
  (.seq (.reg [⟨none, .asg 4 (.c (.int .i64 0))⟩])
  (.seq (.reg [⟨none, .asg 5 (.c (.int .i64 1))⟩])
   (.seq (.block 0 (.loop c_impl_power_l1))
    (.drop [6, 7, 10, 11, 12, 8, 9] (.seq (.reg [⟨none, .mov 13 (.t 5)⟩,
        ⟨none, .asg 4 (.t 13)⟩])
     (.drop [13] .ret))))))
abbrev r_impl_power : List RS := [.t 4]
theorem k_impl_power : fitsF Try.prog f_impl_power 14 c_impl_power r_impl_power = true := by kernel_rfl

/- loop.example/g01078/impl.widthOf$1: [i=0, i=6, k=8] -/
def c_impl_widthOf_1_k1 : ACode :=
  (.seq (.reg [⟨none, .ld 14 1 false (.t 2)⟩,
         ⟨none, .mov 15 (.t 8)⟩,
         ⟨none, .iad 16 1 (.t 14) (.t 15)⟩,
         ⟨none, .ld 17 1 false (.t 16)⟩,
         ⟨none, .asg 18 (.t 17)⟩,
         ⟨some (18, false), .ld 19 1 false (.t 3)⟩,
         ⟨some (18, false), .mov 20 (.t 0)⟩,
         ⟨some (18, false), .mov 21 (.t 8)⟩,
         ⟨some (18, false), .cally 22 (.t 19) [(.t 20), (.t 21)]⟩,
         ⟨some (18, false), .un 23 .not (.t 22)⟩,
         ⟨none, .pick 24 (.t 18) (.c (.bool true)) (.t 23)⟩])
      (.drop [14, 15, 16, 17, 18, 19, 20, 21, 22, 23] (.cond (.t 24) (.exit 1)
       .skip)))
def c_impl_widthOf_1_l1 : ACode :=
  (.seq (.seq (.reg [⟨none, .mov 9 (.t 8)⟩,
      ⟨none, .ld 10 1 false (.t 1)⟩,
      ⟨none, .bin 11 .lss (.t 9) (.t 10)⟩])
   (.drop [9, 10] (.cond (.t 11) .skip
    (.exit 0))))
  (.drop [9, 10, 11] (.seq (.block 1 (.seq (.cut c_impl_widthOf_1_k1)
     (.drop [14, 15, 16, 17, 18, 19, 20, 21, 22, 23, 24] (.seq (.reg [⟨none, .ld 25 1 false (.t 2)⟩,
         ⟨none, .mov 26 (.t 8)⟩,
         ⟨none, .iad 27 1 (.t 25) (.t 26)⟩,
         ⟨none, .st 1 (.t 27) (.c (.bool true))⟩])
      (.drop [25, 26, 27] (.seq (.dreg [(⟨none, .ld 28 1 false (.t 4)⟩, []),
          (⟨none, .mov 29 (.t 8)⟩, [28]),
          (⟨none, .iad 30 1 (.t 28) (.t 29)⟩, []),
          (⟨none, .ld 31 1 false (.t 30)⟩, []),
          (⟨none, .bin 32 .lss (.t 31) (.c (.int .i64 0))⟩, []),
          (⟨none, .asg 33 (.t 32)⟩, []),
          (⟨some (33, false), .ld 34 1 false (.t 5)⟩, []),
          (⟨some (33, false), .ld 35 1 false (.t 4)⟩, [34]),
          (⟨some (33, false), .mov 36 (.t 8)⟩, [34, 35]),
          (⟨some (33, false), .iad 37 1 (.t 35) (.t 36)⟩, [34]),
          (⟨some (33, false), .ld 38 1 false (.t 37)⟩, [34])]
         [⟨some (33, false), .cally 39 (.t 34) [(.t 38)]⟩,
          ⟨none, .pick 40 (.t 33) (.c (.bool true)) (.t 39)⟩])
       (.drop [28, 29, 30, 31, 32, 33, 34, 35, 36, 37, 38, 39] (.cond (.t 40) (.seq (.reg [⟨none, .ld 41 1 false (.t 4)⟩,
            ⟨none, .mov 42 (.t 8)⟩,
            ⟨none, .mov 43 (.t 0)⟩,
            ⟨none, .iad 44 1 (.t 41) (.t 42)⟩,
            ⟨none, .st 1 (.t 44) (.t 43)⟩])
         (.drop [41, 42, 43, 44] (.seq (.reg [⟨none, .asg 7 (.c (.bool true))⟩])
          .ret)))
        .skip))))))))
   (.drop [14, 15, 16, 17, 18, 19, 20, 21, 22, 23, 24, 25, 26, 27, 28, 29, 30, 31, 32, 33, 34, 35, 36, 37, 38, 39, 40, 41, 42, 43, 44] (.reg [⟨none, .mov 12 (.t 8)⟩,
      ⟨none, .bin 13 .add (.t 12) (.c (.int .i64 1))⟩,
      ⟨none, .asg 8 (.t 13)⟩])))))
def c_impl_widthOf_1 : ACode :=
  (.seq (.reg [⟨none, .asg 7 (.c (.bool false))⟩])
  (.seq (.seq (.reg [⟨none, .asg 8 (.c (.int .i64 0))⟩])
    (.block 0 (.loop c_impl_widthOf_1_l1)))
   (.drop [8, 9, 10, 11, 14, 15, 16, 17, 18, 19, 20, 21, 22, 23, 24, 25, 26, 27, 28, 29, 30, 31, 32, 33, 34, 35, 36, 37, 38, 39, 40, 41, 42, 43, 44, 12, 13] (.seq (.reg [⟨none, .asg 7 (.c (.bool false))⟩])
    .ret))))
abbrev r_impl_widthOf_1 : List RS := [.t 7]
theorem k_impl_widthOf_1 : fitsF Try.prog f_impl_widthOf_1 45 c_impl_widthOf_1 r_impl_widthOf_1 = true := by kernel_rfl

/- loop.example/g01078/impl.clone: [list=0, list=1] -/
def c_impl_clone : ACode :=
  (.seq (.reg [⟨none, .asg 2 (.c (.nilsl 1))⟩])
  (.seq (.reg [⟨none, .bsl 3 1 []⟩,
      ⟨none, .mov 4 (.t 0)⟩,
      ⟨none, .app 5 1 (.t 3) (.t 4)⟩,
      ⟨none, .asg 2 (.t 5)⟩])
   (.drop [3, 4, 5] .ret)))
abbrev r_impl_clone : List RS := [.t 2]
theorem k_impl_clone : fitsF Try.prog f_impl_clone 6 c_impl_clone r_impl_clone = true := by kernel_rfl

/- loop.example/g01078/laws.eqIntA2S: [a=0, b=1, a=2, b=3, i=5] -/
def c_laws_eqIntA2S_l1 : ACode :=
  (.seq (.seq (.reg [⟨none, .mov 11 (.t 5)⟩,
      ⟨none, .mov 12 (.t 0)⟩,
      ⟨none, .len 13 (.t 12)⟩,
      ⟨none, .bin 14 .lss (.t 11) (.t 13)⟩])
   (.drop [11, 12, 13] (.cond (.t 14) .skip
    (.exit 0))))
  (.drop [11, 12, 13, 14] (.seq (.block 1 (.seq (.dreg [(⟨none, .mov 17 (.t 0)⟩, []),
        (⟨none, .mov 18 (.t 5)⟩, [17]),
        (⟨none, .iad 19 2 (.t 17) (.t 18)⟩, []),
        (⟨none, .ld 20 2 true (.t 19)⟩, []),
        (⟨none, .mov 21 (.t 1)⟩, [17, 18, 19, 20]),
        (⟨none, .mov 22 (.t 5)⟩, [17, 18, 19, 20, 21]),
        (⟨none, .iad 23 2 (.t 21) (.t 22)⟩, [17, 18, 19, 20]),
        (⟨none, .ld 24 2 true (.t 23)⟩, [17, 18, 19, 20])]
       [⟨none, .call 25 f_laws_eqIntA2 [((.t 20), false), ((.t 24), false)]⟩,
        ⟨none, .un 26 .not (.t 25)⟩])
     (.drop [17, 18, 19, 20, 21, 22, 23, 24, 25] (.cond (.t 26) (.seq (.reg [⟨none, .asg 4 (.c (.bool false))⟩])
       .ret)
      .skip))))
   (.drop [17, 18, 19, 20, 21, 22, 23, 24, 25, 26] (.reg [⟨none, .mov 15 (.t 5)⟩,
      ⟨none, .bin 16 .add (.t 15) (.c (.int .i64 1))⟩,
      ⟨none, .asg 5 (.t 16)⟩])))))
def c_laws_eqIntA2S : ACode :=
  (.seq (.reg [⟨none, .asg 4 (.c (.bool false))⟩])
  (.seq (.seq (.reg [⟨none, .mov 6 (.t 0)⟩,
       ⟨none, .len 7 (.t 6)⟩,
       ⟨none, .mov 8 (.t 1)⟩,
       ⟨none, .len 9 (.t 8)⟩,
       ⟨none, .bin 10 .neq (.t 7) (.t 9)⟩])
    (.drop [6, 7, 8, 9] (.cond (.t 10) (.seq (.reg [⟨none, .asg 4 (.c (.bool false))⟩])
      .ret)
     .skip)))
   (.drop [6, 7, 8, 9, 10] (.seq (.seq (.reg [⟨none, .asg 5 (.c (.int .i64 0))⟩])
     (.block 0 (.loop c_laws_eqIntA2S_l1)))
    (.drop [5, 11, 12, 13, 14, 17, 18, 19, 20, 21, 22, 23, 24, 25, 26, 15, 16] (.seq (.reg [⟨none, .asg 4 (.c (.bool true))⟩])
     .ret))))))
abbrev r_laws_eqIntA2S : List RS := [.t 4]
theorem k_laws_eqIntA2S : fitsF Try.prog f_laws_eqIntA2S 27 c_laws_eqIntA2S r_laws_eqIntA2S = true := by kernel_rfl

/- loop.example/g01078/laws.eqIntSS: [a=0, b=1, a=2, b=3, i=5] -/
def c_laws_eqIntSS_l1 : ACode :=
  (.seq (.seq (.reg [⟨none, .mov 11 (.t 5)⟩,
      ⟨none, .mov 12 (.t 0)⟩,
      ⟨none, .len 13 (.t 12)⟩,
      ⟨none, .bin 14 .lss (.t 11) (.t 13)⟩])
   (.drop [11, 12, 13] (.cond (.t 14) .skip
    (.exit 0))))
  (.drop [11, 12, 13, 14] (.seq (.block 1 (.seq (.dreg [(⟨none, .mov 17 (.t 0)⟩, []),
        (⟨none, .mov 18 (.t 5)⟩, [17]),
        (⟨none, .iad 19 1 (.t 17) (.t 18)⟩, []),
        (⟨none, .ld 20 1 false (.t 19)⟩, []),
        (⟨none, .mov 21 (.t 1)⟩, [17, 18, 19, 20]),
        (⟨none, .mov 22 (.t 5)⟩, [17, 18, 19, 20, 21]),
        (⟨none, .iad 23 1 (.t 21) (.t 22)⟩, [17, 18, 19, 20]),
        (⟨none, .ld 24 1 false (.t 23)⟩, [17, 18, 19, 20])]
       [⟨none, .call 25 f_laws_eqIntS [((.t 20), false), ((.t 24), false)]⟩,
        ⟨none, .un 26 .not (.t 25)⟩])
     (.drop [17, 18, 19, 20, 21, 22, 23, 24, 25] (.cond (.t 26) (.seq (.reg [⟨none, .asg 4 (.c (.bool false))⟩])
       .ret)
      .skip))))
   (.drop [17, 18, 19, 20, 21, 22, 23, 24, 25, 26] (.reg [⟨none, .mov 15 (.t 5)⟩,
      ⟨none, .bin 16 .add (.t 15) (.c (.int .i64 1))⟩,
      ⟨none, .asg 5 (.t 16)⟩])))))
def c_laws_eqIntSS : ACode :=
  (.seq (.reg [⟨none, .asg 4 (.c (.bool false))⟩])
  (.seq (.seq (.reg [⟨none, .mov 6 (.t 0)⟩,
       ⟨none, .len 7 (.t 6)⟩,
       ⟨none, .mov 8 (.t 1)⟩,
       ⟨none, .len 9 (.t 8)⟩,
       ⟨none, .bin 10 .neq (.t 7) (.t 9)⟩])
    (.drop [6, 7, 8, 9] (.cond (.t 10) (.seq (.reg [⟨none, .asg 4 (.c (.bool false))⟩])
      .ret)
     .skip)))
   (.drop [6, 7, 8, 9, 10] (.seq (.seq (.reg [⟨none, .asg 5 (.c (.int .i64 0))⟩])
     (.block 0 (.loop c_laws_eqIntSS_l1)))
    (.drop [5, 11, 12, 13, 14, 17, 18, 19, 20, 21, 22, 23, 24, 25, 26, 15, 16] (.seq (.reg [⟨none, .asg 4 (.c (.bool true))⟩])
     .ret))))))
abbrev r_laws_eqIntSS : List RS := [.t 4]
theorem k_laws_eqIntSS : fitsF Try.prog f_laws_eqIntSS 27 c_laws_eqIntSS r_laws_eqIntSS = true := by kernel_rfl

/- loop.example/g01078/laws.markIntSS: [a=0, k=1, a=2, k=3, i=5] -/
def c_laws_markIntSS_l1 : ACode :=
  (.seq (.seq (.reg [⟨none, .mov 6 (.t 5)⟩,
      ⟨none, .mov 7 (.t 0)⟩,
      ⟨none, .len 8 (.t 7)⟩,
      ⟨none, .bin 9 .lss (.t 6) (.t 8)⟩])
   (.drop [6, 7, 8] (.cond (.t 9) .skip
    (.exit 0))))
  (.drop [6, 7, 8, 9] (.seq (.block 1 (.reg [⟨none, .mov 12 (.t 0)⟩,
       ⟨none, .mov 13 (.t 5)⟩,
       ⟨none, .iad 14 1 (.t 12) (.t 13)⟩,
       ⟨none, .ld 15 1 false (.t 14)⟩,
       ⟨none, .mov 16 (.t 1)⟩,
       ⟨none, .call 17 f_laws_markIntS [((.t 15), true), ((.t 16), false)]⟩,
       ⟨none, .asg 1 (.t 17)⟩]))
   (.drop [12, 13, 14, 15, 16, 17] (.reg [⟨none, .mov 10 (.t 5)⟩,
      ⟨none, .bin 11 .add (.t 10) (.c (.int .i64 1))⟩,
      ⟨none, .asg 5 (.t 11)⟩])))))
def c_laws_markIntSS : ACode :=
  (.seq (.reg [⟨none, .asg 4 (.c (.int .i64 0))⟩])
  (.seq (.seq (.reg [⟨none, .asg 5 (.c (.int .i64 0))⟩])
    (.block 0 (.loop c_laws_markIntSS_l1)))
   (.drop [5, 6, 7, 8, 9, 12, 13, 14, 15, 16, 17, 10, 11] (.seq (.reg [⟨none, .mov 18 (.t 1)⟩,
       ⟨none, .asg 4 (.t 18)⟩])
    (.drop [18] .ret)))))
abbrev r_laws_markIntSS : List RS := [.t 4]
theorem k_laws_markIntSS : fitsF Try.prog f_laws_markIntSS 19 c_laws_markIntSS r_laws_markIntSS = true := by kernel_rfl

/- loop.example/g01078/laws.heldIntSS: [a=0, k=1, a=2, k=3, i=5] -/
def c_laws_heldIntSS_l1 : ACode :=
  (.seq (.seq (.reg [⟨none, .mov 6 (.t 5)⟩,
      ⟨none, .mov 7 (.t 0)⟩,
      ⟨none, .len 8 (.t 7)⟩,
      ⟨none, .bin 9 .lss (.t 6) (.t 8)⟩])
   (.drop [6, 7, 8] (.cond (.t 9) .skip
    (.exit 0))))
  (.drop [6, 7, 8, 9] (.seq (.block 1 (.seq (.reg [⟨none, .mov 12 (.t 0)⟩,
        ⟨none, .mov 13 (.t 5)⟩,
        ⟨none, .iad 14 1 (.t 12) (.t 13)⟩,
        ⟨none, .ld 15 1 false (.t 14)⟩,
        ⟨none, .mov 16 (.t 1)⟩,
        ⟨none, .call 17 f_laws_heldIntS [((.t 15), false), ((.t 16), false)]⟩,
        ⟨none, .asg 1 (.t 17)⟩])
     (.drop [12, 13, 14, 15, 16, 17] (.seq (.reg [⟨none, .mov 18 (.t 1)⟩,
         ⟨none, .bin 19 .lss (.t 18) (.c (.int .i64 0))⟩])
      (.drop [18] (.cond (.t 19) (.seq (.reg [⟨none, .asg 4 (.c (.int .i64 (-1)))⟩])
        .ret)
       .skip))))))
   (.drop [12, 13, 14, 15, 16, 17, 18, 19] (.reg [⟨none, .mov 10 (.t 5)⟩,
      ⟨none, .bin 11 .add (.t 10) (.c (.int .i64 1))⟩,
      ⟨none, .asg 5 (.t 11)⟩])))))
def c_laws_heldIntSS : ACode :=
  (.seq (.reg [⟨none, .asg 4 (.c (.int .i64 0))⟩])
  (.seq (.seq (.reg [⟨none, .asg 5 (.c (.int .i64 0))⟩])
    (.block 0 (.loop c_laws_heldIntSS_l1)))
   (.drop [5, 6, 7, 8, 9, 12, 13, 14, 15, 16, 17, 18, 19, 10, 11] (.seq (.reg [⟨none, .mov 20 (.t 1)⟩,
       ⟨none, .asg 4 (.t 20)⟩])
    (.drop [20] .ret)))))
abbrev r_laws_heldIntSS : List RS := [.t 4]
theorem k_laws_heldIntSS : fitsF Try.prog f_laws_heldIntSS 21 c_laws_heldIntSS r_laws_heldIntSS = true := by kernel_rfl

/- loop.example/g01078/laws.szIntSS: [a=0, left=1, a=2, left=3, i=5] -/
def c_laws_szIntSS_l1 : ACode :=
  (.seq (.seq (.reg [⟨none, .mov 12 (.t 5)⟩,
      ⟨none, .mov 13 (.t 0)⟩,
      ⟨none, .len 14 (.t 13)⟩,
      ⟨none, .bin 15 .lss (.t 12) (.t 14)⟩])
   (.drop [12, 13, 14] (.cond (.t 15) .skip
    (.exit 0))))
  (.drop [12, 13, 14, 15] (.seq (.block 1 (.seq (.reg [⟨none, .mov 18 (.t 0)⟩,
        ⟨none, .mov 19 (.t 5)⟩,
        ⟨none, .iad 20 1 (.t 18) (.t 19)⟩,
        ⟨none, .ld 21 1 false (.t 20)⟩,
        ⟨none, .mov 22 (.t 1)⟩,
        ⟨none, .call 23 f_laws_szIntS [((.t 21), false), ((.t 22), false)]⟩,
        ⟨none, .asg 1 (.t 23)⟩])
     (.drop [18, 19, 20, 21, 22, 23] (.seq (.reg [⟨none, .mov 24 (.t 1)⟩,
         ⟨none, .bin 25 .lss (.t 24) (.c (.int .i64 0))⟩])
      (.drop [24] (.cond (.t 25) (.seq (.reg [⟨none, .asg 4 (.c (.int .i64 (-1)))⟩])
        .ret)
       .skip))))))
   (.drop [18, 19, 20, 21, 22, 23, 24, 25] (.reg [⟨none, .mov 16 (.t 5)⟩,
      ⟨none, .bin 17 .add (.t 16) (.c (.int .i64 1))⟩,
      ⟨none, .asg 5 (.t 17)⟩])))))
def c_laws_szIntSS : ACode :=
  (.seq (.reg [⟨none, .asg 4 (.c (.int .i64 0))⟩])
  (.seq (.reg [⟨none, .mov 6 (.t 1)⟩,
      ⟨none, .mov 7 (.t 0)⟩,
      ⟨none, .len 8 (.t 7)⟩,
      ⟨none, .bin 9 .sub (.t 6) (.t 8)⟩,
      ⟨none, .asg 1 (.t 9)⟩])
   (.drop [6, 7, 8, 9] (.seq (.seq (.reg [⟨none, .mov 10 (.t 1)⟩,
        ⟨none, .bin 11 .lss (.t 10) (.c (.int .i64 0))⟩])
     (.drop [10] (.cond (.t 11) (.seq (.reg [⟨none, .asg 4 (.c (.int .i64 (-1)))⟩])
       .ret)
      .skip)))
    (.drop [10, 11] (.seq (.seq (.reg [⟨none, .asg 5 (.c (.int .i64 0))⟩])
      (.block 0 (.loop c_laws_szIntSS_l1)))
     (.drop [5, 12, 13, 14, 15, 18, 19, 20, 21, 22, 23, 24, 25, 16, 17] (.seq (.reg [⟨none, .mov 26 (.t 1)⟩,
         ⟨none, .asg 4 (.t 26)⟩])
      (.drop [26] .ret)))))))))
abbrev r_laws_szIntSS : List RS := [.t 4]
theorem k_laws_szIntSS : fitsF Try.prog f_laws_szIntSS 27 c_laws_szIntSS r_laws_szIntSS = true := by kernel_rfl

/- loop.example/g01078/laws.toIntSS: [a=0, a=1, out=3, i=4] -/
def c_laws_toIntSS_l1 : ACode :=
  (.seq (.seq (.reg [⟨none, .mov 8 (.t 4)⟩,
      ⟨none, .mov 9 (.t 0)⟩,
      ⟨none, .len 10 (.t 9)⟩,
      ⟨none, .bin 11 .lss (.t 8) (.t 10)⟩])
   (.drop [8, 9, 10] (.cond (.t 11) .skip
    (.exit 0))))
  (.drop [8, 9, 10, 11] (.seq (.block 1 (.reg [⟨none, .mov 14 (.t 3)⟩,
       ⟨none, .mov 15 (.t 4)⟩,
       ⟨none, .mov 16 (.t 0)⟩,
       ⟨none, .mov 17 (.t 4)⟩,
       ⟨none, .iad 18 1 (.t 16) (.t 17)⟩,
       ⟨none, .ld 19 1 false (.t 18)⟩,
       ⟨none, .call 20 f_laws_toIntS [((.t 19), false)]⟩,
       ⟨none, .iad 21 1 (.t 14) (.t 15)⟩,
       ⟨none, .st 1 (.t 21) (.t 20)⟩]))
   (.drop [14, 15, 16, 17, 18, 19, 20, 21] (.reg [⟨none, .mov 12 (.t 4)⟩,
      ⟨none, .bin 13 .add (.t 12) (.c (.int .i64 1))⟩,
      ⟨none, .asg 4 (.t 13)⟩])))))
def c_laws_toIntSS : ACode :=
  (.seq (.reg [⟨none, .asg 2 (.c (.nilsl 1))⟩])
  (.seq (.reg [⟨none, .mov 5 (.t 0)⟩,
      ⟨none, .len 6 (.t 5)⟩,
      ⟨none, .mk 7 1 (.nilsl 1) (.t 6)⟩,
      ⟨none, .asg 3 (.t 7)⟩])
   (.drop [5, 6, 7] (.seq (.seq (.reg [⟨none, .asg 4 (.c (.int .i64 0))⟩])
     (.block 0 (.loop c_laws_toIntSS_l1)))
    (.drop [4, 8, 9, 10, 11, 14, 15, 16, 17, 18, 19, 20, 21, 12, 13] (.seq (.reg [⟨none, .mov 22 (.t 3)⟩,
        ⟨none, .asg 2 (.t 22)⟩])
     (.drop [22] .ret)))))))
abbrev r_laws_toIntSS : List RS := [.t 2]
theorem k_laws_toIntSS : fitsF Try.prog f_laws_toIntSS 23 c_laws_toIntSS r_laws_toIntSS = true := by kernel_rfl

/- loop.example/g01078/impl.orderOf: [p=0, p=1, n=4, o=5, x=6, list=7, _=8, y=9] -/
def c_impl_orderOf_k1 : ACode :=
  (.seq (.reg [⟨none, .mov 25 (.t 7)⟩,
           ⟨none, .call 26 f_impl_rises [((.t 25), false)]⟩,
           ⟨none, .un 27 .not (.t 26)⟩,
           ⟨none, .asg 28 (.t 27)⟩,
           ⟨some (28, false), .mov 29 (.t 7)⟩,
           ⟨some (28, false), .mov 30 (.t 4)⟩,
           ⟨some (28, false), .call 31 f_impl_inSize [((.t 29), false), ((.t 30), false)]⟩,
           ⟨some (28, false), .un 32 .not (.t 31)⟩,
           ⟨none, .pick 33 (.t 28) (.c (.bool true)) (.t 32)⟩])
        (.drop [25, 26, 27, 28, 29, 30, 31, 32] (.cond (.t 33) (.seq (.reg [⟨none, .asg 2 (.c (.nilsl 1))⟩,
             ⟨none, .asg 3 (.c (.bool false))⟩])
          .ret)
         .skip)))
def c_impl_orderOf_l1 : ACode :=
  (.seq (.reg [⟨none, .bin 37 .lss (.t 36) (.t 35)⟩])
  (.seq (.cond (.t 37) .skip
    (.exit 2))
   (.seq (.block 3 (.seq (.reg [⟨none, .iad 38 1 (.t 34) (.t 36)⟩,
         ⟨none, .ld 39 1 false (.t 38)⟩,
         ⟨none, .asg 9 (.t 39)⟩])
      (.drop [38, 39] (.reg [⟨none, .mov 40 (.t 5)⟩,
         ⟨none, .mov 41 (.t 9)⟩,
         ⟨none, .iad 42 1 (.t 40) (.t 41)⟩,
         ⟨none, .ld 43 1 false (.t 42)⟩,
         ⟨none, .mov 44 (.t 6)⟩,
         ⟨none, .iad 45 1 (.t 43) (.t 44)⟩,
         ⟨none, .st 1 (.t 45) (.c (.bool true))⟩]))))
    (.drop [38, 39, 9, 40, 41, 42, 43, 44, 45] (.reg [⟨none, .bin 46 .add (.t 36) (.c (.int .i64 1))⟩,
       ⟨none, .asg 36 (.t 46)⟩])))))
def c_impl_orderOf_l2 : ACode :=
  (.seq (.reg [⟨none, .bin 21 .lss (.t 20) (.t 19)⟩])
  (.seq (.cond (.t 21) .skip
    (.exit 0))
   (.seq (.block 1 (.seq (.reg [⟨none, .mov 22 (.t 20)⟩,
         ⟨none, .iad 23 1 (.t 18) (.t 20)⟩,
         ⟨none, .ld 24 1 false (.t 23)⟩,
         ⟨none, .asg 6 (.t 22)⟩,
         ⟨none, .asg 7 (.t 24)⟩])
      (.drop [22, 23, 24] (.seq (.cut c_impl_orderOf_k1)
       (.drop [25, 26, 27, 28, 29, 30, 31, 32, 33] (.seq (.reg [⟨none, .mov 34 (.t 7)⟩,
           ⟨none, .len 35 (.t 34)⟩,
           ⟨none, .mov 36 (.c (.int .i64 0))⟩])
        (.block 2 (.loop c_impl_orderOf_l1))))))))
    (.drop [22, 23, 24, 6, 7, 25, 26, 27, 28, 29, 30, 31, 32, 33, 34, 35, 36, 37, 38, 39, 9, 40, 41, 42, 43, 44, 45, 46] (.reg [⟨none, .bin 47 .add (.t 20) (.c (.int .i64 1))⟩,
       ⟨none, .asg 20 (.t 47)⟩])))))
def c_impl_orderOf : ACode :=
  (.seq (.reg [⟨none, .box 1 (.t 0)⟩,
     ⟨none, .asg 2 (.c (.nilsl 1))⟩,
     ⟨none, .asg 3 (.c (.bool false))⟩])
  (.seq (.reg [⟨none, .fadr 10 0 (.t 1)⟩,
      ⟨none, .ld 11 1 false (.t 10)⟩,
      ⟨none, .len 12 (.t 11)⟩,
      ⟨none, .asg 4 (.t 12)⟩])
   (.drop [10, 11, 12] (.seq (.seq (.reg [⟨none, .mov 13 (.t 4)⟩,
        ⟨none, .bin 14 .gtr (.t 13) (.c (.int .i64 10))⟩])
     (.drop [13] (.cond (.t 14) (.seq (.reg [⟨none, .asg 2 (.c (.nilsl 1))⟩,
          ⟨none, .asg 3 (.c (.bool false))⟩])
       .ret)
      .skip)))
    (.drop [13, 14] (.seq (.reg [⟨none, .mov 15 (.t 4)⟩,
        ⟨none, .call 16 f_impl_newOrder [((.t 15), false)]⟩,
        ⟨none, .asg 5 (.t 16)⟩])
     (.drop [15, 16] (.seq (.seq (.reg [⟨none, .fadr 17 0 (.t 1)⟩,
          ⟨none, .ld 18 1 false (.t 17)⟩,
          ⟨none, .len 19 (.t 18)⟩,
          ⟨none, .mov 20 (.c (.int .i64 0))⟩])
       (.drop [17] (.block 0 (.loop c_impl_orderOf_l2))))
      (.drop [17, 18, 19, 20, 21, 22, 23, 24, 6, 7, 25, 26, 27, 28, 29, 30, 31, 32, 33, 34, 35, 36, 37, 38, 39, 9, 40, 41, 42, 43, 44, 45, 46, 47] (.seq (.reg [⟨none, .mov 48 (.t 5)⟩,
          ⟨none, .mov 49 (.t 5)⟩,
          ⟨none, .call 50 f_impl_order_isOrder [((.t 49), false)]⟩,
          ⟨none, .asg 2 (.t 48)⟩,
          ⟨none, .asg 3 (.t 50)⟩])
       (.drop [48, 49, 50] .ret)))))))))))
abbrev r_impl_orderOf : List RS := [.t 2, .t 3]
theorem k_impl_orderOf : fitsF Try.prog f_impl_orderOf 51 c_impl_orderOf r_impl_orderOf = true := by kernel_rfl

/- (loop.example/g01078/impl.order).has: [o=0, list=1, o=2, list=3] -/
def c_impl_order_has : ACode :=
  (.seq (.reg [⟨none, .asg 4 (.c (.bool false))⟩])
  (.seq (.reg [⟨none, .mov 5 (.t 1)⟩,
      ⟨none, .mov 6 (.t 0)⟩,
      ⟨none, .len 7 (.t 6)⟩,
      ⟨none, .call 8 f_impl_inSize [((.t 5), false), ((.t 7), false)]⟩,
      ⟨none, .asg 4 (.t 8)⟩])
   (.drop [5, 6, 7, 8] .ret)))
abbrev r_impl_order_has : List RS := [.t 4]
theorem k_impl_order_has : fitsF Try.prog f_impl_order_has 9 c_impl_order_has r_impl_order_has = true := by kernel_rfl

/- loop.example/g01078/spec.l2Rename: [a=0, names=1, a=2, names=3, out=5, i=6, op=7, at=8, args=9, to=10, k=11] -/
def c_spec_l2Rename_l1 : ACode :=
  (.seq (.seq (.reg [⟨none, .mov 50 (.t 11)⟩,
      ⟨none, .mov 51 (.t 9)⟩,
      ⟨none, .len 52 (.t 51)⟩,
      ⟨none, .bin 53 .lss (.t 50) (.t 52)⟩])
   (.drop [50, 51, 52] (.cond (.t 53) .skip
    (.exit 4))))
  (.drop [50, 51, 52, 53] (.seq (.block 5 (.dreg [(⟨none, .mov 56 (.t 10)⟩, []),
       (⟨none, .fadr 57 0 (.t 2)⟩, [56]),
       (⟨none, .ld 58 1 false (.t 57)⟩, [56]),
       (⟨none, .bin 59 .mul (.t 56) (.t 58)⟩, []),
       (⟨none, .mov 60 (.t 1)⟩, [56, 57, 58, 59]),
       (⟨none, .mov 61 (.t 9)⟩, [56, 57, 58, 59, 60]),
       (⟨none, .mov 62 (.t 11)⟩, [56, 57, 58, 59, 60, 61]),
       (⟨none, .iad 63 1 (.t 61) (.t 62)⟩, [56, 57, 58, 59, 60]),
       (⟨none, .ld 64 1 false (.t 63)⟩, [56, 57, 58, 59, 60]),
       (⟨none, .iad 65 1 (.t 60) (.t 64)⟩, [56, 57, 58, 59]),
       (⟨none, .ld 66 1 false (.t 65)⟩, [56, 57, 58, 59])]
      [⟨none, .bin 67 .add (.t 59) (.t 66)⟩,
       ⟨none, .asg 10 (.t 67)⟩]))
   (.drop [56, 57, 58, 59, 60, 61, 62, 63, 64, 65, 66, 67] (.reg [⟨none, .mov 54 (.t 11)⟩,
      ⟨none, .bin 55 .add (.t 54) (.c (.int .i64 1))⟩,
      ⟨none, .asg 11 (.t 55)⟩])))))
def c_spec_l2Rename_l2 : ACode :=
  (.seq (.seq (.reg [⟨none, .mov 37 (.t 8)⟩,
      ⟨none, .fadr 38 1 (.t 7)⟩,
      ⟨none, .ld 39 1 false (.t 38)⟩,
      ⟨none, .len 40 (.t 39)⟩,
      ⟨none, .bin 41 .lss (.t 37) (.t 40)⟩])
   (.drop [37, 38, 39, 40] (.cond (.t 41) .skip
    (.exit 2))))
  (.drop [37, 38, 39, 40, 41] (.seq (.block 3 (.seq (.reg [⟨none, .fadr 44 0 (.t 2)⟩,
        ⟨none, .ld 45 1 false (.t 44)⟩,
        ⟨none, .fadr 46 0 (.t 7)⟩,
        ⟨none, .ld 47 1 false (.t 46)⟩,
        ⟨none, .mov 48 (.t 8)⟩,
        ⟨none, .call 49 f_spec_l2Args [((.t 45), false), ((.t 47), false), ((.t 48), false)]⟩,
        ⟨none, .asg 9 (.t 49)⟩])
     (.drop [44, 45, 46, 47, 48, 49] (.seq (.reg [⟨none, .asg 10 (.c (.int .i64 0))⟩])
      (.seq (.seq (.reg [⟨none, .asg 11 (.c (.int .i64 0))⟩])
        (.block 4 (.loop c_spec_l2Rename_l1)))
       (.drop [11, 50, 51, 52, 53, 56, 57, 58, 59, 60, 61, 62, 63, 64, 65, 66, 67, 54, 55] (.dreg [(⟨none, .fadr 68 1 (.t 7)⟩, []),
          (⟨none, .ld 69 1 false (.t 68)⟩, []),
          (⟨none, .mov 70 (.t 10)⟩, [68, 69]),
          (⟨none, .mov 71 (.t 1)⟩, [68, 69, 70]),
          (⟨none, .fadr 72 1 (.t 2)⟩, [68, 69, 70, 71]),
          (⟨none, .ld 73 1 false (.t 72)⟩, [68, 69, 70, 71]),
          (⟨none, .mov 74 (.t 6)⟩, [68, 69, 70, 71, 72, 73]),
          (⟨none, .iad 75 2 (.t 73) (.t 74)⟩, [68, 69, 70, 71]),
          (⟨none, .fadr 76 1 (.t 75)⟩, [68, 69, 70, 71]),
          (⟨none, .ld 77 1 false (.t 76)⟩, [68, 69, 70, 71]),
          (⟨none, .mov 78 (.t 8)⟩, [68, 69, 70, 71, 72, 73, 74, 75, 76, 77]),
          (⟨none, .iad 79 1 (.t 77) (.t 78)⟩, [68, 69, 70, 71]),
          (⟨none, .ld 80 1 false (.t 79)⟩, [68, 69, 70, 71]),
          (⟨none, .iad 81 1 (.t 71) (.t 80)⟩, [68, 69, 70]),
          (⟨none, .ld 82 1 false (.t 81)⟩, [68, 69, 70])]
         [⟨none, .iad 83 1 (.t 69) (.t 70)⟩,
          ⟨none, .st 1 (.t 83) (.t 82)⟩])))))))
   (.drop [44, 45, 46, 47, 48, 49, 9, 10, 11, 50, 51, 52, 53, 56, 57, 58, 59, 60, 61, 62, 63, 64, 65, 66, 67, 54, 55, 68, 69, 70, 71, 72, 73, 74, 75, 76, 77, 78, 79, 80, 81, 82, 83] (.reg [⟨none, .mov 42 (.t 8)⟩,
      ⟨none, .bin 43 .add (.t 42) (.c (.int .i64 1))⟩,
      ⟨none, .asg 8 (.t 43)⟩])))))
def c_spec_l2Rename_l3 : ACode :=
  (.seq (.seq (.reg [⟨none, .mov 15 (.t 6)⟩,
      ⟨none, .fadr 16 1 (.t 2)⟩,
      ⟨none, .ld 17 1 false (.t 16)⟩,
      ⟨none, .len 18 (.t 17)⟩,
      ⟨none, .bin 19 .lss (.t 15) (.t 18)⟩])
   (.drop [15, 16, 17, 18] (.cond (.t 19) .skip
    (.exit 0))))
  (.drop [15, 16, 17, 18, 19] (.seq (.block 1 (.seq (.dreg [(⟨none, .fadr 22 1 (.t 2)⟩, []),
        (⟨none, .ld 23 1 false (.t 22)⟩, []),
        (⟨none, .mov 24 (.t 6)⟩, [22, 23]),
        (⟨none, .iad 25 2 (.t 23) (.t 24)⟩, []),
        (⟨none, .fadr 26 0 (.t 25)⟩, []),
        (⟨none, .ld 27 1 false (.t 26)⟩, []),
        (⟨none, .fadr 28 1 (.t 2)⟩, [22, 23, 24, 25, 26, 27]),
        (⟨none, .ld 29 1 false (.t 28)⟩, [22, 23, 24, 25, 26, 27]),
        (⟨none, .mov 30 (.t 6)⟩, [22, 23, 24, 25, 26, 27, 28, 29]),
        (⟨none, .iad 31 2 (.t 29) (.t 30)⟩, [22, 23, 24, 25, 26, 27]),
        (⟨none, .fadr 32 1 (.t 31)⟩, [22, 23, 24, 25, 26, 27]),
        (⟨none, .ld 33 1 false (.t 32)⟩, [22, 23, 24, 25, 26, 27]),
        (⟨none, .len 34 (.t 33)⟩, [22, 23, 24, 25, 26, 27]),
        (⟨none, .mk 35 1 (.int .i64 0) (.t 34)⟩, [22, 23, 24, 25, 26, 27]),
        (⟨none, .bld 36 [.int .i64 0, .nilsl 1] [(0, 1, (.t 27)), (1, 1, (.t 35))]⟩, []),
        (⟨none, .alc 7 (.agg [.int .i64 0, .nilsl 1])⟩, [22, 23, 24, 25, 26, 27, 28, 29, 30, 31, 32, 33, 34, 35, 36])]
       [⟨none, .st 2 (.t 7) (.t 36)⟩])
     (.drop [22, 23, 24, 25, 26, 27, 28, 29, 30, 31, 32, 33, 34, 35, 36] (.seq (.seq (.reg [⟨none, .asg 8 (.c (.int .i64 0))⟩])
       (.block 2 (.loop c_spec_l2Rename_l2)))
      (.drop [8, 37, 38, 39, 40, 41, 44, 45, 46, 47, 48, 49, 9, 10, 11, 50, 51, 52, 53, 56, 57, 58, 59, 60, 61, 62, 63, 64, 65, 66, 67, 54, 55, 68, 69, 70, 71, 72, 73, 74, 75, 76, 77, 78, 79, 80, 81, 82, 83, 42, 43] (.reg [⟨none, .fadr 84 1 (.t 5)⟩,
         ⟨none, .ld 85 1 false (.t 84)⟩,
         ⟨none, .ld 86 2 true (.t 7)⟩,
         ⟨none, .bsl 87 2 [(.t 86)]⟩,
         ⟨none, .app 88 2 (.t 85) (.t 87)⟩,
         ⟨none, .fadr 89 1 (.t 5)⟩,
         ⟨none, .st 1 (.t 89) (.t 88)⟩]))))))
   (.drop [22, 23, 24, 25, 26, 27, 28, 29, 30, 31, 32, 33, 34, 35, 36, 7, 8, 37, 38, 39, 40, 41, 44, 45, 46, 47, 48, 49, 9, 10, 11, 50, 51, 52, 53, 56, 57, 58, 59, 60, 61, 62, 63, 64, 65, 66, 67, 54, 55, 68, 69, 70, 71, 72, 73, 74, 75, 76, 77, 78, 79, 80, 81, 82, 83, 42, 43, 84, 85, 86, 87, 88, 89] (.reg [⟨none, .mov 20 (.t 6)⟩,
      ⟨none, .bin 21 .add (.t 20) (.c (.int .i64 1))⟩,
      ⟨none, .asg 6 (.t 21)⟩])))))
def c_spec_l2Rename : ACode :=
  (.seq (.reg [⟨none, .box 2 (.t 0)⟩,
     ⟨none, .alc 4 (.agg [.int .i64 0, .nilsl 2])⟩])
  (.seq (.reg [⟨none, .fadr 12 0 (.t 2)⟩,
      ⟨none, .ld 13 1 false (.t 12)⟩,
      ⟨none, .bld 14 [.int .i64 0, .nilsl 2] [(0, 1, (.t 13))]⟩,
      ⟨none, .alc 5 (.agg [.int .i64 0, .nilsl 2])⟩,
      ⟨none, .st 2 (.t 5) (.t 14)⟩])
   (.drop [12, 13, 14] (.seq (.seq (.reg [⟨none, .asg 6 (.c (.int .i64 0))⟩])
     (.block 0 (.loop c_spec_l2Rename_l3)))
    (.drop [6, 15, 16, 17, 18, 19, 22, 23, 24, 25, 26, 27, 28, 29, 30, 31, 32, 33, 34, 35, 36, 7, 8, 37, 38, 39, 40, 41, 44, 45, 46, 47, 48, 49, 9, 10, 11, 50, 51, 52, 53, 56, 57, 58, 59, 60, 61, 62, 63, 64, 65, 66, 67, 54, 55, 68, 69, 70, 71, 72, 73, 74, 75, 76, 77, 78, 79, 80, 81, 82, 83, 42, 43, 84, 85, 86, 87, 88, 89, 20, 21] (.seq (.reg [⟨none, .ld 90 2 true (.t 5)⟩,
        ⟨none, .st 2 (.t 4) (.t 90)⟩])
     (.drop [90] .ret)))))))
abbrev r_spec_l2Rename : List RS := [.c 4 2 true]
theorem k_spec_l2Rename : fitsF Try.prog f_spec_l2Rename 91 c_spec_l2Rename r_spec_l2Rename = true := by kernel_rfl

/- loop.example/g01078/impl.isOrder: [list=0, n=1, list=2, n=3, seen=5, _=6, x=7] -/
def c_impl_isOrder_k1 : ACode :=
  (.seq (.reg [⟨none, .mov 8 (.t 0)⟩,
       ⟨none, .len 9 (.t 8)⟩,
       ⟨none, .mov 10 (.t 1)⟩,
       ⟨none, .bin 11 .neq (.t 9) (.t 10)⟩,
       ⟨none, .asg 12 (.t 11)⟩,
       ⟨some (12, false), .mov 13 (.t 0)⟩,
       ⟨some (12, false), .mov 14 (.t 1)⟩,
       ⟨some (12, false), .call 15 f_impl_inSize [((.t 13), false), ((.t 14), false)]⟩,
       ⟨some (12, false), .un 16 .not (.t 15)⟩,
       ⟨none, .pick 17 (.t 12) (.c (.bool true)) (.t 16)⟩])
    (.drop [8, 9, 10, 11, 12, 13, 14, 15, 16] (.cond (.t 17) (.seq (.reg [⟨none, .asg 4 (.c (.bool false))⟩])
      .ret)
     .skip)))
def c_impl_isOrder_l1 : ACode :=
  (.seq (.reg [⟨none, .bin 23 .lss (.t 22) (.t 21)⟩])
  (.seq (.cond (.t 23) .skip
    (.exit 0))
   (.seq (.block 1 (.seq (.reg [⟨none, .iad 24 1 (.t 20) (.t 22)⟩,
         ⟨none, .ld 25 1 false (.t 24)⟩,
         ⟨none, .asg 7 (.t 25)⟩])
      (.drop [24, 25] (.seq (.seq (.reg [⟨none, .mov 26 (.t 5)⟩,
           ⟨none, .mov 27 (.t 7)⟩,
           ⟨none, .iad 28 1 (.t 26) (.t 27)⟩,
           ⟨none, .ld 29 1 false (.t 28)⟩])
        (.drop [26, 27, 28] (.cond (.t 29) (.seq (.reg [⟨none, .asg 4 (.c (.bool false))⟩])
          .ret)
         .skip)))
       (.drop [26, 27, 28, 29] (.reg [⟨none, .mov 30 (.t 5)⟩,
          ⟨none, .mov 31 (.t 7)⟩,
          ⟨none, .iad 32 1 (.t 30) (.t 31)⟩,
          ⟨none, .st 1 (.t 32) (.c (.bool true))⟩]))))))
    (.drop [24, 25, 7, 26, 27, 28, 29, 30, 31, 32] (.reg [⟨none, .bin 33 .add (.t 22) (.c (.int .i64 1))⟩,
       ⟨none, .asg 22 (.t 33)⟩])))))
def c_impl_isOrder : ACode :=
  (.seq (.reg [⟨none, .asg 4 (.c (.bool false))⟩])
  (.seq (.cut c_impl_isOrder_k1)
   (.drop [8, 9, 10, 11, 12, 13, 14, 15, 16, 17] (.seq (.reg [⟨none, .mov 18 (.t 1)⟩,
       ⟨none, .mk 19 1 (.bool false) (.t 18)⟩,
       ⟨none, .asg 5 (.t 19)⟩])
    (.drop [18, 19] (.seq (.seq (.reg [⟨none, .mov 20 (.t 0)⟩,
         ⟨none, .len 21 (.t 20)⟩,
         ⟨none, .mov 22 (.c (.int .i64 0))⟩])
      (.block 0 (.loop c_impl_isOrder_l1)))
     (.drop [20, 21, 22, 23, 24, 25, 7, 26, 27, 28, 29, 30, 31, 32, 33] (.seq (.reg [⟨none, .asg 4 (.c (.bool true))⟩])
      .ret))))))))
abbrev r_impl_isOrder : List RS := [.t 4]
theorem k_impl_isOrder : fitsF Try.prog f_impl_isOrder 34 c_impl_isOrder r_impl_isOrder = true := by kernel_rfl

/- loop.example/g01078/laws.markOpS: [a=0, k=1, a=2, k=3, i=5] -/
def c_laws_markOpS_l1 : ACode :=
  (.seq (.seq (.reg [⟨none, .mov 6 (.t 5)⟩,
      ⟨none, .mov 7 (.t 0)⟩,
      ⟨none, .len 8 (.t 7)⟩,
      ⟨none, .bin 9 .lss (.t 6) (.t 8)⟩])
   (.drop [6, 7, 8] (.cond (.t 9) .skip
    (.exit 0))))
  (.drop [6, 7, 8, 9] (.seq (.block 1 (.seq (.reg [⟨none, .mov 12 (.t 0)⟩,
        ⟨none, .mov 13 (.t 5)⟩,
        ⟨none, .mov 14 (.t 1)⟩,
        ⟨none, .iad 15 2 (.t 12) (.t 13)⟩,
        ⟨none, .fadr 16 0 (.t 15)⟩,
        ⟨none, .st 1 (.t 16) (.t 14)⟩])
     (.drop [12, 13, 14, 15, 16] (.seq (.reg [⟨none, .mov 17 (.t 1)⟩,
         ⟨none, .bin 18 .add (.t 17) (.c (.int .i64 1))⟩,
         ⟨none, .asg 1 (.t 18)⟩])
      (.drop [17, 18] (.reg [⟨none, .mov 19 (.t 0)⟩,
         ⟨none, .mov 20 (.t 5)⟩,
         ⟨none, .iad 21 2 (.t 19) (.t 20)⟩,
         ⟨none, .fadr 22 1 (.t 21)⟩,
         ⟨none, .ld 23 1 false (.t 22)⟩,
         ⟨none, .mov 24 (.t 1)⟩,
         ⟨none, .call 25 f_laws_markIntS [((.t 23), true), ((.t 24), false)]⟩,
         ⟨none, .asg 1 (.t 25)⟩]))))))
   (.drop [12, 13, 14, 15, 16, 17, 18, 19, 20, 21, 22, 23, 24, 25] (.reg [⟨none, .mov 10 (.t 5)⟩,
      ⟨none, .bin 11 .add (.t 10) (.c (.int .i64 1))⟩,
      ⟨none, .asg 5 (.t 11)⟩])))))
def c_laws_markOpS : ACode :=
  (.seq (.reg [⟨none, .asg 4 (.c (.int .i64 0))⟩])
  (.seq (.seq (.reg [⟨none, .asg 5 (.c (.int .i64 0))⟩])
    (.block 0 (.loop c_laws_markOpS_l1)))
   (.drop [5, 6, 7, 8, 9, 12, 13, 14, 15, 16, 17, 18, 19, 20, 21, 22, 23, 24, 25, 10, 11] (.seq (.reg [⟨none, .mov 26 (.t 1)⟩,
       ⟨none, .asg 4 (.t 26)⟩])
    (.drop [26] .ret)))))
abbrev r_laws_markOpS : List RS := [.t 4]
theorem k_laws_markOpS : fitsF Try.prog f_laws_markOpS 27 c_laws_markOpS r_laws_markOpS = true := by kernel_rfl

/- loop.example/g01078/laws.heldOpS: [a=0, k=1, a=2, k=3, i=5] -/
def c_laws_heldOpS_l1 : ACode :=
  (.seq (.seq (.reg [⟨none, .mov 6 (.t 5)⟩,
      ⟨none, .mov 7 (.t 0)⟩,
      ⟨none, .len 8 (.t 7)⟩,
      ⟨none, .bin 9 .lss (.t 6) (.t 8)⟩])
   (.drop [6, 7, 8] (.cond (.t 9) .skip
    (.exit 0))))
  (.drop [6, 7, 8, 9] (.seq (.block 1 (.seq (.seq (.reg [⟨none, .mov 12 (.t 0)⟩,
         ⟨none, .mov 13 (.t 5)⟩,
         ⟨none, .iad 14 2 (.t 12) (.t 13)⟩,
         ⟨none, .fadr 15 0 (.t 14)⟩,
         ⟨none, .ld 16 1 false (.t 15)⟩,
         ⟨none, .mov 17 (.t 1)⟩,
         ⟨none, .bin 18 .neq (.t 16) (.t 17)⟩])
      (.drop [12, 13, 14, 15, 16, 17] (.cond (.t 18) (.seq (.reg [⟨none, .asg 4 (.c (.int .i64 (-1)))⟩])
        .ret)
       .skip)))
     (.drop [12, 13, 14, 15, 16, 17, 18] (.seq (.reg [⟨none, .mov 19 (.t 1)⟩,
         ⟨none, .bin 20 .add (.t 19) (.c (.int .i64 1))⟩,
         ⟨none, .asg 1 (.t 20)⟩])
      (.drop [19, 20] (.seq (.reg [⟨none, .mov 21 (.t 0)⟩,
          ⟨none, .mov 22 (.t 5)⟩,
          ⟨none, .iad 23 2 (.t 21) (.t 22)⟩,
          ⟨none, .fadr 24 1 (.t 23)⟩,
          ⟨none, .ld 25 1 false (.t 24)⟩,
          ⟨none, .mov 26 (.t 1)⟩,
          ⟨none, .call 27 f_laws_heldIntS [((.t 25), false), ((.t 26), false)]⟩,
          ⟨none, .asg 1 (.t 27)⟩])
       (.drop [21, 22, 23, 24, 25, 26, 27] (.seq (.reg [⟨none, .mov 28 (.t 1)⟩,
           ⟨none, .bin 29 .lss (.t 28) (.c (.int .i64 0))⟩])
        (.drop [28] (.cond (.t 29) (.seq (.reg [⟨none, .asg 4 (.c (.int .i64 (-1)))⟩])
          .ret)
         .skip))))))))))
   (.drop [12, 13, 14, 15, 16, 17, 18, 19, 20, 21, 22, 23, 24, 25, 26, 27, 28, 29] (.reg [⟨none, .mov 10 (.t 5)⟩,
      ⟨none, .bin 11 .add (.t 10) (.c (.int .i64 1))⟩,
      ⟨none, .asg 5 (.t 11)⟩])))))
def c_laws_heldOpS : ACode :=
  (.seq (.reg [⟨none, .asg 4 (.c (.int .i64 0))⟩])
  (.seq (.seq (.reg [⟨none, .asg 5 (.c (.int .i64 0))⟩])
    (.block 0 (.loop c_laws_heldOpS_l1)))
   (.drop [5, 6, 7, 8, 9, 12, 13, 14, 15, 16, 17, 18, 19, 20, 21, 22, 23, 24, 25, 26, 27, 28, 29, 10, 11] (.seq (.reg [⟨none, .mov 30 (.t 1)⟩,
       ⟨none, .asg 4 (.t 30)⟩])
    (.drop [30] .ret)))))
abbrev r_laws_heldOpS : List RS := [.t 4]
theorem k_laws_heldOpS : fitsF Try.prog f_laws_heldOpS 31 c_laws_heldOpS r_laws_heldOpS = true := by kernel_rfl

/- (*loop.example/g01078/impl.lattice).joinAll: [l=0, list=1, l=2, list=3, j=5, _=6, x=7] -/
def c_impl_lattice_joinAll_l1 : ACode :=
  (.seq (.reg [⟨none, .bin 13 .lss (.t 12) (.t 11)⟩])
  (.seq (.cond (.t 13) .skip
    (.exit 0))
   (.seq (.block 1 (.seq (.reg [⟨none, .iad 14 1 (.t 10) (.t 12)⟩,
         ⟨none, .ld 15 1 false (.t 14)⟩,
         ⟨none, .asg 7 (.t 15)⟩])
      (.drop [14, 15] (.reg [⟨none, .mov 16 (.t 0)⟩,
         ⟨none, .nck 17 (.t 16)⟩,
         ⟨none, .fadr 18 2 (.t 17)⟩,
         ⟨none, .ld 19 1 false (.t 18)⟩,
         ⟨none, .mov 20 (.t 5)⟩,
         ⟨none, .iad 21 1 (.t 19) (.t 20)⟩,
         ⟨none, .ld 22 1 false (.t 21)⟩,
         ⟨none, .mov 23 (.t 7)⟩,
         ⟨none, .iad 24 1 (.t 22) (.t 23)⟩,
         ⟨none, .ld 25 1 false (.t 24)⟩,
         ⟨none, .asg 5 (.t 25)⟩]))))
    (.drop [14, 15, 7, 16, 17, 18, 19, 20, 21, 22, 23, 24, 25] (.reg [⟨none, .bin 26 .add (.t 12) (.c (.int .i64 1))⟩,
       ⟨none, .asg 12 (.t 26)⟩])))))
def c_impl_lattice_joinAll : ACode :=
  (.seq (.reg [⟨none, .asg 4 (.c (.int .i64 0))⟩])
  (.seq (.reg [⟨none, .mov 8 (.t 0)⟩,
      ⟨none, .call 9 f_impl_lattice_bottom [((.t 8), false)]⟩,
      ⟨none, .asg 5 (.t 9)⟩])
   (.drop [8, 9] (.seq (.seq (.reg [⟨none, .mov 10 (.t 1)⟩,
        ⟨none, .len 11 (.t 10)⟩,
        ⟨none, .mov 12 (.c (.int .i64 0))⟩])
     (.block 0 (.loop c_impl_lattice_joinAll_l1)))
    (.drop [10, 11, 12, 13, 14, 15, 7, 16, 17, 18, 19, 20, 21, 22, 23, 24, 25, 26] (.seq (.reg [⟨none, .mov 27 (.t 5)⟩,
        ⟨none, .asg 4 (.t 27)⟩])
     (.drop [27] .ret)))))))
abbrev r_impl_lattice_joinAll : List RS := [.t 4]
theorem k_impl_lattice_joinAll : fitsF Try.prog f_impl_lattice_joinAll 28 c_impl_lattice_joinAll r_impl_lattice_joinAll = true := by kernel_rfl

/- (*loop.example/g01078/impl.lattice).meetAll: [l=0, list=1, l=2, list=3, m=5, _=6, x=7] -/
def c_impl_lattice_meetAll_l1 : ACode :=
  (.seq (.reg [⟨none, .bin 13 .lss (.t 12) (.t 11)⟩])
  (.seq (.cond (.t 13) .skip
    (.exit 0))
   (.seq (.block 1 (.seq (.reg [⟨none, .iad 14 1 (.t 10) (.t 12)⟩,
         ⟨none, .ld 15 1 false (.t 14)⟩,
         ⟨none, .asg 7 (.t 15)⟩])
      (.drop [14, 15] (.reg [⟨none, .mov 16 (.t 0)⟩,
         ⟨none, .nck 17 (.t 16)⟩,
         ⟨none, .fadr 18 1 (.t 17)⟩,
         ⟨none, .ld 19 1 false (.t 18)⟩,
         ⟨none, .mov 20 (.t 5)⟩,
         ⟨none, .iad 21 1 (.t 19) (.t 20)⟩,
         ⟨none, .ld 22 1 false (.t 21)⟩,
         ⟨none, .mov 23 (.t 7)⟩,
         ⟨none, .iad 24 1 (.t 22) (.t 23)⟩,
         ⟨none, .ld 25 1 false (.t 24)⟩,
         ⟨none, .asg 5 (.t 25)⟩]))))
    (.drop [14, 15, 7, 16, 17, 18, 19, 20, 21, 22, 23, 24, 25] (.reg [⟨none, .bin 26 .add (.t 12) (.c (.int .i64 1))⟩,
       ⟨none, .asg 12 (.t 26)⟩])))))
def c_impl_lattice_meetAll : ACode :=
  (.seq (.reg [⟨none, .asg 4 (.c (.int .i64 0))⟩])
  (.seq (.reg [⟨none, .mov 8 (.t 0)⟩,
      ⟨none, .call 9 f_impl_lattice_top [((.t 8), false)]⟩,
      ⟨none, .asg 5 (.t 9)⟩])
   (.drop [8, 9] (.seq (.seq (.reg [⟨none, .mov 10 (.t 1)⟩,
        ⟨none, .len 11 (.t 10)⟩,
        ⟨none, .mov 12 (.c (.int .i64 0))⟩])
     (.block 0 (.loop c_impl_lattice_meetAll_l1)))
    (.drop [10, 11, 12, 13, 14, 15, 7, 16, 17, 18, 19, 20, 21, 22, 23, 24, 25, 26] (.seq (.reg [⟨none, .mov 27 (.t 5)⟩,
        ⟨none, .asg 4 (.t 27)⟩])
     (.drop [27] .ret)))))))
abbrev r_impl_lattice_meetAll : List RS := [.t 4]
theorem k_impl_lattice_meetAll : fitsF Try.prog f_impl_lattice_meetAll 28 c_impl_lattice_meetAll r_impl_lattice_meetAll = true := by kernel_rfl

/- loop.example/g01078/spec.l23Leq: [p=0, x=1, y=2, p=3, x=4, y=5] -/
def c_spec_l23Leq : ACode :=
  (.seq (.reg [⟨none, .box 3 (.t 0)⟩,
     ⟨none, .asg 6 (.c (.bool false))⟩])
  (.seq (.reg [⟨none, .fadr 7 0 (.t 3)⟩,
      ⟨none, .ld 8 1 false (.t 7)⟩,
      ⟨none, .mov 9 (.t 2)⟩,
      ⟨none, .iad 10 1 (.t 8) (.t 9)⟩,
      ⟨none, .ld 11 1 false (.t 10)⟩,
      ⟨none, .mov 12 (.t 1)⟩,
      ⟨none, .call 13 f_spec_l1Has [((.t 11), false), ((.t 12), false)]⟩,
      ⟨none, .asg 6 (.t 13)⟩])
   (.drop [7, 8, 9, 10, 11, 12, 13] .ret)))
abbrev r_spec_l23Leq : List RS := [.t 6]
theorem k_spec_l23Leq : fitsF Try.prog f_spec_l23Leq 14 c_spec_l23Leq r_spec_l23Leq = true := by kernel_rfl

/- (loop.example/g01078/impl.order).interval: [o=0, x=1, y=2, o=3, x=4, y=5] -/
def c_impl_order_interval : ACode :=
  (.seq (.reg [⟨none, .box 3 (.t 0)⟩,
     ⟨none, .box 4 (.t 1)⟩,
     ⟨none, .box 5 (.t 2)⟩,
     ⟨none, .asg 6 (.c (.nilsl 1))⟩])
  (.seq (.reg [⟨none, .ld 7 1 false (.t 3)⟩,
      ⟨none, .mkf 8 f_impl_order_interval_1 [(.t 3), (.t 4), (.t 5)]⟩,
      ⟨none, .call 9 f_impl_order_those [((.t 7), false), ((.t 8), false)]⟩,
      ⟨none, .asg 6 (.t 9)⟩])
   (.drop [7, 8, 9] .ret)))
abbrev r_impl_order_interval : List RS := [.t 6]
theorem k_impl_order_interval : fitsF Try.prog f_impl_order_interval 10 c_impl_order_interval r_impl_order_interval = true := by kernel_rfl

/- loop.example/g01078/spec.l1Rising: [l=0, lo=1, hi=2, l=3, lo=4, hi=5, i=7] -/
def c_spec_l1Rising_l1 : ACode :=
  (.seq (.seq (.reg [⟨none, .mov 8 (.t 7)⟩,
      ⟨none, .mov 9 (.t 0)⟩,
      ⟨none, .len 10 (.t 9)⟩,
      ⟨none, .bin 11 .lss (.t 8) (.t 10)⟩])
   (.drop [8, 9, 10] (.cond (.t 11) .skip
    (.exit 0))))
  (.drop [8, 9, 10, 11] (.seq (.block 1 (.seq (.dreg [(⟨none, .mov 14 (.t 0)⟩, []),
        (⟨none, .mov 15 (.t 7)⟩, [14]),
        (⟨none, .iad 16 1 (.t 14) (.t 15)⟩, []),
        (⟨none, .ld 17 1 false (.t 16)⟩, []),
        (⟨none, .mov 18 (.t 1)⟩, [14, 15, 16, 17]),
        (⟨none, .mov 19 (.t 2)⟩, [14, 15, 16, 17, 18]),
        (⟨none, .call 20 f_spec_l1In [((.t 17), false), ((.t 18), false), ((.t 19), false)]⟩, []),
        (⟨none, .un 21 .not (.t 20)⟩, []),
        (⟨none, .asg 22 (.t 21)⟩, []),
        (⟨some (22, false), .mov 23 (.t 7)⟩, []),
        (⟨some (22, false), .bin 24 .gtr (.t 23) (.c (.int .i64 0))⟩, []),
        (⟨some (22, false), .asg 25 (.t 24)⟩, []),
        (⟨some (25, true), .mov 26 (.t 0)⟩, []),
        (⟨some (25, true), .mov 27 (.t 7)⟩, [26]),
        (⟨some (25, true), .bin 28 .sub (.t 27) (.c (.int .i64 1))⟩, [26]),
        (⟨some (25, true), .iad 29 1 (.t 26) (.t 28)⟩, []),
        (⟨some (25, true), .ld 30 1 false (.t 29)⟩, []),
        (⟨some (25, true), .mov 31 (.t 0)⟩, [26, 27, 28, 29, 30]),
        (⟨some (25, true), .mov 32 (.t 7)⟩, [26, 27, 28, 29, 30, 31]),
        (⟨some (25, true), .iad 33 1 (.t 31) (.t 32)⟩, [26, 27, 28, 29, 30]),
        (⟨some (25, true), .ld 34 1 false (.t 33)⟩, [26, 27, 28, 29, 30])]
       [⟨some (25, true), .bin 35 .geq (.t 30) (.t 34)⟩,
        ⟨some (22, false), .pick 36 (.t 25) (.t 35) (.c (.bool false))⟩,
        ⟨none, .pick 37 (.t 22) (.c (.bool true)) (.t 36)⟩])
     (.drop [14, 15, 16, 17, 18, 19, 20, 21, 22, 23, 24, 25, 26, 27, 28, 29, 30, 31, 32, 33, 34, 35, 36] (.cond (.t 37) (.seq (.reg [⟨none, .asg 6 (.c (.bool false))⟩])
       .ret)
      .skip))))
   (.drop [14, 15, 16, 17, 18, 19, 20, 21, 22, 23, 24, 25, 26, 27, 28, 29, 30, 31, 32, 33, 34, 35, 36, 37] (.reg [⟨none, .mov 12 (.t 7)⟩,
      ⟨none, .bin 13 .add (.t 12) (.c (.int .i64 1))⟩,
      ⟨none, .asg 7 (.t 13)⟩])))))
def c_spec_l1Rising : ACode :=
  (.seq (.reg [⟨none, .asg 6 (.c (.bool false))⟩])
  (.seq (.seq (.reg [⟨none, .asg 7 (.c (.int .i64 0))⟩])
    (.block 0 (.loop c_spec_l1Rising_l1)))
   (.drop [7, 8, 9, 10, 11, 14, 15, 16, 17, 18, 19, 20, 21, 22, 23, 24, 25, 26, 27, 28, 29, 30, 31, 32, 33, 34, 35, 36, 37, 12, 13] (.seq (.reg [⟨none, .asg 6 (.c (.bool true))⟩])
    .ret))))
abbrev r_spec_l1Rising : List RS := [.t 6]
theorem k_spec_l1Rising : fitsF Try.prog f_spec_l1Rising 38 c_spec_l1Rising r_spec_l1Rising = true := by kernel_rfl

/- loop.example/g01078/spec.l5Within: [x=0, y=1, x=2, y=3, i=5] -/
def c_spec_l5Within_l1 : ACode :=
  (.seq (.seq (.reg [⟨none, .mov 6 (.t 5)⟩,
      ⟨none, .mov 7 (.t 0)⟩,
      ⟨none, .len 8 (.t 7)⟩,
      ⟨none, .bin 9 .lss (.t 6) (.t 8)⟩])
   (.drop [6, 7, 8] (.cond (.t 9) .skip
    (.exit 0))))
  (.drop [6, 7, 8, 9] (.seq (.block 1 (.seq (.reg [⟨none, .mov 12 (.t 1)⟩,
        ⟨none, .mov 13 (.t 0)⟩,
        ⟨none, .mov 14 (.t 5)⟩,
        ⟨none, .iad 15 1 (.t 13) (.t 14)⟩,
        ⟨none, .ld 16 1 false (.t 15)⟩,
        ⟨none, .call 17 f_spec_l1Has [((.t 12), false), ((.t 16), false)]⟩,
        ⟨none, .un 18 .not (.t 17)⟩])
     (.drop [12, 13, 14, 15, 16, 17] (.cond (.t 18) (.seq (.reg [⟨none, .asg 4 (.c (.bool false))⟩])
       .ret)
      .skip))))
   (.drop [12, 13, 14, 15, 16, 17, 18] (.reg [⟨none, .mov 10 (.t 5)⟩,
      ⟨none, .bin 11 .add (.t 10) (.c (.int .i64 1))⟩,
      ⟨none, .asg 5 (.t 11)⟩])))))
def c_spec_l5Within : ACode :=
  (.seq (.reg [⟨none, .asg 4 (.c (.bool false))⟩])
  (.seq (.seq (.reg [⟨none, .asg 5 (.c (.int .i64 0))⟩])
    (.block 0 (.loop c_spec_l5Within_l1)))
   (.drop [5, 6, 7, 8, 9, 12, 13, 14, 15, 16, 17, 18, 10, 11] (.seq (.reg [⟨none, .asg 4 (.c (.bool true))⟩])
    .ret))))
abbrev r_spec_l5Within : List RS := [.t 4]
theorem k_spec_l5Within : fitsF Try.prog f_spec_l5Within 19 c_spec_l5Within r_spec_l5Within = true := by kernel_rfl

/- (loop.example/g01078/impl.order).covers: [o=0, x=1, y=2, o=3, x=4, y=5, z=7] -/
def c_impl_order_covers_l1 : ACode :=
  (.seq (.reg [⟨none, .bin 16 .lss (.t 15) (.t 14)⟩])
  (.seq (.cond (.t 16) .skip
    (.exit 0))
   (.seq (.block 1 (.seq (.reg [⟨none, .mov 17 (.t 15)⟩,
         ⟨none, .asg 7 (.t 17)⟩])
      (.drop [17] (.seq (.reg [⟨none, .mov 18 (.t 0)⟩,
          ⟨none, .mov 19 (.t 1)⟩,
          ⟨none, .mov 20 (.t 7)⟩,
          ⟨none, .call 21 f_impl_order_less [((.t 18), false), ((.t 19), false), ((.t 20), false)]⟩,
          ⟨none, .asg 22 (.t 21)⟩,
          ⟨some (22, true), .mov 23 (.t 0)⟩,
          ⟨some (22, true), .mov 24 (.t 7)⟩,
          ⟨some (22, true), .mov 25 (.t 2)⟩,
          ⟨some (22, true), .call 26 f_impl_order_less [((.t 23), false), ((.t 24), false), ((.t 25), false)]⟩,
          ⟨none, .pick 27 (.t 22) (.t 26) (.c (.bool false))⟩])
       (.drop [18, 19, 20, 21, 22, 23, 24, 25, 26] (.cond (.t 27) (.seq (.reg [⟨none, .asg 6 (.c (.bool false))⟩])
         .ret)
        .skip))))))
    (.drop [17, 7, 18, 19, 20, 21, 22, 23, 24, 25, 26, 27] (.reg [⟨none, .bin 28 .add (.t 15) (.c (.int .i64 1))⟩,
       ⟨none, .asg 15 (.t 28)⟩])))))
def c_impl_order_covers : ACode :=
  (.seq (.reg [⟨none, .asg 6 (.c (.bool false))⟩])
  (.seq (.seq (.reg [⟨none, .mov 8 (.t 0)⟩,
       ⟨none, .mov 9 (.t 1)⟩,
       ⟨none, .mov 10 (.t 2)⟩,
       ⟨none, .call 11 f_impl_order_less [((.t 8), false), ((.t 9), false), ((.t 10), false)]⟩,
       ⟨none, .un 12 .not (.t 11)⟩])
    (.drop [8, 9, 10, 11] (.cond (.t 12) (.seq (.reg [⟨none, .asg 6 (.c (.bool false))⟩])
      .ret)
     .skip)))
   (.drop [8, 9, 10, 11, 12] (.seq (.seq (.reg [⟨none, .mov 13 (.t 0)⟩,
        ⟨none, .len 14 (.t 13)⟩,
        ⟨none, .mov 15 (.c (.int .i64 0))⟩])
     (.drop [13] (.block 0 (.loop c_impl_order_covers_l1))))
    (.drop [13, 14, 15, 16, 17, 7, 18, 19, 20, 21, 22, 23, 24, 25, 26, 27, 28] (.seq (.reg [⟨none, .asg 6 (.c (.bool true))⟩])
     .ret))))))
abbrev r_impl_order_covers : List RS := [.t 6]
theorem k_impl_order_covers : fitsF Try.prog f_impl_order_covers 29 c_impl_order_covers r_impl_order_covers = true := by kernel_rfl

/- (loop.example/g01078/impl.order).meetTable: [o=0, o=1, table=4, x=5, row=6, y=7, m=8] -/
def c_impl_order_meetTable_l1 : ACode :=
  (.seq (.reg [⟨none, .bin 19 .lss (.t 18) (.t 17)⟩])
  (.seq (.cond (.t 19) .skip
    (.exit 2))
   (.seq (.block 3 (.seq (.reg [⟨none, .mov 20 (.t 18)⟩,
         ⟨none, .alc 7 (.int .i64 0)⟩,
         ⟨none, .st 1 (.t 7) (.t 20)⟩])
      (.drop [20] (.seq (.dreg [(⟨none, .ld 21 1 false (.t 1)⟩, []),
          (⟨none, .ld 22 1 false (.t 1)⟩, [21]),
          (⟨none, .mkf 23 f_impl_order_meetTable_1 [(.t 1), (.t 5), (.t 7)]⟩, [21, 22]),
          (⟨none, .call 24 f_impl_order_those [((.t 22), false), ((.t 23), false)]⟩, [21])]
         [⟨none, .call 25 f_impl_order_greatest [((.t 21), false), ((.t 24), false)]⟩,
          ⟨none, .asg 8 (.t 25)⟩])
       (.drop [21, 22, 23, 24, 25] (.seq (.seq (.reg [⟨none, .mov 26 (.t 8)⟩,
            ⟨none, .bin 27 .lss (.t 26) (.c (.int .i64 0))⟩])
         (.drop [26] (.cond (.t 27) (.seq (.reg [⟨none, .asg 2 (.c (.nilsl 1))⟩,
              ⟨none, .asg 3 (.c (.bool false))⟩])
           .ret)
          .skip)))
        (.drop [26, 27] (.reg [⟨none, .mov 28 (.t 6)⟩,
           ⟨none, .mov 29 (.t 8)⟩,
           ⟨none, .bsl 30 1 [(.t 29)]⟩,
           ⟨none, .app 31 1 (.t 28) (.t 30)⟩,
           ⟨none, .asg 6 (.t 31)⟩]))))))))
    (.drop [20, 7, 21, 22, 23, 24, 25, 8, 26, 27, 28, 29, 30, 31] (.reg [⟨none, .bin 32 .add (.t 18) (.c (.int .i64 1))⟩,
       ⟨none, .asg 18 (.t 32)⟩])))))
def c_impl_order_meetTable_l2 : ACode :=
  (.seq (.reg [⟨none, .bin 13 .lss (.t 12) (.t 11)⟩])
  (.seq (.cond (.t 13) .skip
    (.exit 0))
   (.seq (.block 1 (.seq (.reg [⟨none, .mov 14 (.t 12)⟩,
         ⟨none, .alc 5 (.int .i64 0)⟩,
         ⟨none, .st 1 (.t 5) (.t 14)⟩])
      (.drop [14] (.seq (.reg [⟨none, .bsl 15 1 []⟩,
          ⟨none, .asg 6 (.t 15)⟩])
       (.drop [15] (.seq (.seq (.reg [⟨none, .ld 16 1 false (.t 1)⟩,
            ⟨none, .len 17 (.t 16)⟩,
            ⟨none, .mov 18 (.c (.int .i64 0))⟩])
         (.drop [16] (.block 2 (.loop c_impl_order_meetTable_l1))))
        (.drop [16, 17, 18, 19, 20, 7, 21, 22, 23, 24, 25, 8, 26, 27, 28, 29, 30, 31, 32] (.reg [⟨none, .mov 33 (.t 4)⟩,
           ⟨none, .mov 34 (.t 6)⟩,
           ⟨none, .bsl 35 1 [(.t 34)]⟩,
           ⟨none, .app 36 1 (.t 33) (.t 35)⟩,
           ⟨none, .asg 4 (.t 36)⟩]))))))))
    (.drop [14, 5, 15, 6, 16, 17, 18, 19, 20, 7, 21, 22, 23, 24, 25, 8, 26, 27, 28, 29, 30, 31, 32, 33, 34, 35, 36] (.reg [⟨none, .bin 37 .add (.t 12) (.c (.int .i64 1))⟩,
       ⟨none, .asg 12 (.t 37)⟩])))))
def c_impl_order_meetTable : ACode :=
  (.seq (.reg [⟨none, .box 1 (.t 0)⟩,
     ⟨none, .asg 2 (.c (.nilsl 1))⟩,
     ⟨none, .asg 3 (.c (.bool false))⟩])
  (.seq (.reg [⟨none, .bsl 9 1 []⟩,
      ⟨none, .asg 4 (.t 9)⟩])
   (.drop [9] (.seq (.seq (.reg [⟨none, .ld 10 1 false (.t 1)⟩,
        ⟨none, .len 11 (.t 10)⟩,
        ⟨none, .mov 12 (.c (.int .i64 0))⟩])
     (.drop [10] (.block 0 (.loop c_impl_order_meetTable_l2))))
    (.drop [10, 11, 12, 13, 14, 5, 15, 6, 16, 17, 18, 19, 20, 7, 21, 22, 23, 24, 25, 8, 26, 27, 28, 29, 30, 31, 32, 33, 34, 35, 36, 37] (.seq (.reg [⟨none, .mov 38 (.t 4)⟩,
        ⟨none, .asg 2 (.t 38)⟩,
        ⟨none, .asg 3 (.c (.bool true))⟩])
     (.drop [38] .ret)))))))
abbrev r_impl_order_meetTable : List RS := [.t 2, .t 3]
theorem k_impl_order_meetTable : fitsF Try.prog f_impl_order_meetTable 39 c_impl_order_meetTable r_impl_order_meetTable = true := by kernel_rfl

/- (loop.example/g01078/impl.order).dual: [o=0, o=1, d=3, x=4, y=5] -/
def c_impl_order_dual_l1 : ACode :=
  (.seq (.reg [⟨none, .bin 17 .lss (.t 16) (.t 15)⟩])
  (.seq (.cond (.t 17) .skip
    (.exit 2))
   (.seq (.block 3 (.seq (.reg [⟨none, .mov 18 (.t 16)⟩,
         ⟨none, .asg 5 (.t 18)⟩])
      (.drop [18] (.dreg [(⟨none, .mov 19 (.t 3)⟩, []),
         (⟨none, .mov 20 (.t 4)⟩, [19]),
         (⟨none, .iad 21 1 (.t 19) (.t 20)⟩, []),
         (⟨none, .ld 22 1 false (.t 21)⟩, []),
         (⟨none, .mov 23 (.t 5)⟩, [19, 20, 21, 22]),
         (⟨none, .mov 24 (.t 0)⟩, [19, 20, 21, 22, 23]),
         (⟨none, .mov 25 (.t 5)⟩, [19, 20, 21, 22, 23, 24]),
         (⟨none, .iad 26 1 (.t 24) (.t 25)⟩, [19, 20, 21, 22, 23]),
         (⟨none, .ld 27 1 false (.t 26)⟩, [19, 20, 21, 22, 23]),
         (⟨none, .mov 28 (.t 4)⟩, [19, 20, 21, 22, 23, 24, 25, 26, 27]),
         (⟨none, .iad 29 1 (.t 27) (.t 28)⟩, [19, 20, 21, 22, 23]),
         (⟨none, .ld 30 1 false (.t 29)⟩, [19, 20, 21, 22, 23])]
        [⟨none, .iad 31 1 (.t 22) (.t 23)⟩,
         ⟨none, .st 1 (.t 31) (.t 30)⟩]))))
    (.drop [18, 5, 19, 20, 21, 22, 23, 24, 25, 26, 27, 28, 29, 30, 31] (.reg [⟨none, .bin 32 .add (.t 16) (.c (.int .i64 1))⟩,
       ⟨none, .asg 16 (.t 32)⟩])))))
def c_impl_order_dual_l2 : ACode :=
  (.seq (.reg [⟨none, .bin 12 .lss (.t 11) (.t 10)⟩])
  (.seq (.cond (.t 12) .skip
    (.exit 0))
   (.seq (.block 1 (.seq (.reg [⟨none, .mov 13 (.t 11)⟩,
         ⟨none, .asg 4 (.t 13)⟩])
      (.drop [13] (.seq (.reg [⟨none, .mov 14 (.t 0)⟩,
          ⟨none, .len 15 (.t 14)⟩,
          ⟨none, .mov 16 (.c (.int .i64 0))⟩])
       (.drop [14] (.block 2 (.loop c_impl_order_dual_l1)))))))
    (.drop [13, 4, 14, 15, 16, 17, 18, 5, 19, 20, 21, 22, 23, 24, 25, 26, 27, 28, 29, 30, 31, 32] (.reg [⟨none, .bin 33 .add (.t 11) (.c (.int .i64 1))⟩,
       ⟨none, .asg 11 (.t 33)⟩])))))
def c_impl_order_dual : ACode :=
  (.seq (.reg [⟨none, .asg 2 (.c (.nilsl 1))⟩])
  (.seq (.reg [⟨none, .mov 6 (.t 0)⟩,
      ⟨none, .len 7 (.t 6)⟩,
      ⟨none, .call 8 f_impl_newOrder [((.t 7), false)]⟩,
      ⟨none, .asg 3 (.t 8)⟩])
   (.drop [6, 7, 8] (.seq (.seq (.reg [⟨none, .mov 9 (.t 0)⟩,
        ⟨none, .len 10 (.t 9)⟩,
        ⟨none, .mov 11 (.c (.int .i64 0))⟩])
     (.drop [9] (.block 0 (.loop c_impl_order_dual_l2))))
    (.drop [9, 10, 11, 12, 13, 4, 14, 15, 16, 17, 18, 5, 19, 20, 21, 22, 23, 24, 25, 26, 27, 28, 29, 30, 31, 32, 33] (.seq (.reg [⟨none, .mov 34 (.t 3)⟩,
        ⟨none, .asg 2 (.t 34)⟩])
     (.drop [34] .ret)))))))
abbrev r_impl_order_dual : List RS := [.t 2]
theorem k_impl_order_dual : fitsF Try.prog f_impl_order_dual 35 c_impl_order_dual r_impl_order_dual = true := by kernel_rfl

/- loop.example/g01078/laws.szOp: [a=0, left=1, a=2, left=3] -/
def c_laws_szOp : ACode :=
  (.seq (.reg [⟨none, .box 2 (.t 0)⟩,
     ⟨none, .asg 4 (.c (.int .i64 0))⟩])
  (.seq (.reg [⟨none, .fadr 5 1 (.t 2)⟩,
      ⟨none, .ld 6 1 false (.t 5)⟩,
      ⟨none, .mov 7 (.t 1)⟩,
      ⟨none, .call 8 f_laws_szIntS [((.t 6), false), ((.t 7), false)]⟩,
      ⟨none, .asg 1 (.t 8)⟩])
   (.drop [5, 6, 7, 8] (.seq (.seq (.reg [⟨none, .mov 9 (.t 1)⟩,
        ⟨none, .bin 10 .lss (.t 9) (.c (.int .i64 0))⟩])
     (.drop [9] (.cond (.t 10) (.seq (.reg [⟨none, .asg 4 (.c (.int .i64 (-1)))⟩])
       .ret)
      .skip)))
    (.drop [9, 10] (.seq (.reg [⟨none, .mov 11 (.t 1)⟩,
        ⟨none, .asg 4 (.t 11)⟩])
     (.drop [11] .ret)))))))
abbrev r_laws_szOp : List RS := [.t 4]
theorem k_laws_szOp : fitsF Try.prog f_laws_szOp 12 c_laws_szOp r_laws_szOp = true := by kernel_rfl

/- loop.example/g01078/spec.l2Op: [n=0, op=1, n=2, op=3, i=5] -/
def c_spec_l2Op_k1 : ACode :=
  (.seq (.dreg [(⟨none, .fadr 6 0 (.t 3)⟩, []),
       (⟨none, .ld 7 1 false (.t 6)⟩, []),
       (⟨none, .call 8 f_spec_l1In [((.t 7), false), ((.c (.int .i64 0)), false), ((.c (.int .i64 3)), false)]⟩, []),
       (⟨none, .un 9 .not (.t 8)⟩, []),
       (⟨none, .asg 10 (.t 9)⟩, []),
       (⟨some (10, false), .fadr 11 1 (.t 3)⟩, []),
       (⟨some (10, false), .ld 12 1 false (.t 11)⟩, []),
       (⟨some (10, false), .len 13 (.t 12)⟩, []),
       (⟨some (10, false), .mov 14 (.t 0)⟩, [11, 12, 13]),
       (⟨some (10, false), .fadr 15 0 (.t 3)⟩, [11, 12, 13, 14]),
       (⟨some (10, false), .ld 16 1 false (.t 15)⟩, [11, 12, 13, 14]),
       (⟨some (10, false), .call 17 f_spec_l2Pow [((.t 14), false), ((.t 16), false)]⟩, [11, 12, 13])]
      [⟨some (10, false), .bin 18 .neq (.t 13) (.t 17)⟩,
       ⟨none, .pick 19 (.t 10) (.c (.bool true)) (.t 18)⟩])
    (.drop [6, 7, 8, 9, 10, 11, 12, 13, 14, 15, 16, 17, 18] (.cond (.t 19) (.seq (.reg [⟨none, .asg 4 (.c (.bool false))⟩])
      .ret)
     .skip)))
def c_spec_l2Op_l1 : ACode :=
  (.seq (.seq (.reg [⟨none, .mov 20 (.t 5)⟩,
      ⟨none, .fadr 21 1 (.t 3)⟩,
      ⟨none, .ld 22 1 false (.t 21)⟩,
      ⟨none, .len 23 (.t 22)⟩,
      ⟨none, .bin 24 .lss (.t 20) (.t 23)⟩])
   (.drop [20, 21, 22, 23] (.cond (.t 24) .skip
    (.exit 0))))
  (.drop [20, 21, 22, 23, 24] (.seq (.block 1 (.seq (.reg [⟨none, .fadr 27 1 (.t 3)⟩,
        ⟨none, .ld 28 1 false (.t 27)⟩,
        ⟨none, .mov 29 (.t 5)⟩,
        ⟨none, .iad 30 1 (.t 28) (.t 29)⟩,
        ⟨none, .ld 31 1 false (.t 30)⟩,
        ⟨none, .mov 32 (.t 0)⟩,
        ⟨none, .bin 33 .sub (.t 32) (.c (.int .i64 1))⟩,
        ⟨none, .call 34 f_spec_l1In [((.t 31), false), ((.c (.int .i64 0)), false), ((.t 33), false)]⟩,
        ⟨none, .un 35 .not (.t 34)⟩])
     (.drop [27, 28, 29, 30, 31, 32, 33, 34] (.cond (.t 35) (.seq (.reg [⟨none, .asg 4 (.c (.bool false))⟩])
       .ret)
      .skip))))
   (.drop [27, 28, 29, 30, 31, 32, 33, 34, 35] (.reg [⟨none, .mov 25 (.t 5)⟩,
      ⟨none, .bin 26 .add (.t 25) (.c (.int .i64 1))⟩,
      ⟨none, .asg 5 (.t 26)⟩])))))
def c_spec_l2Op : ACode :=
  (.seq (.reg [⟨none, .box 3 (.t 1)⟩,
     ⟨none, .asg 4 (.c (.bool false))⟩])
  (.seq (.cut c_spec_l2Op_k1)
   (.drop [6, 7, 8, 9, 10, 11, 12, 13, 14, 15, 16, 17, 18, 19] (.seq (.seq (.reg [⟨none, .asg 5 (.c (.int .i64 0))⟩])
     (.block 0 (.loop c_spec_l2Op_l1)))
    (.drop [5, 20, 21, 22, 23, 24, 27, 28, 29, 30, 31, 32, 33, 34, 35, 25, 26] (.seq (.reg [⟨none, .asg 4 (.c (.bool true))⟩])
     .ret))))))
abbrev r_spec_l2Op : List RS := [.t 4]
theorem k_spec_l2Op : fitsF Try.prog f_spec_l2Op 36 c_spec_l2Op r_spec_l2Op = true := by kernel_rfl

/- loop.example/g01078/spec.l2Elements: [n=0, list=1, n=2, list=3, i=5] -/
def c_spec_l2Elements_l1 : ACode :=
  (.seq (.seq (.reg [⟨none, .mov 6 (.t 5)⟩,
      ⟨none, .mov 7 (.t 1)⟩,
      ⟨none, .len 8 (.t 7)⟩,
      ⟨none, .bin 9 .lss (.t 6) (.t 8)⟩])
   (.drop [6, 7, 8] (.cond (.t 9) .skip
    (.exit 0))))
  (.drop [6, 7, 8, 9] (.seq (.block 1 (.seq (.reg [⟨none, .mov 12 (.t 1)⟩,
        ⟨none, .mov 13 (.t 5)⟩,
        ⟨none, .iad 14 1 (.t 12) (.t 13)⟩,
        ⟨none, .ld 15 1 false (.t 14)⟩,
        ⟨none, .mov 16 (.t 0)⟩,
        ⟨none, .bin 17 .sub (.t 16) (.c (.int .i64 1))⟩,
        ⟨none, .call 18 f_spec_l1In [((.t 15), false), ((.c (.int .i64 0)), false), ((.t 17), false)]⟩,
        ⟨none, .un 19 .not (.t 18)⟩])
     (.drop [12, 13, 14, 15, 16, 17, 18] (.cond (.t 19) (.seq (.reg [⟨none, .asg 4 (.c (.bool false))⟩])
       .ret)
      .skip))))
   (.drop [12, 13, 14, 15, 16, 17, 18, 19] (.reg [⟨none, .mov 10 (.t 5)⟩,
      ⟨none, .bin 11 .add (.t 10) (.c (.int .i64 1))⟩,
      ⟨none, .asg 5 (.t 11)⟩])))))
def c_spec_l2Elements : ACode :=
  (.seq (.reg [⟨none, .asg 4 (.c (.bool false))⟩])
  (.seq (.seq (.reg [⟨none, .asg 5 (.c (.int .i64 0))⟩])
    (.block 0 (.loop c_spec_l2Elements_l1)))
   (.drop [5, 6, 7, 8, 9, 12, 13, 14, 15, 16, 17, 18, 19, 10, 11] (.seq (.reg [⟨none, .asg 4 (.c (.bool true))⟩])
    .ret))))
abbrev r_spec_l2Elements : List RS := [.t 4]
theorem k_spec_l2Elements : fitsF Try.prog f_spec_l2Elements 20 c_spec_l2Elements r_spec_l2Elements = true := by kernel_rfl

/- loop.example/g01078/laws.toOp: [a=0, a=1, out=3] -/
def c_laws_toOp : ACode :=
  (.seq (.reg [⟨none, .box 1 (.t 0)⟩,
     ⟨none, .alc 2 (.agg [.int .i64 0, .nilsl 1])⟩])
  (.seq (.reg [⟨none, .alc 3 (.agg [.int .i64 0, .nilsl 1])⟩])
   (.seq (.reg [⟨none, .fadr 4 0 (.t 1)⟩,
       ⟨none, .ld 5 1 false (.t 4)⟩,
       ⟨none, .fadr 6 0 (.t 3)⟩,
       ⟨none, .st 1 (.t 6) (.t 5)⟩])
    (.drop [4, 5, 6] (.seq (.reg [⟨none, .fadr 7 1 (.t 1)⟩,
        ⟨none, .ld 8 1 false (.t 7)⟩,
        ⟨none, .call 9 f_laws_toIntS [((.t 8), false)]⟩,
        ⟨none, .fadr 10 1 (.t 3)⟩,
        ⟨none, .st 1 (.t 10) (.t 9)⟩])
     (.drop [7, 8, 9, 10] (.seq (.reg [⟨none, .ld 11 2 true (.t 3)⟩,
         ⟨none, .st 2 (.t 2) (.t 11)⟩])
      (.drop [11] .ret))))))))
abbrev r_laws_toOp : List RS := [.c 2 2 true]
theorem k_laws_toOp : fitsF Try.prog f_laws_toOp 12 c_laws_toOp r_laws_toOp = true := by kernel_rfl

/- loop.example/g01078/impl.isOp: [f=0, n=1, f=2, n=3] -/
def c_impl_isOp : ACode :=
  (.seq (.reg [⟨none, .box 2 (.t 0)⟩,
     ⟨none, .asg 4 (.c (.bool false))⟩])
  (.seq (.dreg [(⟨none, .fadr 5 0 (.t 2)⟩, []),
      (⟨none, .ld 6 1 false (.t 5)⟩, []),
      (⟨none, .bin 7 .geq (.t 6) (.c (.int .i64 0))⟩, []),
      (⟨none, .asg 8 (.t 7)⟩, []),
      (⟨some (8, true), .fadr 9 0 (.t 2)⟩, []),
      (⟨some (8, true), .ld 10 1 false (.t 9)⟩, []),
      (⟨some (8, true), .bin 11 .leq (.t 10) (.c (.int .i64 3))⟩, []),
      (⟨none, .pick 12 (.t 8) (.t 11) (.c (.bool false))⟩, []),
      (⟨none, .asg 13 (.t 12)⟩, []),
      (⟨some (13, true), .fadr 14 1 (.t 2)⟩, []),
      (⟨some (13, true), .ld 15 1 false (.t 14)⟩, []),
      (⟨some (13, true), .len 16 (.t 15)⟩, []),
      (⟨some (13, true), .mov 17 (.t 1)⟩, [14, 15, 16]),
      (⟨some (13, true), .fadr 18 0 (.t 2)⟩, [14, 15, 16, 17]),
      (⟨some (13, true), .ld 19 1 false (.t 18)⟩, [14, 15, 16, 17]),
      (⟨some (13, true), .call 20 f_impl_power [((.t 17), false), ((.t 19), false)]⟩, [14, 15, 16]),
      (⟨some (13, true), .bin 21 .eql (.t 16) (.t 20)⟩, []),
      (⟨none, .pick 22 (.t 13) (.t 21) (.c (.bool false))⟩, []),
      (⟨none, .asg 23 (.t 22)⟩, []),
      (⟨some (23, true), .fadr 24 1 (.t 2)⟩, []),
      (⟨some (23, true), .ld 25 1 false (.t 24)⟩, []),
      (⟨some (23, true), .mov 26 (.t 1)⟩, [24, 25])]
     [⟨some (23, true), .call 27 f_impl_inSize [((.t 25), false), ((.t 26), false)]⟩,
      ⟨none, .pick 28 (.t 23) (.t 27) (.c (.bool false))⟩,
      ⟨none, .asg 4 (.t 28)⟩])
   (.drop [5, 6, 7, 8, 9, 10, 11, 12, 13, 14, 15, 16, 17, 18, 19, 20, 21, 22, 23, 24, 25, 26, 27, 28] .ret)))
abbrev r_impl_isOp : List RS := [.t 4]
theorem k_impl_isOp : fitsF Try.prog f_impl_isOp 29 c_impl_isOp r_impl_isOp = true := by kernel_rfl

end Go.Proofs.Ythcnmahjhahafab.Ax
