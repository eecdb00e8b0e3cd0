/-
  The small code of the functions, written by program; that the program's code is this one, the kernel looks at.
-/
import Derived.Test.YtdodfnbbfkcgnaaAx3
import Derived.Test.YtdodfnbbfkcgnaaProg
import Derived.KernelRfl
import Derived.Test.YtdodfnbbfkcgnaaNum
namespace Go.Proofs.Ytdodfnbbfkcgnaa.Ax
open Go
set_option maxRecDepth 100000

/- loop.example/g01078/spec.l24Some: [p=0, some=1, p=2, some=3] -/
def c_spec_l24Some : ACode :=
  (.seq (.reg [⟨none, .box 2 (.t 0)⟩,
     ⟨none, .asg 4 (.c (.bool false))⟩])
  (.seq (.reg [⟨none, .ld 5 1 true (.t 2)⟩,
      ⟨none, .call 6 f_spec_l24Good [((.t 5), false)]⟩,
      ⟨none, .asg 7 (.t 6)⟩,
      ⟨some (7, true), .mov 8 (.t 1)⟩,
      ⟨some (7, true), .len 9 (.t 8)⟩,
      ⟨some (7, true), .bin 10 .leq (.t 9) (.c (.int .i64 20))⟩,
      ⟨none, .pick 11 (.t 7) (.t 10) (.c (.bool false))⟩,
      ⟨none, .asg 12 (.t 11)⟩,
      ⟨some (12, true), .fadr 13 0 (.t 2)⟩,
      ⟨some (12, true), .ld 14 1 false (.t 13)⟩,
      ⟨some (12, true), .len 15 (.t 14)⟩,
      ⟨some (12, true), .mov 16 (.t 1)⟩,
      ⟨some (12, true), .call 17 f_spec_l2Elements [((.t 15), false), ((.t 16), false)]⟩,
      ⟨none, .pick 18 (.t 12) (.t 17) (.c (.bool false))⟩,
      ⟨none, .asg 4 (.t 18)⟩])
   (.drop [5, 6, 7, 8, 9, 10, 11, 12, 13, 14, 15, 16, 17, 18] .ret)))
abbrev r_spec_l24Some : List RS := [.t 4]
theorem k_spec_l24Some : fitsF Try.prog f_spec_l24Some 19 c_spec_l24Some r_spec_l24Some = true := by kernel_rfl

/- loop.example/g01078/spec.IsSublattice: [p=0, some=1, p=2, some=3] -/
def c_spec_IsSublattice : ACode :=
  (.seq (.reg [⟨none, .box 2 (.t 0)⟩,
     ⟨none, .asg 4 (.c (.bool false))⟩,
     ⟨none, .asg 5 (.c (.bool false))⟩])
  (.seq (.seq (.reg [⟨none, .ld 6 1 true (.t 2)⟩,
       ⟨none, .call 7 f_spec_l24Good [((.t 6), false)]⟩,
       ⟨none, .un 8 .not (.t 7)⟩])
    (.drop [6, 7] (.cond (.t 8) (.seq (.reg [⟨none, .asg 4 (.c (.bool false))⟩,
         ⟨none, .asg 5 (.c (.bool false))⟩])
      .ret)
     .skip)))
   (.drop [6, 7, 8] (.seq (.reg [⟨none, .ld 9 1 true (.t 2)⟩,
       ⟨none, .mov 10 (.t 1)⟩,
       ⟨none, .call 11 f_spec_l24Sub [((.t 9), false), ((.t 10), false)]⟩,
       ⟨none, .asg 4 (.t 11)⟩,
       ⟨none, .asg 5 (.c (.bool true))⟩])
    (.drop [9, 10, 11] .ret)))))
abbrev r_spec_IsSublattice : List RS := [.t 4, .t 5]
theorem k_spec_IsSublattice : fitsF Try.prog f_spec_IsSublattice 12 c_spec_IsSublattice r_spec_IsSublattice = true := by kernel_rfl

/- loop.example/g01078/spec.GenerateSublattice: [p=0, some=1, p=2, some=3] -/
def c_spec_GenerateSublattice : ACode :=
  (.seq (.reg [⟨none, .box 2 (.t 0)⟩,
     ⟨none, .asg 4 (.c (.nilsl 1))⟩,
     ⟨none, .asg 5 (.c (.bool false))⟩])
  (.seq (.seq (.reg [⟨none, .ld 6 1 true (.t 2)⟩,
       ⟨none, .mov 7 (.t 1)⟩,
       ⟨none, .call 8 f_spec_l24Some [((.t 6), false), ((.t 7), false)]⟩,
       ⟨none, .un 9 .not (.t 8)⟩,
       ⟨none, .asg 10 (.t 9)⟩,
       ⟨some (10, false), .mov 11 (.t 1)⟩,
       ⟨some (10, false), .len 12 (.t 11)⟩,
       ⟨some (10, false), .bin 13 .eql (.t 12) (.c (.int .i64 0))⟩,
       ⟨none, .pick 14 (.t 10) (.c (.bool true)) (.t 13)⟩])
    (.drop [6, 7, 8, 9, 10, 11, 12, 13] (.cond (.t 14) (.seq (.reg [⟨none, .bsl 15 1 []⟩,
         ⟨none, .asg 4 (.t 15)⟩,
         ⟨none, .asg 5 (.c (.bool false))⟩])
      (.drop [15] .ret))
     .skip)))
   (.drop [6, 7, 8, 9, 10, 11, 12, 13, 14, 15] (.seq (.reg [⟨none, .ld 16 1 true (.t 2)⟩,
       ⟨none, .mov 17 (.t 1)⟩,
       ⟨none, .call 18 f_spec_l24Close [((.t 16), false), ((.t 17), false)]⟩,
       ⟨none, .asg 4 (.t 18)⟩,
       ⟨none, .asg 5 (.c (.bool true))⟩])
    (.drop [16, 17, 18] .ret)))))
abbrev r_spec_GenerateSublattice : List RS := [.t 4, .t 5]
theorem k_spec_GenerateSublattice : fitsF Try.prog f_spec_GenerateSublattice 19 c_spec_GenerateSublattice r_spec_GenerateSublattice = true := by kernel_rfl

/- loop.example/g01078/spec.SublatticePoset: [p=0, sub=1, p=2, sub=3, out=6, i=7, below=8, k=9] -/
def c_spec_SublatticePoset_k1 : ACode :=
  (.seq (.reg [⟨none, .ld 10 1 true (.t 2)⟩,
       ⟨none, .call 11 f_spec_l24Good [((.t 10), false)]⟩,
       ⟨none, .un 12 .not (.t 11)⟩,
       ⟨none, .asg 13 (.t 12)⟩,
       ⟨some (13, false), .ld 14 1 true (.t 2)⟩,
       ⟨some (13, false), .mov 15 (.t 1)⟩,
       ⟨some (13, false), .call 16 f_spec_l24Sub [((.t 14), false), ((.t 15), false)]⟩,
       ⟨some (13, false), .un 17 .not (.t 16)⟩,
       ⟨none, .pick 18 (.t 13) (.c (.bool true)) (.t 17)⟩])
    (.drop [10, 11, 12, 13, 14, 15, 16, 17] (.cond (.t 18) (.seq (.reg [⟨none, .bld 19 [.nilsl 1] []⟩,
         ⟨none, .st 1 (.t 4) (.t 19)⟩,
         ⟨none, .asg 5 (.c (.bool false))⟩])
      (.drop [19] .ret))
     .skip)))
def c_spec_SublatticePoset_l1 : ACode :=
  (.seq (.seq (.reg [⟨none, .mov 29 (.t 9)⟩,
      ⟨none, .mov 30 (.t 1)⟩,
      ⟨none, .len 31 (.t 30)⟩,
      ⟨none, .bin 32 .lss (.t 29) (.t 31)⟩])
   (.drop [29, 30, 31] (.cond (.t 32) .skip
    (.exit 2))))
  (.drop [29, 30, 31, 32] (.seq (.block 3 (.seq (.dreg [(⟨none, .ld 35 1 true (.t 2)⟩, []),
        (⟨none, .mov 36 (.t 1)⟩, [35]),
        (⟨none, .mov 37 (.t 9)⟩, [35, 36]),
        (⟨none, .iad 38 1 (.t 36) (.t 37)⟩, [35]),
        (⟨none, .ld 39 1 false (.t 38)⟩, [35]),
        (⟨none, .mov 40 (.t 1)⟩, [35, 36, 37, 38, 39]),
        (⟨none, .mov 41 (.t 7)⟩, [35, 36, 37, 38, 39, 40]),
        (⟨none, .iad 42 1 (.t 40) (.t 41)⟩, [35, 36, 37, 38, 39]),
        (⟨none, .ld 43 1 false (.t 42)⟩, [35, 36, 37, 38, 39])]
       [⟨none, .call 44 f_spec_l23Leq [((.t 35), false), ((.t 39), false), ((.t 43), false)]⟩])
     (.drop [35, 36, 37, 38, 39, 40, 41, 42, 43] (.cond (.t 44) (.reg [⟨none, .mov 45 (.t 8)⟩,
         ⟨none, .mov 46 (.t 9)⟩,
         ⟨none, .bsl 47 1 [(.t 46)]⟩,
         ⟨none, .app 48 1 (.t 45) (.t 47)⟩,
         ⟨none, .asg 8 (.t 48)⟩])
      .skip))))
   (.drop [35, 36, 37, 38, 39, 40, 41, 42, 43, 44, 45, 46, 47, 48] (.reg [⟨none, .mov 33 (.t 9)⟩,
      ⟨none, .bin 34 .add (.t 33) (.c (.int .i64 1))⟩,
      ⟨none, .asg 9 (.t 34)⟩])))))
def c_spec_SublatticePoset_l2 : ACode :=
  (.seq (.seq (.reg [⟨none, .mov 22 (.t 7)⟩,
      ⟨none, .mov 23 (.t 1)⟩,
      ⟨none, .len 24 (.t 23)⟩,
      ⟨none, .bin 25 .lss (.t 22) (.t 24)⟩])
   (.drop [22, 23, 24] (.cond (.t 25) .skip
    (.exit 0))))
  (.drop [22, 23, 24, 25] (.seq (.block 1 (.seq (.reg [⟨none, .bsl 28 1 []⟩,
        ⟨none, .asg 8 (.t 28)⟩])
     (.drop [28] (.seq (.seq (.reg [⟨none, .asg 9 (.c (.int .i64 0))⟩])
       (.block 2 (.loop c_spec_SublatticePoset_l1)))
      (.drop [9, 29, 30, 31, 32, 35, 36, 37, 38, 39, 40, 41, 42, 43, 44, 45, 46, 47, 48, 33, 34] (.reg [⟨none, .fadr 49 0 (.t 6)⟩,
         ⟨none, .ld 50 1 false (.t 49)⟩,
         ⟨none, .mov 51 (.t 8)⟩,
         ⟨none, .bsl 52 1 [(.t 51)]⟩,
         ⟨none, .app 53 1 (.t 50) (.t 52)⟩,
         ⟨none, .fadr 54 0 (.t 6)⟩,
         ⟨none, .st 1 (.t 54) (.t 53)⟩]))))))
   (.drop [28, 8, 9, 29, 30, 31, 32, 35, 36, 37, 38, 39, 40, 41, 42, 43, 44, 45, 46, 47, 48, 33, 34, 49, 50, 51, 52, 53, 54] (.reg [⟨none, .mov 26 (.t 7)⟩,
      ⟨none, .bin 27 .add (.t 26) (.c (.int .i64 1))⟩,
      ⟨none, .asg 7 (.t 27)⟩])))))
def c_spec_SublatticePoset : ACode :=
  (.seq (.reg [⟨none, .box 2 (.t 0)⟩,
     ⟨none, .alc 4 (.agg [.nilsl 1])⟩,
     ⟨none, .asg 5 (.c (.bool false))⟩])
  (.seq (.cut c_spec_SublatticePoset_k1)
   (.drop [10, 11, 12, 13, 14, 15, 16, 17, 18, 19] (.seq (.reg [⟨none, .bsl 20 1 []⟩,
       ⟨none, .bld 21 [.nilsl 1] [(0, 1, (.t 20))]⟩,
       ⟨none, .alc 6 (.agg [.nilsl 1])⟩,
       ⟨none, .st 1 (.t 6) (.t 21)⟩])
    (.drop [20, 21] (.seq (.seq (.reg [⟨none, .asg 7 (.c (.int .i64 0))⟩])
      (.block 0 (.loop c_spec_SublatticePoset_l2)))
     (.drop [7, 22, 23, 24, 25, 28, 8, 9, 29, 30, 31, 32, 35, 36, 37, 38, 39, 40, 41, 42, 43, 44, 45, 46, 47, 48, 33, 34, 49, 50, 51, 52, 53, 54, 26, 27] (.seq (.reg [⟨none, .ld 55 1 true (.t 6)⟩,
         ⟨none, .st 1 (.t 4) (.t 55)⟩,
         ⟨none, .asg 5 (.c (.bool true))⟩])
      (.drop [55] .ret)))))))))
abbrev r_spec_SublatticePoset : List RS := [.c 4 1 true, .t 5]
theorem k_spec_SublatticePoset : fitsF Try.prog f_spec_SublatticePoset 56 c_spec_SublatticePoset r_spec_SublatticePoset = true := by kernel_rfl

/- loop.example/g01078/laws.FnExactIsSublattice: [aP=0, aSome=1, aP=2, aSome=3, left=5, w0=6, w1=7, x0=8, x1=9, g0=10, g1=11] -/
def c_laws_FnExactIsSublattice_k1 : ACode :=
  (.seq (.reg [⟨none, .mov 38 (.t 10)⟩,
               ⟨none, .mov 39 (.t 6)⟩,
               ⟨none, .binb 40 .neq (.t 38) (.t 39)⟩,
               ⟨none, .asg 41 (.t 40)⟩,
               ⟨some (41, false), .mov 42 (.t 11)⟩,
               ⟨some (41, false), .mov 43 (.t 7)⟩,
               ⟨some (41, false), .binb 44 .neq (.t 42) (.t 43)⟩,
               ⟨none, .pick 45 (.t 41) (.c (.bool true)) (.t 44)⟩])
            (.drop [38, 39, 40, 41, 42, 43, 44] (.cond (.t 45) (.seq (.reg [⟨none, .asg 4 (.c (.bool false))⟩])
              .ret)
             .skip)))
def c_laws_FnExactIsSublattice : ACode :=
  (.seq (.reg [⟨none, .box 2 (.t 0)⟩,
     ⟨none, .asg 4 (.c (.bool false))⟩])
  (.seq (.seq (.reg [⟨none, .mov 12 (.t 1)⟩,
       ⟨none, .len 13 (.t 12)⟩,
       ⟨none, .bin 14 .gtr (.t 13) (.c (.int .i64 1048576))⟩])
    (.drop [12, 13] (.cond (.t 14) (.seq (.reg [⟨none, .asg 4 (.c (.bool true))⟩])
      .ret)
     .skip)))
   (.drop [12, 13, 14] (.seq (.reg [⟨none, .asg 5 (.c (.int .i64 1048576))⟩])
    (.seq (.reg [⟨none, .ld 15 1 true (.t 2)⟩,
        ⟨none, .mov 16 (.t 5)⟩,
        ⟨none, .call 17 f_laws_szPoset [((.t 15), false), ((.t 16), false)]⟩,
        ⟨none, .asg 5 (.t 17)⟩])
     (.drop [15, 16, 17] (.seq (.seq (.reg [⟨none, .mov 18 (.t 5)⟩,
          ⟨none, .bin 19 .lss (.t 18) (.c (.int .i64 0))⟩])
       (.drop [18] (.cond (.t 19) (.seq (.reg [⟨none, .asg 4 (.c (.bool true))⟩])
         .ret)
        .skip)))
      (.drop [18, 19] (.seq (.reg [⟨none, .ld 21 1 true (.t 2)⟩,
          ⟨none, .call 22 f_laws_toPoset [((.t 21), false)]⟩,
          ⟨none, .mov 23 (.t 1)⟩,
          ⟨none, .call 24 f_laws_toIntS [((.t 23), false)]⟩,
          ⟨none, .call 25 f_spec_IsSublattice [((.t 22), false), ((.t 24), false)]⟩,
          ⟨none, .asg 20 (.t 25)⟩,
          ⟨none, .ext 26 (.t 20) 0⟩,
          ⟨none, .ext 27 (.t 20) 1⟩,
          ⟨none, .asg 6 (.t 26)⟩,
          ⟨none, .asg 7 (.t 27)⟩])
       (.drop [21, 22, 23, 24, 25, 20, 26, 27] (.seq (.reg [⟨none, .ld 28 1 true (.t 2)⟩,
           ⟨none, .call 29 f_laws_toPoset [((.t 28), false)]⟩,
           ⟨none, .alc 8 (.agg [.nilsl 1])⟩,
           ⟨none, .st 1 (.t 8) (.t 29)⟩])
        (.drop [28, 29] (.seq (.reg [⟨none, .mov 30 (.t 1)⟩,
            ⟨none, .call 31 f_laws_toIntS [((.t 30), false)]⟩,
            ⟨none, .asg 9 (.t 31)⟩])
         (.drop [30, 31] (.seq (.reg [⟨none, .ld 33 1 true (.t 8)⟩,
             ⟨none, .mov 34 (.t 9)⟩,
             ⟨none, .call 35 f_impl_IsSublattice [((.t 33), false), ((.t 34), false)]⟩,
             ⟨none, .asg 32 (.t 35)⟩,
             ⟨none, .ext 36 (.t 32) 0⟩,
             ⟨none, .ext 37 (.t 32) 1⟩,
             ⟨none, .asg 10 (.t 36)⟩,
             ⟨none, .asg 11 (.t 37)⟩])
          (.drop [33, 34, 35, 32, 36, 37] (.seq (.cut c_laws_FnExactIsSublattice_k1)
           (.drop [38, 39, 40, 41, 42, 43, 44, 45] (.seq (.seq (.dreg [(⟨none, .ld 46 1 true (.t 8)⟩, []),
                (⟨none, .ld 47 1 true (.t 2)⟩, [46]),
                (⟨none, .call 48 f_laws_toPoset [((.t 47), false)]⟩, [46])]
               [⟨none, .call 49 f_laws_eqPoset [((.t 46), false), ((.t 48), false)]⟩,
                ⟨none, .un 50 .not (.t 49)⟩])
             (.drop [46, 47, 48, 49] (.cond (.t 50) (.seq (.reg [⟨none, .asg 4 (.c (.bool false))⟩])
               .ret)
              .skip)))
            (.drop [46, 47, 48, 49, 50] (.seq (.seq (.reg [⟨none, .mov 51 (.t 9)⟩,
                 ⟨none, .mov 52 (.t 1)⟩,
                 ⟨none, .call 53 f_laws_toIntS [((.t 52), false)]⟩,
                 ⟨none, .call 54 f_laws_eqIntS [((.t 51), false), ((.t 53), false)]⟩,
                 ⟨none, .un 55 .not (.t 54)⟩])
              (.drop [51, 52, 53, 54] (.cond (.t 55) (.seq (.reg [⟨none, .asg 4 (.c (.bool false))⟩])
                .ret)
               .skip)))
             (.drop [51, 52, 53, 54, 55] (.seq (.reg [⟨none, .asg 4 (.c (.bool true))⟩])
              .ret)))))))))))))))))))))))
abbrev r_laws_FnExactIsSublattice : List RS := [.t 4]
theorem k_laws_FnExactIsSublattice : fitsF Try.prog f_laws_FnExactIsSublattice 56 c_laws_FnExactIsSublattice r_laws_FnExactIsSublattice = true := by kernel_rfl

/- loop.example/g01078/laws.FnExactGenerateSublattice: [aP=0, aSome=1, aP=2, aSome=3, left=5, w0=6, w1=7, x0=8, x1=9, g0=10, g1=11, k=12, m=13, q=14, h0=15, h1=16] -/
def c_laws_FnExactGenerateSublattice_k1 : ACode :=
  (.seq (.reg [⟨none, .mov 43 (.t 10)⟩,
               ⟨none, .mov 44 (.t 6)⟩,
               ⟨none, .call 45 f_laws_eqIntS [((.t 43), false), ((.t 44), false)]⟩,
               ⟨none, .un 46 .not (.t 45)⟩,
               ⟨none, .asg 47 (.t 46)⟩,
               ⟨some (47, false), .mov 48 (.t 11)⟩,
               ⟨some (47, false), .mov 49 (.t 7)⟩,
               ⟨some (47, false), .binb 50 .neq (.t 48) (.t 49)⟩,
               ⟨none, .pick 51 (.t 47) (.c (.bool true)) (.t 50)⟩])
            (.drop [43, 44, 45, 46, 47, 48, 49, 50] (.cond (.t 51) (.seq (.reg [⟨none, .asg 4 (.c (.bool false))⟩])
              .ret)
             .skip)))
def c_laws_FnExactGenerateSublattice_k2 : ACode :=
  (.seq (.reg [⟨none, .mov 68 (.t 12)⟩,
                     ⟨none, .bin 69 .lss (.t 68) (.c (.int .i64 0))⟩,
                     ⟨none, .asg 70 (.t 69)⟩,
                     ⟨some (70, false), .mov 71 (.t 10)⟩,
                     ⟨some (70, false), .mov 72 (.t 6)⟩,
                     ⟨some (70, false), .call 73 f_laws_eqIntS [((.t 71), false), ((.t 72), false)]⟩,
                     ⟨some (70, false), .un 74 .not (.t 73)⟩,
                     ⟨none, .pick 75 (.t 70) (.c (.bool true)) (.t 74)⟩,
                     ⟨none, .asg 76 (.t 75)⟩,
                     ⟨some (76, false), .mov 77 (.t 11)⟩,
                     ⟨some (76, false), .mov 78 (.t 7)⟩,
                     ⟨some (76, false), .binb 79 .neq (.t 77) (.t 78)⟩,
                     ⟨none, .pick 80 (.t 76) (.c (.bool true)) (.t 79)⟩])
                  (.drop [68, 69, 70, 71, 72, 73, 74, 75, 76, 77, 78, 79] (.cond (.t 80) (.seq (.reg [⟨none, .asg 4 (.c (.bool false))⟩])
                    .ret)
                   .skip)))
def c_laws_FnExactGenerateSublattice_k3 : ACode :=
  (.seq (.reg [⟨none, .mov 100 (.t 15)⟩,
                             ⟨none, .mov 101 (.t 6)⟩,
                             ⟨none, .call 102 f_laws_eqIntS [((.t 100), false), ((.t 101), false)]⟩,
                             ⟨none, .un 103 .not (.t 102)⟩,
                             ⟨none, .asg 104 (.t 103)⟩,
                             ⟨some (104, false), .mov 105 (.t 16)⟩,
                             ⟨some (104, false), .mov 106 (.t 7)⟩,
                             ⟨some (104, false), .binb 107 .neq (.t 105) (.t 106)⟩,
                             ⟨none, .pick 108 (.t 104) (.c (.bool true)) (.t 107)⟩])
                          (.drop [100, 101, 102, 103, 104, 105, 106, 107] (.cond (.t 108) (.seq (.reg [⟨none, .asg 4 (.c (.bool false))⟩])
                            .ret)
                           .skip)))
def c_laws_FnExactGenerateSublattice : ACode :=
  (.seq (.reg [⟨none, .box 2 (.t 0)⟩,
     ⟨none, .asg 4 (.c (.bool false))⟩])
  (.seq (.seq (.reg [⟨none, .mov 17 (.t 1)⟩,
       ⟨none, .len 18 (.t 17)⟩,
       ⟨none, .bin 19 .gtr (.t 18) (.c (.int .i64 1048576))⟩])
    (.drop [17, 18] (.cond (.t 19) (.seq (.reg [⟨none, .asg 4 (.c (.bool true))⟩])
      .ret)
     .skip)))
   (.drop [17, 18, 19] (.seq (.reg [⟨none, .asg 5 (.c (.int .i64 1048576))⟩])
    (.seq (.reg [⟨none, .ld 20 1 true (.t 2)⟩,
        ⟨none, .mov 21 (.t 5)⟩,
        ⟨none, .call 22 f_laws_szPoset [((.t 20), false), ((.t 21), false)]⟩,
        ⟨none, .asg 5 (.t 22)⟩])
     (.drop [20, 21, 22] (.seq (.seq (.reg [⟨none, .mov 23 (.t 5)⟩,
          ⟨none, .bin 24 .lss (.t 23) (.c (.int .i64 0))⟩])
       (.drop [23] (.cond (.t 24) (.seq (.reg [⟨none, .asg 4 (.c (.bool true))⟩])
         .ret)
        .skip)))
      (.drop [23, 24] (.seq (.reg [⟨none, .ld 26 1 true (.t 2)⟩,
          ⟨none, .call 27 f_laws_toPoset [((.t 26), false)]⟩,
          ⟨none, .mov 28 (.t 1)⟩,
          ⟨none, .call 29 f_laws_toIntS [((.t 28), false)]⟩,
          ⟨none, .call 30 f_spec_GenerateSublattice [((.t 27), false), ((.t 29), false)]⟩,
          ⟨none, .asg 25 (.t 30)⟩,
          ⟨none, .ext 31 (.t 25) 0⟩,
          ⟨none, .ext 32 (.t 25) 1⟩,
          ⟨none, .asg 6 (.t 31)⟩,
          ⟨none, .asg 7 (.t 32)⟩])
       (.drop [26, 27, 28, 29, 30, 25, 31, 32] (.seq (.reg [⟨none, .ld 33 1 true (.t 2)⟩,
           ⟨none, .call 34 f_laws_toPoset [((.t 33), false)]⟩,
           ⟨none, .alc 8 (.agg [.nilsl 1])⟩,
           ⟨none, .st 1 (.t 8) (.t 34)⟩])
        (.drop [33, 34] (.seq (.reg [⟨none, .mov 35 (.t 1)⟩,
            ⟨none, .call 36 f_laws_toIntS [((.t 35), false)]⟩,
            ⟨none, .asg 9 (.t 36)⟩])
         (.drop [35, 36] (.seq (.reg [⟨none, .ld 38 1 true (.t 8)⟩,
             ⟨none, .mov 39 (.t 9)⟩,
             ⟨none, .call 40 f_impl_GenerateSublattice [((.t 38), false), ((.t 39), false)]⟩,
             ⟨none, .asg 37 (.t 40)⟩,
             ⟨none, .ext 41 (.t 37) 0⟩,
             ⟨none, .ext 42 (.t 37) 1⟩,
             ⟨none, .asg 10 (.t 41)⟩,
             ⟨none, .asg 11 (.t 42)⟩])
          (.drop [38, 39, 40, 37, 41, 42] (.seq (.cut c_laws_FnExactGenerateSublattice_k1)
           (.drop [43, 44, 45, 46, 47, 48, 49, 50, 51] (.seq (.seq (.dreg [(⟨none, .ld 52 1 true (.t 8)⟩, []),
                (⟨none, .ld 53 1 true (.t 2)⟩, [52]),
                (⟨none, .call 54 f_laws_toPoset [((.t 53), false)]⟩, [52])]
               [⟨none, .call 55 f_laws_eqPoset [((.t 52), false), ((.t 54), false)]⟩,
                ⟨none, .un 56 .not (.t 55)⟩])
             (.drop [52, 53, 54, 55] (.cond (.t 56) (.seq (.reg [⟨none, .asg 4 (.c (.bool false))⟩])
               .ret)
              .skip)))
            (.drop [52, 53, 54, 55, 56] (.seq (.seq (.reg [⟨none, .mov 57 (.t 9)⟩,
                 ⟨none, .mov 58 (.t 1)⟩,
                 ⟨none, .call 59 f_laws_toIntS [((.t 58), false)]⟩,
                 ⟨none, .call 60 f_laws_eqIntS [((.t 57), false), ((.t 59), false)]⟩,
                 ⟨none, .un 61 .not (.t 60)⟩])
              (.drop [57, 58, 59, 60] (.cond (.t 61) (.seq (.reg [⟨none, .asg 4 (.c (.bool false))⟩])
                .ret)
               .skip)))
             (.drop [57, 58, 59, 60, 61] (.seq (.reg [⟨none, .asg 12 (.c (.int .i64 1))⟩])
              (.seq (.reg [⟨none, .ld 62 1 true (.t 8)⟩,
                  ⟨none, .mov 63 (.t 12)⟩,
                  ⟨none, .call 64 f_laws_markPoset [((.t 62), true), ((.t 63), false)]⟩,
                  ⟨none, .asg 12 (.t 64)⟩])
               (.drop [62, 63, 64] (.seq (.reg [⟨none, .mov 65 (.t 9)⟩,
                   ⟨none, .mov 66 (.t 12)⟩,
                   ⟨none, .call 67 f_laws_markIntS [((.t 65), true), ((.t 66), false)]⟩,
                   ⟨none, .asg 12 (.t 67)⟩])
                (.drop [65, 66, 67] (.seq (.cut c_laws_FnExactGenerateSublattice_k2)
                 (.drop [68, 69, 70, 71, 72, 73, 74, 75, 76, 77, 78, 79, 80] (.seq (.reg [⟨none, .asg 13 (.c (.int .i64 1))⟩])
                  (.seq (.reg [⟨none, .mov 81 (.t 10)⟩,
                      ⟨none, .mov 82 (.t 13)⟩,
                      ⟨none, .call 83 f_laws_markIntS [((.t 81), true), ((.t 82), false)]⟩,
                      ⟨none, .asg 13 (.t 83)⟩])
                   (.drop [81, 82, 83] (.seq (.reg [⟨none, .asg 14 (.c (.int .i64 1))⟩])
                    (.seq (.reg [⟨none, .mov 84 (.t 10)⟩,
                        ⟨none, .mov 85 (.t 14)⟩,
                        ⟨none, .call 86 f_laws_heldIntS [((.t 84), false), ((.t 85), false)]⟩,
                        ⟨none, .asg 14 (.t 86)⟩])
                     (.drop [84, 85, 86] (.seq (.seq (.reg [⟨none, .mov 87 (.t 14)⟩,
                          ⟨none, .bin 88 .lss (.t 87) (.c (.int .i64 0))⟩])
                       (.drop [87] (.cond (.t 88) (.seq (.reg [⟨none, .asg 4 (.c (.bool false))⟩])
                         .ret)
                        .skip)))
                      (.drop [87, 88] (.seq (.seq (.reg [⟨none, .mov 89 (.t 14)⟩,
                           ⟨none, .mov 90 (.t 13)⟩,
                           ⟨none, .bin 91 .neq (.t 89) (.t 90)⟩])
                        (.drop [89, 90] (.cond (.t 91) (.seq (.reg [⟨none, .asg 4 (.c (.bool false))⟩])
                          .ret)
                         .skip)))
                       (.drop [89, 90, 91] (.seq (.reg [⟨none, .ld 93 1 true (.t 2)⟩,
                           ⟨none, .call 94 f_laws_toPoset [((.t 93), false)]⟩,
                           ⟨none, .mov 95 (.t 1)⟩,
                           ⟨none, .call 96 f_laws_toIntS [((.t 95), false)]⟩,
                           ⟨none, .call 97 f_impl_GenerateSublattice [((.t 94), false), ((.t 96), false)]⟩,
                           ⟨none, .asg 92 (.t 97)⟩,
                           ⟨none, .ext 98 (.t 92) 0⟩,
                           ⟨none, .ext 99 (.t 92) 1⟩,
                           ⟨none, .asg 15 (.t 98)⟩,
                           ⟨none, .asg 16 (.t 99)⟩])
                        (.drop [93, 94, 95, 96, 97, 92, 98, 99] (.seq (.cut c_laws_FnExactGenerateSublattice_k3)
                         (.drop [100, 101, 102, 103, 104, 105, 106, 107, 108] (.seq (.reg [⟨none, .asg 14 (.c (.int .i64 1))⟩])
                          (.seq (.reg [⟨none, .mov 109 (.t 10)⟩,
                              ⟨none, .mov 110 (.t 14)⟩,
                              ⟨none, .call 111 f_laws_heldIntS [((.t 109), false), ((.t 110), false)]⟩,
                              ⟨none, .asg 14 (.t 111)⟩])
                           (.drop [109, 110, 111] (.seq (.seq (.reg [⟨none, .mov 112 (.t 14)⟩,
                                ⟨none, .bin 113 .lss (.t 112) (.c (.int .i64 0))⟩])
                             (.drop [112] (.cond (.t 113) (.seq (.reg [⟨none, .asg 4 (.c (.bool false))⟩])
                               .ret)
                              .skip)))
                            (.drop [112, 113] (.seq (.seq (.reg [⟨none, .mov 114 (.t 14)⟩,
                                 ⟨none, .mov 115 (.t 13)⟩,
                                 ⟨none, .bin 116 .neq (.t 114) (.t 115)⟩])
                              (.drop [114, 115] (.cond (.t 116) (.seq (.reg [⟨none, .asg 4 (.c (.bool false))⟩])
                                .ret)
                               .skip)))
                             (.drop [114, 115, 116] (.seq (.reg [⟨none, .asg 4 (.c (.bool true))⟩])
                              .ret)))))))))))))))))))))))))))))))))))))))))))))))))))
abbrev r_laws_FnExactGenerateSublattice : List RS := [.t 4]
theorem k_laws_FnExactGenerateSublattice : fitsF Try.prog f_laws_FnExactGenerateSublattice 117 c_laws_FnExactGenerateSublattice r_laws_FnExactGenerateSublattice = true := by kernel_rfl

/- loop.example/g01078/laws.FnExactSublatticePoset: [aP=0, aSub=1, aP=2, aSub=3, left=5, w0=6, w1=7, x0=8, x1=9, g0=10, g1=11, k=12, m=13, q=14, h0=15, h1=16] -/
def c_laws_FnExactSublatticePoset_k1 : ACode :=
  (.seq (.reg [⟨none, .ld 43 1 true (.t 10)⟩,
               ⟨none, .ld 44 1 true (.t 6)⟩,
               ⟨none, .call 45 f_laws_eqPoset [((.t 43), false), ((.t 44), false)]⟩,
               ⟨none, .un 46 .not (.t 45)⟩,
               ⟨none, .asg 47 (.t 46)⟩,
               ⟨some (47, false), .mov 48 (.t 11)⟩,
               ⟨some (47, false), .mov 49 (.t 7)⟩,
               ⟨some (47, false), .binb 50 .neq (.t 48) (.t 49)⟩,
               ⟨none, .pick 51 (.t 47) (.c (.bool true)) (.t 50)⟩])
            (.drop [43, 44, 45, 46, 47, 48, 49, 50] (.cond (.t 51) (.seq (.reg [⟨none, .asg 4 (.c (.bool false))⟩])
              .ret)
             .skip)))
def c_laws_FnExactSublatticePoset_k2 : ACode :=
  (.seq (.reg [⟨none, .mov 68 (.t 12)⟩,
                     ⟨none, .bin 69 .lss (.t 68) (.c (.int .i64 0))⟩,
                     ⟨none, .asg 70 (.t 69)⟩,
                     ⟨some (70, false), .ld 71 1 true (.t 10)⟩,
                     ⟨some (70, false), .ld 72 1 true (.t 6)⟩,
                     ⟨some (70, false), .call 73 f_laws_eqPoset [((.t 71), false), ((.t 72), false)]⟩,
                     ⟨some (70, false), .un 74 .not (.t 73)⟩,
                     ⟨none, .pick 75 (.t 70) (.c (.bool true)) (.t 74)⟩,
                     ⟨none, .asg 76 (.t 75)⟩,
                     ⟨some (76, false), .mov 77 (.t 11)⟩,
                     ⟨some (76, false), .mov 78 (.t 7)⟩,
                     ⟨some (76, false), .binb 79 .neq (.t 77) (.t 78)⟩,
                     ⟨none, .pick 80 (.t 76) (.c (.bool true)) (.t 79)⟩])
                  (.drop [68, 69, 70, 71, 72, 73, 74, 75, 76, 77, 78, 79] (.cond (.t 80) (.seq (.reg [⟨none, .asg 4 (.c (.bool false))⟩])
                    .ret)
                   .skip)))
def c_laws_FnExactSublatticePoset_k3 : ACode :=
  (.seq (.reg [⟨none, .ld 100 1 true (.t 15)⟩,
                             ⟨none, .ld 101 1 true (.t 6)⟩,
                             ⟨none, .call 102 f_laws_eqPoset [((.t 100), false), ((.t 101), false)]⟩,
                             ⟨none, .un 103 .not (.t 102)⟩,
                             ⟨none, .asg 104 (.t 103)⟩,
                             ⟨some (104, false), .mov 105 (.t 16)⟩,
                             ⟨some (104, false), .mov 106 (.t 7)⟩,
                             ⟨some (104, false), .binb 107 .neq (.t 105) (.t 106)⟩,
                             ⟨none, .pick 108 (.t 104) (.c (.bool true)) (.t 107)⟩])
                          (.drop [100, 101, 102, 103, 104, 105, 106, 107] (.cond (.t 108) (.seq (.reg [⟨none, .asg 4 (.c (.bool false))⟩])
                            .ret)
                           .skip)))
def c_laws_FnExactSublatticePoset : ACode :=
  (.seq (.reg [⟨none, .box 2 (.t 0)⟩,
     ⟨none, .asg 4 (.c (.bool false))⟩])
  (.seq (.seq (.reg [⟨none, .mov 17 (.t 1)⟩,
       ⟨none, .len 18 (.t 17)⟩,
       ⟨none, .bin 19 .gtr (.t 18) (.c (.int .i64 1048576))⟩])
    (.drop [17, 18] (.cond (.t 19) (.seq (.reg [⟨none, .asg 4 (.c (.bool true))⟩])
      .ret)
     .skip)))
   (.drop [17, 18, 19] (.seq (.reg [⟨none, .asg 5 (.c (.int .i64 1048576))⟩])
    (.seq (.reg [⟨none, .ld 20 1 true (.t 2)⟩,
        ⟨none, .mov 21 (.t 5)⟩,
        ⟨none, .call 22 f_laws_szPoset [((.t 20), false), ((.t 21), false)]⟩,
        ⟨none, .asg 5 (.t 22)⟩])
     (.drop [20, 21, 22] (.seq (.seq (.reg [⟨none, .mov 23 (.t 5)⟩,
          ⟨none, .bin 24 .lss (.t 23) (.c (.int .i64 0))⟩])
       (.drop [23] (.cond (.t 24) (.seq (.reg [⟨none, .asg 4 (.c (.bool true))⟩])
         .ret)
        .skip)))
      (.drop [23, 24] (.seq (.reg [⟨none, .ld 26 1 true (.t 2)⟩,
          ⟨none, .call 27 f_laws_toPoset [((.t 26), false)]⟩,
          ⟨none, .mov 28 (.t 1)⟩,
          ⟨none, .call 29 f_laws_toIntS [((.t 28), false)]⟩,
          ⟨none, .call 30 f_spec_SublatticePoset [((.t 27), false), ((.t 29), false)]⟩,
          ⟨none, .asg 25 (.t 30)⟩,
          ⟨none, .ext 31 (.t 25) 0⟩,
          ⟨none, .ext 32 (.t 25) 1⟩,
          ⟨none, .alc 6 (.agg [.nilsl 1])⟩,
          ⟨none, .st 1 (.t 6) (.t 31)⟩,
          ⟨none, .asg 7 (.t 32)⟩])
       (.drop [26, 27, 28, 29, 30, 25, 31, 32] (.seq (.reg [⟨none, .ld 33 1 true (.t 2)⟩,
           ⟨none, .call 34 f_laws_toPoset [((.t 33), false)]⟩,
           ⟨none, .alc 8 (.agg [.nilsl 1])⟩,
           ⟨none, .st 1 (.t 8) (.t 34)⟩])
        (.drop [33, 34] (.seq (.reg [⟨none, .mov 35 (.t 1)⟩,
            ⟨none, .call 36 f_laws_toIntS [((.t 35), false)]⟩,
            ⟨none, .asg 9 (.t 36)⟩])
         (.drop [35, 36] (.seq (.reg [⟨none, .ld 38 1 true (.t 8)⟩,
             ⟨none, .mov 39 (.t 9)⟩,
             ⟨none, .call 40 f_impl_SublatticePoset [((.t 38), false), ((.t 39), false)]⟩,
             ⟨none, .asg 37 (.t 40)⟩,
             ⟨none, .ext 41 (.t 37) 0⟩,
             ⟨none, .ext 42 (.t 37) 1⟩,
             ⟨none, .alc 10 (.agg [.nilsl 1])⟩,
             ⟨none, .st 1 (.t 10) (.t 41)⟩,
             ⟨none, .asg 11 (.t 42)⟩])
          (.drop [38, 39, 40, 37, 41, 42] (.seq (.cut c_laws_FnExactSublatticePoset_k1)
           (.drop [43, 44, 45, 46, 47, 48, 49, 50, 51] (.seq (.seq (.dreg [(⟨none, .ld 52 1 true (.t 8)⟩, []),
                (⟨none, .ld 53 1 true (.t 2)⟩, [52]),
                (⟨none, .call 54 f_laws_toPoset [((.t 53), false)]⟩, [52])]
               [⟨none, .call 55 f_laws_eqPoset [((.t 52), false), ((.t 54), false)]⟩,
                ⟨none, .un 56 .not (.t 55)⟩])
             (.drop [52, 53, 54, 55] (.cond (.t 56) (.seq (.reg [⟨none, .asg 4 (.c (.bool false))⟩])
               .ret)
              .skip)))
            (.drop [52, 53, 54, 55, 56] (.seq (.seq (.reg [⟨none, .mov 57 (.t 9)⟩,
                 ⟨none, .mov 58 (.t 1)⟩,
                 ⟨none, .call 59 f_laws_toIntS [((.t 58), false)]⟩,
                 ⟨none, .call 60 f_laws_eqIntS [((.t 57), false), ((.t 59), false)]⟩,
                 ⟨none, .un 61 .not (.t 60)⟩])
              (.drop [57, 58, 59, 60] (.cond (.t 61) (.seq (.reg [⟨none, .asg 4 (.c (.bool false))⟩])
                .ret)
               .skip)))
             (.drop [57, 58, 59, 60, 61] (.seq (.reg [⟨none, .asg 12 (.c (.int .i64 1))⟩])
              (.seq (.reg [⟨none, .ld 62 1 true (.t 8)⟩,
                  ⟨none, .mov 63 (.t 12)⟩,
                  ⟨none, .call 64 f_laws_markPoset [((.t 62), true), ((.t 63), false)]⟩,
                  ⟨none, .asg 12 (.t 64)⟩])
               (.drop [62, 63, 64] (.seq (.reg [⟨none, .mov 65 (.t 9)⟩,
                   ⟨none, .mov 66 (.t 12)⟩,
                   ⟨none, .call 67 f_laws_markIntS [((.t 65), true), ((.t 66), false)]⟩,
                   ⟨none, .asg 12 (.t 67)⟩])
                (.drop [65, 66, 67] (.seq (.cut c_laws_FnExactSublatticePoset_k2)
                 (.drop [68, 69, 70, 71, 72, 73, 74, 75, 76, 77, 78, 79, 80] (.seq (.reg [⟨none, .asg 13 (.c (.int .i64 1))⟩])
                  (.seq (.reg [⟨none, .ld 81 1 true (.t 10)⟩,
                      ⟨none, .mov 82 (.t 13)⟩,
                      ⟨none, .call 83 f_laws_markPoset [((.t 81), true), ((.t 82), false)]⟩,
                      ⟨none, .asg 13 (.t 83)⟩])
                   (.drop [81, 82, 83] (.seq (.reg [⟨none, .asg 14 (.c (.int .i64 1))⟩])
                    (.seq (.reg [⟨none, .ld 84 1 true (.t 10)⟩,
                        ⟨none, .mov 85 (.t 14)⟩,
                        ⟨none, .call 86 f_laws_heldPoset [((.t 84), false), ((.t 85), false)]⟩,
                        ⟨none, .asg 14 (.t 86)⟩])
                     (.drop [84, 85, 86] (.seq (.seq (.reg [⟨none, .mov 87 (.t 14)⟩,
                          ⟨none, .bin 88 .lss (.t 87) (.c (.int .i64 0))⟩])
                       (.drop [87] (.cond (.t 88) (.seq (.reg [⟨none, .asg 4 (.c (.bool false))⟩])
                         .ret)
                        .skip)))
                      (.drop [87, 88] (.seq (.seq (.reg [⟨none, .mov 89 (.t 14)⟩,
                           ⟨none, .mov 90 (.t 13)⟩,
                           ⟨none, .bin 91 .neq (.t 89) (.t 90)⟩])
                        (.drop [89, 90] (.cond (.t 91) (.seq (.reg [⟨none, .asg 4 (.c (.bool false))⟩])
                          .ret)
                         .skip)))
                       (.drop [89, 90, 91] (.seq (.reg [⟨none, .ld 93 1 true (.t 2)⟩,
                           ⟨none, .call 94 f_laws_toPoset [((.t 93), false)]⟩,
                           ⟨none, .mov 95 (.t 1)⟩,
                           ⟨none, .call 96 f_laws_toIntS [((.t 95), false)]⟩,
                           ⟨none, .call 97 f_impl_SublatticePoset [((.t 94), false), ((.t 96), false)]⟩,
                           ⟨none, .asg 92 (.t 97)⟩,
                           ⟨none, .ext 98 (.t 92) 0⟩,
                           ⟨none, .ext 99 (.t 92) 1⟩,
                           ⟨none, .alc 15 (.agg [.nilsl 1])⟩,
                           ⟨none, .st 1 (.t 15) (.t 98)⟩,
                           ⟨none, .asg 16 (.t 99)⟩])
                        (.drop [93, 94, 95, 96, 97, 92, 98, 99] (.seq (.cut c_laws_FnExactSublatticePoset_k3)
                         (.drop [100, 101, 102, 103, 104, 105, 106, 107, 108] (.seq (.reg [⟨none, .asg 14 (.c (.int .i64 1))⟩])
                          (.seq (.reg [⟨none, .ld 109 1 true (.t 10)⟩,
                              ⟨none, .mov 110 (.t 14)⟩,
                              ⟨none, .call 111 f_laws_heldPoset [((.t 109), false), ((.t 110), false)]⟩,
                              ⟨none, .asg 14 (.t 111)⟩])
                           (.drop [109, 110, 111] (.seq (.seq (.reg [⟨none, .mov 112 (.t 14)⟩,
                                ⟨none, .bin 113 .lss (.t 112) (.c (.int .i64 0))⟩])
                             (.drop [112] (.cond (.t 113) (.seq (.reg [⟨none, .asg 4 (.c (.bool false))⟩])
                               .ret)
                              .skip)))
                            (.drop [112, 113] (.seq (.seq (.reg [⟨none, .mov 114 (.t 14)⟩,
                                 ⟨none, .mov 115 (.t 13)⟩,
                                 ⟨none, .bin 116 .neq (.t 114) (.t 115)⟩])
                              (.drop [114, 115] (.cond (.t 116) (.seq (.reg [⟨none, .asg 4 (.c (.bool false))⟩])
                                .ret)
                               .skip)))
                             (.drop [114, 115, 116] (.seq (.reg [⟨none, .asg 4 (.c (.bool true))⟩])
                              .ret)))))))))))))))))))))))))))))))))))))))))))))))))))
abbrev r_laws_FnExactSublatticePoset : List RS := [.t 4]
theorem k_laws_FnExactSublatticePoset : fitsF Try.prog f_laws_FnExactSublatticePoset 117 c_laws_FnExactSublatticePoset r_laws_FnExactSublatticePoset = true := by kernel_rfl

end Go.Proofs.Ytdodfnbbfkcgnaa.Ax
