/-
  The small code of the functions, written by program; that the program's code is this one, the kernel looks at.
-/
import Derived.Test.YthcnmahjhahafaaAx3
import Derived.Test.YthcnmahjhahafaaProg
import Derived.KernelRfl
import Derived.Test.YthcnmahjhahafaaNum
namespace Go.Proofs.Ythcnmahjhahafaa.Ax
open Go
set_option maxRecDepth 100000

/- loop.example/g01078/laws.FnExactHeightsOf: [aP=0, aP=1, left=3, w0=4, w1=5, x0=6, g0=7, g1=8, k=9, m=10, q=11, h0=12, h1=13] -/
def c_laws_FnExactHeightsOf_k1 : ACode :=
  (.seq (.reg [⟨none, .mov 32 (.t 7)⟩,
             ⟨none, .mov 33 (.t 4)⟩,
             ⟨none, .call 34 f_laws_eqIntS [((.t 32), false), ((.t 33), false)]⟩,
             ⟨none, .un 35 .not (.t 34)⟩,
             ⟨none, .asg 36 (.t 35)⟩,
             ⟨some (36, false), .mov 37 (.t 8)⟩,
             ⟨some (36, false), .mov 38 (.t 5)⟩,
             ⟨some (36, false), .binb 39 .neq (.t 37) (.t 38)⟩,
             ⟨none, .pick 40 (.t 36) (.c (.bool true)) (.t 39)⟩])
          (.drop [32, 33, 34, 35, 36, 37, 38, 39] (.cond (.t 40) (.seq (.reg [⟨none, .asg 2 (.c (.bool false))⟩])
            .ret)
           .skip)))
def c_laws_FnExactHeightsOf_k2 : ACode :=
  (.seq (.reg [⟨none, .mov 49 (.t 9)⟩,
                 ⟨none, .bin 50 .lss (.t 49) (.c (.int .i64 0))⟩,
                 ⟨none, .asg 51 (.t 50)⟩,
                 ⟨some (51, false), .mov 52 (.t 7)⟩,
                 ⟨some (51, false), .mov 53 (.t 4)⟩,
                 ⟨some (51, false), .call 54 f_laws_eqIntS [((.t 52), false), ((.t 53), false)]⟩,
                 ⟨some (51, false), .un 55 .not (.t 54)⟩,
                 ⟨none, .pick 56 (.t 51) (.c (.bool true)) (.t 55)⟩,
                 ⟨none, .asg 57 (.t 56)⟩,
                 ⟨some (57, false), .mov 58 (.t 8)⟩,
                 ⟨some (57, false), .mov 59 (.t 5)⟩,
                 ⟨some (57, false), .binb 60 .neq (.t 58) (.t 59)⟩,
                 ⟨none, .pick 61 (.t 57) (.c (.bool true)) (.t 60)⟩])
              (.drop [49, 50, 51, 52, 53, 54, 55, 56, 57, 58, 59, 60] (.cond (.t 61) (.seq (.reg [⟨none, .asg 2 (.c (.bool false))⟩])
                .ret)
               .skip)))
def c_laws_FnExactHeightsOf_k3 : ACode :=
  (.seq (.reg [⟨none, .mov 79 (.t 12)⟩,
                         ⟨none, .mov 80 (.t 4)⟩,
                         ⟨none, .call 81 f_laws_eqIntS [((.t 79), false), ((.t 80), false)]⟩,
                         ⟨none, .un 82 .not (.t 81)⟩,
                         ⟨none, .asg 83 (.t 82)⟩,
                         ⟨some (83, false), .mov 84 (.t 13)⟩,
                         ⟨some (83, false), .mov 85 (.t 5)⟩,
                         ⟨some (83, false), .binb 86 .neq (.t 84) (.t 85)⟩,
                         ⟨none, .pick 87 (.t 83) (.c (.bool true)) (.t 86)⟩])
                      (.drop [79, 80, 81, 82, 83, 84, 85, 86] (.cond (.t 87) (.seq (.reg [⟨none, .asg 2 (.c (.bool false))⟩])
                        .ret)
                       .skip)))
def c_laws_FnExactHeightsOf : ACode :=
  (.seq (.reg [⟨none, .box 1 (.t 0)⟩,
     ⟨none, .asg 2 (.c (.bool false))⟩])
  (.seq (.reg [⟨none, .asg 3 (.c (.int .i64 1048576))⟩])
   (.seq (.reg [⟨none, .ld 14 1 true (.t 1)⟩,
       ⟨none, .mov 15 (.t 3)⟩,
       ⟨none, .call 16 f_laws_szPoset [((.t 14), false), ((.t 15), false)]⟩,
       ⟨none, .asg 3 (.t 16)⟩])
    (.drop [14, 15, 16] (.seq (.seq (.reg [⟨none, .mov 17 (.t 3)⟩,
         ⟨none, .bin 18 .lss (.t 17) (.c (.int .i64 0))⟩])
      (.drop [17] (.cond (.t 18) (.seq (.reg [⟨none, .asg 2 (.c (.bool true))⟩])
        .ret)
       .skip)))
     (.drop [17, 18] (.seq (.reg [⟨none, .ld 20 1 true (.t 1)⟩,
         ⟨none, .call 21 f_laws_toPoset [((.t 20), false)]⟩,
         ⟨none, .call 22 f_spec_HeightsOf [((.t 21), false)]⟩,
         ⟨none, .asg 19 (.t 22)⟩,
         ⟨none, .ext 23 (.t 19) 0⟩,
         ⟨none, .ext 24 (.t 19) 1⟩,
         ⟨none, .asg 4 (.t 23)⟩,
         ⟨none, .asg 5 (.t 24)⟩])
      (.drop [20, 21, 22, 19, 23, 24] (.seq (.reg [⟨none, .ld 25 1 true (.t 1)⟩,
          ⟨none, .call 26 f_laws_toPoset [((.t 25), false)]⟩,
          ⟨none, .alc 6 (.agg [.nilsl 1])⟩,
          ⟨none, .st 1 (.t 6) (.t 26)⟩])
       (.drop [25, 26] (.seq (.reg [⟨none, .ld 28 1 true (.t 6)⟩,
           ⟨none, .call 29 f_impl_HeightsOf [((.t 28), false)]⟩,
           ⟨none, .asg 27 (.t 29)⟩,
           ⟨none, .ext 30 (.t 27) 0⟩,
           ⟨none, .ext 31 (.t 27) 1⟩,
           ⟨none, .asg 7 (.t 30)⟩,
           ⟨none, .asg 8 (.t 31)⟩])
        (.drop [28, 29, 27, 30, 31] (.seq (.cut c_laws_FnExactHeightsOf_k1)
         (.drop [32, 33, 34, 35, 36, 37, 38, 39, 40] (.seq (.seq (.dreg [(⟨none, .ld 41 1 true (.t 6)⟩, []),
              (⟨none, .ld 42 1 true (.t 1)⟩, [41]),
              (⟨none, .call 43 f_laws_toPoset [((.t 42), false)]⟩, [41])]
             [⟨none, .call 44 f_laws_eqPoset [((.t 41), false), ((.t 43), false)]⟩,
              ⟨none, .un 45 .not (.t 44)⟩])
           (.drop [41, 42, 43, 44] (.cond (.t 45) (.seq (.reg [⟨none, .asg 2 (.c (.bool false))⟩])
             .ret)
            .skip)))
          (.drop [41, 42, 43, 44, 45] (.seq (.reg [⟨none, .asg 9 (.c (.int .i64 1))⟩])
           (.seq (.reg [⟨none, .ld 46 1 true (.t 6)⟩,
               ⟨none, .mov 47 (.t 9)⟩,
               ⟨none, .call 48 f_laws_markPoset [((.t 46), true), ((.t 47), false)]⟩,
               ⟨none, .asg 9 (.t 48)⟩])
            (.drop [46, 47, 48] (.seq (.cut c_laws_FnExactHeightsOf_k2)
             (.drop [49, 50, 51, 52, 53, 54, 55, 56, 57, 58, 59, 60, 61] (.seq (.reg [⟨none, .asg 10 (.c (.int .i64 1))⟩])
              (.seq (.reg [⟨none, .mov 62 (.t 7)⟩,
                  ⟨none, .mov 63 (.t 10)⟩,
                  ⟨none, .call 64 f_laws_markIntS [((.t 62), true), ((.t 63), false)]⟩,
                  ⟨none, .asg 10 (.t 64)⟩])
               (.drop [62, 63, 64] (.seq (.reg [⟨none, .asg 11 (.c (.int .i64 1))⟩])
                (.seq (.reg [⟨none, .mov 65 (.t 7)⟩,
                    ⟨none, .mov 66 (.t 11)⟩,
                    ⟨none, .call 67 f_laws_heldIntS [((.t 65), false), ((.t 66), false)]⟩,
                    ⟨none, .asg 11 (.t 67)⟩])
                 (.drop [65, 66, 67] (.seq (.seq (.reg [⟨none, .mov 68 (.t 11)⟩,
                      ⟨none, .bin 69 .lss (.t 68) (.c (.int .i64 0))⟩])
                   (.drop [68] (.cond (.t 69) (.seq (.reg [⟨none, .asg 2 (.c (.bool false))⟩])
                     .ret)
                    .skip)))
                  (.drop [68, 69] (.seq (.seq (.reg [⟨none, .mov 70 (.t 11)⟩,
                       ⟨none, .mov 71 (.t 10)⟩,
                       ⟨none, .bin 72 .neq (.t 70) (.t 71)⟩])
                    (.drop [70, 71] (.cond (.t 72) (.seq (.reg [⟨none, .asg 2 (.c (.bool false))⟩])
                      .ret)
                     .skip)))
                   (.drop [70, 71, 72] (.seq (.reg [⟨none, .ld 74 1 true (.t 1)⟩,
                       ⟨none, .call 75 f_laws_toPoset [((.t 74), false)]⟩,
                       ⟨none, .call 76 f_impl_HeightsOf [((.t 75), false)]⟩,
                       ⟨none, .asg 73 (.t 76)⟩,
                       ⟨none, .ext 77 (.t 73) 0⟩,
                       ⟨none, .ext 78 (.t 73) 1⟩,
                       ⟨none, .asg 12 (.t 77)⟩,
                       ⟨none, .asg 13 (.t 78)⟩])
                    (.drop [74, 75, 76, 73, 77, 78] (.seq (.cut c_laws_FnExactHeightsOf_k3)
                     (.drop [79, 80, 81, 82, 83, 84, 85, 86, 87] (.seq (.reg [⟨none, .asg 11 (.c (.int .i64 1))⟩])
                      (.seq (.reg [⟨none, .mov 88 (.t 7)⟩,
                          ⟨none, .mov 89 (.t 11)⟩,
                          ⟨none, .call 90 f_laws_heldIntS [((.t 88), false), ((.t 89), false)]⟩,
                          ⟨none, .asg 11 (.t 90)⟩])
                       (.drop [88, 89, 90] (.seq (.seq (.reg [⟨none, .mov 91 (.t 11)⟩,
                            ⟨none, .bin 92 .lss (.t 91) (.c (.int .i64 0))⟩])
                         (.drop [91] (.cond (.t 92) (.seq (.reg [⟨none, .asg 2 (.c (.bool false))⟩])
                           .ret)
                          .skip)))
                        (.drop [91, 92] (.seq (.seq (.reg [⟨none, .mov 93 (.t 11)⟩,
                             ⟨none, .mov 94 (.t 10)⟩,
                             ⟨none, .bin 95 .neq (.t 93) (.t 94)⟩])
                          (.drop [93, 94] (.cond (.t 95) (.seq (.reg [⟨none, .asg 2 (.c (.bool false))⟩])
                            .ret)
                           .skip)))
                         (.drop [93, 94, 95] (.seq (.reg [⟨none, .asg 2 (.c (.bool true))⟩])
                          .ret)))))))))))))))))))))))))))))))))))))))))))
abbrev r_laws_FnExactHeightsOf : List RS := [.t 2]
theorem k_laws_FnExactHeightsOf : fitsF Try.prog f_laws_FnExactHeightsOf 96 c_laws_FnExactHeightsOf r_laws_FnExactHeightsOf = true := by kernel_rfl

/- loop.example/g01078/laws.FnExactFirstExtension: [aP=0, aP=1, left=3, w0=4, w1=5, x0=6, g0=7, g1=8, k=9, m=10, q=11, h0=12, h1=13] -/
def c_laws_FnExactFirstExtension_k1 : ACode :=
  (.seq (.reg [⟨none, .mov 32 (.t 7)⟩,
             ⟨none, .mov 33 (.t 4)⟩,
             ⟨none, .call 34 f_laws_eqIntS [((.t 32), false), ((.t 33), false)]⟩,
             ⟨none, .un 35 .not (.t 34)⟩,
             ⟨none, .asg 36 (.t 35)⟩,
             ⟨some (36, false), .mov 37 (.t 8)⟩,
             ⟨some (36, false), .mov 38 (.t 5)⟩,
             ⟨some (36, false), .binb 39 .neq (.t 37) (.t 38)⟩,
             ⟨none, .pick 40 (.t 36) (.c (.bool true)) (.t 39)⟩])
          (.drop [32, 33, 34, 35, 36, 37, 38, 39] (.cond (.t 40) (.seq (.reg [⟨none, .asg 2 (.c (.bool false))⟩])
            .ret)
           .skip)))
def c_laws_FnExactFirstExtension_k2 : ACode :=
  (.seq (.reg [⟨none, .mov 49 (.t 9)⟩,
                 ⟨none, .bin 50 .lss (.t 49) (.c (.int .i64 0))⟩,
                 ⟨none, .asg 51 (.t 50)⟩,
                 ⟨some (51, false), .mov 52 (.t 7)⟩,
                 ⟨some (51, false), .mov 53 (.t 4)⟩,
                 ⟨some (51, false), .call 54 f_laws_eqIntS [((.t 52), false), ((.t 53), false)]⟩,
                 ⟨some (51, false), .un 55 .not (.t 54)⟩,
                 ⟨none, .pick 56 (.t 51) (.c (.bool true)) (.t 55)⟩,
                 ⟨none, .asg 57 (.t 56)⟩,
                 ⟨some (57, false), .mov 58 (.t 8)⟩,
                 ⟨some (57, false), .mov 59 (.t 5)⟩,
                 ⟨some (57, false), .binb 60 .neq (.t 58) (.t 59)⟩,
                 ⟨none, .pick 61 (.t 57) (.c (.bool true)) (.t 60)⟩])
              (.drop [49, 50, 51, 52, 53, 54, 55, 56, 57, 58, 59, 60] (.cond (.t 61) (.seq (.reg [⟨none, .asg 2 (.c (.bool false))⟩])
                .ret)
               .skip)))
def c_laws_FnExactFirstExtension_k3 : ACode :=
  (.seq (.reg [⟨none, .mov 79 (.t 12)⟩,
                         ⟨none, .mov 80 (.t 4)⟩,
                         ⟨none, .call 81 f_laws_eqIntS [((.t 79), false), ((.t 80), false)]⟩,
                         ⟨none, .un 82 .not (.t 81)⟩,
                         ⟨none, .asg 83 (.t 82)⟩,
                         ⟨some (83, false), .mov 84 (.t 13)⟩,
                         ⟨some (83, false), .mov 85 (.t 5)⟩,
                         ⟨some (83, false), .binb 86 .neq (.t 84) (.t 85)⟩,
                         ⟨none, .pick 87 (.t 83) (.c (.bool true)) (.t 86)⟩])
                      (.drop [79, 80, 81, 82, 83, 84, 85, 86] (.cond (.t 87) (.seq (.reg [⟨none, .asg 2 (.c (.bool false))⟩])
                        .ret)
                       .skip)))
def c_laws_FnExactFirstExtension : ACode :=
  (.seq (.reg [⟨none, .box 1 (.t 0)⟩,
     ⟨none, .asg 2 (.c (.bool false))⟩])
  (.seq (.reg [⟨none, .asg 3 (.c (.int .i64 1048576))⟩])
   (.seq (.reg [⟨none, .ld 14 1 true (.t 1)⟩,
       ⟨none, .mov 15 (.t 3)⟩,
       ⟨none, .call 16 f_laws_szPoset [((.t 14), false), ((.t 15), false)]⟩,
       ⟨none, .asg 3 (.t 16)⟩])
    (.drop [14, 15, 16] (.seq (.seq (.reg [⟨none, .mov 17 (.t 3)⟩,
         ⟨none, .bin 18 .lss (.t 17) (.c (.int .i64 0))⟩])
      (.drop [17] (.cond (.t 18) (.seq (.reg [⟨none, .asg 2 (.c (.bool true))⟩])
        .ret)
       .skip)))
     (.drop [17, 18] (.seq (.reg [⟨none, .ld 20 1 true (.t 1)⟩,
         ⟨none, .call 21 f_laws_toPoset [((.t 20), false)]⟩,
         ⟨none, .call 22 f_spec_FirstExtension [((.t 21), false)]⟩,
         ⟨none, .asg 19 (.t 22)⟩,
         ⟨none, .ext 23 (.t 19) 0⟩,
         ⟨none, .ext 24 (.t 19) 1⟩,
         ⟨none, .asg 4 (.t 23)⟩,
         ⟨none, .asg 5 (.t 24)⟩])
      (.drop [20, 21, 22, 19, 23, 24] (.seq (.reg [⟨none, .ld 25 1 true (.t 1)⟩,
          ⟨none, .call 26 f_laws_toPoset [((.t 25), false)]⟩,
          ⟨none, .alc 6 (.agg [.nilsl 1])⟩,
          ⟨none, .st 1 (.t 6) (.t 26)⟩])
       (.drop [25, 26] (.seq (.reg [⟨none, .ld 28 1 true (.t 6)⟩,
           ⟨none, .call 29 f_impl_FirstExtension [((.t 28), false)]⟩,
           ⟨none, .asg 27 (.t 29)⟩,
           ⟨none, .ext 30 (.t 27) 0⟩,
           ⟨none, .ext 31 (.t 27) 1⟩,
           ⟨none, .asg 7 (.t 30)⟩,
           ⟨none, .asg 8 (.t 31)⟩])
        (.drop [28, 29, 27, 30, 31] (.seq (.cut c_laws_FnExactFirstExtension_k1)
         (.drop [32, 33, 34, 35, 36, 37, 38, 39, 40] (.seq (.seq (.dreg [(⟨none, .ld 41 1 true (.t 6)⟩, []),
              (⟨none, .ld 42 1 true (.t 1)⟩, [41]),
              (⟨none, .call 43 f_laws_toPoset [((.t 42), false)]⟩, [41])]
             [⟨none, .call 44 f_laws_eqPoset [((.t 41), false), ((.t 43), false)]⟩,
              ⟨none, .un 45 .not (.t 44)⟩])
           (.drop [41, 42, 43, 44] (.cond (.t 45) (.seq (.reg [⟨none, .asg 2 (.c (.bool false))⟩])
             .ret)
            .skip)))
          (.drop [41, 42, 43, 44, 45] (.seq (.reg [⟨none, .asg 9 (.c (.int .i64 1))⟩])
           (.seq (.reg [⟨none, .ld 46 1 true (.t 6)⟩,
               ⟨none, .mov 47 (.t 9)⟩,
               ⟨none, .call 48 f_laws_markPoset [((.t 46), true), ((.t 47), false)]⟩,
               ⟨none, .asg 9 (.t 48)⟩])
            (.drop [46, 47, 48] (.seq (.cut c_laws_FnExactFirstExtension_k2)
             (.drop [49, 50, 51, 52, 53, 54, 55, 56, 57, 58, 59, 60, 61] (.seq (.reg [⟨none, .asg 10 (.c (.int .i64 1))⟩])
              (.seq (.reg [⟨none, .mov 62 (.t 7)⟩,
                  ⟨none, .mov 63 (.t 10)⟩,
                  ⟨none, .call 64 f_laws_markIntS [((.t 62), true), ((.t 63), false)]⟩,
                  ⟨none, .asg 10 (.t 64)⟩])
               (.drop [62, 63, 64] (.seq (.reg [⟨none, .asg 11 (.c (.int .i64 1))⟩])
                (.seq (.reg [⟨none, .mov 65 (.t 7)⟩,
                    ⟨none, .mov 66 (.t 11)⟩,
                    ⟨none, .call 67 f_laws_heldIntS [((.t 65), false), ((.t 66), false)]⟩,
                    ⟨none, .asg 11 (.t 67)⟩])
                 (.drop [65, 66, 67] (.seq (.seq (.reg [⟨none, .mov 68 (.t 11)⟩,
                      ⟨none, .bin 69 .lss (.t 68) (.c (.int .i64 0))⟩])
                   (.drop [68] (.cond (.t 69) (.seq (.reg [⟨none, .asg 2 (.c (.bool false))⟩])
                     .ret)
                    .skip)))
                  (.drop [68, 69] (.seq (.seq (.reg [⟨none, .mov 70 (.t 11)⟩,
                       ⟨none, .mov 71 (.t 10)⟩,
                       ⟨none, .bin 72 .neq (.t 70) (.t 71)⟩])
                    (.drop [70, 71] (.cond (.t 72) (.seq (.reg [⟨none, .asg 2 (.c (.bool false))⟩])
                      .ret)
                     .skip)))
                   (.drop [70, 71, 72] (.seq (.reg [⟨none, .ld 74 1 true (.t 1)⟩,
                       ⟨none, .call 75 f_laws_toPoset [((.t 74), false)]⟩,
                       ⟨none, .call 76 f_impl_FirstExtension [((.t 75), false)]⟩,
                       ⟨none, .asg 73 (.t 76)⟩,
                       ⟨none, .ext 77 (.t 73) 0⟩,
                       ⟨none, .ext 78 (.t 73) 1⟩,
                       ⟨none, .asg 12 (.t 77)⟩,
                       ⟨none, .asg 13 (.t 78)⟩])
                    (.drop [74, 75, 76, 73, 77, 78] (.seq (.cut c_laws_FnExactFirstExtension_k3)
                     (.drop [79, 80, 81, 82, 83, 84, 85, 86, 87] (.seq (.reg [⟨none, .asg 11 (.c (.int .i64 1))⟩])
                      (.seq (.reg [⟨none, .mov 88 (.t 7)⟩,
                          ⟨none, .mov 89 (.t 11)⟩,
                          ⟨none, .call 90 f_laws_heldIntS [((.t 88), false), ((.t 89), false)]⟩,
                          ⟨none, .asg 11 (.t 90)⟩])
                       (.drop [88, 89, 90] (.seq (.seq (.reg [⟨none, .mov 91 (.t 11)⟩,
                            ⟨none, .bin 92 .lss (.t 91) (.c (.int .i64 0))⟩])
                         (.drop [91] (.cond (.t 92) (.seq (.reg [⟨none, .asg 2 (.c (.bool false))⟩])
                           .ret)
                          .skip)))
                        (.drop [91, 92] (.seq (.seq (.reg [⟨none, .mov 93 (.t 11)⟩,
                             ⟨none, .mov 94 (.t 10)⟩,
                             ⟨none, .bin 95 .neq (.t 93) (.t 94)⟩])
                          (.drop [93, 94] (.cond (.t 95) (.seq (.reg [⟨none, .asg 2 (.c (.bool false))⟩])
                            .ret)
                           .skip)))
                         (.drop [93, 94, 95] (.seq (.reg [⟨none, .asg 2 (.c (.bool true))⟩])
                          .ret)))))))))))))))))))))))))))))))))))))))))))
abbrev r_laws_FnExactFirstExtension : List RS := [.t 2]
theorem k_laws_FnExactFirstExtension : fitsF Try.prog f_laws_FnExactFirstExtension 96 c_laws_FnExactFirstExtension r_laws_FnExactFirstExtension = true := by kernel_rfl

/- loop.example/g01078/laws.FnExactDownsetOf: [aP=0, aSome=1, aP=2, aSome=3, left=5, w0=6, w1=7, x0=8, x1=9, g0=10, g1=11, k=12, m=13, q=14, h0=15, h1=16] -/
def c_laws_FnExactDownsetOf_k1 : ACode :=
  (.seq (.reg [⟨none, .mov 43 (.t 10)⟩,
               ⟨none, .mov 44 (.t 6)⟩,
               ⟨none, .call 45 f_laws_eqIntS [((.t 43), false), ((.t 44), false)]⟩,
               ⟨none, .un 46 .not (.t 45)⟩,
               ⟨none, .asg 47 (.t 46)⟩,
               ⟨some (47, false), .mov 48 (.t 11)⟩,
               ⟨some (47, false), .mov 49 (.t 7)⟩,
               ⟨some (47, false), .binb 50 .neq (.t 48) (.t 49)⟩,
               ⟨none, .pick 51 (.t 47) (.c (.bool true)) (.t 50)⟩])
            (.drop [43, 44, 45, 46, 47, 48, 49, 50] (.cond (.t 51) (.seq (.reg [⟨none, .asg 4 (.c (.bool false))⟩])
              .ret)
             .skip)))
def c_laws_FnExactDownsetOf_k2 : ACode :=
  (.seq (.reg [⟨none, .mov 68 (.t 12)⟩,
                     ⟨none, .bin 69 .lss (.t 68) (.c (.int .i64 0))⟩,
                     ⟨none, .asg 70 (.t 69)⟩,
                     ⟨some (70, false), .mov 71 (.t 10)⟩,
                     ⟨some (70, false), .mov 72 (.t 6)⟩,
                     ⟨some (70, false), .call 73 f_laws_eqIntS [((.t 71), false), ((.t 72), false)]⟩,
                     ⟨some (70, false), .un 74 .not (.t 73)⟩,
                     ⟨none, .pick 75 (.t 70) (.c (.bool true)) (.t 74)⟩,
                     ⟨none, .asg 76 (.t 75)⟩,
                     ⟨some (76, false), .mov 77 (.t 11)⟩,
                     ⟨some (76, false), .mov 78 (.t 7)⟩,
                     ⟨some (76, false), .binb 79 .neq (.t 77) (.t 78)⟩,
                     ⟨none, .pick 80 (.t 76) (.c (.bool true)) (.t 79)⟩])
                  (.drop [68, 69, 70, 71, 72, 73, 74, 75, 76, 77, 78, 79] (.cond (.t 80) (.seq (.reg [⟨none, .asg 4 (.c (.bool false))⟩])
                    .ret)
                   .skip)))
def c_laws_FnExactDownsetOf_k3 : ACode :=
  (.seq (.reg [⟨none, .mov 100 (.t 15)⟩,
                             ⟨none, .mov 101 (.t 6)⟩,
                             ⟨none, .call 102 f_laws_eqIntS [((.t 100), false), ((.t 101), false)]⟩,
                             ⟨none, .un 103 .not (.t 102)⟩,
                             ⟨none, .asg 104 (.t 103)⟩,
                             ⟨some (104, false), .mov 105 (.t 16)⟩,
                             ⟨some (104, false), .mov 106 (.t 7)⟩,
                             ⟨some (104, false), .binb 107 .neq (.t 105) (.t 106)⟩,
                             ⟨none, .pick 108 (.t 104) (.c (.bool true)) (.t 107)⟩])
                          (.drop [100, 101, 102, 103, 104, 105, 106, 107] (.cond (.t 108) (.seq (.reg [⟨none, .asg 4 (.c (.bool false))⟩])
                            .ret)
                           .skip)))
def c_laws_FnExactDownsetOf : ACode :=
  (.seq (.reg [⟨none, .box 2 (.t 0)⟩,
     ⟨none, .asg 4 (.c (.bool false))⟩])
  (.seq (.seq (.reg [⟨none, .mov 17 (.t 1)⟩,
       ⟨none, .len 18 (.t 17)⟩,
       ⟨none, .bin 19 .gtr (.t 18) (.c (.int .i64 1048576))⟩])
    (.drop [17, 18] (.cond (.t 19) (.seq (.reg [⟨none, .asg 4 (.c (.bool true))⟩])
      .ret)
     .skip)))
   (.drop [17, 18, 19] (.seq (.reg [⟨none, .asg 5 (.c (.int .i64 1048576))⟩])
    (.seq (.reg [⟨none, .ld 20 1 true (.t 2)⟩,
        ⟨none, .mov 21 (.t 5)⟩,
        ⟨none, .call 22 f_laws_szPoset [((.t 20), false), ((.t 21), false)]⟩,
        ⟨none, .asg 5 (.t 22)⟩])
     (.drop [20, 21, 22] (.seq (.seq (.reg [⟨none, .mov 23 (.t 5)⟩,
          ⟨none, .bin 24 .lss (.t 23) (.c (.int .i64 0))⟩])
       (.drop [23] (.cond (.t 24) (.seq (.reg [⟨none, .asg 4 (.c (.bool true))⟩])
         .ret)
        .skip)))
      (.drop [23, 24] (.seq (.reg [⟨none, .ld 26 1 true (.t 2)⟩,
          ⟨none, .call 27 f_laws_toPoset [((.t 26), false)]⟩,
          ⟨none, .mov 28 (.t 1)⟩,
          ⟨none, .call 29 f_laws_toIntS [((.t 28), false)]⟩,
          ⟨none, .call 30 f_spec_DownsetOf [((.t 27), false), ((.t 29), false)]⟩,
          ⟨none, .asg 25 (.t 30)⟩,
          ⟨none, .ext 31 (.t 25) 0⟩,
          ⟨none, .ext 32 (.t 25) 1⟩,
          ⟨none, .asg 6 (.t 31)⟩,
          ⟨none, .asg 7 (.t 32)⟩])
       (.drop [26, 27, 28, 29, 30, 25, 31, 32] (.seq (.reg [⟨none, .ld 33 1 true (.t 2)⟩,
           ⟨none, .call 34 f_laws_toPoset [((.t 33), false)]⟩,
           ⟨none, .alc 8 (.agg [.nilsl 1])⟩,
           ⟨none, .st 1 (.t 8) (.t 34)⟩])
        (.drop [33, 34] (.seq (.reg [⟨none, .mov 35 (.t 1)⟩,
            ⟨none, .call 36 f_laws_toIntS [((.t 35), false)]⟩,
            ⟨none, .asg 9 (.t 36)⟩])
         (.drop [35, 36] (.seq (.reg [⟨none, .ld 38 1 true (.t 8)⟩,
             ⟨none, .mov 39 (.t 9)⟩,
             ⟨none, .call 40 f_impl_DownsetOf [((.t 38), false), ((.t 39), false)]⟩,
             ⟨none, .asg 37 (.t 40)⟩,
             ⟨none, .ext 41 (.t 37) 0⟩,
             ⟨none, .ext 42 (.t 37) 1⟩,
             ⟨none, .asg 10 (.t 41)⟩,
             ⟨none, .asg 11 (.t 42)⟩])
          (.drop [38, 39, 40, 37, 41, 42] (.seq (.cut c_laws_FnExactDownsetOf_k1)
           (.drop [43, 44, 45, 46, 47, 48, 49, 50, 51] (.seq (.seq (.dreg [(⟨none, .ld 52 1 true (.t 8)⟩, []),
                (⟨none, .ld 53 1 true (.t 2)⟩, [52]),
                (⟨none, .call 54 f_laws_toPoset [((.t 53), false)]⟩, [52])]
               [⟨none, .call 55 f_laws_eqPoset [((.t 52), false), ((.t 54), false)]⟩,
                ⟨none, .un 56 .not (.t 55)⟩])
             (.drop [52, 53, 54, 55] (.cond (.t 56) (.seq (.reg [⟨none, .asg 4 (.c (.bool false))⟩])
               .ret)
              .skip)))
            (.drop [52, 53, 54, 55, 56] (.seq (.seq (.reg [⟨none, .mov 57 (.t 9)⟩,
                 ⟨none, .mov 58 (.t 1)⟩,
                 ⟨none, .call 59 f_laws_toIntS [((.t 58), false)]⟩,
                 ⟨none, .call 60 f_laws_eqIntS [((.t 57), false), ((.t 59), false)]⟩,
                 ⟨none, .un 61 .not (.t 60)⟩])
              (.drop [57, 58, 59, 60] (.cond (.t 61) (.seq (.reg [⟨none, .asg 4 (.c (.bool false))⟩])
                .ret)
               .skip)))
             (.drop [57, 58, 59, 60, 61] (.seq (.reg [⟨none, .asg 12 (.c (.int .i64 1))⟩])
              (.seq (.reg [⟨none, .ld 62 1 true (.t 8)⟩,
                  ⟨none, .mov 63 (.t 12)⟩,
                  ⟨none, .call 64 f_laws_markPoset [((.t 62), true), ((.t 63), false)]⟩,
                  ⟨none, .asg 12 (.t 64)⟩])
               (.drop [62, 63, 64] (.seq (.reg [⟨none, .mov 65 (.t 9)⟩,
                   ⟨none, .mov 66 (.t 12)⟩,
                   ⟨none, .call 67 f_laws_markIntS [((.t 65), true), ((.t 66), false)]⟩,
                   ⟨none, .asg 12 (.t 67)⟩])
                (.drop [65, 66, 67] (.seq (.cut c_laws_FnExactDownsetOf_k2)
                 (.drop [68, 69, 70, 71, 72, 73, 74, 75, 76, 77, 78, 79, 80] (.seq (.reg [⟨none, .asg 13 (.c (.int .i64 1))⟩])
                  (.seq (.reg [⟨none, .mov 81 (.t 10)⟩,
                      ⟨none, .mov 82 (.t 13)⟩,
                      ⟨none, .call 83 f_laws_markIntS [((.t 81), true), ((.t 82), false)]⟩,
                      ⟨none, .asg 13 (.t 83)⟩])
                   (.drop [81, 82, 83] (.seq (.reg [⟨none, .asg 14 (.c (.int .i64 1))⟩])
                    (.seq (.reg [⟨none, .mov 84 (.t 10)⟩,
                        ⟨none, .mov 85 (.t 14)⟩,
                        ⟨none, .call 86 f_laws_heldIntS [((.t 84), false), ((.t 85), false)]⟩,
                        ⟨none, .asg 14 (.t 86)⟩])
                     (.drop [84, 85, 86] (.seq (.seq (.reg [⟨none, .mov 87 (.t 14)⟩,
                          ⟨none, .bin 88 .lss (.t 87) (.c (.int .i64 0))⟩])
                       (.drop [87] (.cond (.t 88) (.seq (.reg [⟨none, .asg 4 (.c (.bool false))⟩])
                         .ret)
                        .skip)))
                      (.drop [87, 88] (.seq (.seq (.reg [⟨none, .mov 89 (.t 14)⟩,
                           ⟨none, .mov 90 (.t 13)⟩,
                           ⟨none, .bin 91 .neq (.t 89) (.t 90)⟩])
                        (.drop [89, 90] (.cond (.t 91) (.seq (.reg [⟨none, .asg 4 (.c (.bool false))⟩])
                          .ret)
                         .skip)))
                       (.drop [89, 90, 91] (.seq (.reg [⟨none, .ld 93 1 true (.t 2)⟩,
                           ⟨none, .call 94 f_laws_toPoset [((.t 93), false)]⟩,
                           ⟨none, .mov 95 (.t 1)⟩,
                           ⟨none, .call 96 f_laws_toIntS [((.t 95), false)]⟩,
                           ⟨none, .call 97 f_impl_DownsetOf [((.t 94), false), ((.t 96), false)]⟩,
                           ⟨none, .asg 92 (.t 97)⟩,
                           ⟨none, .ext 98 (.t 92) 0⟩,
                           ⟨none, .ext 99 (.t 92) 1⟩,
                           ⟨none, .asg 15 (.t 98)⟩,
                           ⟨none, .asg 16 (.t 99)⟩])
                        (.drop [93, 94, 95, 96, 97, 92, 98, 99] (.seq (.cut c_laws_FnExactDownsetOf_k3)
                         (.drop [100, 101, 102, 103, 104, 105, 106, 107, 108] (.seq (.reg [⟨none, .asg 14 (.c (.int .i64 1))⟩])
                          (.seq (.reg [⟨none, .mov 109 (.t 10)⟩,
                              ⟨none, .mov 110 (.t 14)⟩,
                              ⟨none, .call 111 f_laws_heldIntS [((.t 109), false), ((.t 110), false)]⟩,
                              ⟨none, .asg 14 (.t 111)⟩])
                           (.drop [109, 110, 111] (.seq (.seq (.reg [⟨none, .mov 112 (.t 14)⟩,
                                ⟨none, .bin 113 .lss (.t 112) (.c (.int .i64 0))⟩])
                             (.drop [112] (.cond (.t 113) (.seq (.reg [⟨none, .asg 4 (.c (.bool false))⟩])
                               .ret)
                              .skip)))
                            (.drop [112, 113] (.seq (.seq (.reg [⟨none, .mov 114 (.t 14)⟩,
                                 ⟨none, .mov 115 (.t 13)⟩,
                                 ⟨none, .bin 116 .neq (.t 114) (.t 115)⟩])
                              (.drop [114, 115] (.cond (.t 116) (.seq (.reg [⟨none, .asg 4 (.c (.bool false))⟩])
                                .ret)
                               .skip)))
                             (.drop [114, 115, 116] (.seq (.reg [⟨none, .asg 4 (.c (.bool true))⟩])
                              .ret)))))))))))))))))))))))))))))))))))))))))))))))))))
abbrev r_laws_FnExactDownsetOf : List RS := [.t 4]
theorem k_laws_FnExactDownsetOf : fitsF Try.prog f_laws_FnExactDownsetOf 117 c_laws_FnExactDownsetOf r_laws_FnExactDownsetOf = true := by kernel_rfl

/- loop.example/g01078/laws.FnExactDualPoset: [aP=0, aP=1, left=3, w0=4, w1=5, x0=6, g0=7, g1=8, k=9, m=10, q=11, h0=12, h1=13] -/
def c_laws_FnExactDualPoset_k1 : ACode :=
  (.seq (.reg [⟨none, .ld 32 1 true (.t 7)⟩,
             ⟨none, .ld 33 1 true (.t 4)⟩,
             ⟨none, .call 34 f_laws_eqPoset [((.t 32), false), ((.t 33), false)]⟩,
             ⟨none, .un 35 .not (.t 34)⟩,
             ⟨none, .asg 36 (.t 35)⟩,
             ⟨some (36, false), .mov 37 (.t 8)⟩,
             ⟨some (36, false), .mov 38 (.t 5)⟩,
             ⟨some (36, false), .binb 39 .neq (.t 37) (.t 38)⟩,
             ⟨none, .pick 40 (.t 36) (.c (.bool true)) (.t 39)⟩])
          (.drop [32, 33, 34, 35, 36, 37, 38, 39] (.cond (.t 40) (.seq (.reg [⟨none, .asg 2 (.c (.bool false))⟩])
            .ret)
           .skip)))
def c_laws_FnExactDualPoset_k2 : ACode :=
  (.seq (.reg [⟨none, .mov 49 (.t 9)⟩,
                 ⟨none, .bin 50 .lss (.t 49) (.c (.int .i64 0))⟩,
                 ⟨none, .asg 51 (.t 50)⟩,
                 ⟨some (51, false), .ld 52 1 true (.t 7)⟩,
                 ⟨some (51, false), .ld 53 1 true (.t 4)⟩,
                 ⟨some (51, false), .call 54 f_laws_eqPoset [((.t 52), false), ((.t 53), false)]⟩,
                 ⟨some (51, false), .un 55 .not (.t 54)⟩,
                 ⟨none, .pick 56 (.t 51) (.c (.bool true)) (.t 55)⟩,
                 ⟨none, .asg 57 (.t 56)⟩,
                 ⟨some (57, false), .mov 58 (.t 8)⟩,
                 ⟨some (57, false), .mov 59 (.t 5)⟩,
                 ⟨some (57, false), .binb 60 .neq (.t 58) (.t 59)⟩,
                 ⟨none, .pick 61 (.t 57) (.c (.bool true)) (.t 60)⟩])
              (.drop [49, 50, 51, 52, 53, 54, 55, 56, 57, 58, 59, 60] (.cond (.t 61) (.seq (.reg [⟨none, .asg 2 (.c (.bool false))⟩])
                .ret)
               .skip)))
def c_laws_FnExactDualPoset_k3 : ACode :=
  (.seq (.reg [⟨none, .ld 79 1 true (.t 12)⟩,
                         ⟨none, .ld 80 1 true (.t 4)⟩,
                         ⟨none, .call 81 f_laws_eqPoset [((.t 79), false), ((.t 80), false)]⟩,
                         ⟨none, .un 82 .not (.t 81)⟩,
                         ⟨none, .asg 83 (.t 82)⟩,
                         ⟨some (83, false), .mov 84 (.t 13)⟩,
                         ⟨some (83, false), .mov 85 (.t 5)⟩,
                         ⟨some (83, false), .binb 86 .neq (.t 84) (.t 85)⟩,
                         ⟨none, .pick 87 (.t 83) (.c (.bool true)) (.t 86)⟩])
                      (.drop [79, 80, 81, 82, 83, 84, 85, 86] (.cond (.t 87) (.seq (.reg [⟨none, .asg 2 (.c (.bool false))⟩])
                        .ret)
                       .skip)))
def c_laws_FnExactDualPoset : ACode :=
  (.seq (.reg [⟨none, .box 1 (.t 0)⟩,
     ⟨none, .asg 2 (.c (.bool false))⟩])
  (.seq (.reg [⟨none, .asg 3 (.c (.int .i64 1048576))⟩])
   (.seq (.reg [⟨none, .ld 14 1 true (.t 1)⟩,
       ⟨none, .mov 15 (.t 3)⟩,
       ⟨none, .call 16 f_laws_szPoset [((.t 14), false), ((.t 15), false)]⟩,
       ⟨none, .asg 3 (.t 16)⟩])
    (.drop [14, 15, 16] (.seq (.seq (.reg [⟨none, .mov 17 (.t 3)⟩,
         ⟨none, .bin 18 .lss (.t 17) (.c (.int .i64 0))⟩])
      (.drop [17] (.cond (.t 18) (.seq (.reg [⟨none, .asg 2 (.c (.bool true))⟩])
        .ret)
       .skip)))
     (.drop [17, 18] (.seq (.reg [⟨none, .ld 20 1 true (.t 1)⟩,
         ⟨none, .call 21 f_laws_toPoset [((.t 20), false)]⟩,
         ⟨none, .call 22 f_spec_DualPoset [((.t 21), false)]⟩,
         ⟨none, .asg 19 (.t 22)⟩,
         ⟨none, .ext 23 (.t 19) 0⟩,
         ⟨none, .ext 24 (.t 19) 1⟩,
         ⟨none, .alc 4 (.agg [.nilsl 1])⟩,
         ⟨none, .st 1 (.t 4) (.t 23)⟩,
         ⟨none, .asg 5 (.t 24)⟩])
      (.drop [20, 21, 22, 19, 23, 24] (.seq (.reg [⟨none, .ld 25 1 true (.t 1)⟩,
          ⟨none, .call 26 f_laws_toPoset [((.t 25), false)]⟩,
          ⟨none, .alc 6 (.agg [.nilsl 1])⟩,
          ⟨none, .st 1 (.t 6) (.t 26)⟩])
       (.drop [25, 26] (.seq (.reg [⟨none, .ld 28 1 true (.t 6)⟩,
           ⟨none, .call 29 f_impl_DualPoset [((.t 28), false)]⟩,
           ⟨none, .asg 27 (.t 29)⟩,
           ⟨none, .ext 30 (.t 27) 0⟩,
           ⟨none, .ext 31 (.t 27) 1⟩,
           ⟨none, .alc 7 (.agg [.nilsl 1])⟩,
           ⟨none, .st 1 (.t 7) (.t 30)⟩,
           ⟨none, .asg 8 (.t 31)⟩])
        (.drop [28, 29, 27, 30, 31] (.seq (.cut c_laws_FnExactDualPoset_k1)
         (.drop [32, 33, 34, 35, 36, 37, 38, 39, 40] (.seq (.seq (.dreg [(⟨none, .ld 41 1 true (.t 6)⟩, []),
              (⟨none, .ld 42 1 true (.t 1)⟩, [41]),
              (⟨none, .call 43 f_laws_toPoset [((.t 42), false)]⟩, [41])]
             [⟨none, .call 44 f_laws_eqPoset [((.t 41), false), ((.t 43), false)]⟩,
              ⟨none, .un 45 .not (.t 44)⟩])
           (.drop [41, 42, 43, 44] (.cond (.t 45) (.seq (.reg [⟨none, .asg 2 (.c (.bool false))⟩])
             .ret)
            .skip)))
          (.drop [41, 42, 43, 44, 45] (.seq (.reg [⟨none, .asg 9 (.c (.int .i64 1))⟩])
           (.seq (.reg [⟨none, .ld 46 1 true (.t 6)⟩,
               ⟨none, .mov 47 (.t 9)⟩,
               ⟨none, .call 48 f_laws_markPoset [((.t 46), true), ((.t 47), false)]⟩,
               ⟨none, .asg 9 (.t 48)⟩])
            (.drop [46, 47, 48] (.seq (.cut c_laws_FnExactDualPoset_k2)
             (.drop [49, 50, 51, 52, 53, 54, 55, 56, 57, 58, 59, 60, 61] (.seq (.reg [⟨none, .asg 10 (.c (.int .i64 1))⟩])
              (.seq (.reg [⟨none, .ld 62 1 true (.t 7)⟩,
                  ⟨none, .mov 63 (.t 10)⟩,
                  ⟨none, .call 64 f_laws_markPoset [((.t 62), true), ((.t 63), false)]⟩,
                  ⟨none, .asg 10 (.t 64)⟩])
               (.drop [62, 63, 64] (.seq (.reg [⟨none, .asg 11 (.c (.int .i64 1))⟩])
                (.seq (.reg [⟨none, .ld 65 1 true (.t 7)⟩,
                    ⟨none, .mov 66 (.t 11)⟩,
                    ⟨none, .call 67 f_laws_heldPoset [((.t 65), false), ((.t 66), false)]⟩,
                    ⟨none, .asg 11 (.t 67)⟩])
                 (.drop [65, 66, 67] (.seq (.seq (.reg [⟨none, .mov 68 (.t 11)⟩,
                      ⟨none, .bin 69 .lss (.t 68) (.c (.int .i64 0))⟩])
                   (.drop [68] (.cond (.t 69) (.seq (.reg [⟨none, .asg 2 (.c (.bool false))⟩])
                     .ret)
                    .skip)))
                  (.drop [68, 69] (.seq (.seq (.reg [⟨none, .mov 70 (.t 11)⟩,
                       ⟨none, .mov 71 (.t 10)⟩,
                       ⟨none, .bin 72 .neq (.t 70) (.t 71)⟩])
                    (.drop [70, 71] (.cond (.t 72) (.seq (.reg [⟨none, .asg 2 (.c (.bool false))⟩])
                      .ret)
                     .skip)))
                   (.drop [70, 71, 72] (.seq (.reg [⟨none, .ld 74 1 true (.t 1)⟩,
                       ⟨none, .call 75 f_laws_toPoset [((.t 74), false)]⟩,
                       ⟨none, .call 76 f_impl_DualPoset [((.t 75), false)]⟩,
                       ⟨none, .asg 73 (.t 76)⟩,
                       ⟨none, .ext 77 (.t 73) 0⟩,
                       ⟨none, .ext 78 (.t 73) 1⟩,
                       ⟨none, .alc 12 (.agg [.nilsl 1])⟩,
                       ⟨none, .st 1 (.t 12) (.t 77)⟩,
                       ⟨none, .asg 13 (.t 78)⟩])
                    (.drop [74, 75, 76, 73, 77, 78] (.seq (.cut c_laws_FnExactDualPoset_k3)
                     (.drop [79, 80, 81, 82, 83, 84, 85, 86, 87] (.seq (.reg [⟨none, .asg 11 (.c (.int .i64 1))⟩])
                      (.seq (.reg [⟨none, .ld 88 1 true (.t 7)⟩,
                          ⟨none, .mov 89 (.t 11)⟩,
                          ⟨none, .call 90 f_laws_heldPoset [((.t 88), false), ((.t 89), false)]⟩,
                          ⟨none, .asg 11 (.t 90)⟩])
                       (.drop [88, 89, 90] (.seq (.seq (.reg [⟨none, .mov 91 (.t 11)⟩,
                            ⟨none, .bin 92 .lss (.t 91) (.c (.int .i64 0))⟩])
                         (.drop [91] (.cond (.t 92) (.seq (.reg [⟨none, .asg 2 (.c (.bool false))⟩])
                           .ret)
                          .skip)))
                        (.drop [91, 92] (.seq (.seq (.reg [⟨none, .mov 93 (.t 11)⟩,
                             ⟨none, .mov 94 (.t 10)⟩,
                             ⟨none, .bin 95 .neq (.t 93) (.t 94)⟩])
                          (.drop [93, 94] (.cond (.t 95) (.seq (.reg [⟨none, .asg 2 (.c (.bool false))⟩])
                            .ret)
                           .skip)))
                         (.drop [93, 94, 95] (.seq (.reg [⟨none, .asg 2 (.c (.bool true))⟩])
                          .ret)))))))))))))))))))))))))))))))))))))))))))
abbrev r_laws_FnExactDualPoset : List RS := [.t 2]
theorem k_laws_FnExactDualPoset : fitsF Try.prog f_laws_FnExactDualPoset 96 c_laws_FnExactDualPoset r_laws_FnExactDualPoset = true := by kernel_rfl

/- loop.example/g01078/laws.FnExactFromCovers: [aN=0, aPairs=1, aN=2, aPairs=3, left=5, w0=6, w1=7, x1=8, g0=9, g1=10, k=11, m=12, q=13, h0=14, h1=15] -/
def c_laws_FnExactFromCovers_k1 : ACode :=
  (.seq (.reg [⟨none, .ld 36 1 true (.t 9)⟩,
             ⟨none, .ld 37 1 true (.t 6)⟩,
             ⟨none, .call 38 f_laws_eqPoset [((.t 36), false), ((.t 37), false)]⟩,
             ⟨none, .un 39 .not (.t 38)⟩,
             ⟨none, .asg 40 (.t 39)⟩,
             ⟨some (40, false), .mov 41 (.t 10)⟩,
             ⟨some (40, false), .mov 42 (.t 7)⟩,
             ⟨some (40, false), .binb 43 .neq (.t 41) (.t 42)⟩,
             ⟨none, .pick 44 (.t 40) (.c (.bool true)) (.t 43)⟩])
          (.drop [36, 37, 38, 39, 40, 41, 42, 43] (.cond (.t 44) (.seq (.reg [⟨none, .asg 4 (.c (.bool false))⟩])
            .ret)
           .skip)))
def c_laws_FnExactFromCovers_k2 : ACode :=
  (.seq (.reg [⟨none, .mov 53 (.t 11)⟩,
                 ⟨none, .bin 54 .lss (.t 53) (.c (.int .i64 0))⟩,
                 ⟨none, .asg 55 (.t 54)⟩,
                 ⟨some (55, false), .ld 56 1 true (.t 9)⟩,
                 ⟨some (55, false), .ld 57 1 true (.t 6)⟩,
                 ⟨some (55, false), .call 58 f_laws_eqPoset [((.t 56), false), ((.t 57), false)]⟩,
                 ⟨some (55, false), .un 59 .not (.t 58)⟩,
                 ⟨none, .pick 60 (.t 55) (.c (.bool true)) (.t 59)⟩,
                 ⟨none, .asg 61 (.t 60)⟩,
                 ⟨some (61, false), .mov 62 (.t 10)⟩,
                 ⟨some (61, false), .mov 63 (.t 7)⟩,
                 ⟨some (61, false), .binb 64 .neq (.t 62) (.t 63)⟩,
                 ⟨none, .pick 65 (.t 61) (.c (.bool true)) (.t 64)⟩])
              (.drop [53, 54, 55, 56, 57, 58, 59, 60, 61, 62, 63, 64] (.cond (.t 65) (.seq (.reg [⟨none, .asg 4 (.c (.bool false))⟩])
                .ret)
               .skip)))
def c_laws_FnExactFromCovers_k3 : ACode :=
  (.seq (.reg [⟨none, .ld 84 1 true (.t 14)⟩,
                         ⟨none, .ld 85 1 true (.t 6)⟩,
                         ⟨none, .call 86 f_laws_eqPoset [((.t 84), false), ((.t 85), false)]⟩,
                         ⟨none, .un 87 .not (.t 86)⟩,
                         ⟨none, .asg 88 (.t 87)⟩,
                         ⟨some (88, false), .mov 89 (.t 15)⟩,
                         ⟨some (88, false), .mov 90 (.t 7)⟩,
                         ⟨some (88, false), .binb 91 .neq (.t 89) (.t 90)⟩,
                         ⟨none, .pick 92 (.t 88) (.c (.bool true)) (.t 91)⟩])
                      (.drop [84, 85, 86, 87, 88, 89, 90, 91] (.cond (.t 92) (.seq (.reg [⟨none, .asg 4 (.c (.bool false))⟩])
                        .ret)
                       .skip)))
def c_laws_FnExactFromCovers : ACode :=
  (.seq (.reg [⟨none, .asg 4 (.c (.bool false))⟩])
  (.seq (.reg [⟨none, .asg 5 (.c (.int .i64 1048576))⟩])
   (.seq (.reg [⟨none, .mov 16 (.t 1)⟩,
       ⟨none, .mov 17 (.t 5)⟩,
       ⟨none, .call 18 f_laws_szIntA2S [((.t 16), false), ((.t 17), false)]⟩,
       ⟨none, .asg 5 (.t 18)⟩])
    (.drop [16, 17, 18] (.seq (.seq (.reg [⟨none, .mov 19 (.t 5)⟩,
         ⟨none, .bin 20 .lss (.t 19) (.c (.int .i64 0))⟩])
      (.drop [19] (.cond (.t 20) (.seq (.reg [⟨none, .asg 4 (.c (.bool true))⟩])
        .ret)
       .skip)))
     (.drop [19, 20] (.seq (.reg [⟨none, .mov 22 (.t 0)⟩,
         ⟨none, .mov 23 (.t 1)⟩,
         ⟨none, .call 24 f_laws_toIntA2S [((.t 23), false)]⟩,
         ⟨none, .call 25 f_spec_FromCovers [((.t 22), false), ((.t 24), false)]⟩,
         ⟨none, .asg 21 (.t 25)⟩,
         ⟨none, .ext 26 (.t 21) 0⟩,
         ⟨none, .ext 27 (.t 21) 1⟩,
         ⟨none, .alc 6 (.agg [.nilsl 1])⟩,
         ⟨none, .st 1 (.t 6) (.t 26)⟩,
         ⟨none, .asg 7 (.t 27)⟩])
      (.drop [22, 23, 24, 25, 21, 26, 27] (.seq (.reg [⟨none, .mov 28 (.t 1)⟩,
          ⟨none, .call 29 f_laws_toIntA2S [((.t 28), false)]⟩,
          ⟨none, .asg 8 (.t 29)⟩])
       (.drop [28, 29] (.seq (.reg [⟨none, .mov 31 (.t 0)⟩,
           ⟨none, .mov 32 (.t 8)⟩,
           ⟨none, .call 33 f_impl_FromCovers [((.t 31), false), ((.t 32), false)]⟩,
           ⟨none, .asg 30 (.t 33)⟩,
           ⟨none, .ext 34 (.t 30) 0⟩,
           ⟨none, .ext 35 (.t 30) 1⟩,
           ⟨none, .alc 9 (.agg [.nilsl 1])⟩,
           ⟨none, .st 1 (.t 9) (.t 34)⟩,
           ⟨none, .asg 10 (.t 35)⟩])
        (.drop [31, 32, 33, 30, 34, 35] (.seq (.cut c_laws_FnExactFromCovers_k1)
         (.drop [36, 37, 38, 39, 40, 41, 42, 43, 44] (.seq (.seq (.reg [⟨none, .mov 45 (.t 8)⟩,
              ⟨none, .mov 46 (.t 1)⟩,
              ⟨none, .call 47 f_laws_toIntA2S [((.t 46), false)]⟩,
              ⟨none, .call 48 f_laws_eqIntA2S [((.t 45), false), ((.t 47), false)]⟩,
              ⟨none, .un 49 .not (.t 48)⟩])
           (.drop [45, 46, 47, 48] (.cond (.t 49) (.seq (.reg [⟨none, .asg 4 (.c (.bool false))⟩])
             .ret)
            .skip)))
          (.drop [45, 46, 47, 48, 49] (.seq (.reg [⟨none, .asg 11 (.c (.int .i64 1))⟩])
           (.seq (.reg [⟨none, .mov 50 (.t 8)⟩,
               ⟨none, .mov 51 (.t 11)⟩,
               ⟨none, .call 52 f_laws_markIntA2S [((.t 50), true), ((.t 51), false)]⟩,
               ⟨none, .asg 11 (.t 52)⟩])
            (.drop [50, 51, 52] (.seq (.cut c_laws_FnExactFromCovers_k2)
             (.drop [53, 54, 55, 56, 57, 58, 59, 60, 61, 62, 63, 64, 65] (.seq (.reg [⟨none, .asg 12 (.c (.int .i64 1))⟩])
              (.seq (.reg [⟨none, .ld 66 1 true (.t 9)⟩,
                  ⟨none, .mov 67 (.t 12)⟩,
                  ⟨none, .call 68 f_laws_markPoset [((.t 66), true), ((.t 67), false)]⟩,
                  ⟨none, .asg 12 (.t 68)⟩])
               (.drop [66, 67, 68] (.seq (.reg [⟨none, .asg 13 (.c (.int .i64 1))⟩])
                (.seq (.reg [⟨none, .ld 69 1 true (.t 9)⟩,
                    ⟨none, .mov 70 (.t 13)⟩,
                    ⟨none, .call 71 f_laws_heldPoset [((.t 69), false), ((.t 70), false)]⟩,
                    ⟨none, .asg 13 (.t 71)⟩])
                 (.drop [69, 70, 71] (.seq (.seq (.reg [⟨none, .mov 72 (.t 13)⟩,
                      ⟨none, .bin 73 .lss (.t 72) (.c (.int .i64 0))⟩])
                   (.drop [72] (.cond (.t 73) (.seq (.reg [⟨none, .asg 4 (.c (.bool false))⟩])
                     .ret)
                    .skip)))
                  (.drop [72, 73] (.seq (.seq (.reg [⟨none, .mov 74 (.t 13)⟩,
                       ⟨none, .mov 75 (.t 12)⟩,
                       ⟨none, .bin 76 .neq (.t 74) (.t 75)⟩])
                    (.drop [74, 75] (.cond (.t 76) (.seq (.reg [⟨none, .asg 4 (.c (.bool false))⟩])
                      .ret)
                     .skip)))
                   (.drop [74, 75, 76] (.seq (.reg [⟨none, .mov 78 (.t 0)⟩,
                       ⟨none, .mov 79 (.t 1)⟩,
                       ⟨none, .call 80 f_laws_toIntA2S [((.t 79), false)]⟩,
                       ⟨none, .call 81 f_impl_FromCovers [((.t 78), false), ((.t 80), false)]⟩,
                       ⟨none, .asg 77 (.t 81)⟩,
                       ⟨none, .ext 82 (.t 77) 0⟩,
                       ⟨none, .ext 83 (.t 77) 1⟩,
                       ⟨none, .alc 14 (.agg [.nilsl 1])⟩,
                       ⟨none, .st 1 (.t 14) (.t 82)⟩,
                       ⟨none, .asg 15 (.t 83)⟩])
                    (.drop [78, 79, 80, 81, 77, 82, 83] (.seq (.cut c_laws_FnExactFromCovers_k3)
                     (.drop [84, 85, 86, 87, 88, 89, 90, 91, 92] (.seq (.reg [⟨none, .asg 13 (.c (.int .i64 1))⟩])
                      (.seq (.reg [⟨none, .ld 93 1 true (.t 9)⟩,
                          ⟨none, .mov 94 (.t 13)⟩,
                          ⟨none, .call 95 f_laws_heldPoset [((.t 93), false), ((.t 94), false)]⟩,
                          ⟨none, .asg 13 (.t 95)⟩])
                       (.drop [93, 94, 95] (.seq (.seq (.reg [⟨none, .mov 96 (.t 13)⟩,
                            ⟨none, .bin 97 .lss (.t 96) (.c (.int .i64 0))⟩])
                         (.drop [96] (.cond (.t 97) (.seq (.reg [⟨none, .asg 4 (.c (.bool false))⟩])
                           .ret)
                          .skip)))
                        (.drop [96, 97] (.seq (.seq (.reg [⟨none, .mov 98 (.t 13)⟩,
                             ⟨none, .mov 99 (.t 12)⟩,
                             ⟨none, .bin 100 .neq (.t 98) (.t 99)⟩])
                          (.drop [98, 99] (.cond (.t 100) (.seq (.reg [⟨none, .asg 4 (.c (.bool false))⟩])
                            .ret)
                           .skip)))
                         (.drop [98, 99, 100] (.seq (.reg [⟨none, .asg 4 (.c (.bool true))⟩])
                          .ret)))))))))))))))))))))))))))))))))))))))))))
abbrev r_laws_FnExactFromCovers : List RS := [.t 4]
theorem k_laws_FnExactFromCovers : fitsF Try.prog f_laws_FnExactFromCovers 101 c_laws_FnExactFromCovers r_laws_FnExactFromCovers = true := by kernel_rfl

/- loop.example/g01078/laws.FnExactLongestChain: [aP=0, aP=1, left=3, w0=4, w1=5, x0=6, g0=7, g1=8, k=9, m=10, q=11, h0=12, h1=13] -/
def c_laws_FnExactLongestChain_k1 : ACode :=
  (.seq (.reg [⟨none, .mov 32 (.t 7)⟩,
             ⟨none, .mov 33 (.t 4)⟩,
             ⟨none, .call 34 f_laws_eqIntS [((.t 32), false), ((.t 33), false)]⟩,
             ⟨none, .un 35 .not (.t 34)⟩,
             ⟨none, .asg 36 (.t 35)⟩,
             ⟨some (36, false), .mov 37 (.t 8)⟩,
             ⟨some (36, false), .mov 38 (.t 5)⟩,
             ⟨some (36, false), .binb 39 .neq (.t 37) (.t 38)⟩,
             ⟨none, .pick 40 (.t 36) (.c (.bool true)) (.t 39)⟩])
          (.drop [32, 33, 34, 35, 36, 37, 38, 39] (.cond (.t 40) (.seq (.reg [⟨none, .asg 2 (.c (.bool false))⟩])
            .ret)
           .skip)))
def c_laws_FnExactLongestChain_k2 : ACode :=
  (.seq (.reg [⟨none, .mov 49 (.t 9)⟩,
                 ⟨none, .bin 50 .lss (.t 49) (.c (.int .i64 0))⟩,
                 ⟨none, .asg 51 (.t 50)⟩,
                 ⟨some (51, false), .mov 52 (.t 7)⟩,
                 ⟨some (51, false), .mov 53 (.t 4)⟩,
                 ⟨some (51, false), .call 54 f_laws_eqIntS [((.t 52), false), ((.t 53), false)]⟩,
                 ⟨some (51, false), .un 55 .not (.t 54)⟩,
                 ⟨none, .pick 56 (.t 51) (.c (.bool true)) (.t 55)⟩,
                 ⟨none, .asg 57 (.t 56)⟩,
                 ⟨some (57, false), .mov 58 (.t 8)⟩,
                 ⟨some (57, false), .mov 59 (.t 5)⟩,
                 ⟨some (57, false), .binb 60 .neq (.t 58) (.t 59)⟩,
                 ⟨none, .pick 61 (.t 57) (.c (.bool true)) (.t 60)⟩])
              (.drop [49, 50, 51, 52, 53, 54, 55, 56, 57, 58, 59, 60] (.cond (.t 61) (.seq (.reg [⟨none, .asg 2 (.c (.bool false))⟩])
                .ret)
               .skip)))
def c_laws_FnExactLongestChain_k3 : ACode :=
  (.seq (.reg [⟨none, .mov 79 (.t 12)⟩,
                         ⟨none, .mov 80 (.t 4)⟩,
                         ⟨none, .call 81 f_laws_eqIntS [((.t 79), false), ((.t 80), false)]⟩,
                         ⟨none, .un 82 .not (.t 81)⟩,
                         ⟨none, .asg 83 (.t 82)⟩,
                         ⟨some (83, false), .mov 84 (.t 13)⟩,
                         ⟨some (83, false), .mov 85 (.t 5)⟩,
                         ⟨some (83, false), .binb 86 .neq (.t 84) (.t 85)⟩,
                         ⟨none, .pick 87 (.t 83) (.c (.bool true)) (.t 86)⟩])
                      (.drop [79, 80, 81, 82, 83, 84, 85, 86] (.cond (.t 87) (.seq (.reg [⟨none, .asg 2 (.c (.bool false))⟩])
                        .ret)
                       .skip)))
def c_laws_FnExactLongestChain : ACode :=
  (.seq (.reg [⟨none, .box 1 (.t 0)⟩,
     ⟨none, .asg 2 (.c (.bool false))⟩])
  (.seq (.reg [⟨none, .asg 3 (.c (.int .i64 1048576))⟩])
   (.seq (.reg [⟨none, .ld 14 1 true (.t 1)⟩,
       ⟨none, .mov 15 (.t 3)⟩,
       ⟨none, .call 16 f_laws_szPoset [((.t 14), false), ((.t 15), false)]⟩,
       ⟨none, .asg 3 (.t 16)⟩])
    (.drop [14, 15, 16] (.seq (.seq (.reg [⟨none, .mov 17 (.t 3)⟩,
         ⟨none, .bin 18 .lss (.t 17) (.c (.int .i64 0))⟩])
      (.drop [17] (.cond (.t 18) (.seq (.reg [⟨none, .asg 2 (.c (.bool true))⟩])
        .ret)
       .skip)))
     (.drop [17, 18] (.seq (.reg [⟨none, .ld 20 1 true (.t 1)⟩,
         ⟨none, .call 21 f_laws_toPoset [((.t 20), false)]⟩,
         ⟨none, .call 22 f_spec_LongestChain [((.t 21), false)]⟩,
         ⟨none, .asg 19 (.t 22)⟩,
         ⟨none, .ext 23 (.t 19) 0⟩,
         ⟨none, .ext 24 (.t 19) 1⟩,
         ⟨none, .asg 4 (.t 23)⟩,
         ⟨none, .asg 5 (.t 24)⟩])
      (.drop [20, 21, 22, 19, 23, 24] (.seq (.reg [⟨none, .ld 25 1 true (.t 1)⟩,
          ⟨none, .call 26 f_laws_toPoset [((.t 25), false)]⟩,
          ⟨none, .alc 6 (.agg [.nilsl 1])⟩,
          ⟨none, .st 1 (.t 6) (.t 26)⟩])
       (.drop [25, 26] (.seq (.reg [⟨none, .ld 28 1 true (.t 6)⟩,
           ⟨none, .call 29 f_impl_LongestChain [((.t 28), false)]⟩,
           ⟨none, .asg 27 (.t 29)⟩,
           ⟨none, .ext 30 (.t 27) 0⟩,
           ⟨none, .ext 31 (.t 27) 1⟩,
           ⟨none, .asg 7 (.t 30)⟩,
           ⟨none, .asg 8 (.t 31)⟩])
        (.drop [28, 29, 27, 30, 31] (.seq (.cut c_laws_FnExactLongestChain_k1)
         (.drop [32, 33, 34, 35, 36, 37, 38, 39, 40] (.seq (.seq (.dreg [(⟨none, .ld 41 1 true (.t 6)⟩, []),
              (⟨none, .ld 42 1 true (.t 1)⟩, [41]),
              (⟨none, .call 43 f_laws_toPoset [((.t 42), false)]⟩, [41])]
             [⟨none, .call 44 f_laws_eqPoset [((.t 41), false), ((.t 43), false)]⟩,
              ⟨none, .un 45 .not (.t 44)⟩])
           (.drop [41, 42, 43, 44] (.cond (.t 45) (.seq (.reg [⟨none, .asg 2 (.c (.bool false))⟩])
             .ret)
            .skip)))
          (.drop [41, 42, 43, 44, 45] (.seq (.reg [⟨none, .asg 9 (.c (.int .i64 1))⟩])
           (.seq (.reg [⟨none, .ld 46 1 true (.t 6)⟩,
               ⟨none, .mov 47 (.t 9)⟩,
               ⟨none, .call 48 f_laws_markPoset [((.t 46), true), ((.t 47), false)]⟩,
               ⟨none, .asg 9 (.t 48)⟩])
            (.drop [46, 47, 48] (.seq (.cut c_laws_FnExactLongestChain_k2)
             (.drop [49, 50, 51, 52, 53, 54, 55, 56, 57, 58, 59, 60, 61] (.seq (.reg [⟨none, .asg 10 (.c (.int .i64 1))⟩])
              (.seq (.reg [⟨none, .mov 62 (.t 7)⟩,
                  ⟨none, .mov 63 (.t 10)⟩,
                  ⟨none, .call 64 f_laws_markIntS [((.t 62), true), ((.t 63), false)]⟩,
                  ⟨none, .asg 10 (.t 64)⟩])
               (.drop [62, 63, 64] (.seq (.reg [⟨none, .asg 11 (.c (.int .i64 1))⟩])
                (.seq (.reg [⟨none, .mov 65 (.t 7)⟩,
                    ⟨none, .mov 66 (.t 11)⟩,
                    ⟨none, .call 67 f_laws_heldIntS [((.t 65), false), ((.t 66), false)]⟩,
                    ⟨none, .asg 11 (.t 67)⟩])
                 (.drop [65, 66, 67] (.seq (.seq (.reg [⟨none, .mov 68 (.t 11)⟩,
                      ⟨none, .bin 69 .lss (.t 68) (.c (.int .i64 0))⟩])
                   (.drop [68] (.cond (.t 69) (.seq (.reg [⟨none, .asg 2 (.c (.bool false))⟩])
                     .ret)
                    .skip)))
                  (.drop [68, 69] (.seq (.seq (.reg [⟨none, .mov 70 (.t 11)⟩,
                       ⟨none, .mov 71 (.t 10)⟩,
                       ⟨none, .bin 72 .neq (.t 70) (.t 71)⟩])
                    (.drop [70, 71] (.cond (.t 72) (.seq (.reg [⟨none, .asg 2 (.c (.bool false))⟩])
                      .ret)
                     .skip)))
                   (.drop [70, 71, 72] (.seq (.reg [⟨none, .ld 74 1 true (.t 1)⟩,
                       ⟨none, .call 75 f_laws_toPoset [((.t 74), false)]⟩,
                       ⟨none, .call 76 f_impl_LongestChain [((.t 75), false)]⟩,
                       ⟨none, .asg 73 (.t 76)⟩,
                       ⟨none, .ext 77 (.t 73) 0⟩,
                       ⟨none, .ext 78 (.t 73) 1⟩,
                       ⟨none, .asg 12 (.t 77)⟩,
                       ⟨none, .asg 13 (.t 78)⟩])
                    (.drop [74, 75, 76, 73, 77, 78] (.seq (.cut c_laws_FnExactLongestChain_k3)
                     (.drop [79, 80, 81, 82, 83, 84, 85, 86, 87] (.seq (.reg [⟨none, .asg 11 (.c (.int .i64 1))⟩])
                      (.seq (.reg [⟨none, .mov 88 (.t 7)⟩,
                          ⟨none, .mov 89 (.t 11)⟩,
                          ⟨none, .call 90 f_laws_heldIntS [((.t 88), false), ((.t 89), false)]⟩,
                          ⟨none, .asg 11 (.t 90)⟩])
                       (.drop [88, 89, 90] (.seq (.seq (.reg [⟨none, .mov 91 (.t 11)⟩,
                            ⟨none, .bin 92 .lss (.t 91) (.c (.int .i64 0))⟩])
                         (.drop [91] (.cond (.t 92) (.seq (.reg [⟨none, .asg 2 (.c (.bool false))⟩])
                           .ret)
                          .skip)))
                        (.drop [91, 92] (.seq (.seq (.reg [⟨none, .mov 93 (.t 11)⟩,
                             ⟨none, .mov 94 (.t 10)⟩,
                             ⟨none, .bin 95 .neq (.t 93) (.t 94)⟩])
                          (.drop [93, 94] (.cond (.t 95) (.seq (.reg [⟨none, .asg 2 (.c (.bool false))⟩])
                            .ret)
                           .skip)))
                         (.drop [93, 94, 95] (.seq (.reg [⟨none, .asg 2 (.c (.bool true))⟩])
                          .ret)))))))))))))))))))))))))))))))))))))))))))
abbrev r_laws_FnExactLongestChain : List RS := [.t 2]
theorem k_laws_FnExactLongestChain : fitsF Try.prog f_laws_FnExactLongestChain 96 c_laws_FnExactLongestChain r_laws_FnExactLongestChain = true := by kernel_rfl

/- loop.example/g01078/spec.IsLattice: [p=0, p=1] -/
def c_spec_IsLattice : ACode :=
  (.seq (.reg [⟨none, .box 1 (.t 0)⟩,
     ⟨none, .asg 2 (.c (.bool false))⟩])
  (.seq (.reg [⟨none, .ld 3 1 true (.t 1)⟩,
      ⟨none, .call 4 f_spec_l24Good [((.t 3), false)]⟩,
      ⟨none, .asg 2 (.t 4)⟩])
   (.drop [3, 4] .ret)))
abbrev r_spec_IsLattice : List RS := [.t 2]
theorem k_spec_IsLattice : fitsF Try.prog f_spec_IsLattice 5 c_spec_IsLattice r_spec_IsLattice = true := by kernel_rfl

/- loop.example/g01078/laws.FnExactIsLattice: [aP=0, aP=1, left=3, w0=4, x0=5, g0=6] -/
def c_laws_FnExactIsLattice : ACode :=
  (.seq (.reg [⟨none, .box 1 (.t 0)⟩,
     ⟨none, .asg 2 (.c (.bool false))⟩])
  (.seq (.reg [⟨none, .asg 3 (.c (.int .i64 1048576))⟩])
   (.seq (.reg [⟨none, .ld 7 1 true (.t 1)⟩,
       ⟨none, .mov 8 (.t 3)⟩,
       ⟨none, .call 9 f_laws_szPoset [((.t 7), false), ((.t 8), false)]⟩,
       ⟨none, .asg 3 (.t 9)⟩])
    (.drop [7, 8, 9] (.seq (.seq (.reg [⟨none, .mov 10 (.t 3)⟩,
         ⟨none, .bin 11 .lss (.t 10) (.c (.int .i64 0))⟩])
      (.drop [10] (.cond (.t 11) (.seq (.reg [⟨none, .asg 2 (.c (.bool true))⟩])
        .ret)
       .skip)))
     (.drop [10, 11] (.seq (.reg [⟨none, .ld 12 1 true (.t 1)⟩,
         ⟨none, .call 13 f_laws_toPoset [((.t 12), false)]⟩,
         ⟨none, .call 14 f_spec_IsLattice [((.t 13), false)]⟩,
         ⟨none, .asg 4 (.t 14)⟩])
      (.drop [12, 13, 14] (.seq (.reg [⟨none, .ld 15 1 true (.t 1)⟩,
          ⟨none, .call 16 f_laws_toPoset [((.t 15), false)]⟩,
          ⟨none, .alc 5 (.agg [.nilsl 1])⟩,
          ⟨none, .st 1 (.t 5) (.t 16)⟩])
       (.drop [15, 16] (.seq (.reg [⟨none, .ld 17 1 true (.t 5)⟩,
           ⟨none, .call 18 f_impl_IsLattice [((.t 17), false)]⟩,
           ⟨none, .asg 6 (.t 18)⟩])
        (.drop [17, 18] (.seq (.seq (.reg [⟨none, .mov 19 (.t 6)⟩,
             ⟨none, .mov 20 (.t 4)⟩,
             ⟨none, .binb 21 .neq (.t 19) (.t 20)⟩])
          (.drop [19, 20] (.cond (.t 21) (.seq (.reg [⟨none, .asg 2 (.c (.bool false))⟩])
            .ret)
           .skip)))
         (.drop [19, 20, 21] (.seq (.seq (.dreg [(⟨none, .ld 22 1 true (.t 5)⟩, []),
              (⟨none, .ld 23 1 true (.t 1)⟩, [22]),
              (⟨none, .call 24 f_laws_toPoset [((.t 23), false)]⟩, [22])]
             [⟨none, .call 25 f_laws_eqPoset [((.t 22), false), ((.t 24), false)]⟩,
              ⟨none, .un 26 .not (.t 25)⟩])
           (.drop [22, 23, 24, 25] (.cond (.t 26) (.seq (.reg [⟨none, .asg 2 (.c (.bool false))⟩])
             .ret)
            .skip)))
          (.drop [22, 23, 24, 25, 26] (.seq (.reg [⟨none, .asg 2 (.c (.bool true))⟩])
           .ret)))))))))))))))))
abbrev r_laws_FnExactIsLattice : List RS := [.t 2]
theorem k_laws_FnExactIsLattice : fitsF Try.prog f_laws_FnExactIsLattice 27 c_laws_FnExactIsLattice r_laws_FnExactIsLattice = true := by kernel_rfl

end Go.Proofs.Ythcnmahjhahafaa.Ax
