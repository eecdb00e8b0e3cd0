/-
  The small code of the functions, written by program; that the program's code is this one, the kernel looks at.
-/
import Derived.Test.YtdodfnbbfkcgnaaAx3
import Derived.Test.YtdodfnbbfkcgnaaProg
import Derived.KernelRfl
import Derived.Test.YtdodfnbbfkcgnaaNum
namespace Go.Proofs.Ytdodfnbbfkcgnaa.Ax
open Go
set_option maxRecDepth 100000

/- loop.example/g01078/laws.FnExactRenameElements: [aA=0, aNames=1, aA=2, aNames=3, left=5, w0=6, w1=7, x0=8, x1=9, g0=10, g1=11, k=12, m=13, q=14, h0=15, h1=16] -/
def c_laws_FnExactRenameElements_k1 : ACode :=
  (.seq (.reg [⟨none, .ld 43 2 true (.t 10)⟩,
               ⟨none, .ld 44 2 true (.t 6)⟩,
               ⟨none, .call 45 f_laws_eqAlgebra [((.t 43), false), ((.t 44), false)]⟩,
               ⟨none, .un 46 .not (.t 45)⟩,
               ⟨none, .asg 47 (.t 46)⟩,
               ⟨some (47, false), .mov 48 (.t 11)⟩,
               ⟨some (47, false), .mov 49 (.t 7)⟩,
               ⟨some (47, false), .binb 50 .neq (.t 48) (.t 49)⟩,
               ⟨none, .pick 51 (.t 47) (.c (.bool true)) (.t 50)⟩])
            (.drop [43, 44, 45, 46, 47, 48, 49, 50] (.cond (.t 51) (.seq (.reg [⟨none, .asg 4 (.c (.bool false))⟩])
              .ret)
             .skip)))
def c_laws_FnExactRenameElements_k2 : ACode :=
  (.seq (.reg [⟨none, .mov 68 (.t 12)⟩,
                     ⟨none, .bin 69 .lss (.t 68) (.c (.int .i64 0))⟩,
                     ⟨none, .asg 70 (.t 69)⟩,
                     ⟨some (70, false), .ld 71 2 true (.t 10)⟩,
                     ⟨some (70, false), .ld 72 2 true (.t 6)⟩,
                     ⟨some (70, false), .call 73 f_laws_eqAlgebra [((.t 71), false), ((.t 72), false)]⟩,
                     ⟨some (70, false), .un 74 .not (.t 73)⟩,
                     ⟨none, .pick 75 (.t 70) (.c (.bool true)) (.t 74)⟩,
                     ⟨none, .asg 76 (.t 75)⟩,
                     ⟨some (76, false), .mov 77 (.t 11)⟩,
                     ⟨some (76, false), .mov 78 (.t 7)⟩,
                     ⟨some (76, false), .binb 79 .neq (.t 77) (.t 78)⟩,
                     ⟨none, .pick 80 (.t 76) (.c (.bool true)) (.t 79)⟩])
                  (.drop [68, 69, 70, 71, 72, 73, 74, 75, 76, 77, 78, 79] (.cond (.t 80) (.seq (.reg [⟨none, .asg 4 (.c (.bool false))⟩])
                    .ret)
                   .skip)))
def c_laws_FnExactRenameElements_k3 : ACode :=
  (.seq (.reg [⟨none, .ld 100 2 true (.t 15)⟩,
                             ⟨none, .ld 101 2 true (.t 6)⟩,
                             ⟨none, .call 102 f_laws_eqAlgebra [((.t 100), false), ((.t 101), false)]⟩,
                             ⟨none, .un 103 .not (.t 102)⟩,
                             ⟨none, .asg 104 (.t 103)⟩,
                             ⟨some (104, false), .mov 105 (.t 16)⟩,
                             ⟨some (104, false), .mov 106 (.t 7)⟩,
                             ⟨some (104, false), .binb 107 .neq (.t 105) (.t 106)⟩,
                             ⟨none, .pick 108 (.t 104) (.c (.bool true)) (.t 107)⟩])
                          (.drop [100, 101, 102, 103, 104, 105, 106, 107] (.cond (.t 108) (.seq (.reg [⟨none, .asg 4 (.c (.bool false))⟩])
                            .ret)
                           .skip)))
def c_laws_FnExactRenameElements : ACode :=
  (.seq (.reg [⟨none, .box 2 (.t 0)⟩,
     ⟨none, .asg 4 (.c (.bool false))⟩])
  (.seq (.seq (.reg [⟨none, .mov 17 (.t 1)⟩,
       ⟨none, .len 18 (.t 17)⟩,
       ⟨none, .bin 19 .gtr (.t 18) (.c (.int .i64 1048576))⟩])
    (.drop [17, 18] (.cond (.t 19) (.seq (.reg [⟨none, .asg 4 (.c (.bool true))⟩])
      .ret)
     .skip)))
   (.drop [17, 18, 19] (.seq (.reg [⟨none, .asg 5 (.c (.int .i64 1048576))⟩])
    (.seq (.reg [⟨none, .ld 20 2 true (.t 2)⟩,
        ⟨none, .mov 21 (.t 5)⟩,
        ⟨none, .call 22 f_laws_szAlgebra [((.t 20), false), ((.t 21), false)]⟩,
        ⟨none, .asg 5 (.t 22)⟩])
     (.drop [20, 21, 22] (.seq (.seq (.reg [⟨none, .mov 23 (.t 5)⟩,
          ⟨none, .bin 24 .lss (.t 23) (.c (.int .i64 0))⟩])
       (.drop [23] (.cond (.t 24) (.seq (.reg [⟨none, .asg 4 (.c (.bool true))⟩])
         .ret)
        .skip)))
      (.drop [23, 24] (.seq (.reg [⟨none, .ld 26 2 true (.t 2)⟩,
          ⟨none, .call 27 f_laws_toAlgebra [((.t 26), false)]⟩,
          ⟨none, .mov 28 (.t 1)⟩,
          ⟨none, .call 29 f_laws_toIntS [((.t 28), false)]⟩,
          ⟨none, .call 30 f_spec_RenameElements [((.t 27), false), ((.t 29), false)]⟩,
          ⟨none, .asg 25 (.t 30)⟩,
          ⟨none, .ext 31 (.t 25) 0⟩,
          ⟨none, .ext 32 (.t 25) 1⟩,
          ⟨none, .alc 6 (.agg [.int .i64 0, .nilsl 2])⟩,
          ⟨none, .st 2 (.t 6) (.t 31)⟩,
          ⟨none, .asg 7 (.t 32)⟩])
       (.drop [26, 27, 28, 29, 30, 25, 31, 32] (.seq (.reg [⟨none, .ld 33 2 true (.t 2)⟩,
           ⟨none, .call 34 f_laws_toAlgebra [((.t 33), false)]⟩,
           ⟨none, .alc 8 (.agg [.int .i64 0, .nilsl 2])⟩,
           ⟨none, .st 2 (.t 8) (.t 34)⟩])
        (.drop [33, 34] (.seq (.reg [⟨none, .mov 35 (.t 1)⟩,
            ⟨none, .call 36 f_laws_toIntS [((.t 35), false)]⟩,
            ⟨none, .asg 9 (.t 36)⟩])
         (.drop [35, 36] (.seq (.reg [⟨none, .ld 38 2 true (.t 8)⟩,
             ⟨none, .mov 39 (.t 9)⟩,
             ⟨none, .call 40 f_impl_RenameElements [((.t 38), false), ((.t 39), false)]⟩,
             ⟨none, .asg 37 (.t 40)⟩,
             ⟨none, .ext 41 (.t 37) 0⟩,
             ⟨none, .ext 42 (.t 37) 1⟩,
             ⟨none, .alc 10 (.agg [.int .i64 0, .nilsl 2])⟩,
             ⟨none, .st 2 (.t 10) (.t 41)⟩,
             ⟨none, .asg 11 (.t 42)⟩])
          (.drop [38, 39, 40, 37, 41, 42] (.seq (.cut c_laws_FnExactRenameElements_k1)
           (.drop [43, 44, 45, 46, 47, 48, 49, 50, 51] (.seq (.seq (.dreg [(⟨none, .ld 52 2 true (.t 8)⟩, []),
                (⟨none, .ld 53 2 true (.t 2)⟩, [52]),
                (⟨none, .call 54 f_laws_toAlgebra [((.t 53), false)]⟩, [52])]
               [⟨none, .call 55 f_laws_eqAlgebra [((.t 52), false), ((.t 54), false)]⟩,
                ⟨none, .un 56 .not (.t 55)⟩])
             (.drop [52, 53, 54, 55] (.cond (.t 56) (.seq (.reg [⟨none, .asg 4 (.c (.bool false))⟩])
               .ret)
              .skip)))
            (.drop [52, 53, 54, 55, 56] (.seq (.seq (.reg [⟨none, .mov 57 (.t 9)⟩,
                 ⟨none, .mov 58 (.t 1)⟩,
                 ⟨none, .call 59 f_laws_toIntS [((.t 58), false)]⟩,
                 ⟨none, .call 60 f_laws_eqIntS [((.t 57), false), ((.t 59), false)]⟩,
                 ⟨none, .un 61 .not (.t 60)⟩])
              (.drop [57, 58, 59, 60] (.cond (.t 61) (.seq (.reg [⟨none, .asg 4 (.c (.bool false))⟩])
                .ret)
               .skip)))
             (.drop [57, 58, 59, 60, 61] (.seq (.reg [⟨none, .asg 12 (.c (.int .i64 1))⟩])
              (.seq (.reg [⟨none, .ld 62 2 true (.t 8)⟩,
                  ⟨none, .mov 63 (.t 12)⟩,
                  ⟨none, .call 64 f_laws_markAlgebra [((.t 62), true), ((.t 63), false)]⟩,
                  ⟨none, .asg 12 (.t 64)⟩])
               (.drop [62, 63, 64] (.seq (.reg [⟨none, .mov 65 (.t 9)⟩,
                   ⟨none, .mov 66 (.t 12)⟩,
                   ⟨none, .call 67 f_laws_markIntS [((.t 65), true), ((.t 66), false)]⟩,
                   ⟨none, .asg 12 (.t 67)⟩])
                (.drop [65, 66, 67] (.seq (.cut c_laws_FnExactRenameElements_k2)
                 (.drop [68, 69, 70, 71, 72, 73, 74, 75, 76, 77, 78, 79, 80] (.seq (.reg [⟨none, .asg 13 (.c (.int .i64 1))⟩])
                  (.seq (.reg [⟨none, .ld 81 2 true (.t 10)⟩,
                      ⟨none, .mov 82 (.t 13)⟩,
                      ⟨none, .call 83 f_laws_markAlgebra [((.t 81), true), ((.t 82), false)]⟩,
                      ⟨none, .asg 13 (.t 83)⟩])
                   (.drop [81, 82, 83] (.seq (.reg [⟨none, .asg 14 (.c (.int .i64 1))⟩])
                    (.seq (.reg [⟨none, .ld 84 2 true (.t 10)⟩,
                        ⟨none, .mov 85 (.t 14)⟩,
                        ⟨none, .call 86 f_laws_heldAlgebra [((.t 84), false), ((.t 85), false)]⟩,
                        ⟨none, .asg 14 (.t 86)⟩])
                     (.drop [84, 85, 86] (.seq (.seq (.reg [⟨none, .mov 87 (.t 14)⟩,
                          ⟨none, .bin 88 .lss (.t 87) (.c (.int .i64 0))⟩])
                       (.drop [87] (.cond (.t 88) (.seq (.reg [⟨none, .asg 4 (.c (.bool false))⟩])
                         .ret)
                        .skip)))
                      (.drop [87, 88] (.seq (.seq (.reg [⟨none, .mov 89 (.t 14)⟩,
                           ⟨none, .mov 90 (.t 13)⟩,
                           ⟨none, .bin 91 .neq (.t 89) (.t 90)⟩])
                        (.drop [89, 90] (.cond (.t 91) (.seq (.reg [⟨none, .asg 4 (.c (.bool false))⟩])
                          .ret)
                         .skip)))
                       (.drop [89, 90, 91] (.seq (.reg [⟨none, .ld 93 2 true (.t 2)⟩,
                           ⟨none, .call 94 f_laws_toAlgebra [((.t 93), false)]⟩,
                           ⟨none, .mov 95 (.t 1)⟩,
                           ⟨none, .call 96 f_laws_toIntS [((.t 95), false)]⟩,
                           ⟨none, .call 97 f_impl_RenameElements [((.t 94), false), ((.t 96), false)]⟩,
                           ⟨none, .asg 92 (.t 97)⟩,
                           ⟨none, .ext 98 (.t 92) 0⟩,
                           ⟨none, .ext 99 (.t 92) 1⟩,
                           ⟨none, .alc 15 (.agg [.int .i64 0, .nilsl 2])⟩,
                           ⟨none, .st 2 (.t 15) (.t 98)⟩,
                           ⟨none, .asg 16 (.t 99)⟩])
                        (.drop [93, 94, 95, 96, 97, 92, 98, 99] (.seq (.cut c_laws_FnExactRenameElements_k3)
                         (.drop [100, 101, 102, 103, 104, 105, 106, 107, 108] (.seq (.reg [⟨none, .asg 14 (.c (.int .i64 1))⟩])
                          (.seq (.reg [⟨none, .ld 109 2 true (.t 10)⟩,
                              ⟨none, .mov 110 (.t 14)⟩,
                              ⟨none, .call 111 f_laws_heldAlgebra [((.t 109), false), ((.t 110), false)]⟩,
                              ⟨none, .asg 14 (.t 111)⟩])
                           (.drop [109, 110, 111] (.seq (.seq (.reg [⟨none, .mov 112 (.t 14)⟩,
                                ⟨none, .bin 113 .lss (.t 112) (.c (.int .i64 0))⟩])
                             (.drop [112] (.cond (.t 113) (.seq (.reg [⟨none, .asg 4 (.c (.bool false))⟩])
                               .ret)
                              .skip)))
                            (.drop [112, 113] (.seq (.seq (.reg [⟨none, .mov 114 (.t 14)⟩,
                                 ⟨none, .mov 115 (.t 13)⟩,
                                 ⟨none, .bin 116 .neq (.t 114) (.t 115)⟩])
                              (.drop [114, 115] (.cond (.t 116) (.seq (.reg [⟨none, .asg 4 (.c (.bool false))⟩])
                                .ret)
                               .skip)))
                             (.drop [114, 115, 116] (.seq (.reg [⟨none, .asg 4 (.c (.bool true))⟩])
                              .ret)))))))))))))))))))))))))))))))))))))))))))))))))))
abbrev r_laws_FnExactRenameElements : List RS := [.t 4]
theorem k_laws_FnExactRenameElements : fitsF Try.prog f_laws_FnExactRenameElements 117 c_laws_FnExactRenameElements r_laws_FnExactRenameElements = true := by kernel_rfl

/- loop.example/g01078/impl.areAlike: [a=0, b=1, a=2, b=3] -/
def c_impl_areAlike : ACode :=
  (.seq (.reg [⟨none, .box 2 (.t 0)⟩,
     ⟨none, .box 3 (.t 1)⟩,
     ⟨none, .asg 4 (.c (.bool false))⟩])
  (.seq (.reg [⟨none, .ld 5 2 true (.t 2)⟩,
      ⟨none, .call 6 f_impl_IsAlgebra [((.t 5), false)]⟩,
      ⟨none, .asg 7 (.t 6)⟩,
      ⟨some (7, true), .ld 8 2 true (.t 3)⟩,
      ⟨some (7, true), .call 9 f_impl_IsAlgebra [((.t 8), false)]⟩,
      ⟨none, .pick 10 (.t 7) (.t 9) (.c (.bool false))⟩,
      ⟨none, .asg 11 (.t 10)⟩,
      ⟨some (11, true), .ld 12 2 true (.t 2)⟩,
      ⟨some (11, true), .ld 13 2 true (.t 3)⟩,
      ⟨some (11, true), .call 14 f_impl_alike [((.t 12), false), ((.t 13), false)]⟩,
      ⟨none, .pick 15 (.t 11) (.t 14) (.c (.bool false))⟩,
      ⟨none, .asg 4 (.t 15)⟩])
   (.drop [5, 6, 7, 8, 9, 10, 11, 12, 13, 14, 15] .ret)))
abbrev r_impl_areAlike : List RS := [.t 4]
theorem k_impl_areAlike : fitsF Try.prog f_impl_areAlike 16 c_impl_areAlike r_impl_areAlike = true := by kernel_rfl

/- loop.example/g01078/impl.InverseIso: [a=0, b=1, f=2, a=3, b=4, f=5] -/
def c_impl_InverseIso : ACode :=
  (.seq (.reg [⟨none, .box 3 (.t 0)⟩,
     ⟨none, .box 4 (.t 1)⟩,
     ⟨none, .asg 6 (.c (.nilsl 1))⟩,
     ⟨none, .asg 7 (.c (.bool false))⟩])
  (.seq (.seq (.reg [⟨none, .ld 8 2 true (.t 3)⟩,
       ⟨none, .ld 9 2 true (.t 4)⟩,
       ⟨none, .call 10 f_impl_areAlike [((.t 8), false), ((.t 9), false)]⟩,
       ⟨none, .un 11 .not (.t 10)⟩,
       ⟨none, .asg 12 (.t 11)⟩,
       ⟨some (12, false), .fadr 13 0 (.t 3)⟩,
       ⟨some (12, false), .ld 14 1 false (.t 13)⟩,
       ⟨some (12, false), .fadr 15 0 (.t 4)⟩,
       ⟨some (12, false), .ld 16 1 false (.t 15)⟩,
       ⟨some (12, false), .bin 17 .neq (.t 14) (.t 16)⟩,
       ⟨none, .pick 18 (.t 12) (.c (.bool true)) (.t 17)⟩,
       ⟨none, .asg 19 (.t 18)⟩,
       ⟨some (19, false), .ld 20 2 true (.t 3)⟩,
       ⟨some (19, false), .ld 21 2 true (.t 4)⟩,
       ⟨some (19, false), .mov 22 (.t 2)⟩,
       ⟨some (19, false), .call 23 f_impl_isHom [((.t 20), false), ((.t 21), false), ((.t 22), false)]⟩,
       ⟨some (19, false), .un 24 .not (.t 23)⟩,
       ⟨none, .pick 25 (.t 19) (.c (.bool true)) (.t 24)⟩,
       ⟨none, .asg 26 (.t 25)⟩,
       ⟨some (26, false), .mov 27 (.t 2)⟩,
       ⟨some (26, false), .fadr 28 0 (.t 3)⟩,
       ⟨some (26, false), .ld 29 1 false (.t 28)⟩,
       ⟨some (26, false), .call 30 f_impl_isOrder [((.t 27), false), ((.t 29), false)]⟩,
       ⟨some (26, false), .un 31 .not (.t 30)⟩,
       ⟨none, .pick 32 (.t 26) (.c (.bool true)) (.t 31)⟩])
    (.drop [8, 9, 10, 11, 12, 13, 14, 15, 16, 17, 18, 19, 20, 21, 22, 23, 24, 25, 26, 27, 28, 29, 30, 31] (.cond (.t 32) (.seq (.reg [⟨none, .bsl 33 1 []⟩,
         ⟨none, .asg 6 (.t 33)⟩,
         ⟨none, .asg 7 (.c (.bool false))⟩])
      (.drop [33] .ret))
     .skip)))
   (.drop [8, 9, 10, 11, 12, 13, 14, 15, 16, 17, 18, 19, 20, 21, 22, 23, 24, 25, 26, 27, 28, 29, 30, 31, 32, 33] (.seq (.reg [⟨none, .mov 34 (.t 2)⟩,
       ⟨none, .call 35 f_impl_inverse [((.t 34), false)]⟩,
       ⟨none, .asg 6 (.t 35)⟩,
       ⟨none, .asg 7 (.c (.bool true))⟩])
    (.drop [34, 35] .ret)))))
abbrev r_impl_InverseIso : List RS := [.t 6, .t 7]
theorem k_impl_InverseIso : fitsF Try.prog f_impl_InverseIso 36 c_impl_InverseIso r_impl_InverseIso = true := by kernel_rfl

/- loop.example/g01078/laws.FnExactInverseIso: [aA=0, aB=1, aF=2, aA=3, aB=4, aF=5, left=7, w0=8, w1=9, x0=10, x1=11, x2=12, g0=13, g1=14, k=15, m=16, q=17, h0=18, h1=19] -/
def c_laws_FnExactInverseIso_k1 : ACode :=
  (.seq (.reg [⟨none, .mov 56 (.t 13)⟩,
                  ⟨none, .mov 57 (.t 8)⟩,
                  ⟨none, .call 58 f_laws_eqIntS [((.t 56), false), ((.t 57), false)]⟩,
                  ⟨none, .un 59 .not (.t 58)⟩,
                  ⟨none, .asg 60 (.t 59)⟩,
                  ⟨some (60, false), .mov 61 (.t 14)⟩,
                  ⟨some (60, false), .mov 62 (.t 9)⟩,
                  ⟨some (60, false), .binb 63 .neq (.t 61) (.t 62)⟩,
                  ⟨none, .pick 64 (.t 60) (.c (.bool true)) (.t 63)⟩])
               (.drop [56, 57, 58, 59, 60, 61, 62, 63] (.cond (.t 64) (.seq (.reg [⟨none, .asg 6 (.c (.bool false))⟩])
                 .ret)
                .skip)))
def c_laws_FnExactInverseIso_k2 : ACode :=
  (.seq (.reg [⟨none, .mov 89 (.t 15)⟩,
                          ⟨none, .bin 90 .lss (.t 89) (.c (.int .i64 0))⟩,
                          ⟨none, .asg 91 (.t 90)⟩,
                          ⟨some (91, false), .mov 92 (.t 13)⟩,
                          ⟨some (91, false), .mov 93 (.t 8)⟩,
                          ⟨some (91, false), .call 94 f_laws_eqIntS [((.t 92), false), ((.t 93), false)]⟩,
                          ⟨some (91, false), .un 95 .not (.t 94)⟩,
                          ⟨none, .pick 96 (.t 91) (.c (.bool true)) (.t 95)⟩,
                          ⟨none, .asg 97 (.t 96)⟩,
                          ⟨some (97, false), .mov 98 (.t 14)⟩,
                          ⟨some (97, false), .mov 99 (.t 9)⟩,
                          ⟨some (97, false), .binb 100 .neq (.t 98) (.t 99)⟩,
                          ⟨none, .pick 101 (.t 97) (.c (.bool true)) (.t 100)⟩])
                       (.drop [89, 90, 91, 92, 93, 94, 95, 96, 97, 98, 99, 100] (.cond (.t 101) (.seq (.reg [⟨none, .asg 6 (.c (.bool false))⟩])
                         .ret)
                        .skip)))
def c_laws_FnExactInverseIso_k3 : ACode :=
  (.seq (.reg [⟨none, .mov 123 (.t 18)⟩,
                                  ⟨none, .mov 124 (.t 8)⟩,
                                  ⟨none, .call 125 f_laws_eqIntS [((.t 123), false), ((.t 124), false)]⟩,
                                  ⟨none, .un 126 .not (.t 125)⟩,
                                  ⟨none, .asg 127 (.t 126)⟩,
                                  ⟨some (127, false), .mov 128 (.t 19)⟩,
                                  ⟨some (127, false), .mov 129 (.t 9)⟩,
                                  ⟨some (127, false), .binb 130 .neq (.t 128) (.t 129)⟩,
                                  ⟨none, .pick 131 (.t 127) (.c (.bool true)) (.t 130)⟩])
                               (.drop [123, 124, 125, 126, 127, 128, 129, 130] (.cond (.t 131) (.seq (.reg [⟨none, .asg 6 (.c (.bool false))⟩])
                                 .ret)
                                .skip)))
def c_laws_FnExactInverseIso : ACode :=
  (.seq (.reg [⟨none, .box 3 (.t 0)⟩,
     ⟨none, .box 4 (.t 1)⟩,
     ⟨none, .asg 6 (.c (.bool false))⟩])
  (.seq (.seq (.reg [⟨none, .mov 20 (.t 2)⟩,
       ⟨none, .len 21 (.t 20)⟩,
       ⟨none, .bin 22 .gtr (.t 21) (.c (.int .i64 1048576))⟩])
    (.drop [20, 21] (.cond (.t 22) (.seq (.reg [⟨none, .asg 6 (.c (.bool true))⟩])
      .ret)
     .skip)))
   (.drop [20, 21, 22] (.seq (.reg [⟨none, .asg 7 (.c (.int .i64 1048576))⟩])
    (.seq (.reg [⟨none, .ld 23 2 true (.t 3)⟩,
        ⟨none, .mov 24 (.t 7)⟩,
        ⟨none, .call 25 f_laws_szAlgebra [((.t 23), false), ((.t 24), false)]⟩,
        ⟨none, .asg 7 (.t 25)⟩])
     (.drop [23, 24, 25] (.seq (.seq (.reg [⟨none, .mov 26 (.t 7)⟩,
          ⟨none, .bin 27 .lss (.t 26) (.c (.int .i64 0))⟩])
       (.drop [26] (.cond (.t 27) (.seq (.reg [⟨none, .asg 6 (.c (.bool true))⟩])
         .ret)
        .skip)))
      (.drop [26, 27] (.seq (.reg [⟨none, .ld 28 2 true (.t 4)⟩,
          ⟨none, .mov 29 (.t 7)⟩,
          ⟨none, .call 30 f_laws_szAlgebra [((.t 28), false), ((.t 29), false)]⟩,
          ⟨none, .asg 7 (.t 30)⟩])
       (.drop [28, 29, 30] (.seq (.seq (.reg [⟨none, .mov 31 (.t 7)⟩,
            ⟨none, .bin 32 .lss (.t 31) (.c (.int .i64 0))⟩])
         (.drop [31] (.cond (.t 32) (.seq (.reg [⟨none, .asg 6 (.c (.bool true))⟩])
           .ret)
          .skip)))
        (.drop [31, 32] (.seq (.dreg [(⟨none, .ld 34 2 true (.t 3)⟩, []),
            (⟨none, .call 35 f_laws_toAlgebra [((.t 34), false)]⟩, []),
            (⟨none, .ld 36 2 true (.t 4)⟩, [34, 35]),
            (⟨none, .call 37 f_laws_toAlgebra [((.t 36), false)]⟩, []),
            (⟨none, .mov 38 (.t 2)⟩, [34, 35, 36, 37]),
            (⟨none, .call 39 f_laws_toIntS [((.t 38), false)]⟩, []),
            (⟨none, .call 40 f_spec_InverseIso [((.t 35), false), ((.t 37), false), ((.t 39), false)]⟩, []),
            (⟨none, .asg 33 (.t 40)⟩, []),
            (⟨none, .ext 41 (.t 33) 0⟩, [40]),
            (⟨none, .ext 42 (.t 33) 1⟩, [41, 40, 41])]
           [⟨none, .asg 8 (.t 41)⟩,
            ⟨none, .asg 9 (.t 42)⟩])
         (.drop [34, 35, 36, 37, 38, 39, 40, 33, 41, 42] (.seq (.reg [⟨none, .ld 43 2 true (.t 3)⟩,
             ⟨none, .call 44 f_laws_toAlgebra [((.t 43), false)]⟩,
             ⟨none, .alc 10 (.agg [.int .i64 0, .nilsl 2])⟩,
             ⟨none, .st 2 (.t 10) (.t 44)⟩])
          (.drop [43, 44] (.seq (.reg [⟨none, .ld 45 2 true (.t 4)⟩,
              ⟨none, .call 46 f_laws_toAlgebra [((.t 45), false)]⟩,
              ⟨none, .alc 11 (.agg [.int .i64 0, .nilsl 2])⟩,
              ⟨none, .st 2 (.t 11) (.t 46)⟩])
           (.drop [45, 46] (.seq (.reg [⟨none, .mov 47 (.t 2)⟩,
               ⟨none, .call 48 f_laws_toIntS [((.t 47), false)]⟩,
               ⟨none, .asg 12 (.t 48)⟩])
            (.drop [47, 48] (.seq (.reg [⟨none, .ld 50 2 true (.t 10)⟩,
                ⟨none, .ld 51 2 true (.t 11)⟩,
                ⟨none, .mov 52 (.t 12)⟩,
                ⟨none, .call 53 f_impl_InverseIso [((.t 50), false), ((.t 51), false), ((.t 52), false)]⟩,
                ⟨none, .asg 49 (.t 53)⟩,
                ⟨none, .ext 54 (.t 49) 0⟩,
                ⟨none, .ext 55 (.t 49) 1⟩,
                ⟨none, .asg 13 (.t 54)⟩,
                ⟨none, .asg 14 (.t 55)⟩])
             (.drop [50, 51, 52, 53, 49, 54, 55] (.seq (.cut c_laws_FnExactInverseIso_k1)
              (.drop [56, 57, 58, 59, 60, 61, 62, 63, 64] (.seq (.seq (.dreg [(⟨none, .ld 65 2 true (.t 10)⟩, []),
                   (⟨none, .ld 66 2 true (.t 3)⟩, [65]),
                   (⟨none, .call 67 f_laws_toAlgebra [((.t 66), false)]⟩, [65])]
                  [⟨none, .call 68 f_laws_eqAlgebra [((.t 65), false), ((.t 67), false)]⟩,
                   ⟨none, .un 69 .not (.t 68)⟩])
                (.drop [65, 66, 67, 68] (.cond (.t 69) (.seq (.reg [⟨none, .asg 6 (.c (.bool false))⟩])
                  .ret)
                 .skip)))
               (.drop [65, 66, 67, 68, 69] (.seq (.seq (.dreg [(⟨none, .ld 70 2 true (.t 11)⟩, []),
                    (⟨none, .ld 71 2 true (.t 4)⟩, [70]),
                    (⟨none, .call 72 f_laws_toAlgebra [((.t 71), false)]⟩, [70])]
                   [⟨none, .call 73 f_laws_eqAlgebra [((.t 70), false), ((.t 72), false)]⟩,
                    ⟨none, .un 74 .not (.t 73)⟩])
                 (.drop [70, 71, 72, 73] (.cond (.t 74) (.seq (.reg [⟨none, .asg 6 (.c (.bool false))⟩])
                   .ret)
                  .skip)))
                (.drop [70, 71, 72, 73, 74] (.seq (.seq (.reg [⟨none, .mov 75 (.t 12)⟩,
                     ⟨none, .mov 76 (.t 2)⟩,
                     ⟨none, .call 77 f_laws_toIntS [((.t 76), false)]⟩,
                     ⟨none, .call 78 f_laws_eqIntS [((.t 75), false), ((.t 77), false)]⟩,
                     ⟨none, .un 79 .not (.t 78)⟩])
                  (.drop [75, 76, 77, 78] (.cond (.t 79) (.seq (.reg [⟨none, .asg 6 (.c (.bool false))⟩])
                    .ret)
                   .skip)))
                 (.drop [75, 76, 77, 78, 79] (.seq (.reg [⟨none, .asg 15 (.c (.int .i64 1))⟩])
                  (.seq (.reg [⟨none, .ld 80 2 true (.t 10)⟩,
                      ⟨none, .mov 81 (.t 15)⟩,
                      ⟨none, .call 82 f_laws_markAlgebra [((.t 80), true), ((.t 81), false)]⟩,
                      ⟨none, .asg 15 (.t 82)⟩])
                   (.drop [80, 81, 82] (.seq (.reg [⟨none, .ld 83 2 true (.t 11)⟩,
                       ⟨none, .mov 84 (.t 15)⟩,
                       ⟨none, .call 85 f_laws_markAlgebra [((.t 83), true), ((.t 84), false)]⟩,
                       ⟨none, .asg 15 (.t 85)⟩])
                    (.drop [83, 84, 85] (.seq (.reg [⟨none, .mov 86 (.t 12)⟩,
                        ⟨none, .mov 87 (.t 15)⟩,
                        ⟨none, .call 88 f_laws_markIntS [((.t 86), true), ((.t 87), false)]⟩,
                        ⟨none, .asg 15 (.t 88)⟩])
                     (.drop [86, 87, 88] (.seq (.cut c_laws_FnExactInverseIso_k2)
                      (.drop [89, 90, 91, 92, 93, 94, 95, 96, 97, 98, 99, 100, 101] (.seq (.reg [⟨none, .asg 16 (.c (.int .i64 1))⟩])
                       (.seq (.reg [⟨none, .mov 102 (.t 13)⟩,
                           ⟨none, .mov 103 (.t 16)⟩,
                           ⟨none, .call 104 f_laws_markIntS [((.t 102), true), ((.t 103), false)]⟩,
                           ⟨none, .asg 16 (.t 104)⟩])
                        (.drop [102, 103, 104] (.seq (.reg [⟨none, .asg 17 (.c (.int .i64 1))⟩])
                         (.seq (.reg [⟨none, .mov 105 (.t 13)⟩,
                             ⟨none, .mov 106 (.t 17)⟩,
                             ⟨none, .call 107 f_laws_heldIntS [((.t 105), false), ((.t 106), false)]⟩,
                             ⟨none, .asg 17 (.t 107)⟩])
                          (.drop [105, 106, 107] (.seq (.seq (.reg [⟨none, .mov 108 (.t 17)⟩,
                               ⟨none, .bin 109 .lss (.t 108) (.c (.int .i64 0))⟩])
                            (.drop [108] (.cond (.t 109) (.seq (.reg [⟨none, .asg 6 (.c (.bool false))⟩])
                              .ret)
                             .skip)))
                           (.drop [108, 109] (.seq (.seq (.reg [⟨none, .mov 110 (.t 17)⟩,
                                ⟨none, .mov 111 (.t 16)⟩,
                                ⟨none, .bin 112 .neq (.t 110) (.t 111)⟩])
                             (.drop [110, 111] (.cond (.t 112) (.seq (.reg [⟨none, .asg 6 (.c (.bool false))⟩])
                               .ret)
                              .skip)))
                            (.drop [110, 111, 112] (.seq (.dreg [(⟨none, .ld 114 2 true (.t 3)⟩, []),
                                (⟨none, .call 115 f_laws_toAlgebra [((.t 114), false)]⟩, []),
                                (⟨none, .ld 116 2 true (.t 4)⟩, [114, 115]),
                                (⟨none, .call 117 f_laws_toAlgebra [((.t 116), false)]⟩, []),
                                (⟨none, .mov 118 (.t 2)⟩, [114, 115, 116, 117]),
                                (⟨none, .call 119 f_laws_toIntS [((.t 118), false)]⟩, []),
                                (⟨none, .call 120 f_impl_InverseIso [((.t 115), false), ((.t 117), false), ((.t 119), false)]⟩, []),
                                (⟨none, .asg 113 (.t 120)⟩, []),
                                (⟨none, .ext 121 (.t 113) 0⟩, [120]),
                                (⟨none, .ext 122 (.t 113) 1⟩, [121, 120, 121])]
                               [⟨none, .asg 18 (.t 121)⟩,
                                ⟨none, .asg 19 (.t 122)⟩])
                             (.drop [114, 115, 116, 117, 118, 119, 120, 113, 121, 122] (.seq (.cut c_laws_FnExactInverseIso_k3)
                              (.drop [123, 124, 125, 126, 127, 128, 129, 130, 131] (.seq (.reg [⟨none, .asg 17 (.c (.int .i64 1))⟩])
                               (.seq (.reg [⟨none, .mov 132 (.t 13)⟩,
                                   ⟨none, .mov 133 (.t 17)⟩,
                                   ⟨none, .call 134 f_laws_heldIntS [((.t 132), false), ((.t 133), false)]⟩,
                                   ⟨none, .asg 17 (.t 134)⟩])
                                (.drop [132, 133, 134] (.seq (.seq (.reg [⟨none, .mov 135 (.t 17)⟩,
                                     ⟨none, .bin 136 .lss (.t 135) (.c (.int .i64 0))⟩])
                                  (.drop [135] (.cond (.t 136) (.seq (.reg [⟨none, .asg 6 (.c (.bool false))⟩])
                                    .ret)
                                   .skip)))
                                 (.drop [135, 136] (.seq (.seq (.reg [⟨none, .mov 137 (.t 17)⟩,
                                      ⟨none, .mov 138 (.t 16)⟩,
                                      ⟨none, .bin 139 .neq (.t 137) (.t 138)⟩])
                                   (.drop [137, 138] (.cond (.t 139) (.seq (.reg [⟨none, .asg 6 (.c (.bool false))⟩])
                                     .ret)
                                    .skip)))
                                  (.drop [137, 138, 139] (.seq (.reg [⟨none, .asg 6 (.c (.bool true))⟩])
                                   .ret)))))))))))))))))))))))))))))))))))))))))))))))))))))))))))))
abbrev r_laws_FnExactInverseIso : List RS := [.t 6]
theorem k_laws_FnExactInverseIso : fitsF Try.prog f_laws_FnExactInverseIso 140 c_laws_FnExactInverseIso r_laws_FnExactInverseIso = true := by kernel_rfl

end Go.Proofs.Ytdodfnbbfkcgnaa.Ax
