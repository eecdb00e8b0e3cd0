/-
  The small code of the functions, written by program; that the program's code is this one, the kernel looks at.
-/
import Derived.Test.YthcnmahjhahafaaAx3
import Derived.Test.YthcnmahjhahafaaProg
import Derived.KernelRfl
import Derived.Test.YthcnmahjhahafaaNum
namespace Go.Proofs.Ythcnmahjhahafaa.Ax
open Go
set_option maxRecDepth 100000

/- loop.example/g01078/laws.FnExactFromCovers: [aN=0, aPairs=1, aN=2, aPairs=3, left=5, w0=6, w1=7, x1=8, g0=9, g1=10, k=11, m=12, q=13, h0=14, h1=15] -/
def c_laws_FnExactFromCovers_k1 : ACode :=
  (.seq (.reg [⟨none, .ld 36 1 true (.t 9)⟩,
             ⟨none, .ld 37 1 true (.t 6)⟩,
             ⟨none, .call 38 f_laws_eqPoset [((.t 36), false), ((.t 37), false)]⟩,
             ⟨none, .un 39 .not (.t 38)⟩,
             ⟨none, .asg 40 (.t 39)⟩,
             ⟨some (40, false), .mov 41 (.t 10)⟩,
             ⟨some (40, false), .mov 42 (.t 7)⟩,
             ⟨some (40, false), .binb 43 .neq (.t 41) (.t 42)⟩,
             ⟨none, .pick 44 (.t 40) (.c (.bool true)) (.t 43)⟩])
          (.drop [36, 37, 38, 39, 40, 41, 42, 43] (.cond (.t 44) (.seq (.reg [⟨none, .asg 4 (.c (.bool false))⟩])
            .ret)
           .skip)))
def c_laws_FnExactFromCovers_k2 : ACode :=
  (.seq (.reg [⟨none, .mov 53 (.t 11)⟩,
                 ⟨none, .bin 54 .lss (.t 53) (.c (.int .i64 0))⟩,
                 ⟨none, .asg 55 (.t 54)⟩,
                 ⟨some (55, false), .ld 56 1 true (.t 9)⟩,
                 ⟨some (55, false), .ld 57 1 true (.t 6)⟩,
                 ⟨some (55, false), .call 58 f_laws_eqPoset [((.t 56), false), ((.t 57), false)]⟩,
                 ⟨some (55, false), .un 59 .not (.t 58)⟩,
                 ⟨none, .pick 60 (.t 55) (.c (.bool true)) (.t 59)⟩,
                 ⟨none, .asg 61 (.t 60)⟩,
                 ⟨some (61, false), .mov 62 (.t 10)⟩,
                 ⟨some (61, false), .mov 63 (.t 7)⟩,
                 ⟨some (61, false), .binb 64 .neq (.t 62) (.t 63)⟩,
                 ⟨none, .pick 65 (.t 61) (.c (.bool true)) (.t 64)⟩])
              (.drop [53, 54, 55, 56, 57, 58, 59, 60, 61, 62, 63, 64] (.cond (.t 65) (.seq (.reg [⟨none, .asg 4 (.c (.bool false))⟩])
                .ret)
               .skip)))
def c_laws_FnExactFromCovers_k3 : ACode :=
  (.seq (.reg [⟨none, .ld 84 1 true (.t 14)⟩,
                         ⟨none, .ld 85 1 true (.t 6)⟩,
                         ⟨none, .call 86 f_laws_eqPoset [((.t 84), false), ((.t 85), false)]⟩,
                         ⟨none, .un 87 .not (.t 86)⟩,
                         ⟨none, .asg 88 (.t 87)⟩,
                         ⟨some (88, false), .mov 89 (.t 15)⟩,
                         ⟨some (88, false), .mov 90 (.t 7)⟩,
                         ⟨some (88, false), .binb 91 .neq (.t 89) (.t 90)⟩,
                         ⟨none, .pick 92 (.t 88) (.c (.bool true)) (.t 91)⟩])
                      (.drop [84, 85, 86, 87, 88, 89, 90, 91] (.cond (.t 92) (.seq (.reg [⟨none, .asg 4 (.c (.bool false))⟩])
                        .ret)
                       .skip)))
def c_laws_FnExactFromCovers : ACode :=
  (.seq (.reg [⟨none, .asg 4 (.c (.bool false))⟩])
  (.seq (.reg [⟨none, .asg 5 (.c (.int .i64 1048576))⟩])
   (.seq (.reg [⟨none, .mov 16 (.t 1)⟩,
       ⟨none, .mov 17 (.t 5)⟩,
       ⟨none, .call 18 f_laws_szIntA2S [((.t 16), false), ((.t 17), false)]⟩,
       ⟨none, .asg 5 (.t 18)⟩])
    (.drop [16, 17, 18] (.seq (.seq (.reg [⟨none, .mov 19 (.t 5)⟩,
         ⟨none, .bin 20 .lss (.t 19) (.c (.int .i64 0))⟩])
      (.drop [19] (.cond (.t 20) (.seq (.reg [⟨none, .asg 4 (.c (.bool true))⟩])
        .ret)
       .skip)))
     (.drop [19, 20] (.seq (.reg [⟨none, .mov 22 (.t 0)⟩,
         ⟨none, .mov 23 (.t 1)⟩,
         ⟨none, .call 24 f_laws_toIntA2S [((.t 23), false)]⟩,
         ⟨none, .call 25 f_spec_FromCovers [((.t 22), false), ((.t 24), false)]⟩,
         ⟨none, .asg 21 (.t 25)⟩,
         ⟨none, .ext 26 (.t 21) 0⟩,
         ⟨none, .ext 27 (.t 21) 1⟩,
         ⟨none, .alc 6 (.agg [.nilsl 1])⟩,
         ⟨none, .st 1 (.t 6) (.t 26)⟩,
         ⟨none, .asg 7 (.t 27)⟩])
      (.drop [22, 23, 24, 25, 21, 26, 27] (.seq (.reg [⟨none, .mov 28 (.t 1)⟩,
          ⟨none, .call 29 f_laws_toIntA2S [((.t 28), false)]⟩,
          ⟨none, .asg 8 (.t 29)⟩])
       (.drop [28, 29] (.seq (.reg [⟨none, .mov 31 (.t 0)⟩,
           ⟨none, .mov 32 (.t 8)⟩,
           ⟨none, .call 33 f_impl_FromCovers [((.t 31), false), ((.t 32), false)]⟩,
           ⟨none, .asg 30 (.t 33)⟩,
           ⟨none, .ext 34 (.t 30) 0⟩,
           ⟨none, .ext 35 (.t 30) 1⟩,
           ⟨none, .alc 9 (.agg [.nilsl 1])⟩,
           ⟨none, .st 1 (.t 9) (.t 34)⟩,
           ⟨none, .asg 10 (.t 35)⟩])
        (.drop [31, 32, 33, 30, 34, 35] (.seq (.cut c_laws_FnExactFromCovers_k1)
         (.drop [36, 37, 38, 39, 40, 41, 42, 43, 44] (.seq (.seq (.reg [⟨none, .mov 45 (.t 8)⟩,
              ⟨none, .mov 46 (.t 1)⟩,
              ⟨none, .call 47 f_laws_toIntA2S [((.t 46), false)]⟩,
              ⟨none, .call 48 f_laws_eqIntA2S [((.t 45), false), ((.t 47), false)]⟩,
              ⟨none, .un 49 .not (.t 48)⟩])
           (.drop [45, 46, 47, 48] (.cond (.t 49) (.seq (.reg [⟨none, .asg 4 (.c (.bool false))⟩])
             .ret)
            .skip)))
          (.drop [45, 46, 47, 48, 49] (.seq (.reg [⟨none, .asg 11 (.c (.int .i64 1))⟩])
           (.seq (.reg [⟨none, .mov 50 (.t 8)⟩,
               ⟨none, .mov 51 (.t 11)⟩,
               ⟨none, .call 52 f_laws_markIntA2S [((.t 50), true), ((.t 51), false)]⟩,
               ⟨none, .asg 11 (.t 52)⟩])
            (.drop [50, 51, 52] (.seq (.cut c_laws_FnExactFromCovers_k2)
             (.drop [53, 54, 55, 56, 57, 58, 59, 60, 61, 62, 63, 64, 65] (.seq (.reg [⟨none, .asg 12 (.c (.int .i64 1))⟩])
              (.seq (.reg [⟨none, .ld 66 1 true (.t 9)⟩,
                  ⟨none, .mov 67 (.t 12)⟩,
                  ⟨none, .call 68 f_laws_markPoset [((.t 66), true), ((.t 67), false)]⟩,
                  ⟨none, .asg 12 (.t 68)⟩])
               (.drop [66, 67, 68] (.seq (.reg [⟨none, .asg 13 (.c (.int .i64 1))⟩])
                (.seq (.reg [⟨none, .ld 69 1 true (.t 9)⟩,
                    ⟨none, .mov 70 (.t 13)⟩,
                    ⟨none, .call 71 f_laws_heldPoset [((.t 69), false), ((.t 70), false)]⟩,
                    ⟨none, .asg 13 (.t 71)⟩])
                 (.drop [69, 70, 71] (.seq (.seq (.reg [⟨none, .mov 72 (.t 13)⟩,
                      ⟨none, .bin 73 .lss (.t 72) (.c (.int .i64 0))⟩])
                   (.drop [72] (.cond (.t 73) (.seq (.reg [⟨none, .asg 4 (.c (.bool false))⟩])
                     .ret)
                    .skip)))
                  (.drop [72, 73] (.seq (.seq (.reg [⟨none, .mov 74 (.t 13)⟩,
                       ⟨none, .mov 75 (.t 12)⟩,
                       ⟨none, .bin 76 .neq (.t 74) (.t 75)⟩])
                    (.drop [74, 75] (.cond (.t 76) (.seq (.reg [⟨none, .asg 4 (.c (.bool false))⟩])
                      .ret)
                     .skip)))
                   (.drop [74, 75, 76] (.seq (.reg [⟨none, .mov 78 (.t 0)⟩,
                       ⟨none, .mov 79 (.t 1)⟩,
                       ⟨none, .call 80 f_laws_toIntA2S [((.t 79), false)]⟩,
                       ⟨none, .call 81 f_impl_FromCovers [((.t 78), false), ((.t 80), false)]⟩,
                       ⟨none, .asg 77 (.t 81)⟩,
                       ⟨none, .ext 82 (.t 77) 0⟩,
                       ⟨none, .ext 83 (.t 77) 1⟩,
                       ⟨none, .alc 14 (.agg [.nilsl 1])⟩,
                       ⟨none, .st 1 (.t 14) (.t 82)⟩,
                       ⟨none, .asg 15 (.t 83)⟩])
                    (.drop [78, 79, 80, 81, 77, 82, 83] (.seq (.cut c_laws_FnExactFromCovers_k3)
                     (.drop [84, 85, 86, 87, 88, 89, 90, 91, 92] (.seq (.reg [⟨none, .asg 13 (.c (.int .i64 1))⟩])
                      (.seq (.reg [⟨none, .ld 93 1 true (.t 9)⟩,
                          ⟨none, .mov 94 (.t 13)⟩,
                          ⟨none, .call 95 f_laws_heldPoset [((.t 93), false), ((.t 94), false)]⟩,
                          ⟨none, .asg 13 (.t 95)⟩])
                       (.drop [93, 94, 95] (.seq (.seq (.reg [⟨none, .mov 96 (.t 13)⟩,
                            ⟨none, .bin 97 .lss (.t 96) (.c (.int .i64 0))⟩])
                         (.drop [96] (.cond (.t 97) (.seq (.reg [⟨none, .asg 4 (.c (.bool false))⟩])
                           .ret)
                          .skip)))
                        (.drop [96, 97] (.seq (.seq (.reg [⟨none, .mov 98 (.t 13)⟩,
                             ⟨none, .mov 99 (.t 12)⟩,
                             ⟨none, .bin 100 .neq (.t 98) (.t 99)⟩])
                          (.drop [98, 99] (.cond (.t 100) (.seq (.reg [⟨none, .asg 4 (.c (.bool false))⟩])
                            .ret)
                           .skip)))
                         (.drop [98, 99, 100] (.seq (.reg [⟨none, .asg 4 (.c (.bool true))⟩])
                          .ret)))))))))))))))))))))))))))))))))))))))))))
abbrev r_laws_FnExactFromCovers : List RS := [.t 4]
theorem k_laws_FnExactFromCovers : fitsF Try.prog f_laws_FnExactFromCovers 101 c_laws_FnExactFromCovers r_laws_FnExactFromCovers = true := by kernel_rfl

end Go.Proofs.Ythcnmahjhahafaa.Ax
