/-
  The small code of the functions, written by program; that the program's code is this one, the kernel looks at.
-/
import Derived.Test.YtmkgjnphianalaaGreatAx3
import Derived.Test.YtmkgjnphianalaaGreatProg
import Derived.KernelRfl
import Derived.Test.YtmkgjnphianalaaGreatNum
namespace Go.Proofs.YtmkgjnphianalaaGreat.Ax
open Go
set_option maxRecDepth 100000
def Ajy:ACode:=
 (.seq (.reg [un (.ld 54 2 true (.t 3)),
 un (.ld 55 2 true (.t 4)),
 un (.call 56 K3 [((.t 54),false),((.t 55),false)]),
 un (.asg 53 (.t 56)),
 un (.ext 57 (.t 53) 0),
 un (.ext 58 (.t 53) 1),
 un (.asg 7 (.t 57)),
 un (.asg 8 (.t 58))])
 (.drop [54,55,56,53,57,58] (.seq (.reg [un (.mov 59 (.t 5)),
 un (.mov 60 (.t 7)),
 un (.binb 61 .neq (.t 59) (.t 60)),
 un (.asg 62 (.t 61)),
 ⟨some (62,false),.mov 63 (.t 6)⟩,
 ⟨some (62,false),.mov 64 (.t 8)⟩,
 ⟨some (62,false),.binb 65 .neq (.t 63) (.t 64)⟩,
 un (.pick 66 (.t 62) (.c (.bool true)) (.t 65))])
 (.drop [59,60,61,62,63,64,65] (.cond (.t 66) (.seq (.reg [un (.asg 2 (.c (.bool false)))])
 .ret)
 .skip)))))
def Ah3:ACode:=
 (.seq (.reg [un (.ld 68 2 true (.t 4)),
 un (.ld 69 2 true (.t 3)),
 un (.call 70 Fu [((.t 68),false),((.t 69),false)]),
 un (.asg 67 (.t 70)),
 un (.ext 71 (.t 67) 0),
 un (.ext 72 (.t 67) 1),
 un (.asg 9 (.t 71)),
 un (.asg 10 (.t 72))])
 (.drop [68,69,70,67,71,72] (.seq (.reg [un (.mov 73 (.t 6)),
 un (.asg 74 (.t 73)),
 ⟨some (74,true),.mov 75 (.t 10)⟩,
 un (.pick 76 (.t 74) (.t 75) (.c (.bool false))),
 un (.asg 77 (.t 76)),
 ⟨some (77,true),.mov 78 (.t 9)⟩,
 ⟨some (77,true),.mov 79 (.t 5)⟩,
 ⟨some (77,true),.binb 80 .neq (.t 78) (.t 79)⟩,
 un (.pick 81 (.t 77) (.t 80) (.c (.bool false)))])
 (.drop [73,74,75,76,77,78,79,80] (.cond (.t 81) (.seq (.reg [un (.asg 2 (.c (.bool false)))])
 .ret)
 .skip)))))
def Ajc:ACode:=
 (.seq (.reg [un (.ld 89 2 true (.t 3)),
 un (.ld 90 2 true (.t 4)),
 un (.call 91 Ry [((.t 89),false),((.t 90),false)]),
 un (.asg 88 (.t 91)),
 un (.ext 92 (.t 88) 0),
 un (.ext 93 (.t 88) 1),
 un (.asg 13 (.t 92)),
 un (.asg 14 (.t 93))])
 (.drop [89,90,91,88,92,93] (.seq (.reg [un (.mov 94 (.t 12)),
 un (.mov 95 (.t 14)),
 un (.binb 96 .neq (.t 94) (.t 95)),
 un (.asg 97 (.t 96)),
 ⟨some (97,false),.mov 98 (.t 11)⟩,
 ⟨some (97,false),.mov 99 (.t 13)⟩,
 ⟨some (97,false),.call 100 S0 [((.t 98),false),((.t 99),false)]⟩,
 ⟨some (97,false),.un 101 .not (.t 100)⟩,
 un (.pick 102 (.t 97) (.c (.bool true)) (.t 101)),
 un (.asg 103 (.t 102)),
 ⟨some (103,false),.mov 104 (.t 6)⟩,
 ⟨some (103,false),.asg 105 (.t 104)⟩,
 ⟨some (105,true),.mov 106 (.t 12)⟩,
 ⟨some (105,true),.mov 107 (.t 5)⟩,
 ⟨some (105,true),.binb 108 .neq (.t 106) (.t 107)⟩,
 ⟨some (103,false),.pick 109 (.t 105) (.t 108) (.c (.bool false))⟩,
 un (.pick 110 (.t 103) (.c (.bool true)) (.t 109))])
 (.drop [94,95,96,97,98,99,100,101,102,103,104,105,106,107,108,109] (.cond (.t 110) (.seq (.reg [un (.asg 2 (.c (.bool false)))])
 .ret)
 .skip)))))
def Aj3:ACode:=
 (.seq (.reg [un (.ld 124 2 true (.t 15)),
 un (.ld 125 2 true (.t 17)),
 un (.mov 126 (.t 16)),
 un (.call 127 Zk [((.t 124),false),((.t 125),false),((.t 126),false)]),
 un (.asg 123 (.t 127)),
 un (.ext 128 (.t 123) 0),
 un (.ext 129 (.t 123) 1),
 un (.asg 19 (.t 128)),
 un (.asg 20 (.t 129))])
 (.drop [124,125,126,127,123,128,129] (.seq (.reg [un (.mov 130 (.t 20)),
 un (.un 131 .not (.t 130)),
 un (.asg 132 (.t 131)),
 ⟨some (132,false),.mov 133 (.t 19)⟩,
 ⟨some (132,false),.un 134 .not (.t 133)⟩,
 un (.pick 135 (.t 132) (.c (.bool true)) (.t 134))])
 (.drop [130,131,132,133,134] (.cond (.t 135) (.seq (.reg [un (.asg 2 (.c (.bool false)))])
 .ret)
 .skip)))))
def Ais:ACode:=
 (.seq (.reg [un (.mov 122 (.t 18))])
 (.cond (.t 122) (.seq (.cut Aj3)
 (.drop [124,125,126,127,123,128,129,19,20,130,131,132,133,134,135] (.seq (.reg [un (.ld 137 2 true (.t 15)),
 un (.ld 138 2 true (.t 17)),
 un (.call 139 Fu [((.t 137),false),((.t 138),false)]),
 un (.asg 136 (.t 139)),
 un (.ext 140 (.t 136) 0),
 un (.ext 141 (.t 136) 1),
 un (.asg 21 (.t 140)),
 un (.asg 22 (.t 141))])
 (.drop [137,138,139,136,140,141] (.seq (.reg [un (.mov 142 (.t 22)),
 un (.asg 143 (.t 142)),
 ⟨some (143,true),.mov 144 (.t 21)⟩,
 ⟨some (143,true),.un 145 .not (.t 144)⟩,
 un (.pick 146 (.t 143) (.t 145) (.c (.bool false)))])
 (.drop [142,143,144,145] (.cond (.t 146) (.seq (.reg [un (.asg 2 (.c (.bool false)))])
 .ret)
 .skip)))))))
 .skip))
def Aig:ACode:=
 (.seq (.reg [un (.ld 153 2 true (.t 15)),
 un (.call 154 Kf [((.t 153),false)]),
 un (.asg 152 (.t 154)),
 un (.ext 155 (.t 152) 0),
 un (.ext 156 (.t 152) 1),
 un (.asg 25 (.t 155)),
 un (.asg 26 (.t 156))])
 (.drop [153,154,152,155,156] (.seq (.reg [un (.mov 157 (.t 24)),
 un (.mov 158 (.t 26)),
 un (.binb 159 .neq (.t 157) (.t 158)),
 un (.asg 160 (.t 159)),
 ⟨some (160,false),.mov 161 (.t 23)⟩,
 ⟨some (160,false),.mov 162 (.t 25)⟩,
 ⟨some (160,false),.call 163 Jt [((.t 161),false),((.t 162),false)]⟩,
 ⟨some (160,false),.un 164 .not (.t 163)⟩,
 un (.pick 165 (.t 160) (.c (.bool true)) (.t 164))])
 (.drop [157,158,159,160,161,162,163,164] (.cond (.t 165) (.seq (.reg [un (.asg 2 (.c (.bool false)))])
 .ret)
 .skip)))))
def Ai9:ACode:=
 (.seq (.reg [un (.ld 172 2 true (.t 15)),
 un (.call 173 G8 [((.t 172),false)]),
 un (.asg 171 (.t 173)),
 un (.ext 174 (.t 171) 0),
 un (.ext 175 (.t 171) 1),
 un (.asg 29 (.t 174)),
 un (.asg 30 (.t 175))])
 (.drop [172,173,171,174,175] (.seq (.reg [un (.mov 176 (.t 28)),
 un (.mov 177 (.t 30)),
 un (.binb 178 .neq (.t 176) (.t 177)),
 un (.asg 179 (.t 178)),
 ⟨some (179,false),.mov 180 (.t 28)⟩,
 ⟨some (179,false),.mov 181 (.t 24)⟩,
 ⟨some (179,false),.binb 182 .neq (.t 180) (.t 181)⟩,
 un (.pick 183 (.t 179) (.c (.bool true)) (.t 182)),
 un (.asg 184 (.t 183)),
 ⟨some (184,false),.mov 185 (.t 27)⟩,
 ⟨some (184,false),.mov 186 (.t 29)⟩,
 ⟨some (184,false),.call 187 Jt [((.t 185),false),((.t 186),false)]⟩,
 ⟨some (184,false),.un 188 .not (.t 187)⟩,
 un (.pick 189 (.t 184) (.c (.bool true)) (.t 188))])
 (.drop [176,177,178,179,180,181,182,183,184,185,186,187,188] (.cond (.t 189) (.seq (.reg [un (.asg 2 (.c (.bool false)))])
 .ret)
 .skip)))))
def Y4:ACode:=
 (.seq (.seq (.reg [un (.mov 190 (.t 31)),
 un (.mov 191 (.t 27)),
 un (.len 192 (.t 191)),
 un (.bin 193 .lss (.t 190) (.t 192))])
 (.drop [190,191,192] (.cond (.t 193) .skip
 (.exit 0))))
 (.drop [190,191,192,193] (.seq (.block 1 (.seq (.reg [un (.mov 196 (.t 27)),
 un (.mov 197 (.t 31)),
 un (.iad 198 1 (.t 196) (.t 197)),
 un (.ld 199 1 false (.t 198)),
 un (.len 200 (.t 199)),
 un (.bin 201 .eql (.t 200) (.c (.int .i64 0))),
 un (.asg 202 (.t 201)),
 ⟨some (202,false),.mov 203 (.t 23)⟩,
 ⟨some (202,false),.len 204 (.t 203)⟩,
 ⟨some (202,false),.mov 205 (.t 27)⟩,
 ⟨some (202,false),.mov 206 (.t 31)⟩,
 ⟨some (202,false),.iad 207 1 (.t 205) (.t 206)⟩,
 ⟨some (202,false),.ld 208 1 false (.t 207)⟩,
 ⟨some (202,false),.len 209 (.t 208)⟩,
 ⟨some (202,false),.bin 210 .rem (.t 204) (.t 209)⟩,
 ⟨some (202,false),.bin 211 .neq (.t 210) (.c (.int .i64 0))⟩,
 un (.pick 212 (.t 202) (.c (.bool true)) (.t 211))])
 (.drop [196,197,198,199,200,201,202,203,204,205,206,207,208,209,210,211] (.cond (.t 212) (.seq (.reg [un (.asg 2 (.c (.bool false)))])
 .ret)
 .skip))))
 (.drop [196,197,198,199,200,201,202,203,204,205,206,207,208,209,210,211,212] (.reg [un (.mov 194 (.t 31)),
 un (.bin 195 .add (.t 194) (.c (.int .i64 1))),
 un (.asg 31 (.t 195))])))))
def Aiz:ACode:=
 (.seq (.reg [un (.ld 219 2 true (.t 15)),
 un (.call 220 K6 [((.t 219),false)]),
 un (.asg 218 (.t 220)),
 un (.ext 221 (.t 218) 0),
 un (.ext 222 (.t 218) 1),
 un (.asg 34 (.t 221)),
 un (.asg 35 (.t 222))])
 (.drop [219,220,218,221,222] (.seq (.reg [un (.mov 223 (.t 33)),
 un (.mov 224 (.t 35)),
 un (.binb 225 .neq (.t 223) (.t 224)),
 un (.asg 226 (.t 225)),
 ⟨some (226,false),.mov 227 (.t 32)⟩,
 ⟨some (226,false),.mov 228 (.t 34)⟩,
 ⟨some (226,false),.call 229 Jt [((.t 227),false),((.t 228),false)]⟩,
 ⟨some (226,false),.un 230 .not (.t 229)⟩,
 un (.pick 231 (.t 226) (.c (.bool true)) (.t 230))])
 (.drop [223,224,225,226,227,228,229,230] (.cond (.t 231) (.seq (.reg [un (.asg 2 (.c (.bool false)))])
 .ret)
 .skip)))))
def Arz:ACode:=
 (.seq (.reg [un (.asg 2 (.c (.bool false)))])
 (.seq (.seq (.reg [un (.mov 40 (.t 0)),
 un (.call 41 Ada [((.t 40),false)])])
 (.drop [40] (.cond (.t 41) (.seq (.reg [un (.asg 2 (.c (.bool true)))])
 .ret)
 .skip)))
 (.drop [40,41] (.seq (.reg [un (.mov 43 (.t 0)),
 un (.call 44 Hx [((.t 43),false)]),
 un (.asg 42 (.t 44)),
 un (.ext 45 (.t 42) 0),
 un (.ext 46 (.t 42) 1),
 un (.alc 3 (.agg [.int .i64 0,.nilsl 2])),
 un (.alc 4 (.agg [.int .i64 0,.nilsl 2])),
 un (.st 2 (.t 3) (.t 45)),
 un (.st 2 (.t 4) (.t 46))])
 (.drop [43,44,42,45,46] (.seq (.reg [un (.ld 48 2 true (.t 3)),
 un (.ld 49 2 true (.t 4)),
 un (.call 50 Fu [((.t 48),false),((.t 49),false)]),
 un (.asg 47 (.t 50)),
 un (.ext 51 (.t 47) 0),
 un (.ext 52 (.t 47) 1),
 un (.asg 5 (.t 51)),
 un (.asg 6 (.t 52))])
 (.drop [48,49,50,47,51,52] (.seq (.cut Ajy)
 (.drop [54,55,56,53,57,58,7,8,59,60,61,62,63,64,65,66] (.seq (.cut Ah3)
 (.drop [68,69,70,67,71,72,9,10,73,74,75,76,77,78,79,80,81] (.seq (.reg [un (.ld 83 2 true (.t 3)),
 un (.ld 84 2 true (.t 4)),
 un (.call 85 Rz [((.t 83),false),((.t 84),false)]),
 un (.asg 82 (.t 85)),
 un (.ext 86 (.t 82) 0),
 un (.ext 87 (.t 82) 1),
 un (.asg 11 (.t 86)),
 un (.asg 12 (.t 87))])
 (.drop [83,84,85,82,86,87] (.seq (.cut Ajc)
 (.drop [89,90,91,88,92,93,13,14,94,95,96,97,98,99,100,101,102,103,104,105,106,107,108,109,110] (.seq (.reg [un (.mov 112 (.t 0)),
 un (.call 113 G6 [((.t 112),false)]),
 un (.asg 111 (.t 113)),
 un (.ext 114 (.t 111) 0),
 un (.ext 115 (.t 111) 1),
 un (.alc 15 (.agg [.int .i64 0,.nilsl 2])),
 un (.st 2 (.t 15) (.t 114)),
 un (.asg 16 (.t 115))])
 (.drop [112,113,111,114,115] (.seq (.reg [un (.ld 117 2 true (.t 15)),
 un (.mov 118 (.t 16)),
 un (.call 119 J2 [((.t 117),false),((.t 118),false)]),
 un (.asg 116 (.t 119)),
 un (.ext 120 (.t 116) 0),
 un (.ext 121 (.t 116) 1),
 un (.alc 17 (.agg [.int .i64 0,.nilsl 2])),
 un (.st 2 (.t 17) (.t 120)),
 un (.asg 18 (.t 121))])
 (.drop [117,118,119,116,120,121] (.seq (.cut Ais)
 (.drop [122,124,125,126,127,123,128,129,19,20,130,131,132,133,134,135,137,138,139,136,140,141,21,22,142,143,144,145,146] (.seq (.reg [un (.ld 148 2 true (.t 15)),
 un (.call 149 Hm [((.t 148),false)]),
 un (.asg 147 (.t 149)),
 un (.ext 150 (.t 147) 0),
 un (.ext 151 (.t 147) 1),
 un (.asg 23 (.t 150)),
 un (.asg 24 (.t 151))])
 (.drop [148,149,147,150,151] (.seq (.cut Aig)
 (.drop [153,154,152,155,156,25,26,157,158,159,160,161,162,163,164,165] (.seq (.reg [un (.ld 167 2 true (.t 15)),
 un (.call 168 G5 [((.t 167),false)]),
 un (.asg 166 (.t 168)),
 un (.ext 169 (.t 166) 0),
 un (.ext 170 (.t 166) 1),
 un (.asg 27 (.t 169)),
 un (.asg 28 (.t 170))])
 (.drop [167,168,166,169,170] (.seq (.cut Ai9)
 (.drop [172,173,171,174,175,29,30,176,177,178,179,180,181,182,183,184,185,186,187,188,189] (.seq (.seq (.reg [un (.asg 31 (.c (.int .i64 0)))])
 (.block 0 (.loop Y4)))
 (.drop [31,190,191,192,193,196,197,198,199,200,201,202,203,204,205,206,207,208,209,210,211,212,194,195] (.seq (.reg [un (.ld 214 2 true (.t 15)),
 un (.call 215 Hr [((.t 214),false)]),
 un (.asg 213 (.t 215)),
 un (.ext 216 (.t 213) 0),
 un (.ext 217 (.t 213) 1),
 un (.asg 32 (.t 216)),
 un (.asg 33 (.t 217))])
 (.drop [214,215,213,216,217] (.seq (.cut Aiz)
 (.drop [219,220,218,221,222,34,35,223,224,225,226,227,228,229,230,231] (.seq (.reg [un (.ld 233 2 true (.t 15)),
 un (.call 234 M4 [((.t 233),false)]),
 un (.asg 232 (.t 234)),
 un (.ext 235 (.t 232) 0),
 un (.ext 236 (.t 232) 1),
 un (.asg 36 (.t 235)),
 un (.asg 37 (.t 236))])
 (.drop [233,234,232,235,236] (.seq (.reg [un (.ld 238 2 true (.t 15)),
 un (.call 239 Mt [((.t 238),false)]),
 un (.asg 237 (.t 239)),
 un (.ext 240 (.t 237) 0),
 un (.ext 241 (.t 237) 1),
 un (.asg 38 (.t 240)),
 un (.asg 39 (.t 241))])
 (.drop [238,239,237,240,241] (.seq (.reg [un (.mov 242 (.t 37)),
 un (.mov 243 (.t 39)),
 un (.binb 244 .eql (.t 242) (.t 243)),
 un (.asg 245 (.t 244)),
 ⟨some (245,true),.mov 246 (.t 37)⟩,
 ⟨some (245,true),.mov 247 (.t 33)⟩,
 ⟨some (245,true),.binb 248 .eql (.t 246) (.t 247)⟩,
 un (.pick 249 (.t 245) (.t 248) (.c (.bool false))),
 un (.asg 250 (.t 249)),
 ⟨some (250,true),.mov 251 (.t 36)⟩,
 ⟨some (250,true),.mov 252 (.t 38)⟩,
 ⟨some (250,true),.call 253 Jt [((.t 251),false),((.t 252),false)]⟩,
 un (.pick 254 (.t 250) (.t 253) (.c (.bool false))),
 un (.asg 2 (.t 254))])
 (.drop [242,243,244,245,246,247,248,249,250,251,252,253,254] .ret)))))))))))))))))))))))))))))))))))))))))
abbrev Aq0:List RS:=[.t 2]
theorem Arl:Ay Tryz.prog Aec 255 Arz Aq0=true:=by kernel_rfl
end Go.Proofs.YtmkgjnphianalaaGreat.Ax
