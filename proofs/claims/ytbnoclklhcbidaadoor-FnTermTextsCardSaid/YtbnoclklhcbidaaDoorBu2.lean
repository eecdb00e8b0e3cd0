/-
 strings.Builder and strconv.Itoa, at this program.
-/
import Derived.Test.YtbnoclklhcbidaaDoorBu1
import Derived.Test.YtbnoclklhcbidaaDoorCode
import Derived.Test.YtbnoclklhcbidaaDoorProg
namespace Go.Proofs.YtbnoclklhcbidaaDoor.Ax
open Go Go.Proofs Go.Shelf
set_option maxRecDepth 100000
def Aav:Go.Shelf.Ren:=⟨fun | 166=>33 | 240=>70 | 276=>95 | n=>n,fun | 20=>20 | 70=>63 | 9=>9 | 3=>3 | 75=>67 | 0=>0 | 72=>65 | 37=>32 | 4=>4 | 164=>116 | 80=>74 | 5=>5 | n=>n,fun | n=>n⟩
theorem At8:Go.Proofs.Lays.n166 Tryd.prog Aav where
 mixed:=by kernel_rfl
 f166:=Tryd.func33.trans (congrArg some (by kernel_rfl))
 f240:=Tryd.func70.trans (congrArg some (by kernel_rfl))
 f276:=Tryd.func95.trans (congrArg some (by kernel_rfl))
 t0:=Tryd.underlying0
 a0:=Tryd.isAgg0
 z0:=Tryd.sizeOf0
 v0:=Tryd.zeroValue0
 t3:=Tryd.underlying3
 a3:=Tryd.isAgg3
 z3:=Tryd.sizeOf3
 v3:=Tryd.zeroValue3
 t4:=Tryd.underlying4
 a4:=Tryd.isAgg4
 z4:=Tryd.sizeOf4
 v4:=Tryd.zeroValue4
 t9:=Tryd.underlying9
 a9:=Tryd.isAgg9
 z9:=Tryd.sizeOf9
 v9:=Tryd.zeroValue9
 t20:=Tryd.underlying20
 a20:=Tryd.isAgg20
 z20:=Tryd.sizeOf20
 v20:=Tryd.zeroValue20
 t37:=Tryd.underlying32
 a37:=Tryd.isAgg32
 z37:=Tryd.sizeOf32
 v37:=Tryd.zeroValue32
 t70:=Tryd.underlying63
 a70:=Tryd.isAgg63
 z70:=Tryd.sizeOf63
 v70:=Tryd.zeroValue63
 t72:=Tryd.underlying65
 a72:=Tryd.isAgg65
 z72:=Tryd.sizeOf65
 v72:=Tryd.zeroValue65
 t75:=Tryd.underlying67
 a75:=Tryd.isAgg67
 z75:=Tryd.sizeOf67
 v75:=Tryd.zeroValue67
 t164:=Tryd.underlying116
 a164:=Tryd.isAgg116
 z164:=Tryd.sizeOf116
 v164:=Tryd.zeroValue116
def Aa4:Go.Shelf.Ren:=⟨fun | 169=>36 | n=>n,fun | 70=>63 | 9=>9 | 0=>0 | 72=>65 | 37=>32 | 127=>102 | 3=>3 | 5=>5 | n=>n,fun | n=>n⟩
theorem At1:Go.Proofs.Lays.n169 Tryd.prog Aa4 where
 mixed:=by kernel_rfl
 f169:=Tryd.func36.trans (congrArg some (by kernel_rfl))
 t0:=Tryd.underlying0
 a0:=Tryd.isAgg0
 z0:=Tryd.sizeOf0
 v0:=Tryd.zeroValue0
 t3:=Tryd.underlying3
 a3:=Tryd.isAgg3
 z3:=Tryd.sizeOf3
 v3:=Tryd.zeroValue3
 t9:=Tryd.underlying9
 a9:=Tryd.isAgg9
 z9:=Tryd.sizeOf9
 v9:=Tryd.zeroValue9
 t37:=Tryd.underlying32
 a37:=Tryd.isAgg32
 z37:=Tryd.sizeOf32
 v37:=Tryd.zeroValue32
 t70:=Tryd.underlying63
 a70:=Tryd.isAgg63
 z70:=Tryd.sizeOf63
 v70:=Tryd.zeroValue63
 t72:=Tryd.underlying65
 a72:=Tryd.isAgg65
 z72:=Tryd.sizeOf65
 v72:=Tryd.zeroValue65
 t127:=Tryd.underlying102
 a127:=Tryd.isAgg102
 z127:=Tryd.sizeOf102
 v127:=Tryd.zeroValue102
def Al5:Go.Shelf.Ren:=⟨fun | 171=>34 | 243=>71 | 246=>96 | 283=>104 | 284=>105 | 285=>106 | 286=>107 | 129=>110 | 317=>109 | 318=>111 | 319=>112 | 320=>113 | 337=>114 | 338=>115 | n=>n,fun | 3=>3 | 9=>9 | 2=>2 | 4=>4 | 171=>123 | 0=>0 | 53=>80 | 37=>32 | 5=>5 | 173=>126 | 212=>130 | 51=>131 | 20=>20 | 213=>132 | 46=>128 | 232=>135 | 233=>136 | n=>n,fun | 17=>0 | 18=>1 | 19=>2 | n=>n⟩
theorem Auw:Go.Proofs.Lays.n171 Tryd.prog Al5 where
 mixed:=by kernel_rfl
 f129:=Tryd.func110.trans (congrArg some (by kernel_rfl))
 f171:=Tryd.func34.trans (congrArg some (by kernel_rfl))
 f243:=Tryd.func71.trans (congrArg some (by kernel_rfl))
 f246:=Tryd.func96.trans (congrArg some (by kernel_rfl))
 f283:=Tryd.func104.trans (congrArg some (by kernel_rfl))
 f284:=Tryd.func105.trans (congrArg some (by kernel_rfl))
 f285:=Tryd.func106.trans (congrArg some (by kernel_rfl))
 f286:=Tryd.func107.trans (congrArg some (by kernel_rfl))
 f317:=Tryd.func109.trans (congrArg some (by kernel_rfl))
 f318:=Tryd.func111.trans (congrArg some (by kernel_rfl))
 f319:=Tryd.func112.trans (congrArg some (by kernel_rfl))
 f320:=Tryd.func113.trans (congrArg some (by kernel_rfl))
 f337:=Tryd.func114.trans (congrArg some (by kernel_rfl))
 f338:=Tryd.func115.trans (congrArg some (by kernel_rfl))
 t0:=Tryd.underlying0
 a0:=Tryd.isAgg0
 z0:=Tryd.sizeOf0
 v0:=Tryd.zeroValue0
 t2:=Tryd.underlying2
 a2:=Tryd.isAgg2
 z2:=Tryd.sizeOf2
 v2:=Tryd.zeroValue2
 t3:=Tryd.underlying3
 a3:=Tryd.isAgg3
 z3:=Tryd.sizeOf3
 v3:=Tryd.zeroValue3
 t4:=Tryd.underlying4
 a4:=Tryd.isAgg4
 z4:=Tryd.sizeOf4
 v4:=Tryd.zeroValue4
 t5:=Tryd.underlying5
 a5:=Tryd.isAgg5
 z5:=Tryd.sizeOf5
 v5:=Tryd.zeroValue5
 t9:=Tryd.underlying9
 a9:=Tryd.isAgg9
 z9:=Tryd.sizeOf9
 v9:=Tryd.zeroValue9
 t20:=Tryd.underlying20
 a20:=Tryd.isAgg20
 z20:=Tryd.sizeOf20
 v20:=Tryd.zeroValue20
 t37:=Tryd.underlying32
 a37:=Tryd.isAgg32
 z37:=Tryd.sizeOf32
 v37:=Tryd.zeroValue32
 t46:=Tryd.underlying128
 a46:=Tryd.isAgg128
 z46:=Tryd.sizeOf128
 v46:=Tryd.zeroValue128
 t51:=Tryd.underlying131
 a51:=Tryd.isAgg131
 z51:=Tryd.sizeOf131
 v51:=Tryd.zeroValue131
 t53:=Tryd.underlying80
 a53:=Tryd.isAgg80
 z53:=Tryd.sizeOf80
 v53:=Tryd.zeroValue80
 t171:=Tryd.underlying123
 a171:=Tryd.isAgg123
 z171:=Tryd.sizeOf123
 v171:=Tryd.zeroValue123
 t173:=Tryd.underlying126
 a173:=Tryd.isAgg126
 z173:=Tryd.sizeOf126
 v173:=Tryd.zeroValue126
 t212:=Tryd.underlying130
 a212:=Tryd.isAgg130
 z212:=Tryd.sizeOf130
 v212:=Tryd.zeroValue130
 t213:=Tryd.underlying132
 a213:=Tryd.isAgg132
 z213:=Tryd.sizeOf132
 t232:=Tryd.underlying135
 a232:=Tryd.isAgg135
 z232:=Tryd.sizeOf135
 v232:=Tryd.zeroValue135
 t233:=Tryd.underlying136
 a233:=Tryd.isAgg136
 z233:=Tryd.sizeOf136
 v233:=Tryd.zeroValue136
 g17:=by kernel_rfl
 g18:=by kernel_rfl
 g19:=by kernel_rfl
theorem Ayb:Builder.Extra Tryd.prog Aav where
 sizeBuilder:=by kernel_rfl
 liesBuilder:=by kernel_rfl
 t5:=Tryd.underlying5
 a5:=Tryd.isAgg5
 z5:=Tryd.sizeOf5
 v5:=Tryd.zeroValue5
 infoByte:=by kernel_rfl
 cellsByte:=by kernel_rfl
 sizeByte:=by kernel_rfl
 neB5:=of_decide_eq_true (by kernel_rfl)
theorem Cc {a0 a1:ByteArray} {v:Unit×ByteArray} (h:Aw a0 a1=some v):Iq Tryd.prog Bv [rB a0,V.str a1] (rDd v.1) 0 (rB v.2):=by
 obtain ⟨h0,h1⟩:=Fd.1 h
 cases h1
 exact Abr At8 Ayb h0
theorem Ax8:Builder.Extra Tryd.prog Aa4 where
 sizeBuilder:=by kernel_rfl
 liesBuilder:=by kernel_rfl
 t5:=Tryd.underlying5
 a5:=Tryd.isAgg5
 z5:=Tryd.sizeOf5
 v5:=Tryd.zeroValue5
 infoByte:=by kernel_rfl
 cellsByte:=by kernel_rfl
 sizeByte:=by kernel_rfl
 neB5:=of_decide_eq_true (by kernel_rfl)
theorem Pj {a0:ByteArray} {v:ByteArray×ByteArray} (h:Fs a0=some v):Iq Tryd.prog Ix [rB a0] (V.str v.1) 0 (rB v.2):=by
 obtain ⟨h0,h1⟩:=Fd.1 h
 cases h1
 exact Amm At1 Ax8 h0
theorem S3 {a0:Int} {v:ByteArray} (h:He a0=some v):Ret Tryd.prog Ns [Af a0] (V.str v):=by
 obtain ⟨h0,h1⟩:=Fd.1 h
 cases h1
 exact Ary Auw h0
end Go.Proofs.YtbnoclklhcbidaaDoor.Ax
