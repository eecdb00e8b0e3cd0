/-
 The kinds of data, written by program.
-/
import Derived.Test.YtmmcfdfdacpjgaaAx4
import Derived.Test.YtmmcfdfdacpjgaaNum
namespace Go.Proofs.Ytmmcfdfdacpjgaa.Ax
open Go
structure SOp where
 Arity:Int
 Table:(List Int)
 deriving Inhabited,DecidableEq
abbrev Aw (o:Bool) (s:SOp):V:= .agg [Ae s.Arity,(slr o 1 Ae) s.Table]
instance:Fz (Aw true) (Aw false):=⟨fun s=>by simp [V.fz,fzL,Ab,Aw,slr]⟩
instance:Fz (Aw false) (Aw false):=⟨fun s=>by simp [V.fz,fzL,Aw,slr]⟩
instance:NoFz (Aw true):=⟨fun s=>by first | simp [V.noFz,Ce,Ch] | simp [V.noFz,Ce,Ch,NoFz.eq,Aw,slr]⟩
theorem A49 (o:Bool):X9 2 (Aw o):=fun _=>⟨rfl,rfl⟩
structure Sl1Cur where
 code:(List Int)
 at_:Int
 seed:Int
 deriving Inhabited,DecidableEq
abbrev Aj (o:Bool) (s:Sl1Cur):V:= .agg [(slr o 1 (V.int .u8)) s.code,Ae s.at_,(V.int .u64) s.seed]
instance:Fz (Aj true) (Aj false):=⟨fun s=>by simp [V.fz,fzL,Ab,Aj,slr]⟩
instance:Fz (Aj false) (Aj false):=⟨fun s=>by simp [V.fz,fzL,Aj,slr]⟩
instance:NoFz (Aj true):=⟨fun s=>by first | simp [V.noFz,Ce,Ch] | simp [V.noFz,Ce,Ch,NoFz.eq,Aj,slr]⟩
theorem A36 (o:Bool):X9 3 (Aj o):=fun _=>⟨rfl,rfl⟩
structure SAlgebra where
 Size:Int
 Ops:(List SOp)
 deriving Inhabited,DecidableEq
abbrev Af (o:Bool) (s:SAlgebra):V:= .agg [Ae s.Size,(slr o 2 (Aw o)) s.Ops]
instance:Fz (Af true) (Af false):=⟨fun s=>by simp [V.fz,fzL,Ab,Af,slr]⟩
instance:Fz (Af false) (Af false):=⟨fun s=>by simp [V.fz,fzL,Af,slr]⟩
instance:NoFz (Af true):=⟨fun s=>by first | simp [V.noFz,Ce,Ch] | simp [V.noFz,Ce,Ch,NoFz.eq,Af,slr]⟩
theorem A17 (o:Bool):X9 2 (Af o):=fun _=>⟨rfl,rfl⟩
structure Sspan where
 a:SAlgebra
 k:Int
 list:(List (List Int))
 at_:(List (ByteArray×Int))
 deriving Inhabited,DecidableEq
abbrev Kp (o:Bool) (s:Sspan):V:= .agg [Ae s.a.Size,(slr o 2 (Aw o)) s.a.Ops,Ae s.k,(slr o 1 (slr o 1 Ae)) s.list,(rMp o (Lf.int IntKind.i64)) s.at_]
instance:Fz (Kp true) (Kp false):=⟨fun s=>by simp [V.fz,fzL,Ab,Kp,slr]⟩
instance:Fz (Kp false) (Kp false):=⟨fun s=>by simp [V.fz,fzL,Kp,slr]⟩
instance:NoFz (Kp true):=⟨fun s=>by first | simp [V.noFz,Ce,Ch] | simp [V.noFz,Ce,Ch,NoFz.eq,Kp,slr]⟩
theorem A4r (o:Bool):X9 5 (Kp o):=fun _=>⟨rfl,rfl⟩
abbrev Ci (s:Sspan):V:= .agg [Ae s.a.Size,(slr false 2 (Aw false)) s.a.Ops,Ae s.k,slr true 1 (slr false 1 Ae) s.list,(rMp true (Lf.int IntKind.i64)) s.at_]
instance:Fz (Ci) (Kp false):=⟨fun s=>by simp [V.fz,fzL,Ab,Ci,Kp,slr]⟩
end Go.Proofs.Ytmmcfdfdacpjgaa.Ax
