/-
 The kinds of data, written by program.
-/
import Derived.Test.YtmcbocbcpijgeaaAx4
namespace Go.Proofs.Ytmcbocbcpijgeaa.Ax
open Go
structure SIdentity where
 Left:(List Int)
 Right:(List Int)
 deriving Inhabited,DecidableEq
abbrev Ak (o:Bool) (s:SIdentity):V:= .agg [(slr o 1 Af) s.Left,(slr o 1 Af) s.Right]
instance:Fz (Ak true) (Ak false):=⟨fun s=>by simp [V.fz,fzL,Ab,Ak,slr]⟩
instance:Fz (Ak false) (Ak false):=⟨fun s=>by simp [V.fz,fzL,Ak,slr]⟩
instance:NoFz (Ak true):=⟨fun s=>by first | simp [V.noFz,Cq,D1] | simp [V.noFz,Cq,D1,NoFz.eq,Ak,slr]⟩
theorem Aqy (o:Bool):Qd 2 (Ak o):=fun _=>⟨rfl,rfl⟩
structure SOp where
 Arity:Int
 Table:(List Int)
 deriving Inhabited,DecidableEq
abbrev Bb (o:Bool) (s:SOp):V:= .agg [Af s.Arity,(slr o 1 Af) s.Table]
instance:Fz (Bb true) (Bb false):=⟨fun s=>by simp [V.fz,fzL,Ab,Bb,slr]⟩
instance:Fz (Bb false) (Bb false):=⟨fun s=>by simp [V.fz,fzL,Bb,slr]⟩
instance:NoFz (Bb true):=⟨fun s=>by first | simp [V.noFz,Cq,D1] | simp [V.noFz,Cq,D1,NoFz.eq,Bb,slr]⟩
theorem Au0 (o:Bool):Qd 2 (Bb o):=fun _=>⟨rfl,rfl⟩
structure Sl1Cur where
 code:(List Int)
 at_:Int
 seed:Int
 deriving Inhabited,DecidableEq
abbrev Aj (o:Bool) (s:Sl1Cur):V:= .agg [(slr o 1 (V.int .u8)) s.code,Af s.at_,(V.int .u64) s.seed]
instance:Fz (Aj true) (Aj false):=⟨fun s=>by simp [V.fz,fzL,Ab,Aj,slr]⟩
instance:Fz (Aj false) (Aj false):=⟨fun s=>by simp [V.fz,fzL,Aj,slr]⟩
instance:NoFz (Aj true):=⟨fun s=>by first | simp [V.noFz,Cq,D1] | simp [V.noFz,Cq,D1,NoFz.eq,Aj,slr]⟩
theorem Ate (o:Bool):Qd 3 (Aj o):=fun _=>⟨rfl,rfl⟩
structure SAlgebra where
 Size:Int
 Ops:(List SOp)
 deriving Inhabited,DecidableEq
abbrev Ag (o:Bool) (s:SAlgebra):V:= .agg [Af s.Size,(slr o 2 (Bb o)) s.Ops]
instance:Fz (Ag true) (Ag false):=⟨fun s=>by simp [V.fz,fzL,Ab,Ag,slr]⟩
instance:Fz (Ag false) (Ag false):=⟨fun s=>by simp [V.fz,fzL,Ag,slr]⟩
instance:NoFz (Ag true):=⟨fun s=>by first | simp [V.noFz,Cq,D1] | simp [V.noFz,Cq,D1,NoFz.eq,Ag,slr]⟩
theorem Ark (o:Bool):Qd 2 (Ag o):=fun _=>⟨rfl,rfl⟩
structure Sspan where
 a:SAlgebra
 k:Int
 list:(List (List Int))
 at_:(List (ByteArray×Int))
 deriving Inhabited,DecidableEq
abbrev Jf (o:Bool) (s:Sspan):V:= .agg [Af s.a.Size,(slr o 2 (Bb o)) s.a.Ops,Af s.k,(slr o 1 (slr o 1 Af)) s.list,(rMp o (Lf.int IntKind.i64)) s.at_]
instance:Fz (Jf true) (Jf false):=⟨fun s=>by simp [V.fz,fzL,Ab,Jf,slr]⟩
instance:Fz (Jf false) (Jf false):=⟨fun s=>by simp [V.fz,fzL,Jf,slr]⟩
instance:NoFz (Jf true):=⟨fun s=>by first | simp [V.noFz,Cq,D1] | simp [V.noFz,Cq,D1,NoFz.eq,Jf,slr]⟩
theorem Aug (o:Bool):Qd 5 (Jf o):=fun _=>⟨rfl,rfl⟩
abbrev Amr (s:Sspan):V:= .agg [Af s.a.Size,(slr false 2 (Bb false)) s.a.Ops,Af s.k,slr true 1 (slr false 1 Af) s.list,(rMp true (Lf.int IntKind.i64)) s.at_]
instance:Fz (Amr) (Jf false):=⟨fun s=>by simp [V.fz,fzL,Ab,Amr,Jf,slr]⟩
end Go.Proofs.Ytmcbocbcpijgeaa.Ax
