/-
 The kinds of data, written by program.
-/
import Derived.Test.YtbnoclklhcbidaaDoorAx4
import Derived.Test.YtbnoclklhcbidaaDoorNum
namespace Go.Proofs.YtbnoclklhcbidaaDoor.Ax
open Go
abbrev rB (s:ByteArray):V:= .bp 65 5 s
instance:NoFz rB:=⟨fun _=>rfl⟩
structure SPoset where
 Below:(List (List Int))
 deriving Inhabited,DecidableEq
abbrev Jm (o:Bool) (s:SPoset):V:= .agg [(slr o 1 (slr o 1 Af)) s.Below]
instance:Fz (Jm true) (Jm false):=⟨fun s=>by simp [V.fz,fzL,Ab,Jm,slr]⟩
instance:Fz (Jm false) (Jm false):=⟨fun s=>by simp [V.fz,fzL,Jm,slr]⟩
instance:NoFz (Jm true):=⟨fun s=>by first | simp [V.noFz,Ct,E5] | simp [V.noFz,Ct,E5,NoFz.eq,Jm,slr]⟩
theorem Axd (o:Bool):Tb 1 (Jm o):=fun _=>⟨rfl,rfl⟩
structure Sl1Cur where
 code:(List Int)
 at_:Int
 seed:Int
 deriving Inhabited,DecidableEq
abbrev Aj (o:Bool) (s:Sl1Cur):V:= .agg [(slr o 1 (V.int .u8)) s.code,Af s.at_,(V.int .u64) s.seed]
instance:Fz (Aj true) (Aj false):=⟨fun s=>by simp [V.fz,fzL,Ab,Aj,slr]⟩
instance:Fz (Aj false) (Aj false):=⟨fun s=>by simp [V.fz,fzL,Aj,slr]⟩
instance:NoFz (Aj true):=⟨fun s=>by first | simp [V.noFz,Ct,E5] | simp [V.noFz,Ct,E5,NoFz.eq,Aj,slr]⟩
theorem Axn (o:Bool):Tb 3 (Aj o):=fun _=>⟨rfl,rfl⟩
structure SOp where
 Arity:Int
 Table:(List Int)
 deriving Inhabited,DecidableEq
abbrev Bi (o:Bool) (s:SOp):V:= .agg [Af s.Arity,(slr o 1 Af) s.Table]
instance:Fz (Bi true) (Bi false):=⟨fun s=>by simp [V.fz,fzL,Ab,Bi,slr]⟩
instance:Fz (Bi false) (Bi false):=⟨fun s=>by simp [V.fz,fzL,Bi,slr]⟩
instance:NoFz (Bi true):=⟨fun s=>by first | simp [V.noFz,Ct,E5] | simp [V.noFz,Ct,E5,NoFz.eq,Bi,slr]⟩
theorem Ax7 (o:Bool):Tb 2 (Bi o):=fun _=>⟨rfl,rfl⟩
structure SAlgebra where
 Size:Int
 Ops:(List SOp)
 deriving Inhabited,DecidableEq
abbrev Ag (o:Bool) (s:SAlgebra):V:= .agg [Af s.Size,(slr o 2 (Bi o)) s.Ops]
instance:Fz (Ag true) (Ag false):=⟨fun s=>by simp [V.fz,fzL,Ab,Ag,slr]⟩
instance:Fz (Ag false) (Ag false):=⟨fun s=>by simp [V.fz,fzL,Ag,slr]⟩
instance:NoFz (Ag true):=⟨fun s=>by first | simp [V.noFz,Ct,E5] | simp [V.noFz,Ct,E5,NoFz.eq,Ag,slr]⟩
theorem Au8 (o:Bool):Tb 2 (Ag o):=fun _=>⟨rfl,rfl⟩
end Go.Proofs.YtbnoclklhcbidaaDoor.Ax
