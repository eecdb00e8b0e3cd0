/-
 The kinds of data, written by program.
-/
import Derived.Test.YtpfikenknmlajaaAx4
namespace Go.Proofs.Ytpfikenknmlajaa.Ax
open Go
structure SPoset where
 Below:(List (List Int))
 deriving Inhabited,DecidableEq
abbrev Ag (o:Bool) (s:SPoset):V:= .agg [(slr o 1 (slr o 1 Af)) s.Below]
instance:Fz (Ag true) (Ag false):=⟨fun s=>by simp [V.fz,fzL,Ab,Ag,slr]⟩
instance:Fz (Ag false) (Ag false):=⟨fun s=>by simp [V.fz,fzL,Ag,slr]⟩
instance:NoFz (Ag true):=⟨fun s=>by first | simp [V.noFz,Ct,Cu] | simp [V.noFz,Ct,Cu,NoFz.eq,Ag,slr]⟩
theorem A8r (o:Bool):Akq 1 (Ag o):=fun _=>⟨rfl,rfl⟩
structure Sl1Cur where
 code:(List Int)
 at_:Int
 seed:Int
 deriving Inhabited,DecidableEq
abbrev At (o:Bool) (s:Sl1Cur):V:= .agg [(slr o 1 (V.int .u8)) s.code,Af s.at_,(V.int .u64) s.seed]
instance:Fz (At true) (At false):=⟨fun s=>by simp [V.fz,fzL,Ab,At,slr]⟩
instance:Fz (At false) (At false):=⟨fun s=>by simp [V.fz,fzL,At,slr]⟩
instance:NoFz (At true):=⟨fun s=>by first | simp [V.noFz,Ct,Cu] | simp [V.noFz,Ct,Cu,NoFz.eq,At,slr]⟩
theorem A7v (o:Bool):Akq 3 (At o):=fun _=>⟨rfl,rfl⟩
end Go.Proofs.Ytpfikenknmlajaa.Ax
