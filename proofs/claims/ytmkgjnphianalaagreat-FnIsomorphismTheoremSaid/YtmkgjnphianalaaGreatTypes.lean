/-
 The kinds of data, written by program.
-/
import Derived.Test.YtmkgjnphianalaaGreatAx4
import Derived.Test.YtmkgjnphianalaaGreatNum
namespace Go.Proofs.YtmkgjnphianalaaGreat.Ax
open Go
structure Sl1Cur where
 code:(List Int)
 at_:Int
 seed:Int
 deriving Inhabited,DecidableEq
abbrev Al (o:Bool) (s:Sl1Cur):V:= .agg [(slr o 1 (V.int .u8)) s.code,Af s.at_,(V.int .u64) s.seed]
instance:Fz (Al true) (Al false):=⟨λs=>by simp [V.fz,fzL,Ab,Al,slr]⟩
instance:Fz (Al false) (Al false):=⟨λs=>by simp [V.fz,fzL,Al,slr]⟩
instance:NoFz (Al true):=⟨λs=>by first | simp [V.noFz,Bo,Ba] | simp [V.noFz,Bo,Ba,NoFz.eq,Al,slr]⟩
theorem Bet (o:Bool):Ad7 3 (Al o):=λ_=>⟨rfl,rfl⟩
structure SOp where
 Arity:Int
 Table:(List Int)
 deriving Inhabited,DecidableEq
abbrev Ay (o:Bool) (s:SOp):V:= .agg [Af s.Arity,(slr o 1 Af) s.Table]
instance:Fz (Ay true) (Ay false):=⟨λs=>by simp [V.fz,fzL,Ab,Ay,slr]⟩
instance:Fz (Ay false) (Ay false):=⟨λs=>by simp [V.fz,fzL,Ay,slr]⟩
instance:NoFz (Ay true):=⟨λs=>by first | simp [V.noFz,Bo,Ba] | simp [V.noFz,Bo,Ba,NoFz.eq,Ay,slr]⟩
theorem Bfj (o:Bool):Ad7 2 (Ay o):=λ_=>⟨rfl,rfl⟩
structure SAlgebra where
 Size:Int
 Ops:(List SOp)
 deriving Inhabited,DecidableEq
abbrev Ag (o:Bool) (s:SAlgebra):V:= .agg [Af s.Size,(slr o 2 (Ay o)) s.Ops]
instance:Fz (Ag true) (Ag false):=⟨λs=>by simp [V.fz,fzL,Ab,Ag,slr]⟩
instance:Fz (Ag false) (Ag false):=⟨λs=>by simp [V.fz,fzL,Ag,slr]⟩
instance:NoFz (Ag true):=⟨λs=>by first | simp [V.noFz,Bo,Ba] | simp [V.noFz,Bo,Ba,NoFz.eq,Ag,slr]⟩
theorem Bax (o:Bool):Ad7 2 (Ag o):=λ_=>⟨rfl,rfl⟩
structure Sl7Search where
 a:SAlgebra
 b:SAlgebra
 into:Bool
 onto:Bool
 most:Int
 tries:Int
 found:(List (List Int))
 deriving Inhabited,DecidableEq
abbrev Fm (o:Bool) (s:Sl7Search):V:= .agg [Af s.a.Size,(slr o 2 (Ay o)) s.a.Ops,Af s.b.Size,(slr o 2 (Ay o)) s.b.Ops,V.bool s.into,V.bool s.onto,Af s.most,Af s.tries,(slr o 1 (slr o 1 Af)) s.found]
instance:Fz (Fm true) (Fm false):=⟨λs=>by simp [V.fz,fzL,Ab,Fm,slr]⟩
instance:Fz (Fm false) (Fm false):=⟨λs=>by simp [V.fz,fzL,Fm,slr]⟩
instance:NoFz (Fm true):=⟨λs=>by first | simp [V.noFz,Bo,Ba] | simp [V.noFz,Bo,Ba,NoFz.eq,Fm,slr]⟩
theorem Bam (o:Bool):Ad7 9 (Fm o):=λ_=>⟨rfl,rfl⟩
abbrev Amo (s:Sl7Search):V:= .agg [Af s.a.Size,(slr false 2 (Ay false)) s.a.Ops,Af s.b.Size,(slr false 2 (Ay false)) s.b.Ops,V.bool s.into,V.bool s.onto,Af s.most,Af s.tries,slr true 1 (slr false 1 Af) s.found]
instance:Fz (Amo) (Fm false):=⟨λs=>by simp [V.fz,fzL,Ab,Amo,Fm,slr]⟩
abbrev Aoa:Type:=(Unit)
def Amx:(Unit)->Nat
 | _=>Rj
def An8:(Unit)->List V
 | _=>[]
abbrev Ep (x:(Unit)):V:= .fclo (Amx x) (An8 x)
instance:Fz Ep Ep:=⟨λ_=>rfl⟩
abbrev Ae5:Type:=(((List (List Int))) ⊕ ((Unit)×(Option (List Int))))
def L5:(((List (List Int))) ⊕ ((Unit)×(Option (List Int))))->Nat
 | (.inl _)=>Ke
 | (.inr _)=>Hm
def L4:(((List (List Int))) ⊕ ((Unit)×(Option (List Int))))->List V
 | (.inl x)=>[(rP true (slr true 1 (slr true 1 Af))) x]
 | (.inr x)=>[(rP false Ep) x.1,(rP true (rOw 1 Af)) x.2]
abbrev E8 (o:Bool) (x:(((List (List Int))) ⊕ ((Unit)×(Option (List Int))))):V:=match o with
 | true=> .clo (L5 x) (L4 x)
 | false=> .fclo (L5 x) (L4 x)
instance:Fz (E8 true) (E8 false):=⟨λ_=>rfl⟩
instance:Fz (E8 false) (E8 false):=⟨λ_=>rfl⟩
abbrev Cg (tv:Value) (x:(((List (List Int))) ⊕ ((Unit)×(Option (List Int))))):V:= .clov tv (L5 x) (L4 x)
instance (tv:Value):Fz (Cg tv) (E8 false):=⟨λ_=>rfl⟩
theorem Ae2 (tv:Value) (x:(((List (List Int))) ⊕ ((Unit)×(Option (List Int))))):V.hasOwn (Cg tv x)=true:=by
 rcases x with x | x
 ·rfl
 ·rfl
structure ShomSearch where
 a:SAlgebra
 b:SAlgebra
 embed:Bool
 tries:Int
 found:(((List (List Int))) ⊕ ((Unit)×(Option (List Int))))
 deriving Inhabited,DecidableEq
abbrev Gi (o:Bool) (s:ShomSearch):V:= .agg [Af s.a.Size,(slr o 2 (Ay o)) s.a.Ops,Af s.b.Size,(slr o 2 (Ay o)) s.b.Ops,V.bool s.embed,Af s.tries,(E8 o) s.found]
instance:Fz (Gi true) (Gi false):=⟨λs=>by simp [V.fz,fzL,Ab,Gi,slr]⟩
instance:Fz (Gi false) (Gi false):=⟨λs=>by simp [V.fz,fzL,Gi,slr]⟩
abbrev Bj (tv:Value) (s:ShomSearch):V:= .agg [Af s.a.Size,(slr false 2 (Ay false)) s.a.Ops,Af s.b.Size,(slr false 2 (Ay false)) s.b.Ops,V.bool s.embed,Af s.tries,(Cg tv) s.found]
instance (tv:Value):Fz (Bj tv) (Gi false):=⟨λs=>by simp [V.fz,fzL,Ab,Bj,Gi,slr]⟩
end Go.Proofs.YtmkgjnphianalaaGreat.Ax
