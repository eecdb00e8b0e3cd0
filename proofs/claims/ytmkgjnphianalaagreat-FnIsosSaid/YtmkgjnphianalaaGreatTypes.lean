/-
 The kinds of data, written by program.
-/
import Derived.Test.YtmkgjnphianalaaGreatAx4
import Derived.Test.YtmkgjnphianalaaGreatNum
namespace Go.Proofs.YtmkgjnphianalaaGreat.Ax
open Go
structure Sl1Cur where
 code:(List Int)
 at_:Int
 seed:Int
 deriving Inhabited,DecidableEq
abbrev Am (o:Bool) (s:Sl1Cur):V:= .agg [(slr o 1 (V.int .u8)) s.code,Ag s.at_,(V.int .u64) s.seed]
instance:Fz (Am true) (Am false):=⟨fun s=>by simp [V.fz,fzL,Ab,Am,slr]⟩
instance:Fz (Am false) (Am false):=⟨fun s=>by simp [V.fz,fzL,Am,slr]⟩
instance:NoFz (Am true):=⟨fun s=>by first | simp [V.noFz,Ch,Bs] | simp [V.noFz,Ch,Bs,NoFz.eq,Am,slr]⟩
theorem Bas (o:Bool):Abw 3 (Am o):=fun _=>⟨rfl,rfl⟩
structure SOp where
 Arity:Int
 Table:(List Int)
 deriving Inhabited,DecidableEq
abbrev Aw (o:Bool) (s:SOp):V:= .agg [Ag s.Arity,(slr o 1 Ag) s.Table]
instance:Fz (Aw true) (Aw false):=⟨fun s=>by simp [V.fz,fzL,Ab,Aw,slr]⟩
instance:Fz (Aw false) (Aw false):=⟨fun s=>by simp [V.fz,fzL,Aw,slr]⟩
instance:NoFz (Aw true):=⟨fun s=>by first | simp [V.noFz,Ch,Bs] | simp [V.noFz,Ch,Bs,NoFz.eq,Aw,slr]⟩
theorem Bcu (o:Bool):Abw 2 (Aw o):=fun _=>⟨rfl,rfl⟩
structure SAlgebra where
 Size:Int
 Ops:(List SOp)
 deriving Inhabited,DecidableEq
abbrev Ae (o:Bool) (s:SAlgebra):V:= .agg [Ag s.Size,(slr o 2 (Aw o)) s.Ops]
instance:Fz (Ae true) (Ae false):=⟨fun s=>by simp [V.fz,fzL,Ab,Ae,slr]⟩
instance:Fz (Ae false) (Ae false):=⟨fun s=>by simp [V.fz,fzL,Ae,slr]⟩
instance:NoFz (Ae true):=⟨fun s=>by first | simp [V.noFz,Ch,Bs] | simp [V.noFz,Ch,Bs,NoFz.eq,Ae,slr]⟩
theorem A8y (o:Bool):Abw 2 (Ae o):=fun _=>⟨rfl,rfl⟩
structure Sl7Search where
 a:SAlgebra
 b:SAlgebra
 into:Bool
 onto:Bool
 most:Int
 tries:Int
 found:(List (List Int))
 deriving Inhabited,DecidableEq
abbrev En (o:Bool) (s:Sl7Search):V:= .agg [Ag s.a.Size,(slr o 2 (Aw o)) s.a.Ops,Ag s.b.Size,(slr o 2 (Aw o)) s.b.Ops,V.bool s.into,V.bool s.onto,Ag s.most,Ag s.tries,(slr o 1 (slr o 1 Ag)) s.found]
instance:Fz (En true) (En false):=⟨fun s=>by simp [V.fz,fzL,Ab,En,slr]⟩
instance:Fz (En false) (En false):=⟨fun s=>by simp [V.fz,fzL,En,slr]⟩
instance:NoFz (En true):=⟨fun s=>by first | simp [V.noFz,Ch,Bs] | simp [V.noFz,Ch,Bs,NoFz.eq,En,slr]⟩
theorem A8a (o:Bool):Abw 9 (En o):=fun _=>⟨rfl,rfl⟩
abbrev Bc (s:Sl7Search):V:= .agg [Ag s.a.Size,(slr false 2 (Aw false)) s.a.Ops,Ag s.b.Size,(slr false 2 (Aw false)) s.b.Ops,V.bool s.into,V.bool s.onto,Ag s.most,Ag s.tries,slr true 1 (slr false 1 Ag) s.found]
instance:Fz (Bc) (En false):=⟨fun s=>by simp [V.fz,fzL,Ab,Bc,En,slr]⟩
abbrev Ak4:Type:=(Unit)
def Ak5:(Unit)→Nat
 | _=>L5
def Al2:(Unit)→List V
 | _=>[]
abbrev Eh (x:(Unit)):V:= .fclo (Ak5 x) (Al2 x)
instance:Fz Eh Eh:=⟨fun _=>rfl⟩
abbrev Adz:Type:=(((List (List Int))) ⊕ ((Unit)×(Option (List Int))))
def Lo:(((List (List Int))) ⊕ ((Unit)×(Option (List Int))))→Nat
 | (.inl _)=>Hi
 | (.inr _)=>Ho
def Lr:(((List (List Int))) ⊕ ((Unit)×(Option (List Int))))→List V
 | (.inl x)=>[(rP true (slr true 1 (slr true 1 Ag))) x]
 | (.inr x)=>[(rP false Eh) x.1,(rP true (rOw 1 Ag)) x.2]
abbrev E1 (o:Bool) (x:(((List (List Int))) ⊕ ((Unit)×(Option (List Int))))):V:=match o with
 | true=> .clo (Lo x) (Lr x)
 | false=> .fclo (Lo x) (Lr x)
instance:Fz (E1 true) (E1 false):=⟨fun _=>rfl⟩
instance:Fz (E1 false) (E1 false):=⟨fun _=>rfl⟩
abbrev Cb (tv:Value) (x:(((List (List Int))) ⊕ ((Unit)×(Option (List Int))))):V:= .clov tv (Lo x) (Lr x)
instance (tv:Value):Fz (Cb tv) (E1 false):=⟨fun _=>rfl⟩
theorem Adw (tv:Value) (x:(((List (List Int))) ⊕ ((Unit)×(Option (List Int))))):V.hasOwn (Cb tv x)=true:=by
 rcases x with x | x
 ·rfl
 ·rfl
structure ShomSearch where
 a:SAlgebra
 b:SAlgebra
 embed:Bool
 tries:Int
 found:(((List (List Int))) ⊕ ((Unit)×(Option (List Int))))
 deriving Inhabited,DecidableEq
abbrev Gf (o:Bool) (s:ShomSearch):V:= .agg [Ag s.a.Size,(slr o 2 (Aw o)) s.a.Ops,Ag s.b.Size,(slr o 2 (Aw o)) s.b.Ops,V.bool s.embed,Ag s.tries,(E1 o) s.found]
instance:Fz (Gf true) (Gf false):=⟨fun s=>by simp [V.fz,fzL,Ab,Gf,slr]⟩
instance:Fz (Gf false) (Gf false):=⟨fun s=>by simp [V.fz,fzL,Gf,slr]⟩
abbrev Bl (tv:Value) (s:ShomSearch):V:= .agg [Ag s.a.Size,(slr false 2 (Aw false)) s.a.Ops,Ag s.b.Size,(slr false 2 (Aw false)) s.b.Ops,V.bool s.embed,Ag s.tries,(Cb tv) s.found]
instance (tv:Value):Fz (Bl tv) (Gf false):=⟨fun s=>by simp [V.fz,fzL,Ab,Bl,Gf,slr]⟩
end Go.Proofs.YtmkgjnphianalaaGreat.Ax
