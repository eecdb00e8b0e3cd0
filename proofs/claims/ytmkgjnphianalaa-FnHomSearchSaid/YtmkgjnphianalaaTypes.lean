/-
 The kinds of data, written by program.
-/
import Derived.Test.YtmkgjnphianalaaAx4
import Derived.Test.YtmkgjnphianalaaNum
namespace Go.Proofs.Ytmkgjnphianalaa.Ax
open Go
structure Sl1Cur where
 code:(List Int)
 at_:Int
 seed:Int
 deriving Inhabited,DecidableEq
abbrev Aj (o:Bool) (s:Sl1Cur):V:= .agg [(slr o 1 (V.int .u8)) s.code,Ag s.at_,(V.int .u64) s.seed]
instance:Fz (Aj true) (Aj false):=⟨fun s=>by simp [V.fz,fzL,Ab,Aj,slr]⟩
instance:Fz (Aj false) (Aj false):=⟨fun s=>by simp [V.fz,fzL,Aj,slr]⟩
instance:NoFz (Aj true):=⟨fun s=>by first | simp [V.noFz,Cc,Bs] | simp [V.noFz,Cc,Bs,NoFz.eq,Aj,slr]⟩
theorem A53 (o:Bool):Y8 3 (Aj o):=fun _=>⟨rfl,rfl⟩
structure SOp where
 Arity:Int
 Table:(List Int)
 deriving Inhabited,DecidableEq
abbrev A9 (o:Bool) (s:SOp):V:= .agg [Ag s.Arity,(slr o 1 Ag) s.Table]
instance:Fz (A9 true) (A9 false):=⟨fun s=>by simp [V.fz,fzL,Ab,A9,slr]⟩
instance:Fz (A9 false) (A9 false):=⟨fun s=>by simp [V.fz,fzL,A9,slr]⟩
instance:NoFz (A9 true):=⟨fun s=>by first | simp [V.noFz,Cc,Bs] | simp [V.noFz,Cc,Bs,NoFz.eq,A9,slr]⟩
theorem A77 (o:Bool):Y8 2 (A9 o):=fun _=>⟨rfl,rfl⟩
structure SAlgebra where
 Size:Int
 Ops:(List SOp)
 deriving Inhabited,DecidableEq
abbrev Ae (o:Bool) (s:SAlgebra):V:= .agg [Ag s.Size,(slr o 2 (A9 o)) s.Ops]
instance:Fz (Ae true) (Ae false):=⟨fun s=>by simp [V.fz,fzL,Ab,Ae,slr]⟩
instance:Fz (Ae false) (Ae false):=⟨fun s=>by simp [V.fz,fzL,Ae,slr]⟩
instance:NoFz (Ae true):=⟨fun s=>by first | simp [V.noFz,Cc,Bs] | simp [V.noFz,Cc,Bs,NoFz.eq,Ae,slr]⟩
theorem A3y (o:Bool):Y8 2 (Ae o):=fun _=>⟨rfl,rfl⟩
structure Sl7Search where
 a:SAlgebra
 b:SAlgebra
 into:Bool
 onto:Bool
 most:Int
 tries:Int
 found:(List (List Int))
 deriving Inhabited,DecidableEq
abbrev Ej (o:Bool) (s:Sl7Search):V:= .agg [Ag s.a.Size,(slr o 2 (A9 o)) s.a.Ops,Ag s.b.Size,(slr o 2 (A9 o)) s.b.Ops,V.bool s.into,V.bool s.onto,Ag s.most,Ag s.tries,(slr o 1 (slr o 1 Ag)) s.found]
instance:Fz (Ej true) (Ej false):=⟨fun s=>by simp [V.fz,fzL,Ab,Ej,slr]⟩
instance:Fz (Ej false) (Ej false):=⟨fun s=>by simp [V.fz,fzL,Ej,slr]⟩
instance:NoFz (Ej true):=⟨fun s=>by first | simp [V.noFz,Cc,Bs] | simp [V.noFz,Cc,Bs,NoFz.eq,Ej,slr]⟩
theorem A3v (o:Bool):Y8 9 (Ej o):=fun _=>⟨rfl,rfl⟩
abbrev Bc (s:Sl7Search):V:= .agg [Ag s.a.Size,(slr false 2 (A9 false)) s.a.Ops,Ag s.b.Size,(slr false 2 (A9 false)) s.b.Ops,V.bool s.into,V.bool s.onto,Ag s.most,Ag s.tries,slr true 1 (slr false 1 Ag) s.found]
instance:Fz (Bc) (Ej false):=⟨fun s=>by simp [V.fz,fzL,Ab,Bc,Ej,slr]⟩
def Aje:(Unit ⊕ (SAlgebra))→Nat
 | (.inl _)=>Oy
 | (.inr _)=>H5
def Aig:(Unit ⊕ (SAlgebra))→List V
 | (.inl _)=>[]
 | (.inr x)=>[(rP false (Ae false)) x]
abbrev Eb (x:(Unit ⊕ (SAlgebra))):V:= .fclo (Aje x) (Aig x)
instance:Fz Eb Eb:=⟨fun _=>rfl⟩
def Ks:(((List (List Int))) ⊕ ((Unit ⊕ (SAlgebra))×(Option (List Int))))→Nat
 | (.inl _)=>Gx
 | (.inr _)=>Gw
def Kn:(((List (List Int))) ⊕ ((Unit ⊕ (SAlgebra))×(Option (List Int))))→List V
 | (.inl x)=>[(rP true (slr true 1 (slr true 1 Ag))) x]
 | (.inr x)=>[(rP false Eb) x.1,(rP true (rOw 1 Ag)) x.2]
abbrev Ev (o:Bool) (x:(((List (List Int))) ⊕ ((Unit ⊕ (SAlgebra))×(Option (List Int))))):V:=match o with
 | true=> .clo (Ks x) (Kn x)
 | false=> .fclo (Ks x) (Kn x)
instance:Fz (Ev true) (Ev false):=⟨fun _=>rfl⟩
instance:Fz (Ev false) (Ev false):=⟨fun _=>rfl⟩
abbrev B9 (tv:Value) (x:(((List (List Int))) ⊕ ((Unit ⊕ (SAlgebra))×(Option (List Int))))):V:= .clov tv (Ks x) (Kn x)
instance (tv:Value):Fz (B9 tv) (Ev false):=⟨fun _=>rfl⟩
theorem Aa6 (tv:Value) (x:(((List (List Int))) ⊕ ((Unit ⊕ (SAlgebra))×(Option (List Int))))):V.hasOwn (B9 tv x)=true:=by
 rcases x with x | x
 ·rfl
 ·rfl
structure ShomSearch where
 a:SAlgebra
 b:SAlgebra
 embed:Bool
 tries:Int
 found:(((List (List Int))) ⊕ ((Unit ⊕ (SAlgebra))×(Option (List Int))))
 deriving Inhabited,DecidableEq
abbrev Fr (o:Bool) (s:ShomSearch):V:= .agg [Ag s.a.Size,(slr o 2 (A9 o)) s.a.Ops,Ag s.b.Size,(slr o 2 (A9 o)) s.b.Ops,V.bool s.embed,Ag s.tries,(Ev o) s.found]
instance:Fz (Fr true) (Fr false):=⟨fun s=>by simp [V.fz,fzL,Ab,Fr,slr]⟩
instance:Fz (Fr false) (Fr false):=⟨fun s=>by simp [V.fz,fzL,Fr,slr]⟩
abbrev Bm (tv:Value) (s:ShomSearch):V:= .agg [Ag s.a.Size,(slr false 2 (A9 false)) s.a.Ops,Ag s.b.Size,(slr false 2 (A9 false)) s.b.Ops,V.bool s.embed,Ag s.tries,(B9 tv) s.found]
instance (tv:Value):Fz (Bm tv) (Fr false):=⟨fun s=>by simp [V.fz,fzL,Ab,Bm,Fr,slr]⟩
end Go.Proofs.Ytmkgjnphianalaa.Ax
