/-
 The kinds of data, written by program.
-/
import Derived.Test.YtjcekpmojnnmbaaGreatAx4
namespace Go.Proofs.YtjcekpmojnnmbaaGreat.Ax
open Go
structure SOp where
 Arity:Int
 Table:(List Int)
 deriving Inhabited,DecidableEq
abbrev Co (o:Bool) (s:SOp):V:= .agg [Ae s.Arity,(slr o 1 Ae) s.Table]
instance:Fz (Co true) (Co false):=⟨fun s=>by simp [V.fz,fzL,Ab,Co,slr]⟩
instance:Fz (Co false) (Co false):=⟨fun s=>by simp [V.fz,fzL,Co,slr]⟩
instance:NoFz (Co true):=⟨fun s=>by first | simp [V.noFz,Cb,Cd] | simp [V.noFz,Cb,Cd,NoFz.eq,Co,slr]⟩
theorem A33 (o:Bool):U0 2 (Co o):=fun _=>⟨rfl,rfl⟩
structure SRelation where
 Arity:Int
 Tuples:(List (List Int))
 deriving Inhabited,DecidableEq
abbrev Ai (o:Bool) (s:SRelation):V:= .agg [Ae s.Arity,(slr o 1 (slr o 1 Ae)) s.Tuples]
instance:Fz (Ai true) (Ai false):=⟨fun s=>by simp [V.fz,fzL,Ab,Ai,slr]⟩
instance:Fz (Ai false) (Ai false):=⟨fun s=>by simp [V.fz,fzL,Ai,slr]⟩
instance:NoFz (Ai true):=⟨fun s=>by first | simp [V.noFz,Cb,Cd] | simp [V.noFz,Cb,Cd,NoFz.eq,Ai,slr]⟩
theorem Azp (o:Bool):U0 2 (Ai o):=fun _=>⟨rfl,rfl⟩
abbrev Ar (s:SRelation):V:= .agg [Ae s.Arity,slr true 1 (slr false 1 Ae) s.Tuples]
instance:Fz (Ar) (Ai false):=⟨fun s=>by simp [V.fz,fzL,Ab,Ar,Ai,slr]⟩
structure SConstraint where
 Scope:(List Int)
 Rel:SRelation
 deriving Inhabited,DecidableEq
abbrev Ap (o:Bool) (s:SConstraint):V:= .agg [(slr o 1 Ae) s.Scope,Ae s.Rel.Arity,(slr o 1 (slr o 1 Ae)) s.Rel.Tuples]
instance:Fz (Ap true) (Ap false):=⟨fun s=>by simp [V.fz,fzL,Ab,Ap,slr]⟩
instance:Fz (Ap false) (Ap false):=⟨fun s=>by simp [V.fz,fzL,Ap,slr]⟩
instance:NoFz (Ap true):=⟨fun s=>by first | simp [V.noFz,Cb,Cd] | simp [V.noFz,Cb,Cd,NoFz.eq,Ap,slr]⟩
theorem Awt (o:Bool):U0 3 (Ap o):=fun _=>⟨rfl,rfl⟩
abbrev Gp (s:SConstraint):V:= .agg [slr true 1 Ae s.Scope,Ae s.Rel.Arity,(slr false 1 (slr false 1 Ae)) s.Rel.Tuples]
instance:Fz (Gp) (Ap false):=⟨fun s=>by simp [V.fz,fzL,Ab,Gp,Ap,slr]⟩
structure SAlgebra where
 Size:Int
 Ops:(List SOp)
 deriving Inhabited,DecidableEq
abbrev A8 (o:Bool) (s:SAlgebra):V:= .agg [Ae s.Size,(slr o 2 (Co o)) s.Ops]
instance:Fz (A8 true) (A8 false):=⟨fun s=>by simp [V.fz,fzL,Ab,A8,slr]⟩
instance:Fz (A8 false) (A8 false):=⟨fun s=>by simp [V.fz,fzL,A8,slr]⟩
instance:NoFz (A8 true):=⟨fun s=>by first | simp [V.noFz,Cb,Cd] | simp [V.noFz,Cb,Cd,NoFz.eq,A8,slr]⟩
theorem A1m (o:Bool):U0 2 (A8 o):=fun _=>⟨rfl,rfl⟩
structure Sl1Cur where
 code:(List Int)
 at_:Int
 seed:Int
 deriving Inhabited,DecidableEq
abbrev Ak (o:Bool) (s:Sl1Cur):V:= .agg [(slr o 1 (V.int .u8)) s.code,Ae s.at_,(V.int .u64) s.seed]
instance:Fz (Ak true) (Ak false):=⟨fun s=>by simp [V.fz,fzL,Ab,Ak,slr]⟩
instance:Fz (Ak false) (Ak false):=⟨fun s=>by simp [V.fz,fzL,Ak,slr]⟩
instance:NoFz (Ak true):=⟨fun s=>by first | simp [V.noFz,Cb,Cd] | simp [V.noFz,Cb,Cd,NoFz.eq,Ak,slr]⟩
theorem A2s (o:Bool):U0 3 (Ak o):=fun _=>⟨rfl,rfl⟩
structure SValueError where
 Method:ByteArray
 Kind:Int
 deriving Inhabited,DecidableEq
abbrev Ei (o:Bool) (s:SValueError):V:= .agg [V.str s.Method,(V.int .u8) s.Kind]
instance:Fz (Ei true) (Ei false):=⟨fun s=>by simp [V.fz,fzL,Ab,Ei,slr]⟩
instance:Fz (Ei false) (Ei false):=⟨fun s=>by simp [V.fz,fzL,Ei,slr]⟩
instance:NoFz (Ei true):=⟨fun s=>by first | simp [V.noFz,Cb,Cd] | simp [V.noFz,Cb,Cd,NoFz.eq,Ei,slr]⟩
theorem Awu (o:Bool):U0 2 (Ei o):=fun _=>⟨rfl,rfl⟩
structure SNetwork where
 Vars:Int
 Size:Int
 Constraints:(List SConstraint)
 deriving Inhabited,DecidableEq
abbrev Aj (o:Bool) (s:SNetwork):V:= .agg [Ae s.Vars,Ae s.Size,(slr o 3 (Ap o)) s.Constraints]
instance:Fz (Aj true) (Aj false):=⟨fun s=>by simp [V.fz,fzL,Ab,Aj,slr]⟩
instance:Fz (Aj false) (Aj false):=⟨fun s=>by simp [V.fz,fzL,Aj,slr]⟩
instance:NoFz (Aj true):=⟨fun s=>by first | simp [V.noFz,Cb,Cd] | simp [V.noFz,Cb,Cd,NoFz.eq,Aj,slr]⟩
theorem A02 (o:Bool):U0 3 (Aj o):=fun _=>⟨rfl,rfl⟩
abbrev Dt (s:SNetwork):V:= .agg [Ae s.Vars,Ae s.Size,slr true 3 Gp s.Constraints]
instance:Fz (Dt) (Aj false):=⟨fun s=>by simp [V.fz,fzL,Ab,Dt,Aj,slr]⟩
end Go.Proofs.YtjcekpmojnnmbaaGreat.Ax
