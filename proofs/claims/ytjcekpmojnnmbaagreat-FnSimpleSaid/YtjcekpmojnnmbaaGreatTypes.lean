/-
 The kinds of data, written by program.
-/
import Derived.Test.YtjcekpmojnnmbaaGreatAx4
namespace Go.Proofs.YtjcekpmojnnmbaaGreat.Ax
open Go
structure SOp where
 Arity:Int
 Table:(List Int)
 deriving Inhabited,DecidableEq
abbrev Bh (o:Bool) (s:SOp):V:= .agg [Af s.Arity,(slr o 1 Af) s.Table]
instance:Fz (Bh true) (Bh false):=⟨fun s=>by simp [V.fz,fzL,Ab,Bh,slr]⟩
instance:Fz (Bh false) (Bh false):=⟨fun s=>by simp [V.fz,fzL,Bh,slr]⟩
instance:NoFz (Bh true):=⟨fun s=>by first | simp [V.noFz,Ca,Bo] | simp [V.noFz,Ca,Bo,NoFz.eq,Bh,slr]⟩
theorem A59 (o:Bool):Ug 2 (Bh o):=fun _=>⟨rfl,rfl⟩
structure SRelation where
 Arity:Int
 Tuples:(List (List Int))
 deriving Inhabited,DecidableEq
abbrev E1 (o:Bool) (s:SRelation):V:= .agg [Af s.Arity,(slr o 1 (slr o 1 Af)) s.Tuples]
instance:Fz (E1 true) (E1 false):=⟨fun s=>by simp [V.fz,fzL,Ab,E1,slr]⟩
instance:Fz (E1 false) (E1 false):=⟨fun s=>by simp [V.fz,fzL,E1,slr]⟩
instance:NoFz (E1 true):=⟨fun s=>by first | simp [V.noFz,Ca,Bo] | simp [V.noFz,Ca,Bo,NoFz.eq,E1,slr]⟩
theorem A1y (o:Bool):Ug 2 (E1 o):=fun _=>⟨rfl,rfl⟩
abbrev Afy (s:SRelation):V:= .agg [Af s.Arity,slr true 1 (slr false 1 Af) s.Tuples]
instance:Fz (Afy) (E1 false):=⟨fun s=>by simp [V.fz,fzL,Ab,Afy,E1,slr]⟩
structure SConstraint where
 Scope:(List Int)
 Rel:SRelation
 deriving Inhabited,DecidableEq
abbrev Dy (o:Bool) (s:SConstraint):V:= .agg [(slr o 1 Af) s.Scope,Af s.Rel.Arity,(slr o 1 (slr o 1 Af)) s.Rel.Tuples]
instance:Fz (Dy true) (Dy false):=⟨fun s=>by simp [V.fz,fzL,Ab,Dy,slr]⟩
instance:Fz (Dy false) (Dy false):=⟨fun s=>by simp [V.fz,fzL,Dy,slr]⟩
instance:NoFz (Dy true):=⟨fun s=>by first | simp [V.noFz,Ca,Bo] | simp [V.noFz,Ca,Bo,NoFz.eq,Dy,slr]⟩
theorem Ayp (o:Bool):Ug 3 (Dy o):=fun _=>⟨rfl,rfl⟩
structure SAlgebra where
 Size:Int
 Ops:(List SOp)
 deriving Inhabited,DecidableEq
abbrev Ai (o:Bool) (s:SAlgebra):V:= .agg [Af s.Size,(slr o 2 (Bh o)) s.Ops]
instance:Fz (Ai true) (Ai false):=⟨fun s=>by simp [V.fz,fzL,Ab,Ai,slr]⟩
instance:Fz (Ai false) (Ai false):=⟨fun s=>by simp [V.fz,fzL,Ai,slr]⟩
instance:NoFz (Ai true):=⟨fun s=>by first | simp [V.noFz,Ca,Bo] | simp [V.noFz,Ca,Bo,NoFz.eq,Ai,slr]⟩
theorem A22 (o:Bool):Ug 2 (Ai o):=fun _=>⟨rfl,rfl⟩
structure Sl1Cur where
 code:(List Int)
 at_:Int
 seed:Int
 deriving Inhabited,DecidableEq
abbrev Au (o:Bool) (s:Sl1Cur):V:= .agg [(slr o 1 (V.int .u8)) s.code,Af s.at_,(V.int .u64) s.seed]
instance:Fz (Au true) (Au false):=⟨fun s=>by simp [V.fz,fzL,Ab,Au,slr]⟩
instance:Fz (Au false) (Au false):=⟨fun s=>by simp [V.fz,fzL,Au,slr]⟩
instance:NoFz (Au true):=⟨fun s=>by first | simp [V.noFz,Ca,Bo] | simp [V.noFz,Ca,Bo,NoFz.eq,Au,slr]⟩
theorem A4v (o:Bool):Ug 3 (Au o):=fun _=>⟨rfl,rfl⟩
structure SValueError where
 Method:ByteArray
 Kind:Int
 deriving Inhabited,DecidableEq
abbrev Eu (o:Bool) (s:SValueError):V:= .agg [V.str s.Method,(V.int .u8) s.Kind]
instance:Fz (Eu true) (Eu false):=⟨fun s=>by simp [V.fz,fzL,Ab,Eu,slr]⟩
instance:Fz (Eu false) (Eu false):=⟨fun s=>by simp [V.fz,fzL,Eu,slr]⟩
instance:NoFz (Eu true):=⟨fun s=>by first | simp [V.noFz,Ca,Bo] | simp [V.noFz,Ca,Bo,NoFz.eq,Eu,slr]⟩
theorem Ayo (o:Bool):Ug 2 (Eu o):=fun _=>⟨rfl,rfl⟩
structure SNetwork where
 Vars:Int
 Size:Int
 Constraints:(List SConstraint)
 deriving Inhabited,DecidableEq
abbrev Hs (o:Bool) (s:SNetwork):V:= .agg [Af s.Vars,Af s.Size,(slr o 3 (Dy o)) s.Constraints]
instance:Fz (Hs true) (Hs false):=⟨fun s=>by simp [V.fz,fzL,Ab,Hs,slr]⟩
instance:Fz (Hs false) (Hs false):=⟨fun s=>by simp [V.fz,fzL,Hs,slr]⟩
instance:NoFz (Hs true):=⟨fun s=>by first | simp [V.noFz,Ca,Bo] | simp [V.noFz,Ca,Bo,NoFz.eq,Hs,slr]⟩
theorem A14 (o:Bool):Ug 3 (Hs o):=fun _=>⟨rfl,rfl⟩
end Go.Proofs.YtjcekpmojnnmbaaGreat.Ax
