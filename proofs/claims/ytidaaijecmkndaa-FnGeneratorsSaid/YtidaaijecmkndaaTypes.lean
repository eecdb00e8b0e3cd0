/-
 The kinds of data, written by program.
-/
import Derived.Test.YtidaaijecmkndaaAx4
namespace Go.Proofs.Ytidaaijecmkndaa.Ax
open Go
structure SOp where
 Arity : Int
 Table : (List Int)
 deriving Inhabited, DecidableEq
abbrev A6 (o : Bool) (s : SOp) : V := .agg [Af s.Arity, (slr o 1 Af) s.Table]
instance : Fz (A6 true) (A6 false) := ⟨fun s => by simp [V.fz, fzL, Ab, A6, slr]⟩
instance : Fz (A6 false) (A6 false) := ⟨fun s => by simp [V.fz, fzL, A6, slr]⟩
instance : NoFz (A6 true) := ⟨fun s => by first | simp [V.noFz, Bz, Be] | simp [V.noFz, Bz, Be, NoFz.eq, A6, slr]⟩
theorem Axo (o : Bool) : Qz 2 (A6 o) := fun _ => ⟨rfl, rfl⟩
structure SAlgebra where
 Size : Int
 Ops : (List SOp)
 deriving Inhabited, DecidableEq
abbrev Ag (o : Bool) (s : SAlgebra) : V := .agg [Af s.Size, (slr o 2 (A6 o)) s.Ops]
instance : Fz (Ag true) (Ag false) := ⟨fun s => by simp [V.fz, fzL, Ab, Ag, slr]⟩
instance : Fz (Ag false) (Ag false) := ⟨fun s => by simp [V.fz, fzL, Ag, slr]⟩
instance : NoFz (Ag true) := ⟨fun s => by first | simp [V.noFz, Bz, Be] | simp [V.noFz, Bz, Be, NoFz.eq, Ag, slr]⟩
theorem Aun (o : Bool) : Qz 2 (Ag o) := fun _ => ⟨rfl, rfl⟩
structure Sl1Cur where
 code : (List Int)
 at_ : Int
 seed : Int
 deriving Inhabited, DecidableEq
abbrev Ao (o : Bool) (s : Sl1Cur) : V := .agg [(slr o 1 (V.int .u8)) s.code, Af s.at_, (V.int .u64) s.seed]
instance : Fz (Ao true) (Ao false) := ⟨fun s => by simp [V.fz, fzL, Ab, Ao, slr]⟩
instance : Fz (Ao false) (Ao false) := ⟨fun s => by simp [V.fz, fzL, Ao, slr]⟩
instance : NoFz (Ao true) := ⟨fun s => by first | simp [V.noFz, Bz, Be] | simp [V.noFz, Bz, Be, NoFz.eq, Ao, slr]⟩
theorem Awd (o : Bool) : Qz 3 (Ao o) := fun _ => ⟨rfl, rfl⟩
structure SRule where
 Left : (List Int)
 Right : (List Int)
 deriving Inhabited, DecidableEq
abbrev L9 (o : Bool) (s : SRule) : V := .agg [(slr o 1 Af) s.Left, (slr o 1 Af) s.Right]
instance : Fz (L9 true) (L9 false) := ⟨fun s => by simp [V.fz, fzL, Ab, L9, slr]⟩
instance : Fz (L9 false) (L9 false) := ⟨fun s => by simp [V.fz, fzL, L9, slr]⟩
instance : NoFz (L9 true) := ⟨fun s => by first | simp [V.noFz, Bz, Be] | simp [V.noFz, Bz, Be, NoFz.eq, L9, slr]⟩
theorem Axb (o : Bool) : Qz 2 (L9 o) := fun _ => ⟨rfl, rfl⟩
structure Sl7Search where
 a : SAlgebra
 b : SAlgebra
 into : Bool
 onto : Bool
 most : Int
 tries : Int
 found : (List (List Int))
 deriving Inhabited, DecidableEq
abbrev Fi (o : Bool) (s : Sl7Search) : V := .agg [Af s.a.Size, (slr o 2 (A6 o)) s.a.Ops, Af s.b.Size, (slr o 2 (A6 o)) s.b.Ops, V.bool s.into, V.bool s.onto, Af s.most, Af s.tries, (slr o 1 (slr o 1 Af)) s.found]
instance : Fz (Fi true) (Fi false) := ⟨fun s => by simp [V.fz, fzL, Ab, Fi, slr]⟩
instance : Fz (Fi false) (Fi false) := ⟨fun s => by simp [V.fz, fzL, Fi, slr]⟩
instance : NoFz (Fi true) := ⟨fun s => by first | simp [V.noFz, Bz, Be] | simp [V.noFz, Bz, Be, NoFz.eq, Fi, slr]⟩
theorem Aui (o : Bool) : Qz 9 (Fi o) := fun _ => ⟨rfl, rfl⟩
structure SValueError where
 Method : ByteArray
 Kind : Int
 deriving Inhabited, DecidableEq
abbrev Dr (o : Bool) (s : SValueError) : V := .agg [V.str s.Method, (V.int .u8) s.Kind]
instance : Fz (Dr true) (Dr false) := ⟨fun s => by simp [V.fz, fzL, Ab, Dr, slr]⟩
instance : Fz (Dr false) (Dr false) := ⟨fun s => by simp [V.fz, fzL, Dr, slr]⟩
instance : NoFz (Dr true) := ⟨fun s => by first | simp [V.noFz, Bz, Be] | simp [V.noFz, Bz, Be, NoFz.eq, Dr, slr]⟩
theorem Ar7 (o : Bool) : Qz 2 (Dr o) := fun _ => ⟨rfl, rfl⟩
structure SCondition where
 Arity : Int
 Rules : (List SRule)
 deriving Inhabited, DecidableEq
abbrev Ee (o : Bool) (s : SCondition) : V := .agg [Af s.Arity, (slr o 2 (L9 o)) s.Rules]
instance : Fz (Ee true) (Ee false) := ⟨fun s => by simp [V.fz, fzL, Ab, Ee, slr]⟩
instance : Fz (Ee false) (Ee false) := ⟨fun s => by simp [V.fz, fzL, Ee, slr]⟩
instance : NoFz (Ee true) := ⟨fun s => by first | simp [V.noFz, Bz, Be] | simp [V.noFz, Bz, Be, NoFz.eq, Ee, slr]⟩
theorem Asc (o : Bool) : Qz 2 (Ee o) := fun _ => ⟨rfl, rfl⟩
end Go.Proofs.Ytidaaijecmkndaa.Ax
