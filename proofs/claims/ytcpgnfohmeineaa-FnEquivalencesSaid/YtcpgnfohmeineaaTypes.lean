/-
 The kinds of data, written by program.
-/
import Derived.Test.YtcpgnfohmeineaaAx4
namespace Go.Proofs.Ytcpgnfohmeineaa.Ax
open Go
structure SOp where
 Arity : Int
 Table : (List Int)
 deriving Inhabited, DecidableEq
abbrev A7 (o : Bool) (s : SOp) : V := .agg [Af s.Arity, (slr o 1 Af) s.Table]
instance : Fz (A7 true) (A7 false) := ⟨fun s => by simp [V.fz, fzL, Ab, A7, slr]⟩
instance : Fz (A7 false) (A7 false) := ⟨fun s => by simp [V.fz, fzL, A7, slr]⟩
instance : NoFz (A7 true) := ⟨fun s => by first | simp [V.noFz, B5, Bs] | simp [V.noFz, B5, Bs, NoFz.eq, A7, slr]⟩
theorem A1h (o : Bool) : Ug 2 (A7 o) := fun _ => ⟨rfl, rfl⟩
structure SAlgebra where
 Size : Int
 Ops : (List SOp)
 deriving Inhabited, DecidableEq
abbrev Ak (o : Bool) (s : SAlgebra) : V := .agg [Af s.Size, (slr o 2 (A7 o)) s.Ops]
instance : Fz (Ak true) (Ak false) := ⟨fun s => by simp [V.fz, fzL, Ab, Ak, slr]⟩
instance : Fz (Ak false) (Ak false) := ⟨fun s => by simp [V.fz, fzL, Ak, slr]⟩
instance : NoFz (Ak true) := ⟨fun s => by first | simp [V.noFz, B5, Bs] | simp [V.noFz, B5, Bs, NoFz.eq, Ak, slr]⟩
theorem Ayv (o : Bool) : Ug 2 (Ak o) := fun _ => ⟨rfl, rfl⟩
structure SRelation where
 Arity : Int
 Tuples : (List (List Int))
 deriving Inhabited, DecidableEq
abbrev Ai (o : Bool) (s : SRelation) : V := .agg [Af s.Arity, (slr o 1 (slr o 1 Af)) s.Tuples]
instance : Fz (Ai true) (Ai false) := ⟨fun s => by simp [V.fz, fzL, Ab, Ai, slr]⟩
instance : Fz (Ai false) (Ai false) := ⟨fun s => by simp [V.fz, fzL, Ai, slr]⟩
instance : NoFz (Ai true) := ⟨fun s => by first | simp [V.noFz, B5, Bs] | simp [V.noFz, B5, Bs, NoFz.eq, Ai, slr]⟩
theorem Axl (o : Bool) : Ug 2 (Ai o) := fun _ => ⟨rfl, rfl⟩
abbrev Am (s : SRelation) : V := .agg [Af s.Arity, slr true 1 (slr false 1 Af) s.Tuples]
instance : Fz (Am) (Ai false) := ⟨fun s => by simp [V.fz, fzL, Ab, Am, Ai, slr]⟩
structure Sl1Cur where
 code : (List Int)
 at_ : Int
 seed : Int
 deriving Inhabited, DecidableEq
abbrev Aj (o : Bool) (s : Sl1Cur) : V := .agg [(slr o 1 (V.int .u8)) s.code, Af s.at_, (V.int .u64) s.seed]
instance : Fz (Aj true) (Aj false) := ⟨fun s => by simp [V.fz, fzL, Ab, Aj, slr]⟩
instance : Fz (Aj false) (Aj false) := ⟨fun s => by simp [V.fz, fzL, Aj, slr]⟩
instance : NoFz (Aj true) := ⟨fun s => by first | simp [V.noFz, B5, Bs] | simp [V.noFz, B5, Bs, NoFz.eq, Aj, slr]⟩
theorem Azw (o : Bool) : Ug 3 (Aj o) := fun _ => ⟨rfl, rfl⟩
structure SCloneStep where
 Op : Int
 Args : (List Int)
 deriving Inhabited, DecidableEq
abbrev D0 (o : Bool) (s : SCloneStep) : V := .agg [Af s.Op, (slr o 1 Af) s.Args]
instance : Fz (D0 true) (D0 false) := ⟨fun s => by simp [V.fz, fzL, Ab, D0, slr]⟩
instance : Fz (D0 false) (D0 false) := ⟨fun s => by simp [V.fz, fzL, D0, slr]⟩
instance : NoFz (D0 true) := ⟨fun s => by first | simp [V.noFz, B5, Bs] | simp [V.noFz, B5, Bs, NoFz.eq, D0, slr]⟩
theorem Av4 (o : Bool) : Ug 2 (D0 o) := fun _ => ⟨rfl, rfl⟩
structure Sspan where
 a : SAlgebra
 k : Int
 list : (List (List Int))
 at_ : (List (ByteArray × Int))
 deriving Inhabited, DecidableEq
abbrev Qt (o : Bool) (s : Sspan) : V := .agg [Af s.a.Size, (slr o 2 (A7 o)) s.a.Ops, Af s.k, (slr o 1 (slr o 1 Af)) s.list, (rMp o (Lf.int IntKind.i64)) s.at_]
instance : Fz (Qt true) (Qt false) := ⟨fun s => by simp [V.fz, fzL, Ab, Qt, slr]⟩
instance : Fz (Qt false) (Qt false) := ⟨fun s => by simp [V.fz, fzL, Qt, slr]⟩
instance : NoFz (Qt true) := ⟨fun s => by first | simp [V.noFz, B5, Bs] | simp [V.noFz, B5, Bs, NoFz.eq, Qt, slr]⟩
theorem A0z (o : Bool) : Ug 5 (Qt o) := fun _ => ⟨rfl, rfl⟩
structure Sfound where
 tables : (List (List Int))
 steps : (List SCloneStep)
 seen : (List (ByteArray × Bool))
 deriving Inhabited, DecidableEq
abbrev Mp (o : Bool) (s : Sfound) : V := .agg [(slr o 1 (slr o 1 Af)) s.tables, (slr o 2 (D0 o)) s.steps, (rMp o Lf.bool) s.seen]
instance : Fz (Mp true) (Mp false) := ⟨fun s => by simp [V.fz, fzL, Ab, Mp, slr]⟩
instance : Fz (Mp false) (Mp false) := ⟨fun s => by simp [V.fz, fzL, Mp, slr]⟩
instance : NoFz (Mp true) := ⟨fun s => by first | simp [V.noFz, B5, Bs] | simp [V.noFz, B5, Bs, NoFz.eq, Mp, slr]⟩
theorem A0e (o : Bool) : Ug 3 (Mp o) := fun _ => ⟨rfl, rfl⟩
structure Sl12Find where
 tables : (List (List Int))
 steps : (List SCloneStep)
 large : Bool
 deriving Inhabited, DecidableEq
abbrev Id (o : Bool) (s : Sl12Find) : V := .agg [(slr o 1 (slr o 1 Af)) s.tables, (slr o 2 (D0 o)) s.steps, V.bool s.large]
instance : Fz (Id true) (Id false) := ⟨fun s => by simp [V.fz, fzL, Ab, Id, slr]⟩
instance : Fz (Id false) (Id false) := ⟨fun s => by simp [V.fz, fzL, Id, slr]⟩
instance : NoFz (Id true) := ⟨fun s => by first | simp [V.noFz, B5, Bs] | simp [V.noFz, B5, Bs, NoFz.eq, Id, slr]⟩
theorem Aym (o : Bool) : Ug 3 (Id o) := fun _ => ⟨rfl, rfl⟩
end Go.Proofs.Ytcpgnfohmeineaa.Ax
