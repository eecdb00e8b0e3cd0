/-
 The kinds of data, written by program.
-/
import Derived.Test.YtcpgnfohmeineaaAx4
namespace Go.Proofs.Ytcpgnfohmeineaa.Ax
open Go
structure SOp where
 Arity : Int
 Table : (List Int)
 deriving Inhabited, DecidableEq
abbrev Aj (o : Bool) (s : SOp) : V := .agg [Af s.Arity, (slr o 1 Af) s.Table]
instance : Fz (Aj true) (Aj false) := ⟨fun s => by simp [V.fz, fzL, Ab, Aj, slr]⟩
instance : Fz (Aj false) (Aj false) := ⟨fun s => by simp [V.fz, fzL, Aj, slr]⟩
instance : NoFz (Aj true) := ⟨fun s => by first | simp [V.noFz, Bx, Bv] | simp [V.noFz, Bx, Bv, NoFz.eq, Aj, slr]⟩
theorem As3 (o : Bool) : N5 2 (Aj o) := fun _ => ⟨rfl, rfl⟩
structure SAlgebra where
 Size : Int
 Ops : (List SOp)
 deriving Inhabited, DecidableEq
abbrev Ai (o : Bool) (s : SAlgebra) : V := .agg [Af s.Size, (slr o 2 (Aj o)) s.Ops]
instance : Fz (Ai true) (Ai false) := ⟨fun s => by simp [V.fz, fzL, Ab, Ai, slr]⟩
instance : Fz (Ai false) (Ai false) := ⟨fun s => by simp [V.fz, fzL, Ai, slr]⟩
instance : NoFz (Ai true) := ⟨fun s => by first | simp [V.noFz, Bx, Bv] | simp [V.noFz, Bx, Bv, NoFz.eq, Ai, slr]⟩
theorem Ap0 (o : Bool) : N5 2 (Ai o) := fun _ => ⟨rfl, rfl⟩
structure SRelation where
 Arity : Int
 Tuples : (List (List Int))
 deriving Inhabited, DecidableEq
abbrev Am (o : Bool) (s : SRelation) : V := .agg [Af s.Arity, (slr o 1 (slr o 1 Af)) s.Tuples]
instance : Fz (Am true) (Am false) := ⟨fun s => by simp [V.fz, fzL, Ab, Am, slr]⟩
instance : Fz (Am false) (Am false) := ⟨fun s => by simp [V.fz, fzL, Am, slr]⟩
instance : NoFz (Am true) := ⟨fun s => by first | simp [V.noFz, Bx, Bv] | simp [V.noFz, Bx, Bv, NoFz.eq, Am, slr]⟩
theorem Aph (o : Bool) : N5 2 (Am o) := fun _ => ⟨rfl, rfl⟩
structure Sl1Cur where
 code : (List Int)
 at_ : Int
 seed : Int
 deriving Inhabited, DecidableEq
abbrev Ak (o : Bool) (s : Sl1Cur) : V := .agg [(slr o 1 (V.int .u8)) s.code, Af s.at_, (V.int .u64) s.seed]
instance : Fz (Ak true) (Ak false) := ⟨fun s => by simp [V.fz, fzL, Ab, Ak, slr]⟩
instance : Fz (Ak false) (Ak false) := ⟨fun s => by simp [V.fz, fzL, Ak, slr]⟩
instance : NoFz (Ak true) := ⟨fun s => by first | simp [V.noFz, Bx, Bv] | simp [V.noFz, Bx, Bv, NoFz.eq, Ak, slr]⟩
theorem Ar8 (o : Bool) : N5 3 (Ak o) := fun _ => ⟨rfl, rfl⟩
structure SCloneStep where
 Op : Int
 Args : (List Int)
 deriving Inhabited, DecidableEq
abbrev Cs (o : Bool) (s : SCloneStep) : V := .agg [Af s.Op, (slr o 1 Af) s.Args]
instance : Fz (Cs true) (Cs false) := ⟨fun s => by simp [V.fz, fzL, Ab, Cs, slr]⟩
instance : Fz (Cs false) (Cs false) := ⟨fun s => by simp [V.fz, fzL, Cs, slr]⟩
instance : NoFz (Cs true) := ⟨fun s => by first | simp [V.noFz, Bx, Bv] | simp [V.noFz, Bx, Bv, NoFz.eq, Cs, slr]⟩
theorem Apb (o : Bool) : N5 2 (Cs o) := fun _ => ⟨rfl, rfl⟩
structure Sspan where
 a : SAlgebra
 k : Int
 list : (List (List Int))
 at_ : (List (ByteArray × Int))
 deriving Inhabited, DecidableEq
abbrev Ls (o : Bool) (s : Sspan) : V := .agg [Af s.a.Size, (slr o 2 (Aj o)) s.a.Ops, Af s.k, (slr o 1 (slr o 1 Af)) s.list, (rMp o (Lf.int IntKind.i64)) s.at_]
instance : Fz (Ls true) (Ls false) := ⟨fun s => by simp [V.fz, fzL, Ab, Ls, slr]⟩
instance : Fz (Ls false) (Ls false) := ⟨fun s => by simp [V.fz, fzL, Ls, slr]⟩
instance : NoFz (Ls true) := ⟨fun s => by first | simp [V.noFz, Bx, Bv] | simp [V.noFz, Bx, Bv, NoFz.eq, Ls, slr]⟩
theorem Asp (o : Bool) : N5 5 (Ls o) := fun _ => ⟨rfl, rfl⟩
structure Sfound where
 tables : (List (List Int))
 steps : (List SCloneStep)
 seen : (List (ByteArray × Bool))
 deriving Inhabited, DecidableEq
abbrev Ik (o : Bool) (s : Sfound) : V := .agg [(slr o 1 (slr o 1 Af)) s.tables, (slr o 2 (Cs o)) s.steps, (rMp o Lf.bool) s.seen]
instance : Fz (Ik true) (Ik false) := ⟨fun s => by simp [V.fz, fzL, Ab, Ik, slr]⟩
instance : Fz (Ik false) (Ik false) := ⟨fun s => by simp [V.fz, fzL, Ik, slr]⟩
instance : NoFz (Ik true) := ⟨fun s => by first | simp [V.noFz, Bx, Bv] | simp [V.noFz, Bx, Bv, NoFz.eq, Ik, slr]⟩
theorem Asc (o : Bool) : N5 3 (Ik o) := fun _ => ⟨rfl, rfl⟩
structure Sl12Find where
 tables : (List (List Int))
 steps : (List SCloneStep)
 large : Bool
 deriving Inhabited, DecidableEq
abbrev Fb (o : Bool) (s : Sl12Find) : V := .agg [(slr o 1 (slr o 1 Af)) s.tables, (slr o 2 (Cs o)) s.steps, V.bool s.large]
instance : Fz (Fb true) (Fb false) := ⟨fun s => by simp [V.fz, fzL, Ab, Fb, slr]⟩
instance : Fz (Fb false) (Fb false) := ⟨fun s => by simp [V.fz, fzL, Fb, slr]⟩
instance : NoFz (Fb true) := ⟨fun s => by first | simp [V.noFz, Bx, Bv] | simp [V.noFz, Bx, Bv, NoFz.eq, Fb, slr]⟩
theorem Aqg (o : Bool) : N5 3 (Fb o) := fun _ => ⟨rfl, rfl⟩
end Go.Proofs.Ytcpgnfohmeineaa.Ax
