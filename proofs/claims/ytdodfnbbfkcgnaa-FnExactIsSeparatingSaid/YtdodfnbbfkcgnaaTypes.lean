/-
  The kinds of data, written by program.
-/
import Derived.Test.YtdodfnbbfkcgnaaAx4
namespace Go.Proofs.Ytdodfnbbfkcgnaa.Ax
open Go

structure SPoset where
  Below : (List (List Int))
  deriving Inhabited, DecidableEq
abbrev rS_Poset (o : Bool) (s : SPoset) : V := .agg [(slr o 1 (slr o 1 vint)) s.Below]
instance : Fz (rS_Poset true) (rS_Poset false) := ⟨fun s => by simp [V.fz, fzL, fzL_map, rS_Poset, slr]⟩
instance : Fz (rS_Poset false) (rS_Poset false) := ⟨fun s => by simp [V.fz, fzL, rS_Poset, slr]⟩
instance : NoFz (rS_Poset true) := ⟨fun s => by first | simp [V.noFz, noFzL, noFzL_map] | simp [V.noFz, noFzL, noFzL_map, NoFz.eq, rS_Poset, slr]⟩
theorem wide_Poset (o : Bool) : Wide 1 (rS_Poset o) := fun _ => ⟨rfl, rfl⟩

structure Slattice where
  order : (List (List Bool))
  meets : (List (List Int))
  joins : (List (List Int))
  deriving Inhabited, DecidableEq
abbrev rS_lattice (o : Bool) (s : Slattice) : V := .agg [(slr o 1 (slr o 1 V.bool)) s.order, (slr o 1 (slr o 1 vint)) s.meets, (slr o 1 (slr o 1 vint)) s.joins]
instance : Fz (rS_lattice true) (rS_lattice false) := ⟨fun s => by simp [V.fz, fzL, fzL_map, rS_lattice, slr]⟩
instance : Fz (rS_lattice false) (rS_lattice false) := ⟨fun s => by simp [V.fz, fzL, rS_lattice, slr]⟩
instance : NoFz (rS_lattice true) := ⟨fun s => by first | simp [V.noFz, noFzL, noFzL_map] | simp [V.noFz, noFzL, noFzL_map, NoFz.eq, rS_lattice, slr]⟩
theorem wide_lattice (o : Bool) : Wide 3 (rS_lattice o) := fun _ => ⟨rfl, rfl⟩

structure SOp where
  Arity : Int
  Table : (List Int)
  deriving Inhabited, DecidableEq
abbrev rS_Op (o : Bool) (s : SOp) : V := .agg [vint s.Arity, (slr o 1 vint) s.Table]
instance : Fz (rS_Op true) (rS_Op false) := ⟨fun s => by simp [V.fz, fzL, fzL_map, rS_Op, slr]⟩
instance : Fz (rS_Op false) (rS_Op false) := ⟨fun s => by simp [V.fz, fzL, rS_Op, slr]⟩
instance : NoFz (rS_Op true) := ⟨fun s => by first | simp [V.noFz, noFzL, noFzL_map] | simp [V.noFz, noFzL, noFzL_map, NoFz.eq, rS_Op, slr]⟩
theorem wide_Op (o : Bool) : Wide 2 (rS_Op o) := fun _ => ⟨rfl, rfl⟩

structure SAlgebra where
  Size : Int
  Ops : (List SOp)
  deriving Inhabited, DecidableEq
abbrev rS_Algebra (o : Bool) (s : SAlgebra) : V := .agg [vint s.Size, (slr o 2 (rS_Op o)) s.Ops]
instance : Fz (rS_Algebra true) (rS_Algebra false) := ⟨fun s => by simp [V.fz, fzL, fzL_map, rS_Algebra, slr]⟩
instance : Fz (rS_Algebra false) (rS_Algebra false) := ⟨fun s => by simp [V.fz, fzL, rS_Algebra, slr]⟩
instance : NoFz (rS_Algebra true) := ⟨fun s => by first | simp [V.noFz, noFzL, noFzL_map] | simp [V.noFz, noFzL, noFzL_map, NoFz.eq, rS_Algebra, slr]⟩
theorem wide_Algebra (o : Bool) : Wide 2 (rS_Algebra o) := fun _ => ⟨rfl, rfl⟩

end Go.Proofs.Ytdodfnbbfkcgnaa.Ax
