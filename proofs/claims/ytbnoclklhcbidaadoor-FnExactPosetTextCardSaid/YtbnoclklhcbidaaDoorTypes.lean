/-
  The kinds of data, written by program.
-/
import Derived.Test.YtbnoclklhcbidaaDoorAx4
import Derived.Test.YtbnoclklhcbidaaDoorNum
namespace Go.Proofs.YtbnoclklhcbidaaDoor.Ax
open Go
abbrev rB (s : ByteArray) : V := .bp 65 5 s
instance : NoFz rB := ⟨fun _ => rfl⟩

structure SPoset where
  Below : (List (List Int))
  deriving Inhabited, DecidableEq
abbrev rS_Poset (o : Bool) (s : SPoset) : V := .agg [(slr o 1 (slr o 1 vint)) s.Below]
instance : Fz (rS_Poset true) (rS_Poset false) := ⟨fun s => by simp [V.fz, fzL, fzL_map, rS_Poset, slr]⟩
instance : Fz (rS_Poset false) (rS_Poset false) := ⟨fun s => by simp [V.fz, fzL, rS_Poset, slr]⟩
instance : NoFz (rS_Poset true) := ⟨fun s => by first | simp [V.noFz, noFzL, noFzL_map] | simp [V.noFz, noFzL, noFzL_map, NoFz.eq, rS_Poset, slr]⟩
theorem wide_Poset (o : Bool) : Wide 1 (rS_Poset o) := fun _ => ⟨rfl, rfl⟩

structure Sl1Cur where
  code : (List Int)
  at_ : Int
  seed : Int
  deriving Inhabited, DecidableEq
abbrev rS_l1Cur (o : Bool) (s : Sl1Cur) : V := .agg [(slr o 1 (V.int .u8)) s.code, vint s.at_, (V.int .u64) s.seed]
instance : Fz (rS_l1Cur true) (rS_l1Cur false) := ⟨fun s => by simp [V.fz, fzL, fzL_map, rS_l1Cur, slr]⟩
instance : Fz (rS_l1Cur false) (rS_l1Cur false) := ⟨fun s => by simp [V.fz, fzL, rS_l1Cur, slr]⟩
instance : NoFz (rS_l1Cur true) := ⟨fun s => by first | simp [V.noFz, noFzL, noFzL_map] | simp [V.noFz, noFzL, noFzL_map, NoFz.eq, rS_l1Cur, slr]⟩
theorem wide_l1Cur (o : Bool) : Wide 3 (rS_l1Cur o) := fun _ => ⟨rfl, rfl⟩

structure SOp where
  Arity : Int
  Table : (List Int)
  deriving Inhabited, DecidableEq
abbrev rS_Op (o : Bool) (s : SOp) : V := .agg [vint s.Arity, (slr o 1 vint) s.Table]
instance : Fz (rS_Op true) (rS_Op false) := ⟨fun s => by simp [V.fz, fzL, fzL_map, rS_Op, slr]⟩
instance : Fz (rS_Op false) (rS_Op false) := ⟨fun s => by simp [V.fz, fzL, rS_Op, slr]⟩
instance : NoFz (rS_Op true) := ⟨fun s => by first | simp [V.noFz, noFzL, noFzL_map] | simp [V.noFz, noFzL, noFzL_map, NoFz.eq, rS_Op, slr]⟩
theorem wide_Op (o : Bool) : Wide 2 (rS_Op o) := fun _ => ⟨rfl, rfl⟩

structure SAlgebra where
  Size : Int
  Ops : (List SOp)
  deriving Inhabited, DecidableEq
abbrev rS_Algebra (o : Bool) (s : SAlgebra) : V := .agg [vint s.Size, (slr o 2 (rS_Op o)) s.Ops]
instance : Fz (rS_Algebra true) (rS_Algebra false) := ⟨fun s => by simp [V.fz, fzL, fzL_map, rS_Algebra, slr]⟩
instance : Fz (rS_Algebra false) (rS_Algebra false) := ⟨fun s => by simp [V.fz, fzL, rS_Algebra, slr]⟩
instance : NoFz (rS_Algebra true) := ⟨fun s => by first | simp [V.noFz, noFzL, noFzL_map] | simp [V.noFz, noFzL, noFzL_map, NoFz.eq, rS_Algebra, slr]⟩
theorem wide_Algebra (o : Bool) : Wide 2 (rS_Algebra o) := fun _ => ⟨rfl, rfl⟩

end Go.Proofs.YtbnoclklhcbidaaDoor.Ax
