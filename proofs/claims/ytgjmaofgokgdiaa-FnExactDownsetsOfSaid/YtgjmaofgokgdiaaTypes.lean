/-
  The kinds of data, written by program.
-/
import Derived.Test.YtgjmaofgokgdiaaAx4
namespace Go.Proofs.Ytgjmaofgokgdiaa.Ax
open Go

structure SPoset where
  Below : (List (List Int))
  deriving Inhabited, DecidableEq
abbrev rS_Poset (o : Bool) (s : SPoset) : V := .agg [(slr o 1 (slr o 1 vint)) s.Below]
instance : Fz (rS_Poset true) (rS_Poset false) := ⟨fun s => by simp [V.fz, fzL, fzL_map, rS_Poset, slr]⟩
instance : Fz (rS_Poset false) (rS_Poset false) := ⟨fun s => by simp [V.fz, fzL, rS_Poset, slr]⟩
instance : NoFz (rS_Poset true) := ⟨fun s => by first | simp [V.noFz, noFzL, noFzL_map] | simp [V.noFz, noFzL, noFzL_map, NoFz.eq, rS_Poset, slr]⟩
theorem wide_Poset (o : Bool) : Wide 1 (rS_Poset o) := fun _ => ⟨rfl, rfl⟩

structure SIdentity where
  Left : (List Int)
  Right : (List Int)
  deriving Inhabited, DecidableEq
abbrev rS_Identity (o : Bool) (s : SIdentity) : V := .agg [(slr o 1 vint) s.Left, (slr o 1 vint) s.Right]
instance : Fz (rS_Identity true) (rS_Identity false) := ⟨fun s => by simp [V.fz, fzL, fzL_map, rS_Identity, slr]⟩
instance : Fz (rS_Identity false) (rS_Identity false) := ⟨fun s => by simp [V.fz, fzL, rS_Identity, slr]⟩
instance : NoFz (rS_Identity true) := ⟨fun s => by first | simp [V.noFz, noFzL, noFzL_map] | simp [V.noFz, noFzL, noFzL_map, NoFz.eq, rS_Identity, slr]⟩
theorem wide_Identity (o : Bool) : Wide 2 (rS_Identity o) := fun _ => ⟨rfl, rfl⟩

structure SOp where
  Arity : Int
  Table : (List Int)
  deriving Inhabited, DecidableEq
abbrev rS_Op (o : Bool) (s : SOp) : V := .agg [vint s.Arity, (slr o 1 vint) s.Table]
instance : Fz (rS_Op true) (rS_Op false) := ⟨fun s => by simp [V.fz, fzL, fzL_map, rS_Op, slr]⟩
instance : Fz (rS_Op false) (rS_Op false) := ⟨fun s => by simp [V.fz, fzL, rS_Op, slr]⟩
instance : NoFz (rS_Op true) := ⟨fun s => by first | simp [V.noFz, noFzL, noFzL_map] | simp [V.noFz, noFzL, noFzL_map, NoFz.eq, rS_Op, slr]⟩
theorem wide_Op (o : Bool) : Wide 2 (rS_Op o) := fun _ => ⟨rfl, rfl⟩

structure SRelation where
  Arity : Int
  Tuples : (List (List Int))
  deriving Inhabited, DecidableEq
abbrev rS_Relation (o : Bool) (s : SRelation) : V := .agg [vint s.Arity, (slr o 1 (slr o 1 vint)) s.Tuples]
instance : Fz (rS_Relation true) (rS_Relation false) := ⟨fun s => by simp [V.fz, fzL, fzL_map, rS_Relation, slr]⟩
instance : Fz (rS_Relation false) (rS_Relation false) := ⟨fun s => by simp [V.fz, fzL, rS_Relation, slr]⟩
instance : NoFz (rS_Relation true) := ⟨fun s => by first | simp [V.noFz, noFzL, noFzL_map] | simp [V.noFz, noFzL, noFzL_map, NoFz.eq, rS_Relation, slr]⟩
theorem wide_Relation (o : Bool) : Wide 2 (rS_Relation o) := fun _ => ⟨rfl, rfl⟩

structure Sl1Cur where
  code : (List Int)
  at_ : Int
  seed : Int
  deriving Inhabited, DecidableEq
abbrev rS_l1Cur (o : Bool) (s : Sl1Cur) : V := .agg [(slr o 1 (V.int .u8)) s.code, vint s.at_, (V.int .u64) s.seed]
instance : Fz (rS_l1Cur true) (rS_l1Cur false) := ⟨fun s => by simp [V.fz, fzL, fzL_map, rS_l1Cur, slr]⟩
instance : Fz (rS_l1Cur false) (rS_l1Cur false) := ⟨fun s => by simp [V.fz, fzL, rS_l1Cur, slr]⟩
instance : NoFz (rS_l1Cur true) := ⟨fun s => by first | simp [V.noFz, noFzL, noFzL_map] | simp [V.noFz, noFzL, noFzL_map, NoFz.eq, rS_l1Cur, slr]⟩
theorem wide_l1Cur (o : Bool) : Wide 3 (rS_l1Cur o) := fun _ => ⟨rfl, rfl⟩

structure SRule where
  Left : (List Int)
  Right : (List Int)
  deriving Inhabited, DecidableEq
abbrev rS_Rule (o : Bool) (s : SRule) : V := .agg [(slr o 1 vint) s.Left, (slr o 1 vint) s.Right]
instance : Fz (rS_Rule true) (rS_Rule false) := ⟨fun s => by simp [V.fz, fzL, fzL_map, rS_Rule, slr]⟩
instance : Fz (rS_Rule false) (rS_Rule false) := ⟨fun s => by simp [V.fz, fzL, rS_Rule, slr]⟩
instance : NoFz (rS_Rule true) := ⟨fun s => by first | simp [V.noFz, noFzL, noFzL_map] | simp [V.noFz, noFzL, noFzL_map, NoFz.eq, rS_Rule, slr]⟩
theorem wide_Rule (o : Bool) : Wide 2 (rS_Rule o) := fun _ => ⟨rfl, rfl⟩

structure SValueError where
  Method : ByteArray
  Kind : Int
  deriving Inhabited, DecidableEq
abbrev rS_ValueError (o : Bool) (s : SValueError) : V := .agg [V.str s.Method, (V.int .u8) s.Kind]
instance : Fz (rS_ValueError true) (rS_ValueError false) := ⟨fun s => by simp [V.fz, fzL, fzL_map, rS_ValueError, slr]⟩
instance : Fz (rS_ValueError false) (rS_ValueError false) := ⟨fun s => by simp [V.fz, fzL, rS_ValueError, slr]⟩
instance : NoFz (rS_ValueError true) := ⟨fun s => by first | simp [V.noFz, noFzL, noFzL_map] | simp [V.noFz, noFzL, noFzL_map, NoFz.eq, rS_ValueError, slr]⟩
theorem wide_ValueError (o : Bool) : Wide 2 (rS_ValueError o) := fun _ => ⟨rfl, rfl⟩

structure SAlgebra where
  Size : Int
  Ops : (List SOp)
  deriving Inhabited, DecidableEq
abbrev rS_Algebra (o : Bool) (s : SAlgebra) : V := .agg [vint s.Size, (slr o 2 (rS_Op o)) s.Ops]
instance : Fz (rS_Algebra true) (rS_Algebra false) := ⟨fun s => by simp [V.fz, fzL, fzL_map, rS_Algebra, slr]⟩
instance : Fz (rS_Algebra false) (rS_Algebra false) := ⟨fun s => by simp [V.fz, fzL, rS_Algebra, slr]⟩
instance : NoFz (rS_Algebra true) := ⟨fun s => by first | simp [V.noFz, noFzL, noFzL_map] | simp [V.noFz, noFzL, noFzL_map, NoFz.eq, rS_Algebra, slr]⟩
theorem wide_Algebra (o : Bool) : Wide 2 (rS_Algebra o) := fun _ => ⟨rfl, rfl⟩

structure SCondition where
  Arity : Int
  Rules : (List SRule)
  deriving Inhabited, DecidableEq
abbrev rS_Condition (o : Bool) (s : SCondition) : V := .agg [vint s.Arity, (slr o 2 (rS_Rule o)) s.Rules]
instance : Fz (rS_Condition true) (rS_Condition false) := ⟨fun s => by simp [V.fz, fzL, fzL_map, rS_Condition, slr]⟩
instance : Fz (rS_Condition false) (rS_Condition false) := ⟨fun s => by simp [V.fz, fzL, rS_Condition, slr]⟩
instance : NoFz (rS_Condition true) := ⟨fun s => by first | simp [V.noFz, noFzL, noFzL_map] | simp [V.noFz, noFzL, noFzL_map, NoFz.eq, rS_Condition, slr]⟩
theorem wide_Condition (o : Bool) : Wide 2 (rS_Condition o) := fun _ => ⟨rfl, rfl⟩

structure Sl7Search where
  a : SAlgebra
  b : SAlgebra
  into : Bool
  onto : Bool
  most : Int
  tries : Int
  found : (List (List Int))
  deriving Inhabited, DecidableEq
abbrev rS_l7Search (o : Bool) (s : Sl7Search) : V := .agg [vint s.a.Size, (slr o 2 (rS_Op o)) s.a.Ops, vint s.b.Size, (slr o 2 (rS_Op o)) s.b.Ops, V.bool s.into, V.bool s.onto, vint s.most, vint s.tries, (slr o 1 (slr o 1 vint)) s.found]
instance : Fz (rS_l7Search true) (rS_l7Search false) := ⟨fun s => by simp [V.fz, fzL, fzL_map, rS_l7Search, slr]⟩
instance : Fz (rS_l7Search false) (rS_l7Search false) := ⟨fun s => by simp [V.fz, fzL, rS_l7Search, slr]⟩
instance : NoFz (rS_l7Search true) := ⟨fun s => by first | simp [V.noFz, noFzL, noFzL_map] | simp [V.noFz, noFzL, noFzL_map, NoFz.eq, rS_l7Search, slr]⟩
theorem wide_l7Search (o : Bool) : Wide 9 (rS_l7Search o) := fun _ => ⟨rfl, rfl⟩

end Go.Proofs.Ytgjmaofgokgdiaa.Ax
