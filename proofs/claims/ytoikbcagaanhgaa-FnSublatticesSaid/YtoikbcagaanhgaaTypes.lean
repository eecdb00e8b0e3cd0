/-
 The kinds of data, written by program.
-/
import Derived.Test.YtoikbcagaanhgaaAx4
namespace Go.Proofs.Ytoikbcagaanhgaa.Ax
open Go
structure SOp where
 Arity : Int
 Table : (List Int)
 deriving Inhabited, DecidableEq
abbrev Dh (o : Bool) (s : SOp) : V := .agg [Ab s.Arity, (slr o 1 Ab) s.Table]
instance : Fz (Dh true) (Dh false) := ⟨fun s => by simp [V.fz, fzL, Ae, Dh, slr]⟩
instance : Fz (Dh false) (Dh false) := ⟨fun s => by simp [V.fz, fzL, Dh, slr]⟩
instance : NoFz (Dh true) := ⟨fun s => by first | simp [V.noFz, Ba, Aq] | simp [V.noFz, Ba, Aq, NoFz.eq, Dh, slr]⟩
theorem A8w (o : Bool) : Y8 2 (Dh o) := fun _ => ⟨rfl, rfl⟩
structure SAlgebra where
 Size : Int
 Ops : (List SOp)
 deriving Inhabited, DecidableEq
abbrev Ap (o : Bool) (s : SAlgebra) : V := .agg [Ab s.Size, (slr o 2 (Dh o)) s.Ops]
instance : Fz (Ap true) (Ap false) := ⟨fun s => by simp [V.fz, fzL, Ae, Ap, slr]⟩
instance : Fz (Ap false) (Ap false) := ⟨fun s => by simp [V.fz, fzL, Ap, slr]⟩
instance : NoFz (Ap true) := ⟨fun s => by first | simp [V.noFz, Ba, Aq] | simp [V.noFz, Ba, Aq, NoFz.eq, Ap, slr]⟩
theorem A5m (o : Bool) : Y8 2 (Ap o) := fun _ => ⟨rfl, rfl⟩
structure SRelation where
 Arity : Int
 Tuples : (List (List Int))
 deriving Inhabited, DecidableEq
abbrev Hy (o : Bool) (s : SRelation) : V := .agg [Ab s.Arity, (slr o 1 (slr o 1 Ab)) s.Tuples]
instance : Fz (Hy true) (Hy false) := ⟨fun s => by simp [V.fz, fzL, Ae, Hy, slr]⟩
instance : Fz (Hy false) (Hy false) := ⟨fun s => by simp [V.fz, fzL, Hy, slr]⟩
instance : NoFz (Hy true) := ⟨fun s => by first | simp [V.noFz, Ba, Aq] | simp [V.noFz, Ba, Aq, NoFz.eq, Hy, slr]⟩
theorem A48 (o : Bool) : Y8 2 (Hy o) := fun _ => ⟨rfl, rfl⟩
structure SPoset where
 Below : (List (List Int))
 deriving Inhabited, DecidableEq
abbrev Ac (o : Bool) (s : SPoset) : V := .agg [(slr o 1 (slr o 1 Ab)) s.Below]
instance : Fz (Ac true) (Ac false) := ⟨fun s => by simp [V.fz, fzL, Ae, Ac, slr]⟩
instance : Fz (Ac false) (Ac false) := ⟨fun s => by simp [V.fz, fzL, Ac, slr]⟩
instance : NoFz (Ac true) := ⟨fun s => by first | simp [V.noFz, Ba, Aq] | simp [V.noFz, Ba, Aq, NoFz.eq, Ac, slr]⟩
theorem A8e (o : Bool) : Y8 1 (Ac o) := fun _ => ⟨rfl, rfl⟩
structure Sl1Cur where
 code : (List Int)
 at_ : Int
 seed : Int
 deriving Inhabited, DecidableEq
abbrev Ak (o : Bool) (s : Sl1Cur) : V := .agg [(slr o 1 (V.int .u8)) s.code, Ab s.at_, (V.int .u64) s.seed]
instance : Fz (Ak true) (Ak false) := ⟨fun s => by simp [V.fz, fzL, Ae, Ak, slr]⟩
instance : Fz (Ak false) (Ak false) := ⟨fun s => by simp [V.fz, fzL, Ak, slr]⟩
instance : NoFz (Ak true) := ⟨fun s => by first | simp [V.noFz, Ba, Aq] | simp [V.noFz, Ba, Aq, NoFz.eq, Ak, slr]⟩
theorem A79 (o : Bool) : Y8 3 (Ak o) := fun _ => ⟨rfl, rfl⟩
structure Slattice where
 order : (List (List Bool))
 meets : (List (List Int))
 joins : (List (List Int))
 deriving Inhabited, DecidableEq
abbrev Bb (o : Bool) (s : Slattice) : V := .agg [(slr o 1 (slr o 1 V.bool)) s.order, (slr o 1 (slr o 1 Ab)) s.meets, (slr o 1 (slr o 1 Ab)) s.joins]
instance : Fz (Bb true) (Bb false) := ⟨fun s => by simp [V.fz, fzL, Ae, Bb, slr]⟩
instance : Fz (Bb false) (Bb false) := ⟨fun s => by simp [V.fz, fzL, Bb, slr]⟩
instance : NoFz (Bb true) := ⟨fun s => by first | simp [V.noFz, Ba, Aq] | simp [V.noFz, Ba, Aq, NoFz.eq, Bb, slr]⟩
theorem A6d (o : Bool) : Y8 3 (Bb o) := fun _ => ⟨rfl, rfl⟩
structure SRule where
 Left : (List Int)
 Right : (List Int)
 deriving Inhabited, DecidableEq
abbrev Qj (o : Bool) (s : SRule) : V := .agg [(slr o 1 Ab) s.Left, (slr o 1 Ab) s.Right]
instance : Fz (Qj true) (Qj false) := ⟨fun s => by simp [V.fz, fzL, Ae, Qj, slr]⟩
instance : Fz (Qj false) (Qj false) := ⟨fun s => by simp [V.fz, fzL, Qj, slr]⟩
instance : NoFz (Qj true) := ⟨fun s => by first | simp [V.noFz, Ba, Aq] | simp [V.noFz, Ba, Aq, NoFz.eq, Qj, slr]⟩
theorem A8j (o : Bool) : Y8 2 (Qj o) := fun _ => ⟨rfl, rfl⟩
structure SCondition where
 Arity : Int
 Rules : (List SRule)
 deriving Inhabited, DecidableEq
abbrev Gb (o : Bool) (s : SCondition) : V := .agg [Ab s.Arity, (slr o 2 (Qj o)) s.Rules]
instance : Fz (Gb true) (Gb false) := ⟨fun s => by simp [V.fz, fzL, Ae, Gb, slr]⟩
instance : Fz (Gb false) (Gb false) := ⟨fun s => by simp [V.fz, fzL, Gb, slr]⟩
instance : NoFz (Gb true) := ⟨fun s => by first | simp [V.noFz, Ba, Aq] | simp [V.noFz, Ba, Aq, NoFz.eq, Gb, slr]⟩
theorem A4p (o : Bool) : Y8 2 (Gb o) := fun _ => ⟨rfl, rfl⟩
end Go.Proofs.Ytoikbcagaanhgaa.Ax
