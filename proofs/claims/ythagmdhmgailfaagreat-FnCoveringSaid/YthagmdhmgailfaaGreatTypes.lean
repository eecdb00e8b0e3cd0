/-
 The kinds of data, written by program.
-/
import Derived.Test.YthagmdhmgailfaaGreatAx4
namespace Go.Proofs.YthagmdhmgailfaaGreat.Ax
open Go
structure Sl1Cur where
 code : (List Int)
 at_ : Int
 seed : Int
 deriving Inhabited, DecidableEq
abbrev Aj (o : Bool) (s : Sl1Cur) : V := .agg [(slr o 1 (V.int .u8)) s.code, Af s.at_, (V.int .u64) s.seed]
instance : Fz (Aj true) (Aj false) := ⟨fun s => by simp [V.fz, fzL, Ab, Aj, slr]⟩
instance : Fz (Aj false) (Aj false) := ⟨fun s => by simp [V.fz, fzL, Aj, slr]⟩
instance : NoFz (Aj true) := ⟨fun s => by first | simp [V.noFz, Ca, B6] | simp [V.noFz, Ca, B6, NoFz.eq, Aj, slr]⟩
theorem A22 (o : Bool) : Yc 3 (Aj o) := fun _ => ⟨rfl, rfl⟩
structure SOp where
 Arity : Int
 Table : (List Int)
 deriving Inhabited, DecidableEq
abbrev Bd (o : Bool) (s : SOp) : V := .agg [Af s.Arity, (slr o 1 Af) s.Table]
instance : Fz (Bd true) (Bd false) := ⟨fun s => by simp [V.fz, fzL, Ab, Bd, slr]⟩
instance : Fz (Bd false) (Bd false) := ⟨fun s => by simp [V.fz, fzL, Bd, slr]⟩
instance : NoFz (Bd true) := ⟨fun s => by first | simp [V.noFz, Ca, B6] | simp [V.noFz, Ca, B6, NoFz.eq, Bd, slr]⟩
theorem A4n (o : Bool) : Yc 2 (Bd o) := fun _ => ⟨rfl, rfl⟩
structure SValueError where
 Method : ByteArray
 Kind : Int
 deriving Inhabited, DecidableEq
abbrev E3 (o : Bool) (s : SValueError) : V := .agg [V.str s.Method, (V.int .u8) s.Kind]
instance : Fz (E3 true) (E3 false) := ⟨fun s => by simp [V.fz, fzL, Ab, E3, slr]⟩
instance : Fz (E3 false) (E3 false) := ⟨fun s => by simp [V.fz, fzL, E3, slr]⟩
instance : NoFz (E3 true) := ⟨fun s => by first | simp [V.noFz, Ca, B6] | simp [V.noFz, Ca, B6, NoFz.eq, E3, slr]⟩
theorem Ax0 (o : Bool) : Yc 2 (E3 o) := fun _ => ⟨rfl, rfl⟩
structure SAlgebra where
 Size : Int
 Ops : (List SOp)
 deriving Inhabited, DecidableEq
abbrev Ag (o : Bool) (s : SAlgebra) : V := .agg [Af s.Size, (slr o 2 (Bd o)) s.Ops]
instance : Fz (Ag true) (Ag false) := ⟨fun s => by simp [V.fz, fzL, Ab, Ag, slr]⟩
instance : Fz (Ag false) (Ag false) := ⟨fun s => by simp [V.fz, fzL, Ag, slr]⟩
instance : NoFz (Ag true) := ⟨fun s => by first | simp [V.noFz, Ca, B6] | simp [V.noFz, Ca, B6, NoFz.eq, Ag, slr]⟩
theorem A0s (o : Bool) : Yc 2 (Ag o) := fun _ => ⟨rfl, rfl⟩
end Go.Proofs.YthagmdhmgailfaaGreat.Ax
