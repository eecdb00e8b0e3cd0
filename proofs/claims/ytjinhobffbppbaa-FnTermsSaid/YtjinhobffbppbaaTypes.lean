/-
 The kinds of data, written by program.
-/
import Derived.Test.YtjinhobffbppbaaAx4
namespace Go.Proofs.Ytjinhobffbppbaa.Ax
open Go
structure SIdentity where
 Left : (List Int)
 Right : (List Int)
 deriving Inhabited, DecidableEq
abbrev Eg (o : Bool) (s : SIdentity) : V := .agg [(slr o 1 Ae) s.Left, (slr o 1 Ae) s.Right]
instance : Fz (Eg true) (Eg false) := ⟨fun s => by simp [V.fz, fzL, Ab, Eg, slr]⟩
instance : Fz (Eg false) (Eg false) := ⟨fun s => by simp [V.fz, fzL, Eg, slr]⟩
instance : NoFz (Eg true) := ⟨fun s => by first | simp [V.noFz, B3, B1] | simp [V.noFz, B3, B1, NoFz.eq, Eg, slr]⟩
theorem Ami (o : Bool) : O8 2 (Eg o) := fun _ => ⟨rfl, rfl⟩
structure SOp where
 Arity : Int
 Table : (List Int)
 deriving Inhabited, DecidableEq
abbrev Ba (o : Bool) (s : SOp) : V := .agg [Ae s.Arity, (slr o 1 Ae) s.Table]
instance : Fz (Ba true) (Ba false) := ⟨fun s => by simp [V.fz, fzL, Ab, Ba, slr]⟩
instance : Fz (Ba false) (Ba false) := ⟨fun s => by simp [V.fz, fzL, Ba, slr]⟩
instance : NoFz (Ba true) := ⟨fun s => by first | simp [V.noFz, B3, B1] | simp [V.noFz, B3, B1, NoFz.eq, Ba, slr]⟩
theorem Apm (o : Bool) : O8 2 (Ba o) := fun _ => ⟨rfl, rfl⟩
structure Sl1Cur where
 code : (List Int)
 at_ : Int
 seed : Int
 deriving Inhabited, DecidableEq
abbrev Ai (o : Bool) (s : Sl1Cur) : V := .agg [(slr o 1 (V.int .u8)) s.code, Ae s.at_, (V.int .u64) s.seed]
instance : Fz (Ai true) (Ai false) := ⟨fun s => by simp [V.fz, fzL, Ab, Ai, slr]⟩
instance : Fz (Ai false) (Ai false) := ⟨fun s => by simp [V.fz, fzL, Ai, slr]⟩
instance : NoFz (Ai true) := ⟨fun s => by first | simp [V.noFz, B3, B1] | simp [V.noFz, B3, B1, NoFz.eq, Ai, slr]⟩
theorem Aob (o : Bool) : O8 3 (Ai o) := fun _ => ⟨rfl, rfl⟩
structure SAlgebra where
 Size : Int
 Ops : (List SOp)
 deriving Inhabited, DecidableEq
abbrev Ag (o : Bool) (s : SAlgebra) : V := .agg [Ae s.Size, (slr o 2 (Ba o)) s.Ops]
instance : Fz (Ag true) (Ag false) := ⟨fun s => by simp [V.fz, fzL, Ab, Ag, slr]⟩
instance : Fz (Ag false) (Ag false) := ⟨fun s => by simp [V.fz, fzL, Ag, slr]⟩
instance : NoFz (Ag true) := ⟨fun s => by first | simp [V.noFz, B3, B1] | simp [V.noFz, B3, B1, NoFz.eq, Ag, slr]⟩
theorem Am4 (o : Bool) : O8 2 (Ag o) := fun _ => ⟨rfl, rfl⟩
end Go.Proofs.Ytjinhobffbppbaa.Ax
