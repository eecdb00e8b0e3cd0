/-
 The kinds of data, written by program.
-/
import Derived.Test.YtidaaijecmkndaaAx4
namespace Go.Proofs.Ytidaaijecmkndaa.Ax
open Go
structure SOp where
 Arity : Int
 Table : (List Int)
 deriving Inhabited, DecidableEq
abbrev Al (o : Bool) (s : SOp) : V := .agg [Ae s.Arity, (slr o 1 Ae) s.Table]
instance : Fz (Al true) (Al false) := ⟨fun s => by simp [V.fz, fzL, Ab, Al, slr]⟩
instance : Fz (Al false) (Al false) := ⟨fun s => by simp [V.fz, fzL, Al, slr]⟩
instance : NoFz (Al true) := ⟨fun s => by first | simp [V.noFz, Bz, Bo] | simp [V.noFz, Bz, Bo, NoFz.eq, Al, slr]⟩
theorem Aoy (o : Bool) : Mc 2 (Al o) := fun _ => ⟨rfl, rfl⟩
structure SAlgebra where
 Size : Int
 Ops : (List SOp)
 deriving Inhabited, DecidableEq
abbrev Az (o : Bool) (s : SAlgebra) : V := .agg [Ae s.Size, (slr o 2 (Al o)) s.Ops]
instance : Fz (Az true) (Az false) := ⟨fun s => by simp [V.fz, fzL, Ab, Az, slr]⟩
instance : Fz (Az false) (Az false) := ⟨fun s => by simp [V.fz, fzL, Az, slr]⟩
instance : NoFz (Az true) := ⟨fun s => by first | simp [V.noFz, Bz, Bo] | simp [V.noFz, Bz, Bo, NoFz.eq, Az, slr]⟩
theorem Amc (o : Bool) : Mc 2 (Az o) := fun _ => ⟨rfl, rfl⟩
structure Sl1Cur where
 code : (List Int)
 at_ : Int
 seed : Int
 deriving Inhabited, DecidableEq
abbrev Aj (o : Bool) (s : Sl1Cur) : V := .agg [(slr o 1 (V.int .u8)) s.code, Ae s.at_, (V.int .u64) s.seed]
instance : Fz (Aj true) (Aj false) := ⟨fun s => by simp [V.fz, fzL, Ab, Aj, slr]⟩
instance : Fz (Aj false) (Aj false) := ⟨fun s => by simp [V.fz, fzL, Aj, slr]⟩
instance : NoFz (Aj true) := ⟨fun s => by first | simp [V.noFz, Bz, Bo] | simp [V.noFz, Bz, Bo, NoFz.eq, Aj, slr]⟩
theorem Ans (o : Bool) : Mc 3 (Aj o) := fun _ => ⟨rfl, rfl⟩
structure SRule where
 Left : (List Int)
 Right : (List Int)
 deriving Inhabited, DecidableEq
abbrev Bb (o : Bool) (s : SRule) : V := .agg [(slr o 1 Ae) s.Left, (slr o 1 Ae) s.Right]
instance : Fz (Bb true) (Bb false) := ⟨fun s => by simp [V.fz, fzL, Ab, Bb, slr]⟩
instance : Fz (Bb false) (Bb false) := ⟨fun s => by simp [V.fz, fzL, Bb, slr]⟩
instance : NoFz (Bb true) := ⟨fun s => by first | simp [V.noFz, Bz, Bo] | simp [V.noFz, Bz, Bo, NoFz.eq, Bb, slr]⟩
theorem Aom (o : Bool) : Mc 2 (Bb o) := fun _ => ⟨rfl, rfl⟩
structure Sl7Search where
 a : SAlgebra
 b : SAlgebra
 into : Bool
 onto : Bool
 most : Int
 tries : Int
 found : (List (List Int))
 deriving Inhabited, DecidableEq
abbrev E5 (o : Bool) (s : Sl7Search) : V := .agg [Ae s.a.Size, (slr o 2 (Al o)) s.a.Ops, Ae s.b.Size, (slr o 2 (Al o)) s.b.Ops, V.bool s.into, V.bool s.onto, Ae s.most, Ae s.tries, (slr o 1 (slr o 1 Ae)) s.found]
instance : Fz (E5 true) (E5 false) := ⟨fun s => by simp [V.fz, fzL, Ab, E5, slr]⟩
instance : Fz (E5 false) (E5 false) := ⟨fun s => by simp [V.fz, fzL, E5, slr]⟩
instance : NoFz (E5 true) := ⟨fun s => by first | simp [V.noFz, Bz, Bo] | simp [V.noFz, Bz, Bo, NoFz.eq, E5, slr]⟩
theorem Al0 (o : Bool) : Mc 9 (E5 o) := fun _ => ⟨rfl, rfl⟩
structure SValueError where
 Method : ByteArray
 Kind : Int
 deriving Inhabited, DecidableEq
abbrev Df (o : Bool) (s : SValueError) : V := .agg [V.str s.Method, (V.int .u8) s.Kind]
instance : Fz (Df true) (Df false) := ⟨fun s => by simp [V.fz, fzL, Ab, Df, slr]⟩
instance : Fz (Df false) (Df false) := ⟨fun s => by simp [V.fz, fzL, Df, slr]⟩
instance : NoFz (Df true) := ⟨fun s => by first | simp [V.noFz, Bz, Bo] | simp [V.noFz, Bz, Bo, NoFz.eq, Df, slr]⟩
theorem Aj8 (o : Bool) : Mc 2 (Df o) := fun _ => ⟨rfl, rfl⟩
structure SCondition where
 Arity : Int
 Rules : (List SRule)
 deriving Inhabited, DecidableEq
abbrev Ag (o : Bool) (s : SCondition) : V := .agg [Ae s.Arity, (slr o 2 (Bb o)) s.Rules]
instance : Fz (Ag true) (Ag false) := ⟨fun s => by simp [V.fz, fzL, Ab, Ag, slr]⟩
instance : Fz (Ag false) (Ag false) := ⟨fun s => by simp [V.fz, fzL, Ag, slr]⟩
instance : NoFz (Ag true) := ⟨fun s => by first | simp [V.noFz, Bz, Bo] | simp [V.noFz, Bz, Bo, NoFz.eq, Ag, slr]⟩
theorem Alr (o : Bool) : Mc 2 (Ag o) := fun _ => ⟨rfl, rfl⟩
abbrev Lc (s : SCondition) : V := .agg [Ae s.Arity, slr true 2 (Bb false) s.Rules]
instance : Fz (Lc) (Ag false) := ⟨fun s => by simp [V.fz, fzL, Ab, Lc, Ag, slr]⟩
end Go.Proofs.Ytidaaijecmkndaa.Ax
