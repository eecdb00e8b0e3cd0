/-
 The kinds of data, written by program.
-/
import Derived.Test.YtiakjbigaaanhaaAx4
namespace Go.Proofs.Ytiakjbigaaanhaa.Ax
open Go
structure SPoset where
 Below : (List (List Int))
 deriving Inhabited, DecidableEq
abbrev J2 (o : Bool) (s : SPoset) : V := .agg [(slr o 1 (slr o 1 Ag)) s.Below]
instance : Fz (J2 true) (J2 false) := ⟨fun s => by simp [V.fz, fzL, Ab, J2, slr]⟩
instance : Fz (J2 false) (J2 false) := ⟨fun s => by simp [V.fz, fzL, J2, slr]⟩
instance : NoFz (J2 true) := ⟨fun s => by first | simp [V.noFz, B2, Bp] | simp [V.noFz, B2, Bp, NoFz.eq, J2, slr]⟩
theorem Ay3 (o : Bool) : S3 1 (J2 o) := fun _ => ⟨rfl, rfl⟩
structure SIdentity where
 Left : (List Int)
 Right : (List Int)
 deriving Inhabited, DecidableEq
abbrev Fo (o : Bool) (s : SIdentity) : V := .agg [(slr o 1 Ag) s.Left, (slr o 1 Ag) s.Right]
instance : Fz (Fo true) (Fo false) := ⟨fun s => by simp [V.fz, fzL, Ab, Fo, slr]⟩
instance : Fz (Fo false) (Fo false) := ⟨fun s => by simp [V.fz, fzL, Fo, slr]⟩
instance : NoFz (Fo true) := ⟨fun s => by first | simp [V.noFz, B2, Bp] | simp [V.noFz, B2, Bp, NoFz.eq, Fo, slr]⟩
theorem Av3 (o : Bool) : S3 2 (Fo o) := fun _ => ⟨rfl, rfl⟩
structure SOp where
 Arity : Int
 Table : (List Int)
 deriving Inhabited, DecidableEq
abbrev A1 (o : Bool) (s : SOp) : V := .agg [Ag s.Arity, (slr o 1 Ag) s.Table]
instance : Fz (A1 true) (A1 false) := ⟨fun s => by simp [V.fz, fzL, Ab, A1, slr]⟩
instance : Fz (A1 false) (A1 false) := ⟨fun s => by simp [V.fz, fzL, A1, slr]⟩
instance : NoFz (A1 true) := ⟨fun s => by first | simp [V.noFz, B2, Bp] | simp [V.noFz, B2, Bp, NoFz.eq, A1, slr]⟩
theorem Azk (o : Bool) : S3 2 (A1 o) := fun _ => ⟨rfl, rfl⟩
structure Sl1Cur where
 code : (List Int)
 at_ : Int
 seed : Int
 deriving Inhabited, DecidableEq
abbrev Aj (o : Bool) (s : Sl1Cur) : V := .agg [(slr o 1 (V.int .u8)) s.code, Ag s.at_, (V.int .u64) s.seed]
instance : Fz (Aj true) (Aj false) := ⟨fun s => by simp [V.fz, fzL, Ab, Aj, slr]⟩
instance : Fz (Aj false) (Aj false) := ⟨fun s => by simp [V.fz, fzL, Aj, slr]⟩
instance : NoFz (Aj true) := ⟨fun s => by first | simp [V.noFz, B2, Bp] | simp [V.noFz, B2, Bp, NoFz.eq, Aj, slr]⟩
theorem Ayi (o : Bool) : S3 3 (Aj o) := fun _ => ⟨rfl, rfl⟩
structure SAlgebra where
 Size : Int
 Ops : (List SOp)
 deriving Inhabited, DecidableEq
abbrev Ae (o : Bool) (s : SAlgebra) : V := .agg [Ag s.Size, (slr o 2 (A1 o)) s.Ops]
instance : Fz (Ae true) (Ae false) := ⟨fun s => by simp [V.fz, fzL, Ab, Ae, slr]⟩
instance : Fz (Ae false) (Ae false) := ⟨fun s => by simp [V.fz, fzL, Ae, slr]⟩
instance : NoFz (Ae true) := ⟨fun s => by first | simp [V.noFz, B2, Bp] | simp [V.noFz, B2, Bp, NoFz.eq, Ae, slr]⟩
theorem Awu (o : Bool) : S3 2 (Ae o) := fun _ => ⟨rfl, rfl⟩
structure Sl7Search where
 a : SAlgebra
 b : SAlgebra
 into : Bool
 onto : Bool
 most : Int
 tries : Int
 found : (List (List Int))
 deriving Inhabited, DecidableEq
abbrev C5 (o : Bool) (s : Sl7Search) : V := .agg [Ag s.a.Size, (slr o 2 (A1 o)) s.a.Ops, Ag s.b.Size, (slr o 2 (A1 o)) s.b.Ops, V.bool s.into, V.bool s.onto, Ag s.most, Ag s.tries, (slr o 1 (slr o 1 Ag)) s.found]
instance : Fz (C5 true) (C5 false) := ⟨fun s => by simp [V.fz, fzL, Ab, C5, slr]⟩
instance : Fz (C5 false) (C5 false) := ⟨fun s => by simp [V.fz, fzL, C5, slr]⟩
instance : NoFz (C5 true) := ⟨fun s => by first | simp [V.noFz, B2, Bp] | simp [V.noFz, B2, Bp, NoFz.eq, C5, slr]⟩
theorem Av4 (o : Bool) : S3 9 (C5 o) := fun _ => ⟨rfl, rfl⟩
abbrev A3 (s : Sl7Search) : V := .agg [Ag s.a.Size, (slr false 2 (A1 false)) s.a.Ops, Ag s.b.Size, (slr false 2 (A1 false)) s.b.Ops, V.bool s.into, V.bool s.onto, Ag s.most, Ag s.tries, slr true 1 (slr false 1 Ag) s.found]
instance : Fz (A3) (C5 false) := ⟨fun s => by simp [V.fz, fzL, Ab, A3, C5, slr]⟩
end Go.Proofs.Ytiakjbigaaanhaa.Ax
