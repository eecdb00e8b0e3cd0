/-
 The kinds of data, written by program.
-/
import Derived.Test.YtjcekpmojnnmbaaAx4
namespace Go.Proofs.Ytjcekpmojnnmbaa.Ax
open Go
structure SRelation where
 Arity : Int
 Tuples : (List (List Int))
 deriving Inhabited, DecidableEq
abbrev Ah (o : Bool) (s : SRelation) : V := .agg [Ae s.Arity, (slr o 1 (slr o 1 Ae)) s.Tuples]
instance : Fz (Ah true) (Ah false) := ⟨fun s => by simp [V.fz, fzL, Ab, Ah, slr]⟩
instance : Fz (Ah false) (Ah false) := ⟨fun s => by simp [V.fz, fzL, Ah, slr]⟩
instance : NoFz (Ah true) := ⟨fun s => by first | simp [V.noFz, Cs, Dc] | simp [V.noFz, Cs, Dc, NoFz.eq, Ah, slr]⟩
theorem Azl (o : Bool) : Aop 2 (Ah o) := fun _ => ⟨rfl, rfl⟩
abbrev Aj (s : SRelation) : V := .agg [Ae s.Arity, slr true 1 (slr false 1 Ae) s.Tuples]
instance : Fz (Aj) (Ah false) := ⟨fun s => by simp [V.fz, fzL, Ab, Aj, Ah, slr]⟩
structure SOp where
 Arity : Int
 Table : (List Int)
 deriving Inhabited, DecidableEq
abbrev Ho (o : Bool) (s : SOp) : V := .agg [Ae s.Arity, (slr o 1 Ae) s.Table]
instance : Fz (Ho true) (Ho false) := ⟨fun s => by simp [V.fz, fzL, Ab, Ho, slr]⟩
instance : Fz (Ho false) (Ho false) := ⟨fun s => by simp [V.fz, fzL, Ho, slr]⟩
instance : NoFz (Ho true) := ⟨fun s => by first | simp [V.noFz, Cs, Dc] | simp [V.noFz, Cs, Dc, NoFz.eq, Ho, slr]⟩
theorem A3x (o : Bool) : Aop 2 (Ho o) := fun _ => ⟨rfl, rfl⟩
structure Sl1Cur where
 code : (List Int)
 at_ : Int
 seed : Int
 deriving Inhabited, DecidableEq
abbrev Am (o : Bool) (s : Sl1Cur) : V := .agg [(slr o 1 (V.int .u8)) s.code, Ae s.at_, (V.int .u64) s.seed]
instance : Fz (Am true) (Am false) := ⟨fun s => by simp [V.fz, fzL, Ab, Am, slr]⟩
instance : Fz (Am false) (Am false) := ⟨fun s => by simp [V.fz, fzL, Am, slr]⟩
instance : NoFz (Am true) := ⟨fun s => by first | simp [V.noFz, Cs, Dc] | simp [V.noFz, Cs, Dc, NoFz.eq, Am, slr]⟩
theorem A1t (o : Bool) : Aop 3 (Am o) := fun _ => ⟨rfl, rfl⟩
structure SAlgebra where
 Size : Int
 Ops : (List SOp)
 deriving Inhabited, DecidableEq
abbrev A5 (o : Bool) (s : SAlgebra) : V := .agg [Ae s.Size, (slr o 2 (Ho o)) s.Ops]
instance : Fz (A5 true) (A5 false) := ⟨fun s => by simp [V.fz, fzL, Ab, A5, slr]⟩
instance : Fz (A5 false) (A5 false) := ⟨fun s => by simp [V.fz, fzL, A5, slr]⟩
instance : NoFz (A5 true) := ⟨fun s => by first | simp [V.noFz, Cs, Dc] | simp [V.noFz, Cs, Dc, NoFz.eq, A5, slr]⟩
theorem Azu (o : Bool) : Aop 2 (A5 o) := fun _ => ⟨rfl, rfl⟩
structure SValueError where
 Method : ByteArray
 Kind : Int
 deriving Inhabited, DecidableEq
abbrev Eg (o : Bool) (s : SValueError) : V := .agg [V.str s.Method, (V.int .u8) s.Kind]
instance : Fz (Eg true) (Eg false) := ⟨fun s => by simp [V.fz, fzL, Ab, Eg, slr]⟩
instance : Fz (Eg false) (Eg false) := ⟨fun s => by simp [V.fz, fzL, Eg, slr]⟩
instance : NoFz (Eg true) := ⟨fun s => by first | simp [V.noFz, Cs, Dc] | simp [V.noFz, Cs, Dc, NoFz.eq, Eg, slr]⟩
theorem Awn (o : Bool) : Aop 2 (Eg o) := fun _ => ⟨rfl, rfl⟩
end Go.Proofs.Ytjcekpmojnnmbaa.Ax
