/-
 The kinds of data, written by program.
-/
import Derived.Test.YtidaaijecmkndaaAx4
namespace Go.Proofs.Ytidaaijecmkndaa.Ax
open Go
structure SOp where
 Arity : Int
 Table : (List Int)
 deriving Inhabited, DecidableEq
abbrev A4 (o : Bool) (s : SOp) : V := .agg [Af s.Arity, (slr o 1 Af) s.Table]
instance : Fz (A4 true) (A4 false) := ⟨fun s => by simp [V.fz, fzL, Ab, A4, slr]⟩
instance : Fz (A4 false) (A4 false) := ⟨fun s => by simp [V.fz, fzL, A4, slr]⟩
instance : NoFz (A4 true) := ⟨fun s => by first | simp [V.noFz, B7, Bo] | simp [V.noFz, B7, Bo, NoFz.eq, A4, slr]⟩
theorem Awq (o : Bool) : Q5 2 (A4 o) := fun _ => ⟨rfl, rfl⟩
structure SAlgebra where
 Size : Int
 Ops : (List SOp)
 deriving Inhabited, DecidableEq
abbrev Ah (o : Bool) (s : SAlgebra) : V := .agg [Af s.Size, (slr o 2 (A4 o)) s.Ops]
instance : Fz (Ah true) (Ah false) := ⟨fun s => by simp [V.fz, fzL, Ab, Ah, slr]⟩
instance : Fz (Ah false) (Ah false) := ⟨fun s => by simp [V.fz, fzL, Ah, slr]⟩
instance : NoFz (Ah true) := ⟨fun s => by first | simp [V.noFz, B7, Bo] | simp [V.noFz, B7, Bo, NoFz.eq, Ah, slr]⟩
theorem At9 (o : Bool) : Q5 2 (Ah o) := fun _ => ⟨rfl, rfl⟩
structure Sl1Cur where
 code : (List Int)
 at_ : Int
 seed : Int
 deriving Inhabited, DecidableEq
abbrev Aj (o : Bool) (s : Sl1Cur) : V := .agg [(slr o 1 (V.int .u8)) s.code, Af s.at_, (V.int .u64) s.seed]
instance : Fz (Aj true) (Aj false) := ⟨fun s => by simp [V.fz, fzL, Ab, Aj, slr]⟩
instance : Fz (Aj false) (Aj false) := ⟨fun s => by simp [V.fz, fzL, Aj, slr]⟩
instance : NoFz (Aj true) := ⟨fun s => by first | simp [V.noFz, B7, Bo] | simp [V.noFz, B7, Bo, NoFz.eq, Aj, slr]⟩
theorem Av7 (o : Bool) : Q5 3 (Aj o) := fun _ => ⟨rfl, rfl⟩
structure SRule where
 Left : (List Int)
 Right : (List Int)
 deriving Inhabited, DecidableEq
abbrev K5 (o : Bool) (s : SRule) : V := .agg [(slr o 1 Af) s.Left, (slr o 1 Af) s.Right]
instance : Fz (K5 true) (K5 false) := ⟨fun s => by simp [V.fz, fzL, Ab, K5, slr]⟩
instance : Fz (K5 false) (K5 false) := ⟨fun s => by simp [V.fz, fzL, K5, slr]⟩
instance : NoFz (K5 true) := ⟨fun s => by first | simp [V.noFz, B7, Bo] | simp [V.noFz, B7, Bo, NoFz.eq, K5, slr]⟩
theorem Awc (o : Bool) : Q5 2 (K5 o) := fun _ => ⟨rfl, rfl⟩
structure Sl7Search where
 a : SAlgebra
 b : SAlgebra
 into : Bool
 onto : Bool
 most : Int
 tries : Int
 found : (List (List Int))
 deriving Inhabited, DecidableEq
abbrev Ff (o : Bool) (s : Sl7Search) : V := .agg [Af s.a.Size, (slr o 2 (A4 o)) s.a.Ops, Af s.b.Size, (slr o 2 (A4 o)) s.b.Ops, V.bool s.into, V.bool s.onto, Af s.most, Af s.tries, (slr o 1 (slr o 1 Af)) s.found]
instance : Fz (Ff true) (Ff false) := ⟨fun s => by simp [V.fz, fzL, Ab, Ff, slr]⟩
instance : Fz (Ff false) (Ff false) := ⟨fun s => by simp [V.fz, fzL, Ff, slr]⟩
instance : NoFz (Ff true) := ⟨fun s => by first | simp [V.noFz, B7, Bo] | simp [V.noFz, B7, Bo, NoFz.eq, Ff, slr]⟩
theorem Att (o : Bool) : Q5 9 (Ff o) := fun _ => ⟨rfl, rfl⟩
structure SValueError where
 Method : ByteArray
 Kind : Int
 deriving Inhabited, DecidableEq
abbrev Dm (o : Bool) (s : SValueError) : V := .agg [V.str s.Method, (V.int .u8) s.Kind]
instance : Fz (Dm true) (Dm false) := ⟨fun s => by simp [V.fz, fzL, Ab, Dm, slr]⟩
instance : Fz (Dm false) (Dm false) := ⟨fun s => by simp [V.fz, fzL, Dm, slr]⟩
instance : NoFz (Dm true) := ⟨fun s => by first | simp [V.noFz, B7, Bo] | simp [V.noFz, B7, Bo, NoFz.eq, Dm, slr]⟩
theorem Arf (o : Bool) : Q5 2 (Dm o) := fun _ => ⟨rfl, rfl⟩
structure SCondition where
 Arity : Int
 Rules : (List SRule)
 deriving Inhabited, DecidableEq
abbrev Ea (o : Bool) (s : SCondition) : V := .agg [Af s.Arity, (slr o 2 (K5 o)) s.Rules]
instance : Fz (Ea true) (Ea false) := ⟨fun s => by simp [V.fz, fzL, Ab, Ea, slr]⟩
instance : Fz (Ea false) (Ea false) := ⟨fun s => by simp [V.fz, fzL, Ea, slr]⟩
instance : NoFz (Ea true) := ⟨fun s => by first | simp [V.noFz, B7, Bo] | simp [V.noFz, B7, Bo, NoFz.eq, Ea, slr]⟩
theorem Arp (o : Bool) : Q5 2 (Ea o) := fun _ => ⟨rfl, rfl⟩
end Go.Proofs.Ytidaaijecmkndaa.Ax
