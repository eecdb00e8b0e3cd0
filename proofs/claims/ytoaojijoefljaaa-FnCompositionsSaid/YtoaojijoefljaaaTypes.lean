/-
 The kinds of data, written by program.
-/
import Derived.Test.YtoaojijoefljaaaAx4
namespace Go.Proofs.Ytoaojijoefljaaa.Ax
open Go
structure SOp where
 Arity : Int
 Table : (List Int)
 deriving Inhabited, DecidableEq
abbrev Ai (o : Bool) (s : SOp) : V := .agg [Ae s.Arity, (slr o 1 Ae) s.Table]
instance : Fz (Ai true) (Ai false) := ⟨fun s => by simp [V.fz, fzL, Ab, Ai, slr]⟩
instance : Fz (Ai false) (Ai false) := ⟨fun s => by simp [V.fz, fzL, Ai, slr]⟩
instance : NoFz (Ai true) := ⟨fun s => by first | simp [V.noFz, Bq, Be] | simp [V.noFz, Bq, Be, NoFz.eq, Ai, slr]⟩
theorem Azd (o : Bool) : Te 2 (Ai o) := fun _ => ⟨rfl, rfl⟩
structure Sl1Cur where
 code : (List Int)
 at_ : Int
 seed : Int
 deriving Inhabited, DecidableEq
abbrev Ak (o : Bool) (s : Sl1Cur) : V := .agg [(slr o 1 (V.int .u8)) s.code, Ae s.at_, (V.int .u64) s.seed]
instance : Fz (Ak true) (Ak false) := ⟨fun s => by simp [V.fz, fzL, Ab, Ak, slr]⟩
instance : Fz (Ak false) (Ak false) := ⟨fun s => by simp [V.fz, fzL, Ak, slr]⟩
instance : NoFz (Ak true) := ⟨fun s => by first | simp [V.noFz, Bq, Be] | simp [V.noFz, Bq, Be, NoFz.eq, Ak, slr]⟩
theorem Axq (o : Bool) : Te 3 (Ak o) := fun _ => ⟨rfl, rfl⟩
structure SCloneStep where
 Op : Int
 Args : (List Int)
 deriving Inhabited, DecidableEq
abbrev Aj (o : Bool) (s : SCloneStep) : V := .agg [Ae s.Op, (slr o 1 Ae) s.Args]
instance : Fz (Aj true) (Aj false) := ⟨fun s => by simp [V.fz, fzL, Ab, Aj, slr]⟩
instance : Fz (Aj false) (Aj false) := ⟨fun s => by simp [V.fz, fzL, Aj, slr]⟩
instance : NoFz (Aj true) := ⟨fun s => by first | simp [V.noFz, Bq, Be] | simp [V.noFz, Bq, Be, NoFz.eq, Aj, slr]⟩
theorem Auk (o : Bool) : Te 2 (Aj o) := fun _ => ⟨rfl, rfl⟩
structure SAlgebra where
 Size : Int
 Ops : (List SOp)
 deriving Inhabited, DecidableEq
abbrev Al (o : Bool) (s : SAlgebra) : V := .agg [Ae s.Size, (slr o 2 (Ai o)) s.Ops]
instance : Fz (Al true) (Al false) := ⟨fun s => by simp [V.fz, fzL, Ab, Al, slr]⟩
instance : Fz (Al false) (Al false) := ⟨fun s => by simp [V.fz, fzL, Al, slr]⟩
instance : NoFz (Al true) := ⟨fun s => by first | simp [V.noFz, Bq, Be] | simp [V.noFz, Bq, Be, NoFz.eq, Al, slr]⟩
theorem Aw7 (o : Bool) : Te 2 (Al o) := fun _ => ⟨rfl, rfl⟩
structure Sfound where
 tables : (List (List Int))
 steps : (List SCloneStep)
 seen : (List (ByteArray × Bool))
 deriving Inhabited, DecidableEq
abbrev Ee (o : Bool) (s : Sfound) : V := .agg [(slr o 1 (slr o 1 Ae)) s.tables, (slr o 2 (Aj o)) s.steps, (rMp o Lf.bool) s.seen]
instance : Fz (Ee true) (Ee false) := ⟨fun s => by simp [V.fz, fzL, Ab, Ee, slr]⟩
instance : Fz (Ee false) (Ee false) := ⟨fun s => by simp [V.fz, fzL, Ee, slr]⟩
instance : NoFz (Ee true) := ⟨fun s => by first | simp [V.noFz, Bq, Be] | simp [V.noFz, Bq, Be, NoFz.eq, Ee, slr]⟩
theorem Axl (o : Bool) : Te 3 (Ee o) := fun _ => ⟨rfl, rfl⟩
abbrev Fd (s : Sfound) : V := .agg [slr true 1 (slr false 1 Ae) s.tables, slr true 2 (Aj false) s.steps, (rMp true Lf.bool) s.seen]
instance : Fz (Fd) (Ee false) := ⟨fun s => by simp [V.fz, fzL, Ab, Fd, Ee, slr]⟩
structure Sl12Find where
 tables : (List (List Int))
 steps : (List SCloneStep)
 large : Bool
 deriving Inhabited, DecidableEq
abbrev F5 (o : Bool) (s : Sl12Find) : V := .agg [(slr o 1 (slr o 1 Ae)) s.tables, (slr o 2 (Aj o)) s.steps, V.bool s.large]
instance : Fz (F5 true) (F5 false) := ⟨fun s => by simp [V.fz, fzL, Ab, F5, slr]⟩
instance : Fz (F5 false) (F5 false) := ⟨fun s => by simp [V.fz, fzL, F5, slr]⟩
instance : NoFz (F5 true) := ⟨fun s => by first | simp [V.noFz, Bq, Be] | simp [V.noFz, Bq, Be, NoFz.eq, F5, slr]⟩
theorem Awy (o : Bool) : Te 3 (F5 o) := fun _ => ⟨rfl, rfl⟩
abbrev Am (s : Sl12Find) : V := .agg [slr true 1 (slr false 1 Ae) s.tables, slr true 2 (Aj false) s.steps, V.bool s.large]
instance : Fz (Am) (F5 false) := ⟨fun s => by simp [V.fz, fzL, Ab, Am, F5, slr]⟩
structure Sspan where
 a : SAlgebra
 k : Int
 list : (List (List Int))
 at_ : (List (ByteArray × Int))
 deriving Inhabited, DecidableEq
abbrev Lr (o : Bool) (s : Sspan) : V := .agg [Ae s.a.Size, (slr o 2 (Ai o)) s.a.Ops, Ae s.k, (slr o 1 (slr o 1 Ae)) s.list, (rMp o (Lf.int IntKind.i64)) s.at_]
instance : Fz (Lr true) (Lr false) := ⟨fun s => by simp [V.fz, fzL, Ab, Lr, slr]⟩
instance : Fz (Lr false) (Lr false) := ⟨fun s => by simp [V.fz, fzL, Lr, slr]⟩
instance : NoFz (Lr true) := ⟨fun s => by first | simp [V.noFz, Bq, Be] | simp [V.noFz, Bq, Be, NoFz.eq, Lr, slr]⟩
theorem Ayx (o : Bool) : Te 5 (Lr o) := fun _ => ⟨rfl, rfl⟩
abbrev Ara (s : Sspan) : V := .agg [Ae s.a.Size, (slr false 2 (Ai false)) s.a.Ops, Ae s.k, slr true 1 (slr false 1 Ae) s.list, (rMp true (Lf.int IntKind.i64)) s.at_]
instance : Fz (Ara) (Lr false) := ⟨fun s => by simp [V.fz, fzL, Ab, Ara, Lr, slr]⟩
end Go.Proofs.Ytoaojijoefljaaa.Ax
