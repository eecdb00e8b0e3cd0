/-
 The kinds of data, written by program.
-/
import Derived.Test.YtoaojijoefljaaaAx4
namespace Go.Proofs.Ytoaojijoefljaaa.Ax
open Go
structure SOp where
 Arity : Int
 Table : (List Int)
 deriving Inhabited, DecidableEq
abbrev Ak (o : Bool) (s : SOp) : V := .agg [Ae s.Arity, (slr o 1 Ae) s.Table]
instance : Fz (Ak true) (Ak false) := ⟨fun s => by simp [V.fz, fzL, Ab, Ak, slr]⟩
instance : Fz (Ak false) (Ak false) := ⟨fun s => by simp [V.fz, fzL, Ak, slr]⟩
instance : NoFz (Ak true) := ⟨fun s => by first | simp [V.noFz, B8, B9] | simp [V.noFz, B8, B9, NoFz.eq, Ak, slr]⟩
theorem Avg (o : Bool) : Rs 2 (Ak o) := fun _ => ⟨rfl, rfl⟩
structure Sl1Cur where
 code : (List Int)
 at_ : Int
 seed : Int
 deriving Inhabited, DecidableEq
abbrev Am (o : Bool) (s : Sl1Cur) : V := .agg [(slr o 1 (V.int .u8)) s.code, Ae s.at_, (V.int .u64) s.seed]
instance : Fz (Am true) (Am false) := ⟨fun s => by simp [V.fz, fzL, Ab, Am, slr]⟩
instance : Fz (Am false) (Am false) := ⟨fun s => by simp [V.fz, fzL, Am, slr]⟩
instance : NoFz (Am true) := ⟨fun s => by first | simp [V.noFz, B8, B9] | simp [V.noFz, B8, B9, NoFz.eq, Am, slr]⟩
theorem Auc (o : Bool) : Rs 3 (Am o) := fun _ => ⟨rfl, rfl⟩
structure SCloneStep where
 Op : Int
 Args : (List Int)
 deriving Inhabited, DecidableEq
abbrev Ag (o : Bool) (s : SCloneStep) : V := .agg [Ae s.Op, (slr o 1 Ae) s.Args]
instance : Fz (Ag true) (Ag false) := ⟨fun s => by simp [V.fz, fzL, Ab, Ag, slr]⟩
instance : Fz (Ag false) (Ag false) := ⟨fun s => by simp [V.fz, fzL, Ag, slr]⟩
instance : NoFz (Ag true) := ⟨fun s => by first | simp [V.noFz, B8, B9] | simp [V.noFz, B8, B9, NoFz.eq, Ag, slr]⟩
theorem Aqx (o : Bool) : Rs 2 (Ag o) := fun _ => ⟨rfl, rfl⟩
structure SAlgebra where
 Size : Int
 Ops : (List SOp)
 deriving Inhabited, DecidableEq
abbrev Aj (o : Bool) (s : SAlgebra) : V := .agg [Ae s.Size, (slr o 2 (Ak o)) s.Ops]
instance : Fz (Aj true) (Aj false) := ⟨fun s => by simp [V.fz, fzL, Ab, Aj, slr]⟩
instance : Fz (Aj false) (Aj false) := ⟨fun s => by simp [V.fz, fzL, Aj, slr]⟩
instance : NoFz (Aj true) := ⟨fun s => by first | simp [V.noFz, B8, B9] | simp [V.noFz, B8, B9, NoFz.eq, Aj, slr]⟩
theorem Arx (o : Bool) : Rs 2 (Aj o) := fun _ => ⟨rfl, rfl⟩
structure Sfound where
 tables : (List (List Int))
 steps : (List SCloneStep)
 seen : (List (ByteArray × Bool))
 deriving Inhabited, DecidableEq
abbrev Cq (o : Bool) (s : Sfound) : V := .agg [(slr o 1 (slr o 1 Ae)) s.tables, (slr o 2 (Ag o)) s.steps, (rMp o Lf.bool) s.seen]
instance : Fz (Cq true) (Cq false) := ⟨fun s => by simp [V.fz, fzL, Ab, Cq, slr]⟩
instance : Fz (Cq false) (Cq false) := ⟨fun s => by simp [V.fz, fzL, Cq, slr]⟩
instance : NoFz (Cq true) := ⟨fun s => by first | simp [V.noFz, B8, B9] | simp [V.noFz, B8, B9, NoFz.eq, Cq, slr]⟩
theorem Aux (o : Bool) : Rs 3 (Cq o) := fun _ => ⟨rfl, rfl⟩
abbrev Et (s : Sfound) : V := .agg [slr true 1 (slr false 1 Ae) s.tables, slr true 2 (Ag false) s.steps, (rMp true Lf.bool) s.seen]
instance : Fz (Et) (Cq false) := ⟨fun s => by simp [V.fz, fzL, Ab, Et, Cq, slr]⟩
structure Sl12Find where
 tables : (List (List Int))
 steps : (List SCloneStep)
 large : Bool
 deriving Inhabited, DecidableEq
abbrev Ek (o : Bool) (s : Sl12Find) : V := .agg [(slr o 1 (slr o 1 Ae)) s.tables, (slr o 2 (Ag o)) s.steps, V.bool s.large]
instance : Fz (Ek true) (Ek false) := ⟨fun s => by simp [V.fz, fzL, Ab, Ek, slr]⟩
instance : Fz (Ek false) (Ek false) := ⟨fun s => by simp [V.fz, fzL, Ek, slr]⟩
instance : NoFz (Ek true) := ⟨fun s => by first | simp [V.noFz, B8, B9] | simp [V.noFz, B8, B9, NoFz.eq, Ek, slr]⟩
theorem Arw (o : Bool) : Rs 3 (Ek o) := fun _ => ⟨rfl, rfl⟩
abbrev Al (s : Sl12Find) : V := .agg [slr true 1 (slr false 1 Ae) s.tables, slr true 2 (Ag false) s.steps, V.bool s.large]
instance : Fz (Al) (Ek false) := ⟨fun s => by simp [V.fz, fzL, Ab, Al, Ek, slr]⟩
structure Sspan where
 a : SAlgebra
 k : Int
 list : (List (List Int))
 at_ : (List (ByteArray × Int))
 deriving Inhabited, DecidableEq
abbrev Ka (o : Bool) (s : Sspan) : V := .agg [Ae s.a.Size, (slr o 2 (Ak o)) s.a.Ops, Ae s.k, (slr o 1 (slr o 1 Ae)) s.list, (rMp o (Lf.int IntKind.i64)) s.at_]
instance : Fz (Ka true) (Ka false) := ⟨fun s => by simp [V.fz, fzL, Ab, Ka, slr]⟩
instance : Fz (Ka false) (Ka false) := ⟨fun s => by simp [V.fz, fzL, Ka, slr]⟩
instance : NoFz (Ka true) := ⟨fun s => by first | simp [V.noFz, B8, B9] | simp [V.noFz, B8, B9, NoFz.eq, Ka, slr]⟩
theorem Au0 (o : Bool) : Rs 5 (Ka o) := fun _ => ⟨rfl, rfl⟩
abbrev Anq (s : Sspan) : V := .agg [Ae s.a.Size, (slr false 2 (Ak false)) s.a.Ops, Ae s.k, slr true 1 (slr false 1 Ae) s.list, (rMp true (Lf.int IntKind.i64)) s.at_]
instance : Fz (Anq) (Ka false) := ⟨fun s => by simp [V.fz, fzL, Ab, Anq, Ka, slr]⟩
end Go.Proofs.Ytoaojijoefljaaa.Ax
