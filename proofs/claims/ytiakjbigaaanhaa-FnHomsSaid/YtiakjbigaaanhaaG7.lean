/-
 What the functions compute, as functions on plain data, and that the program does compute it; written by program.
-/
import Derived.Test.YtiakjbigaaanhaaCode
import Derived.Test.YtiakjbigaaanhaaG1
import Derived.Test.YtiakjbigaaanhaaG2
import Derived.Test.YtiakjbigaaanhaaG3
import Derived.Test.YtiakjbigaaanhaaG4
import Derived.Test.YtiakjbigaaanhaaG5
import Derived.Test.YtiakjbigaaanhaaG6
namespace Go.Proofs.Ytiakjbigaaanhaa.Ax
open Go
set_option maxRecDepth 100000
set_option maxHeartbeats 4000000
noncomputable def Fa (a0 : SAlgebra) (b0 : SAlgebra) (f0 : (List Int)) : Option Bool :=
 (Ib (a0) (b0) (f0)).bind fun r1 =>
 if (r1) = true then
 (E3 (a0) (b0) (f0)).bind fun r3 =>
 some (decide (r3.fst < (0 : Int)))
 else
 some false
theorem Nr {a0 : SAlgebra} {b0 : SAlgebra} {f0 : (List Int)} {v : Bool} (h : Fa a0 b0 f0 = some v) : Ret Try.prog H6 [(Ae false) a0, (Ae false) b0, (slr false 1 Ag) f0] (V.bool v) := by
 refine Av Akh (Nat.le_of_ble_eq_true rfl) ?_
 unfold Fa at h
 conv => whnf
 refine Cells.lit rfl rfl ?_
 conv => whnf
 refine Cells.lit rfl rfl ?_
 conv => whnf
 refine CallQ.o V.bool (by first | rfl | simp only [Aa, V.fz, fzL, V.up, upL, Ab, Ac, Ad, slr, List.cons_append, List.nil_append] | simp [Aa, V.fz, fzL, V.up, upL, Ab, Ac, Ad, slr]) h (fun r h => Yg h) (fun r1 h => ?_)
 conv => whnf
 refine Br.flip ?_
 conv => whnf
 refine Br.ob h (fun p2 h => ?_) (fun p2 h => ?_)
 ·conv => whnf
  refine Cells.lit rfl rfl ?_
  conv => whnf
  refine Cells.lit rfl rfl ?_
  conv => whnf
  refine CallQ.o (fun r => V.tup [Ag r.1, Ag r.2]) (by first | rfl | simp only [Aa, V.fz, fzL, V.up, upL, Ab, Ac, Ad, slr, List.cons_append, List.nil_append] | simp [Aa, V.fz, fzL, V.up, upL, Ab, Ac, Ad, slr]) h (fun r h => V1 h) (fun r3 h => ?_)
  conv => whnf
  cases h; exact (by first | rfl | simp only [Ah, Aa, V.fz, fzL, V.up, upL, Ab, Ac, Ad, slr] | simp [Ah, Aa, V.fz, fzL, V.up, upL, Ab, Ac, Ad, slr])
 conv => whnf
 cases h; exact (by first | rfl | simp only [Ah, Aa, V.fz, fzL, V.up, upL, Ab, Ac, Ad, slr] | simp [Ah, Aa, V.fz, fzL, V.up, upL, Ab, Ac, Ad, slr])
noncomputable def A7 (c0 : Sl1Cur) (list0 : (List Int)) : Option (Int × Sl1Cur) :=
 (Ak (c0) ((↑list0.length : Int))).bind fun (r1, u2) =>
 ask ((0 : Int) ≤ r1 ∧ r1 < (↑list0.length : Int)) <|
 some (nth list0 r1.toNat, u2)
theorem Bg {c0 : Sl1Cur} {list0 : (List Int)} {v : (Int × Sl1Cur)} (h : A7 c0 list0 = some v) : Tu Try.prog Ba [(rP true (Aj false)) c0, (slr false 1 Ag) list0] (Ag v.1) 0 ((rP true (Aj false)) v.2) := by
 refine Qh Xv (Nat.le_of_ble_eq_true rfl) ?_
 unfold A7 at h
 conv => whnf
 refine Len.map ?_
 conv => whnf
 refine CallQ.io Ag (rP true (Aj false)) (by first | rfl | simp only [Aa, V.fz, fzL, V.up, upL, Ab, Ac, Ad, slr, List.cons_append, List.nil_append] | simp [Aa, V.fz, fzL, V.up, upL, Ab, Ac, Ad, slr]) rfl (fun _ => rfl) (fun _ => ⟨rfl, rfl⟩) rfl h (fun r h => Ar h) (fun r1 u2 h => ?_)
 conv => whnf
 refine Len.map ?_
 conv => whnf
 refine Ask.o h fun p3 h => ?_
 conv => whnf
 refine Elem.o (by first | omega | (simp [Ap] at *; omega)) ?_
 conv => whnf
 cases h; exact ⟨(by first | rfl | simp only [Ah, Aa, V.fz, fzL, V.up, upL, Ab, Ac, Ad, slr] | simp [Ah, Aa, V.fz, fzL, V.up, upL, Ab, Ac, Ad, slr]), (by first | rfl | simp only [Ah, Aa, V.fz, fzL, V.up, upL, Ab, Ac, Ad, slr] | simp [Ah, Aa, V.fz, fzL, V.up, upL, Ab, Ac, Ad, slr])⟩
noncomputable def Ed (a0 : SAlgebra) : (Int × SAlgebra) → Option ((Int × SAlgebra) ⊕ SAlgebra) := fun (x4, x3) =>
 if x4 < (↑a0.Ops.length : Int) then
 ask ((0 : Int) ≤ x4 ∧ x4 < (↑a0.Ops.length : Int)) <|
 (Lv (nth a0.Ops x4.toNat)).bind fun r3 =>
 ask ((x3.Ops).length + ([r3]).length ≤ LIM) <|
 ask (InI (x4 + (1 : Int))) <|
 some (.inl (x4 + (1 : Int), { Size := x3.Size, Ops := x3.Ops ++ [r3] }))
 else
 some (.inr x3)
def M9 (a0 : SAlgebra) : (Int × SAlgebra) → St := fun s => [(4, A.val (Ag s.1)), (3, A.val ((rP true (Ae true)) s.2)), (2, A.val ((rP true (Ae true)) ({ Size := (0 : Int), Ops := Al SOp }))), (1, A.val ((rP true (Ae false)) (a0)))]
def Uk (_a0 : SAlgebra) : SAlgebra → Tgt
 | s => ((Ex.exit 0), [3, 2], [(3, A.val ((rP true (Ae true)) s)), (2, A.val ((rP true (Ae true)) ({ Size := (0 : Int), Ops := Al SOp })))])
theorem Adm {a0 : SAlgebra} (s : (Int × SAlgebra)) (o : (Int × SAlgebra) ⊕ SAlgebra) (h : Ed a0 s = some o) : vc Try.prog T4 (Cc [4, 3, 2, 1] (M9 a0) (Uk a0) o) (M9 a0 s) := by
 obtain ⟨x4, x3⟩ := s
 unfold Ed at h
 try dsimp only at h
 conv => whnf
 refine Cells.lit rfl rfl ?_
 conv => whnf
 refine Len.map ?_
 conv => whnf
 refine Br.od h (fun p1 h => ?_) (fun p1 h => ?_)
 ·conv => whnf
  refine Cells.lit rfl rfl ?_
  conv => whnf
  refine Cells.lit rfl rfl ?_
  conv => whnf
  refine Len.map ?_
  conv => whnf
  refine Ask.o h fun p2 h => ?_
  conv => whnf
  refine Elem.o (by first | omega | (simp [Ap] at *; omega)) ?_
  conv => whnf
  refine CallP.o (A1 true) (by first | rfl | simp only [Aa, V.fz, fzL, V.up, upL, Ab, Ac, Ad, slr, List.cons_append, List.nil_append] | simp [Aa, V.fz, fzL, V.up, upL, Ab, Ac, Ad, slr]) h (fun r h => Ai5 h) (fun r3 h => ?_)
  conv => whnf
  refine BslQ.o (A1 true) [r3] (by exact fun _ => ⟨rfl, rfl⟩) (by first | rfl | simp only [Aa, V.fz, fzL, V.up, upL, Ab, Ac, Ad, slr, List.cons_append, List.nil_append] | simp [Aa, V.fz, fzL, V.up, upL, Ab, Ac, Ad, slr]) ?_
  conv => whnf
  refine NoOwn.own rfl ?_
  conv => whnf
  refine Kid.lit rfl rfl ?_
  conv => whnf
  refine Kid.lit rfl rfl ?_
  conv => whnf
  refine SetKids.lit rfl ?_
  conv => whnf
  refine AppQ.o (m := 2) (A1 true) (by exact fun _ => ⟨rfl, rfl⟩) (x3.Ops) ([r3]) (by first | rfl | simp only [Aa, V.fz, fzL, V.up, upL, Ab, Ac, Ad, slr, List.cons_append, List.nil_append] | simp [Aa, V.fz, fzL, V.up, upL, Ab, Ac, Ad, slr]) (by first | rfl | simp only [Aa, V.fz, fzL, V.up, upL, Ab, Ac, Ad, slr, List.cons_append, List.nil_append] | simp [Aa, V.fz, fzL, V.up, upL, Ab, Ac, Ad, slr]) h fun h => ?_
  conv => whnf
  refine SetKids.lit rfl ?_
  conv => whnf
  refine Ask.o h fun p4 h => ?_
  conv => whnf
  cases h; exact ⟨rfl, rfl⟩
 conv => whnf
 cases h; exact ⟨rfl, rfl⟩
noncomputable def Gi (a0 : SAlgebra) : Option SAlgebra :=
 (Am (Ed a0) ((0 : Int), { Size := a0.Size, Ops := Al SOp })).bind fun q5_3 =>
 some q5_3
theorem Z1 {a0 : SAlgebra} {v : SAlgebra} (h : Gi a0 = some v) : Ret Try.prog N3 [(Ae false) a0] ((Ae true) v) := by
 refine Av Amm (Nat.le_of_ble_eq_true rfl) ?_
 unfold Gi at h
 conv => whnf
 refine Cells.lit rfl rfl ?_
 conv => whnf
 refine SetKids.lit rfl ?_
 conv => whnf
 refine LoopQ.o [4, 3, 2, 1] (M9 a0) (Uk a0) h (fun s o h => Adm s o h) (by first | rfl | simp [restrict, look, Aa, V.fz, fzL, V.up, upL, Ab, Ac, Ad, slr]) (fun _ => rfl) ?_
 rintro q5_3 h
 try dsimp only at h
 conv => whnf
 refine Cells.lit rfl rfl ?_
 conv => whnf
 refine SetKids.lit rfl ?_
 conv => whnf
 cases h; exact (by first | rfl | simp only [Ah, Aa, V.fz, fzL, V.up, upL, Ab, Ac, Ad, slr] | simp [Ah, Aa, V.fz, fzL, V.up, upL, Ab, Ac, Ad, slr])
noncomputable def Dl (l0 : List Int) (n0 : Int) : (Int × (List Bool)) → Option ((Int × (List Bool)) ⊕ (Unit ⊕ Unit)) := fun (x6, x5) =>
 if x6 < n0 then
 ask ((0 : Int) ≤ x6 ∧ x6 < (↑l0.length : Int)) <|
 ask ((0 : Int) ≤ nth l0 x6.toNat ∧ nth l0 x6.toNat < (↑x5.length : Int)) <|
 if (nth x5 (nth l0 x6.toNat).toNat) = true then
 some (.inr (.inl ()))
 else
 ask ((0 : Int) ≤ x6 ∧ x6 < (↑l0.length : Int)) <|
 ask ((0 : Int) ≤ nth l0 x6.toNat ∧ nth l0 x6.toNat < (↑x5.length : Int)) <|
 ask (InI (x6 + (1 : Int))) <|
 some (.inl (x6 + (1 : Int), x5.set (nth l0 x6.toNat).toNat true))
 else
 some (.inr (.inr ()))
def K7 (l0 : List Int) (n0 : Int) : (Int × (List Bool)) → St := fun s => [(6, A.val (Ag s.1)), (5, A.val ((slr true 1 V.bool) s.2)), (0, A.val ((slr false 1 Ag) (l0))), (1, A.val (Ag (n0)))]
def Rj (_l0 : List Int) (_n0 : Int) : (Unit ⊕ Unit) → Tgt
 | (.inl _s) => (Ex.ret, [4], [(4, A.val (V.bool (false)))])
 | (.inr _s) => ((Ex.exit 0), [], [])
theorem Aau {l0 : List Int} {n0 : Int} (s : (Int × (List Bool))) (o : (Int × (List Bool)) ⊕ (Unit ⊕ Unit)) (h : Dl l0 n0 s = some o) : vc Try.prog Sh (Cc [6, 5, 0, 1] (K7 l0 n0) (Rj l0 n0) o) (K7 l0 n0 s) := by
 obtain ⟨x6, x5⟩ := s
 unfold Dl at h
 try dsimp only at h
 conv => whnf
 refine Br.od h (fun p6 h => ?_) (fun p6 h => ?_)
 ·conv => whnf
  refine Len.map ?_
  conv => whnf
  refine Ask.o h fun p7 h => ?_
  conv => whnf
  refine Elem.o (by first | omega | (simp [Ap] at *; omega)) ?_
  conv => whnf
  refine Len.map ?_
  conv => whnf
  refine Ask.o h fun p8 h => ?_
  conv => whnf
  refine Cells.one (fun _ => ⟨rfl, rfl⟩) (by first | omega | (simp [Ap] at *; omega)) ?_
  conv => whnf
  refine Br.ob h (fun p9 h => ?_) (fun p9 h => ?_)
  ·conv => whnf
   cases h; exact ⟨rfl, rfl⟩
  conv => whnf
  refine Len.map ?_
  conv => whnf
  refine Ask.o h fun p10 h => ?_
  conv => whnf
  refine Elem.o (by first | omega | (simp [Ap] at *; omega)) ?_
  conv => whnf
  refine Len.map ?_
  conv => whnf
  refine Ask.o h fun p11 h => ?_
  conv => whnf
  refine SetKids.one (fun _ => ⟨rfl, rfl⟩) (true) (by first | rfl | simp only [Aa, V.fz, fzL, V.up, upL, Ab, Ac, Ad, slr, List.cons_append, List.nil_append] | simp [Aa, V.fz, fzL, V.up, upL, Ab, Ac, Ad, slr]) (by first | omega | (simp [Ap] at *; omega)) ?_
  conv => whnf
  refine Ask.o h fun p12 h => ?_
  conv => whnf
  cases h; exact ⟨rfl, rfl⟩
 conv => whnf
 cases h; exact ⟨rfl, rfl⟩
noncomputable def G6 (l0 : (List Int)) (n0 : Int) : Option Bool :=
 ((if (↑l0.length : Int) ≠ n0 then
 some (.inl ())
 else
 (D5 (n0) (l0)).bind fun r2 =>
 if (r2) = true then
 some (.inr ())
 else
 some (.inl ()) : Option (Unit ⊕ Unit))).bind fun t => match t with
 | (.inl _) => (some false)
 | (.inr _) => (ask ((0 : Int) ≤ n0 ∧ n0 ≤ (↑LIM : Int)) <|
 (Am (Dl l0 n0) ((0 : Int), List.replicate n0.toNat false)).bind fun t => match t with
 | (.inl _) => (some false)
 | (.inr _) => (some true))
theorem Aig {l0 : (List Int)} {n0 : Int} {v : Bool} (h : G6 l0 n0 = some v) : Ret Try.prog Ra [(slr false 1 Ag) l0, Ag n0] (V.bool v) := by
 refine Av Aik (Nat.le_of_ble_eq_true rfl) ?_
 unfold G6 at h
 conv => whnf
 refine CutQ.o (fun t : (Unit ⊕ Unit) => match t with | (.inl s) => (Ex.ret, [4], [(4, A.val (V.bool (false)))]) | (.inr s) => (Ex.normal, [0, 1], [(0, A.val ((slr false 1 Ag) (l0))), (1, A.val (Ag (n0)))])) h ?_ ?_
 ·intro t h
  conv => whnf
  refine Len.map ?_
  conv => whnf
  refine Br.on h (fun p1 h => ?_) (fun p1 h => ?_)
  ·conv => whnf
   refine Br.yes ?_
   conv => whnf
   refine Br.yes ?_
   conv => whnf
   refine Br.yes ?_
   conv => whnf
   refine Br.yes ?_
   conv => whnf
   refine Br.yes ?_
   conv => whnf
   cases h; exact ⟨rfl, rfl⟩
  conv => whnf
  refine Br.no ?_
  conv => whnf
  refine Br.no ?_
  conv => whnf
  refine CallQ.o V.bool (by first | rfl | simp only [Aa, V.fz, fzL, V.up, upL, Ab, Ac, Ad, slr, List.cons_append, List.nil_append] | simp [Aa, V.fz, fzL, V.up, upL, Ab, Ac, Ad, slr]) h (fun r h => Pu h) (fun r2 h => ?_)
  conv => whnf
  refine Br.no ?_
  conv => whnf
  refine Br.no ?_
  conv => whnf
  refine Br.flip ?_
  conv => whnf
  refine Br.ob h (fun p3 h => ?_) (fun p3 h => ?_)
  ·conv => whnf
   cases h; exact ⟨rfl, rfl⟩
  conv => whnf
  cases h; exact ⟨rfl, rfl⟩
 rintro (⟨⟩ | ⟨⟩) h
 ·try dsimp only at h
  conv => whnf
  cases h; exact (by first | rfl | simp only [Ah, Aa, V.fz, fzL, V.up, upL, Ab, Ac, Ad, slr] | simp [Ah, Aa, V.fz, fzL, V.up, upL, Ab, Ac, Ad, slr])
 try dsimp only at h
 conv => whnf
 refine Ask.o h fun p5 h => ?_
 conv => whnf
 refine MkQ.o V.bool (false) rfl ?_
 conv => whnf
 refine LoopQ.o [6, 5, 0, 1] (K7 l0 n0) (Rj l0 n0) h (fun s o h => Aau s o h) (by first | rfl | simp [restrict, look, Aa, V.fz, fzL, V.up, upL, Ab, Ac, Ad, slr]) (by rintro (_ | _) <;> rfl) ?_
 rintro (⟨⟩ | ⟨⟩) h
 ·try dsimp only at h
  conv => whnf
  cases h; exact (by first | rfl | simp only [Ah, Aa, V.fz, fzL, V.up, upL, Ab, Ac, Ad, slr] | simp [Ah, Aa, V.fz, fzL, V.up, upL, Ab, Ac, Ad, slr])
 try dsimp only at h
 conv => whnf
 cases h; exact (by first | rfl | simp only [Ah, Aa, V.fz, fzL, V.up, upL, Ab, Ac, Ad, slr] | simp [Ah, Aa, V.fz, fzL, V.up, upL, Ab, Ac, Ad, slr])
noncomputable def Cq (_s0 : Sl7Search) (f0 : List Int) : Int → Option (Int ⊕ Int) := fun x4 =>
 if x4 < (↑f0.length : Int) then
 ask ((0 : Int) ≤ x4 ∧ x4 < (↑f0.length : Int)) <|
 if nth f0 x4.toNat ≥ (0 : Int) then
 ask (InI (x4 + (1 : Int))) <|
 some (.inl (x4 + (1 : Int)))
 else
 some (.inr x4)
 else
 some (.inr x4)
def Fw (s0 : Sl7Search) (f0 : List Int) : Int → St := fun s => [(4, A.val (Ag s)), (0, A.ref 124 []), (124, A.val ((rP true (A3)) (s0))), (1, A.val ((slr false 1 Ag) (f0)))]
def Jd (s0 : Sl7Search) (f0 : List Int) : Int → Tgt
 | s => ((Ex.exit 0), [4, 0, 124, 1], [(4, A.val (Ag s)), (0, A.ref 124 []), (124, A.val ((rP true (A3)) (s0))), (1, A.val ((slr false 1 Ag) (f0)))])
theorem Ri {s0 : Sl7Search} {f0 : List Int} (x4 : Int) (o : Int ⊕ Int) (h : Cq s0 f0 x4 = some o) : vc Try.prog Jm (Cc [4, 0, 124, 1] (Fw s0 f0) (Jd s0 f0) o) (Fw s0 f0 x4) := by
 unfold Cq at h
 try dsimp only at h
 conv => whnf
 refine Len.map ?_
 conv => whnf
 refine Br.od h (fun p1 h => ?_) (fun p1 h => ?_)
 ·conv => whnf
  refine Br.yes ?_
  conv => whnf
  refine Br.yes ?_
  conv => whnf
  refine Len.map ?_
  conv => whnf
  refine Ask.o h fun p2 h => ?_
  conv => whnf
  refine Elem.o (by first | omega | (simp [Ap] at *; omega)) ?_
  conv => whnf
  refine Br.yes ?_
  conv => whnf
  refine Br.yes ?_
  conv => whnf
  refine Br.yes ?_
  conv => whnf
  refine Br.od h (fun p3 h => ?_) (fun p3 h => ?_)
  ·conv => whnf
   refine Ask.o h fun p4 h => ?_
   conv => whnf
   cases h; exact ⟨rfl, rfl⟩
  conv => whnf
  cases h; exact ⟨rfl, rfl⟩
 conv => whnf
 refine Br.no ?_
 conv => whnf
 refine Br.no ?_
 conv => whnf
 refine Br.no ?_
 conv => whnf
 refine Br.no ?_
 conv => whnf
 refine Br.no ?_
 conv => whnf
 refine Br.no ?_
 conv => whnf
 cases h; exact ⟨rfl, rfl⟩
noncomputable def B4 (self : Sl7Search → List Int → Option (Unit × Sl7Search)) (f0 : List Int) (q5_4 : Int) : (Int × Sl7Search) → Option ((Int × Sl7Search) ⊕ (Sl7Search ⊕ Sl7Search)) := fun (x5, x124) =>
 ((if x5 < x124.b.Size then
 if (↑x124.found.length : Int) < x124.most then
 if x124.tries ≤ (5000 : Int) then
 some (.inl ())
 else
 some (.inr ())
 else
 some (.inr ())
 else
 some (.inr ()) : Option (Unit ⊕ Unit))).bind fun t => match t with
 | (.inl _) => (ask (InI (x124.tries + (1 : Int))) <|
 if x124.tries + (1 : Int) > (5000 : Int) then
 some (.inr (.inl ({ a := x124.a, b := x124.b, into := x124.into, onto := x124.onto, most := x124.most, tries := x124.tries + (1 : Int), found := x124.found })))
 else
 (Ei (f0)).bind fun r17 =>
 ask ((0 : Int) ≤ q5_4 ∧ q5_4 < (↑r17.length : Int)) <|
 (Gf (x124.a) (x124.b) (r17.set q5_4.toNat x5)).bind fun r19 =>
 if (r19.snd) = true then
 if (x124.into) = true then
 (Dr (r19.fst)).bind fun r22 =>
 if (r22) = true then
 (self ({ a := x124.a, b := x124.b, into := x124.into, onto := x124.onto, most := x124.most, tries := x124.tries + (1 : Int), found := x124.found }) (r19.fst)).bind fun (_r24, u25) =>
 ask (InI (x5 + (1 : Int))) <|
 some (.inl (x5 + (1 : Int), u25))
 else
 ask (InI (x5 + (1 : Int))) <|
 some (.inl (x5 + (1 : Int), { a := x124.a, b := x124.b, into := x124.into, onto := x124.onto, most := x124.most, tries := x124.tries + (1 : Int), found := x124.found }))
 else
 (self ({ a := x124.a, b := x124.b, into := x124.into, onto := x124.onto, most := x124.most, tries := x124.tries + (1 : Int), found := x124.found }) (r19.fst)).bind fun (_r28, u29) =>
 ask (InI (x5 + (1 : Int))) <|
 some (.inl (x5 + (1 : Int), u29))
 else
 ask (InI (x5 + (1 : Int))) <|
 some (.inl (x5 + (1 : Int), { a := x124.a, b := x124.b, into := x124.into, onto := x124.onto, most := x124.most, tries := x124.tries + (1 : Int), found := x124.found })))
 | (.inr _) => (some (.inr (.inr x124)))
def F1 (f0 : List Int) (q5_4 : Int) : (Int × Sl7Search) → St := fun s => [(5, A.val (Ag s.1)), (4, A.val (Ag (q5_4))), (0, A.ref 124 []), (124, A.val ((rP true (A3)) s.2)), (1, A.val ((slr false 1 Ag) (f0)))]
def Je (_f0 : List Int) (_q5_4 : Int) : (Sl7Search ⊕ Sl7Search) → Tgt
 | (.inl s) => (Ex.ret, [124], [(124, A.val ((rP true (A3)) s))])
 | (.inr s) => ((Ex.exit 2), [124], [(124, A.val ((rP true (A3)) s))])
theorem Sv {self : Sl7Search → List Int → Option (Unit × Sl7Search)} {f0 : List Int} {q5_4 : Int} (hself : ∀ {w_0 w_1 v}, self w_0 w_1 = some v → Tu Try.prog Bv [(rP true (A3)) w_0, (slr false 1 Ag) w_1] ((fun _r => V.tup []) v.1) 0 ((rP true (A3)) v.2)) (s : (Int × Sl7Search)) (o : (Int × Sl7Search) ⊕ (Sl7Search ⊕ Sl7Search)) (h : B4 self f0 q5_4 s = some o) : vc Try.prog Jh (Cc [5, 4, 0, 124, 1] (F1 f0 q5_4) (Je f0 q5_4) o) (F1 f0 q5_4 s) := by
 obtain ⟨x5, x124⟩ := s
 unfold B4 at h
 try dsimp only at h
 conv => whnf
 refine CutQ.o (fun t : (Unit ⊕ Unit) => match t with | (.inl s) => (Ex.normal, [5, 4, 0, 124, 1], [(5, A.val (Ag (x5))), (4, A.val (Ag (q5_4))), (0, A.ref 124 []), (124, A.val ((rP true (A3)) (x124))), (1, A.val ((slr false 1 Ag) (f0)))]) | (.inr s) => ((Ex.exit 2), [124], [(124, A.val ((rP true (A3)) (x124)))])) h ?_ ?_
 ·intro t h
  conv => whnf
  refine Cells.lit rfl rfl ?_
  conv => whnf
  refine Br.od h (fun p11 h => ?_) (fun p11 h => ?_)
  ·conv => whnf
   refine Br.yes ?_
   conv => whnf
   refine Br.yes ?_
   conv => whnf
   refine Br.yes ?_
   conv => whnf
   refine Cells.lit rfl rfl ?_
   conv => whnf
   refine Br.yes ?_
   conv => whnf
   refine Kid.lit rfl rfl ?_
   conv => whnf
   refine Len.map ?_
   conv => whnf
   refine Br.yes ?_
   conv => whnf
   refine Br.yes ?_
   conv => whnf
   refine Br.yes ?_
   conv => whnf
   refine Br.yes ?_
   conv => whnf
   refine Cells.lit rfl rfl ?_
   conv => whnf
   refine Br.yes ?_
   conv => whnf
   refine Br.yes ?_
   conv => whnf
   refine Br.od h (fun p12 h => ?_) (fun p12 h => ?_)
   ·conv => whnf
    refine Br.yes ?_
    conv => whnf
    refine Br.yes ?_
    conv => whnf
    refine Br.yes ?_
    conv => whnf
    refine Cells.lit rfl rfl ?_
    conv => whnf
    refine Br.yes ?_
    conv => whnf
    refine Br.yes ?_
    conv => whnf
    refine Br.od h (fun p13 h => ?_) (fun p13 h => ?_)
    ·conv => whnf
     cases h; exact ⟨rfl, rfl⟩
    conv => whnf
    cases h; exact ⟨rfl, rfl⟩
   conv => whnf
   refine Br.no ?_
   conv => whnf
   refine Br.no ?_
   conv => whnf
   refine Br.no ?_
   conv => whnf
   refine Br.no ?_
   conv => whnf
   refine Br.no ?_
   conv => whnf
   refine Br.no ?_
   conv => whnf
   cases h; exact ⟨rfl, rfl⟩
  conv => whnf
  refine Br.no ?_
  conv => whnf
  refine Br.no ?_
  conv => whnf
  refine Br.no ?_
  conv => whnf
  refine Br.no ?_
  conv => whnf
  refine Br.no ?_
  conv => whnf
  refine Br.no ?_
  conv => whnf
  refine Br.no ?_
  conv => whnf
  refine Br.no ?_
  conv => whnf
  refine Br.no ?_
  conv => whnf
  refine Br.no ?_
  conv => whnf
  refine Br.no ?_
  conv => whnf
  refine Br.no ?_
  conv => whnf
  refine Br.no ?_
  conv => whnf
  refine Br.no ?_
  conv => whnf
  refine Br.no ?_
  conv => whnf
  refine Br.no ?_
  conv => whnf
  refine Br.no ?_
  conv => whnf
  cases h; exact ⟨rfl, rfl⟩
 rintro (⟨⟩ | ⟨⟩) h
 ·try dsimp only at h
  conv => whnf
  refine Cells.lit rfl rfl ?_
  conv => whnf
  refine Ask.o h fun p15 h => ?_
  conv => whnf
  refine SetKids.lit rfl ?_
  conv => whnf
  refine Cells.lit rfl rfl ?_
  conv => whnf
  refine Br.od h (fun p16 h => ?_) (fun p16 h => ?_)
  ·conv => whnf
   cases h; exact ⟨rfl, rfl⟩
  conv => whnf
  refine CallQ.o (slr true 1 Ag) (by first | rfl | simp only [Aa, V.fz, fzL, V.up, upL, Ab, Ac, Ad, slr, List.cons_append, List.nil_append] | simp [Aa, V.fz, fzL, V.up, upL, Ab, Ac, Ad, slr]) h (fun r h => Nq h) (fun r17 h => ?_)
  conv => whnf
  refine Len.map ?_
  conv => whnf
  refine Ask.o h fun p18 h => ?_
  conv => whnf
  refine SetKids.one (fun _ => ⟨rfl, rfl⟩) (x5) (by first | rfl | simp only [Aa, V.fz, fzL, V.up, upL, Ab, Ac, Ad, slr, List.cons_append, List.nil_append] | simp [Aa, V.fz, fzL, V.up, upL, Ab, Ac, Ad, slr]) (by first | omega | (simp [Ap] at *; omega)) ?_
  conv => whnf
  refine Cells.lit rfl rfl ?_
  conv => whnf
  refine Cells.lit rfl rfl ?_
  conv => whnf
  refine CallP.rd (fun r => V.tup [(slr true 1 Ag) r.1, V.bool r.2]) (by first | rfl | simp only [Aa, V.fz, fzL, Ab, slr] | simp [Aa, V.fz, fzL, V.up, upL, Ab, Ac, Ad, slr]) (fun _ => by simp [V.noFz, B2, Bp]) h (fun r h => U6 h) (fun r19 h => ?_)
  conv => whnf
  refine FrzQ.d (V.sl false (1 : Nat) (List.map Ag r19.fst)) (by first | (simp only [slr]; done) | (simp [A9, V.fz, Ab, slr]; done)) ?_
  conv => whnf
  refine Br.ob h (fun p20 h => ?_) (fun p20 h => ?_)
  ·conv => whnf
   refine Br.yes ?_
   conv => whnf
   refine Br.yes ?_
   conv => whnf
   refine Br.yes ?_
   conv => whnf
   refine Cells.lit rfl rfl ?_
   conv => whnf
   refine Br.yes ?_
   conv => whnf
   refine Br.yes ?_
   conv => whnf
   refine Br.flip ?_
   conv => whnf
   refine Br.ob h (fun p21 h => ?_) (fun p21 h => ?_)
   ·conv => whnf
    refine Br.no ?_
    conv => whnf
    refine CallQ.o V.bool (by first | rfl | simp only [Aa, V.fz, fzL, V.up, upL, Ab, Ac, Ad, slr, List.cons_append, List.nil_append] | simp [Aa, V.fz, fzL, V.up, upL, Ab, Ac, Ad, slr]) h (fun r h => Q1 h) (fun r22 h => ?_)
    conv => whnf
    refine Br.yes ?_
    conv => whnf
    refine Br.no ?_
    conv => whnf
    refine Br.yes ?_
    conv => whnf
    refine Br.ob h (fun p23 h => ?_) (fun p23 h => ?_)
    ·conv => whnf
     refine CallQ.io (fun r => V.tup []) (rP true (A3)) (by first | rfl | simp only [Aa, V.fz, fzL, V.up, upL, Ab, Ac, Ad, slr, List.cons_append, List.nil_append] | simp [Aa, V.fz, fzL, V.up, upL, Ab, Ac, Ad, slr]) rfl (fun _ => rfl) (fun _ => ⟨rfl, rfl⟩) rfl h (fun r h => hself h) (fun r24 u25 h => ?_)
     conv => whnf
     refine Ask.o h fun p26 h => ?_
     conv => whnf
     cases h; exact ⟨rfl, rfl⟩
    conv => whnf
    refine Ask.o h fun p27 h => ?_
    conv => whnf
    cases h; exact ⟨rfl, rfl⟩
   conv => whnf
   refine Br.yes ?_
   conv => whnf
   refine Br.yes ?_
   conv => whnf
   refine Br.yes ?_
   conv => whnf
   refine Br.yes ?_
   conv => whnf
   refine Br.yes ?_
   conv => whnf
   refine CallQ.io (fun r => V.tup []) (rP true (A3)) (by first | rfl | simp only [Aa, V.fz, fzL, V.up, upL, Ab, Ac, Ad, slr, List.cons_append, List.nil_append] | simp [Aa, V.fz, fzL, V.up, upL, Ab, Ac, Ad, slr]) rfl (fun _ => rfl) (fun _ => ⟨rfl, rfl⟩) rfl h (fun r h => hself h) (fun r28 u29 h => ?_)
   conv => whnf
   refine Ask.o h fun p30 h => ?_
   conv => whnf
   cases h; exact ⟨rfl, rfl⟩
  conv => whnf
  refine Br.no ?_
  conv => whnf
  refine Br.no ?_
  conv => whnf
  refine Br.no ?_
  conv => whnf
  refine Br.no ?_
  conv => whnf
  refine Br.no ?_
  conv => whnf
  refine Br.no ?_
  conv => whnf
  refine Br.no ?_
  conv => whnf
  refine Br.no ?_
  conv => whnf
  refine Ask.o h fun p31 h => ?_
  conv => whnf
  cases h; exact ⟨rfl, rfl⟩
 try dsimp only at h
 conv => whnf
 cases h; exact ⟨rfl, rfl⟩
noncomputable def Bn (self : Sl7Search → (List Int) → Option (Unit × Sl7Search)) (s0 : Sl7Search) (f0 : (List Int)) : Option (Unit × Sl7Search) :=
 (Am (Cq s0 f0) (0 : Int)).bind fun q5_4 =>
 if q5_4 = (↑f0.length : Int) then
 ((if (s0.onto) = true then
 (Ir (s0.b.Size) (f0)).bind fun r8 =>
 some r8
 else
 some true : Option Bool)).bind fun q9_39 =>
 if (q9_39) = true then
 ask ((s0.found).length + ([f0]).length ≤ LIM) <|
 some ((), { a := s0.a, b := s0.b, into := s0.into, onto := s0.onto, most := s0.most, tries := s0.tries, found := s0.found ++ [f0] })
 else
 some ((), s0)
 else
 (Am (B4 self f0 q5_4) ((0 : Int), s0)).bind fun t => match t with
 | (.inl q32_124) => (some ((), q32_124))
 | (.inr q32_124) => (some ((), q32_124))
noncomputable def Bc : Nat → Sl7Search → (List Int) → Option (Unit × Sl7Search)
 | 0 => fun _ _ => none
 | n + 1 => Bn (Bc n)
theorem Td {self : Sl7Search → (List Int) → Option (Unit × Sl7Search)} (hself : ∀ {w_0 w_1 v}, self w_0 w_1 = some v → Tu Try.prog Bv [(rP true (A3)) w_0, (slr false 1 Ag) w_1] ((fun _r => V.tup []) v.1) 0 ((rP true (A3)) v.2)) {s0 : Sl7Search} {f0 : (List Int)} {v : (Unit × Sl7Search)} (h : Bn self s0 f0 = some v) : Tu Try.prog Bv [(rP true (A3)) s0, (slr false 1 Ag) f0] ((fun _r => V.tup []) v.1) 0 ((rP true (A3)) v.2) := by
 refine Qh Ur (Nat.le_of_ble_eq_true rfl) ?_
 unfold Bn at h
 conv => whnf
 refine LoopQ.o [4, 0, 124, 1] (Fw s0 f0) (Jd s0 f0) h (fun s o h => Ri s o h) (by first | rfl | simp [restrict, look, Aa, V.fz, fzL, V.up, upL, Ab, Ac, Ad, slr]) (fun _ => rfl) ?_
 rintro q5_4 h
 try dsimp only at h
 conv => whnf
 refine Len.map ?_
 conv => whnf
 refine Br.oe h (fun p6 h => ?_) (fun p6 h => ?_)
 ·conv => whnf
  refine CutQ.o (fun t : Bool => match t with | s => (Ex.normal, [39, 0, 124, 1], [(39, A.val (V.bool s)), (0, A.ref 124 []), (124, A.val ((rP true (A3)) (s0))), (1, A.val ((slr false 1 Ag) (f0)))])) h ?_ ?_
  ·intro t h
   conv => whnf
   refine Cells.lit rfl rfl ?_
   conv => whnf
   refine Br.flip ?_
   conv => whnf
   refine Br.ob h (fun p7 h => ?_) (fun p7 h => ?_)
   ·conv => whnf
    refine Br.no ?_
    conv => whnf
    refine Br.no ?_
    conv => whnf
    refine Br.no ?_
    conv => whnf
    refine Br.no ?_
    conv => whnf
    refine Cells.lit rfl rfl ?_
    conv => whnf
    refine Br.no ?_
    conv => whnf
    refine Br.no ?_
    conv => whnf
    refine CallQ.o V.bool (by first | rfl | simp only [Aa, V.fz, fzL, V.up, upL, Ab, Ac, Ad, slr, List.cons_append, List.nil_append] | simp [Aa, V.fz, fzL, V.up, upL, Ab, Ac, Ad, slr]) h (fun r h => Ai0 h) (fun r8 h => ?_)
    conv => whnf
    refine Br.no ?_
    conv => whnf
    cases h; exact ⟨rfl, rfl⟩
   conv => whnf
   refine Br.yes ?_
   conv => whnf
   refine Br.yes ?_
   conv => whnf
   refine Br.yes ?_
   conv => whnf
   refine Br.yes ?_
   conv => whnf
   refine Br.yes ?_
   conv => whnf
   refine Br.yes ?_
   conv => whnf
   refine Br.yes ?_
   conv => whnf
   cases h; exact ⟨rfl, rfl⟩
  rintro q9_39 h
  try dsimp only at h
  conv => whnf
  refine Br.ob h (fun p10 h => ?_) (fun p10 h => ?_)
  ·conv => whnf
   refine Cells.lit rfl rfl ?_
   conv => whnf
   refine BslQ.o (slr false 1 Ag) [f0] (by exact fun _ => ⟨rfl, rfl⟩) (by first | rfl | simp only [Aa, V.fz, fzL, V.up, upL, Ab, Ac, Ad, slr, List.cons_append, List.nil_append] | simp [Aa, V.fz, fzL, V.up, upL, Ab, Ac, Ad, slr]) ?_
   conv => whnf
   refine NoOwn.o (fun _ => rfl) ?_
   conv => whnf
   refine Kid.lit rfl rfl ?_
   conv => whnf
   refine Kid.lit rfl rfl ?_
   conv => whnf
   refine SetKids.lit rfl ?_
   conv => whnf
   refine AppQ.o (m := 1) (slr false 1 Ag) (by exact fun _ => ⟨rfl, rfl⟩) (s0.found) ([f0]) (by first | rfl | simp only [Aa, V.fz, fzL, V.up, upL, Ab, Ac, Ad, slr, List.cons_append, List.nil_append] | simp [Aa, V.fz, fzL, V.up, upL, Ab, Ac, Ad, slr]) (by first | rfl | simp only [Aa, V.fz, fzL, V.up, upL, Ab, Ac, Ad, slr, List.cons_append, List.nil_append] | simp [Aa, V.fz, fzL, V.up, upL, Ab, Ac, Ad, slr]) h fun h => ?_
   conv => whnf
   refine SetKids.lit rfl ?_
   conv => whnf
   cases h; exact ⟨(by first | rfl | simp only [Ah, Aa, V.fz, fzL, V.up, upL, Ab, Ac, Ad, slr] | simp [Ah, Aa, V.fz, fzL, V.up, upL, Ab, Ac, Ad, slr]), (by first | rfl | simp only [Ah, Aa, V.fz, fzL, V.up, upL, Ab, Ac, Ad, slr] | simp [Ah, Aa, V.fz, fzL, V.up, upL, Ab, Ac, Ad, slr])⟩
  conv => whnf
  cases h; exact ⟨(by first | rfl | simp only [Ah, Aa, V.fz, fzL, V.up, upL, Ab, Ac, Ad, slr] | simp [Ah, Aa, V.fz, fzL, V.up, upL, Ab, Ac, Ad, slr]), (by first | rfl | simp only [Ah, Aa, V.fz, fzL, V.up, upL, Ab, Ac, Ad, slr] | simp [Ah, Aa, V.fz, fzL, V.up, upL, Ab, Ac, Ad, slr])⟩
 conv => whnf
 refine LoopQ.o [5, 4, 0, 124, 1] (F1 f0 q5_4) (Je f0 q5_4) h (fun s o h => Sv hself s o h) (by first | rfl | simp [restrict, look, Aa, V.fz, fzL, V.up, upL, Ab, Ac, Ad, slr]) (by rintro (_ | _) <;> rfl) ?_
 rintro (q32_124 | q32_124) h
 ·try dsimp only at h
  conv => whnf
  cases h; exact ⟨(by first | rfl | simp only [Ah, Aa, V.fz, fzL, V.up, upL, Ab, Ac, Ad, slr] | simp [Ah, Aa, V.fz, fzL, V.up, upL, Ab, Ac, Ad, slr]), (by first | rfl | simp only [Ah, Aa, V.fz, fzL, V.up, upL, Ab, Ac, Ad, slr] | simp [Ah, Aa, V.fz, fzL, V.up, upL, Ab, Ac, Ad, slr])⟩
 try dsimp only at h
 conv => whnf
 cases h; exact ⟨(by first | rfl | simp only [Ah, Aa, V.fz, fzL, V.up, upL, Ab, Ac, Ad, slr] | simp [Ah, Aa, V.fz, fzL, V.up, upL, Ab, Ac, Ad, slr]), (by first | rfl | simp only [Ah, Aa, V.fz, fzL, V.up, upL, Ab, Ac, Ad, slr] | simp [Ah, Aa, V.fz, fzL, V.up, upL, Ab, Ac, Ad, slr])⟩
theorem J5 : ∀ (n : Nat) {s0 : Sl7Search} {f0 : (List Int)} {v : (Unit × Sl7Search)}, Bc n s0 f0 = some v → Tu Try.prog Bv [(rP true (A3)) s0, (slr false 1 Ag) f0] ((fun _r => V.tup []) v.1) 0 ((rP true (A3)) v.2)
 | 0, _, _, _, h => by cases h
 | n + 1, _, _, _, h => Td (fun h => J5 n h) h
theorem Mc {s0 : Sl7Search} {f0 : (List Int)} {v : (Unit × Sl7Search)} (h : (Anr fun n => Bc n s0 f0) = some v) : Tu Try.prog Bv [(rP true (A3)) s0, (slr false 1 Ag) f0] ((fun _r => V.tup []) v.1) 0 ((rP true (A3)) v.2) := by
 obtain ⟨n, hn⟩ := Atk h
 exact J5 n hn
noncomputable def Fp (a0 : SAlgebra) : (Int × (List Bool)) → Option ((Int × (List Bool)) ⊕ (List Bool)) := fun (x6, x5) =>
 if x6 ≤ a0.Size then
 (Iv (a0) (x5)).bind fun r3 =>
 ask (InI (x6 + (1 : Int))) <|
 some (.inl (x6 + (1 : Int), r3))
 else
 some (.inr x5)
def Kg (a0 : SAlgebra) : (Int × (List Bool)) → St := fun s => [(6, A.val (Ag s.1)), (5, A.val ((slr true 1 V.bool) s.2)), (2, A.val ((rP true (Ae false)) (a0)))]
def Ql (_a0 : SAlgebra) : (List Bool) → Tgt
 | s => ((Ex.exit 0), [5], [(5, A.val ((slr true 1 V.bool) s))])
theorem Yv {a0 : SAlgebra} (s : (Int × (List Bool))) (o : (Int × (List Bool)) ⊕ (List Bool)) (h : Fp a0 s = some o) : vc Try.prog P2 (Cc [6, 5, 2] (Kg a0) (Ql a0) o) (Kg a0 s) := by
 obtain ⟨x6, x5⟩ := s
 unfold Fp at h
 try dsimp only at h
 conv => whnf
 refine Cells.lit rfl rfl ?_
 conv => whnf
 refine Br.od h (fun p2 h => ?_) (fun p2 h => ?_)
 ·conv => whnf
  refine Cells.lit rfl rfl ?_
  conv => whnf
  refine CallQ.rd (slr true 1 V.bool) (by first | rfl | simp only [V.fz, fzL, Ab, slr] | simp [Aa, V.fz, fzL, V.up, upL, Ab, Ac, Ad, slr]) (fun _ => by simp [V.noFz, Bp]) h (fun r h => Aiq h) (fun r3 h => ?_)
  conv => whnf
  refine Ask.o h fun p4 h => ?_
  conv => whnf
  cases h; exact ⟨rfl, rfl⟩
 conv => whnf
 cases h; exact ⟨rfl, rfl⟩
noncomputable def Hw (a0 : SAlgebra) (some0 : (List Int)) : Option (List Int) :=
 (Mt (a0.Size) (some0)).bind fun r1 =>
 (Am (Fp a0) ((0 : Int), r1)).bind fun q5_5 =>
 (Im (q5_5)).bind fun r6 =>
 some r6
theorem Ag3 {a0 : SAlgebra} {some0 : (List Int)} {v : (List Int)} (h : Hw a0 some0 = some v) : Ret Try.prog Oi [(Ae false) a0, (slr false 1 Ag) some0] ((slr true 1 Ag) v) := by
 refine Av Agl (Nat.le_of_ble_eq_true rfl) ?_
 unfold Hw at h
 conv => whnf
 refine Cells.lit rfl rfl ?_
 conv => whnf
 refine CallQ.o (slr true 1 V.bool) (by first | rfl | simp only [Aa, V.fz, fzL, V.up, upL, Ab, Ac, Ad, slr, List.cons_append, List.nil_append] | simp [Aa, V.fz, fzL, V.up, upL, Ab, Ac, Ad, slr]) h (fun r h => Ans h) (fun r1 h => ?_)
 conv => whnf
 refine LoopQ.o [6, 5, 2] (Kg a0) (Ql a0) h (fun s o h => Yv s o h) (by first | rfl | simp [restrict, look, Aa, V.fz, fzL, V.up, upL, Ab, Ac, Ad, slr]) (fun _ => rfl) ?_
 rintro q5_5 h
 try dsimp only at h
 conv => whnf
 refine CallQ.rd (slr true 1 Ag) (by first | rfl | simp only [V.fz, Ab, slr] | simp [Aa, V.fz, fzL, V.up, upL, Ab, Ac, Ad, slr]) (fun _ => by simp [V.noFz, Bp]) h (fun r h => Ai6 h) (fun r6 h => ?_)
 conv => whnf
 cases h; exact (by first | rfl | simp only [Ah, Aa, V.fz, fzL, V.up, upL, Ab, Ac, Ad, slr] | simp [Ah, Aa, V.fz, fzL, V.up, upL, Ab, Ac, Ad, slr])
end Go.Proofs.Ytiakjbigaaanhaa.Ax
