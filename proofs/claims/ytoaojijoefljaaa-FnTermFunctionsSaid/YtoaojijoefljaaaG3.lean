/-
 What the functions compute, as functions on plain data, and that the program does compute it; written by program.
-/
import Derived.Test.YtoaojijoefljaaaCode
import Derived.Test.YtoaojijoefljaaaG1
import Derived.Test.YtoaojijoefljaaaG2
namespace Go.Proofs.Ytoaojijoefljaaa.Ax
open Go
set_option maxRecDepth 100000
set_option maxHeartbeats 4000000
noncomputable def Ep (k0 : Int) (tables0 : List (List Int)) : (Int × (List SOp)) → Option ((Int × (List SOp)) ⊕ (List SOp)) := fun (x11, x5) =>
 if x11 < (↑tables0.length : Int) then
 ask ((0 : Int) ≤ x11 ∧ x11 < (↑tables0.length : Int)) <|
 (Im (nth tables0 x11.toNat)).bind fun r3 =>
 ask ((x5).length + (([{ Arity := k0, Table := r3 }] : List SOp)).length ≤ LIM) <|
 ask (InI (x11 + (1 : Int))) <|
 some (.inl (x11 + (1 : Int), x5 ++ [{ Arity := k0, Table := r3 }]))
 else
 some (.inr x5)
def Mr (k0 : Int) (tables0 : List (List Int)) : (Int × (List SOp)) → St := fun s => [(11, A.val (Ae s.1)), (10, A.val (Ae ((↑tables0.length : Int)))), (9, A.val ((slr false 1 (slr false 1 Ae)) (tables0))), (5, A.val ((slr true 2 (Ak true)) s.2)), (0, A.val (Ae (k0)))]
def S3 (_k0 : Int) (_tables0 : List (List Int)) : (List SOp) → Tgt
 | s => ((Ex.exit 0), [5], [(5, A.val ((slr true 2 (Ak true)) s))])
theorem Aci {k0 : Int} {tables0 : List (List Int)} (s : (Int × (List SOp))) (o : (Int × (List SOp)) ⊕ (List SOp)) (h : Ep k0 tables0 s = some o) : vc Try.prog S4 (Ef [11, 10, 9, 5, 0] (Mr k0 tables0) (S3 k0 tables0) o) (Mr k0 tables0 s) := by
 obtain ⟨x11, x5⟩ := s
 unfold Ep at h
 try dsimp only at h
 conv => whnf
 refine Br.od h (fun p1 h => ?_) (fun p1 h => ?_)
 ·conv => whnf
  refine Len.map ?_
  conv => whnf
  refine Ask.o h fun p2 h => ?_
  conv => whnf
  refine Elem.o (by first | omega | (simp [Bc] at * <;> omega)) ?_
  conv => whnf
  refine CallQ.o (slr true 1 Ae) (by first | rfl | simp only [Aa, V.fz, fzL, V.up, upL, Ab, Ac, Ad, slr, List.cons_append, List.nil_append] | simp [Aa, V.fz, fzL, V.up, upL, Ab, Ac, Ad, slr]) h (fun r h => Kc h) (fun r3 h => ?_)
  conv => whnf
  refine BslQ.o (Ak true) ([{ Arity := k0, Table := r3 }]) (by exact fun _ => ⟨rfl, rfl⟩) (by first | rfl | simp only [Aa, V.fz, fzL, V.up, upL, Ab, Ac, Ad, slr, List.cons_append, List.nil_append] | simp [Aa, V.fz, fzL, V.up, upL, Ab, Ac, Ad, slr]) ?_
  conv => whnf
  refine NoOwn.own rfl ?_
  conv => whnf
  refine AppQ.o (m := 2) (Ak true) (by exact fun _ => ⟨rfl, rfl⟩) (x5) ([{ Arity := k0, Table := r3 }]) (by first | rfl | simp only [Aa, V.fz, fzL, V.up, upL, Ab, Ac, Ad, slr, List.cons_append, List.nil_append] | simp [Aa, V.fz, fzL, V.up, upL, Ab, Ac, Ad, slr]) (by first | rfl | simp only [Aa, V.fz, fzL, V.up, upL, Ab, Ac, Ad, slr, List.cons_append, List.nil_append] | simp [Aa, V.fz, fzL, V.up, upL, Ab, Ac, Ad, slr]) h fun h => ?_
  conv => whnf
  refine Ask.o h fun p4 h => ?_
  conv => whnf
  cases h; exact ⟨rfl, rfl⟩
 conv => whnf
 cases h; exact ⟨rfl, rfl⟩
noncomputable def Ib (k0 : Int) (tables0 : (List (List Int))) : Option (List SOp) :=
 (At (Ep k0 tables0) ((0 : Int), Ar SOp)).bind fun q5_5 =>
 some q5_5
theorem Zg {k0 : Int} {tables0 : (List (List Int))} {v : (List SOp)} (h : Ib k0 tables0 = some v) : Ret Try.prog Nd [Ae k0, (slr false 1 (slr false 1 Ae)) tables0] ((slr true 2 (Ak true)) v) := by
 refine Bm Ahn (Nat.le_of_ble_eq_true rfl) ?_
 unfold Ib at h
 conv => whnf
 refine BslQ.o (Ak true) (Ar SOp) (by exact fun _ => ⟨rfl, rfl⟩) (by first | rfl | simp only [Aa, V.fz, fzL, V.up, upL, Ab, Ac, Ad, slr, List.cons_append, List.nil_append] | simp [Aa, V.fz, fzL, V.up, upL, Ab, Ac, Ad, slr]) ?_
 conv => whnf
 refine Len.map ?_
 conv => whnf
 refine LoopQ.o [11, 10, 9, 5, 0] (Mr k0 tables0) (S3 k0 tables0) h (fun s o h => Aci s o h) (by first | rfl | simp [restrict, look, Aa, V.fz, fzL, V.up, upL, Ab, Ac, Ad, slr]) (fun _ => rfl) ?_
 rintro q5_5 h
 try dsimp only at h
 conv => whnf
 cases h; exact (by first | rfl | simp only [Ah, Aa, V.fz, fzL, V.up, upL, Ab, Ac, Ad, slr] | simp [Ah, Aa, V.fz, fzL, V.up, upL, Ab, Ac, Ad, slr])
noncomputable def Dx (n0 : Int) (k0 : Int) : Option Bool :=
 (Gn (k0) ((1 : Int)) ((3 : Int))).bind fun r1 =>
 if (r1) = true then
 (Cu (n0) (k0)).bind fun r3 =>
 some (decide (r3 ≤ (27 : Int)))
 else
 some false
theorem Lm {n0 : Int} {k0 : Int} {v : Bool} (h : Dx n0 k0 = some v) : Ret Try.prog F7 [Ae n0, Ae k0] (V.bool v) := by
 refine Bm Z2 (Nat.le_of_ble_eq_true rfl) ?_
 unfold Dx at h
 conv => whnf
 refine CallQ.o V.bool (by first | rfl | simp only [Aa, V.fz, fzL, V.up, upL, Ab, Ac, Ad, slr, List.cons_append, List.nil_append] | simp [Aa, V.fz, fzL, V.up, upL, Ab, Ac, Ad, slr]) h (fun r h => Pa h) (fun r1 h => ?_)
 conv => whnf
 refine Br.ob h (fun p2 h => ?_) (fun p2 h => ?_)
 ·conv => whnf
  refine Br.yes ?_
  conv => whnf
  refine Br.yes ?_
  conv => whnf
  refine CallQ.o Ae (by first | rfl | simp only [Aa, V.fz, fzL, V.up, upL, Ab, Ac, Ad, slr, List.cons_append, List.nil_append] | simp [Aa, V.fz, fzL, V.up, upL, Ab, Ac, Ad, slr]) h (fun r h => Id h) (fun r3 h => ?_)
  conv => whnf
  refine Br.yes ?_
  conv => whnf
  refine Br.yes ?_
  conv => whnf
  cases h; exact (by first | rfl | simp only [Ah, Aa, V.fz, fzL, V.up, upL, Ab, Ac, Ad, slr] | simp [Ah, Aa, V.fz, fzL, V.up, upL, Ab, Ac, Ad, slr])
 conv => whnf
 refine Br.no ?_
 conv => whnf
 refine Br.no ?_
 conv => whnf
 refine Br.no ?_
 conv => whnf
 refine Br.no ?_
 conv => whnf
 cases h; exact (by first | rfl | simp only [Ah, Aa, V.fz, fzL, V.up, upL, Ab, Ac, Ad, slr] | simp [Ah, Aa, V.fz, fzL, V.up, upL, Ab, Ac, Ad, slr])
noncomputable def D1 (k0 : Int) (tables0 : List (List Int)) : (Int × (List SOp)) → Option ((Int × (List SOp)) ⊕ (List SOp)) := fun (x6, x5) =>
 if x6 < (↑tables0.length : Int) then
 ask ((0 : Int) ≤ x6 ∧ x6 < (↑tables0.length : Int)) <|
 (Gv (nth tables0 x6.toNat)).bind fun r3 =>
 ask ((x5).length + (([{ Arity := k0, Table := r3 }] : List SOp)).length ≤ LIM) <|
 ask (InI (x6 + (1 : Int))) <|
 some (.inl (x6 + (1 : Int), x5 ++ [{ Arity := k0, Table := r3 }]))
 else
 some (.inr x5)
def Lc (k0 : Int) (tables0 : List (List Int)) : (Int × (List SOp)) → St := fun s => [(6, A.val (Ae s.1)), (5, A.val ((slr true 2 (Ak true)) s.2)), (0, A.val (Ae (k0))), (1, A.val ((slr false 1 (slr false 1 Ae)) (tables0)))]
def Rd (_k0 : Int) (_tables0 : List (List Int)) : (List SOp) → Tgt
 | s => ((Ex.exit 0), [5], [(5, A.val ((slr true 2 (Ak true)) s))])
theorem Z1 {k0 : Int} {tables0 : List (List Int)} (s : (Int × (List SOp))) (o : (Int × (List SOp)) ⊕ (List SOp)) (h : D1 k0 tables0 s = some o) : vc Try.prog Ro (Ef [6, 5, 0, 1] (Lc k0 tables0) (Rd k0 tables0) o) (Lc k0 tables0 s) := by
 obtain ⟨x6, x5⟩ := s
 unfold D1 at h
 try dsimp only at h
 conv => whnf
 refine Len.map ?_
 conv => whnf
 refine Br.od h (fun p1 h => ?_) (fun p1 h => ?_)
 ·conv => whnf
  refine Len.map ?_
  conv => whnf
  refine Ask.o h fun p2 h => ?_
  conv => whnf
  refine Elem.o (by first | omega | (simp [Bc] at * <;> omega)) ?_
  conv => whnf
  refine CallQ.o (slr true 1 Ae) (by first | rfl | simp only [Aa, V.fz, fzL, V.up, upL, Ab, Ac, Ad, slr, List.cons_append, List.nil_append] | simp [Aa, V.fz, fzL, V.up, upL, Ab, Ac, Ad, slr]) h (fun r h => Rz h) (fun r3 h => ?_)
  conv => whnf
  refine BslQ.o (Ak true) ([{ Arity := k0, Table := r3 }]) (by exact fun _ => ⟨rfl, rfl⟩) (by first | rfl | simp only [Aa, V.fz, fzL, V.up, upL, Ab, Ac, Ad, slr, List.cons_append, List.nil_append] | simp [Aa, V.fz, fzL, V.up, upL, Ab, Ac, Ad, slr]) ?_
  conv => whnf
  refine NoOwn.own rfl ?_
  conv => whnf
  refine AppQ.o (m := 2) (Ak true) (by exact fun _ => ⟨rfl, rfl⟩) (x5) ([{ Arity := k0, Table := r3 }]) (by first | rfl | simp only [Aa, V.fz, fzL, V.up, upL, Ab, Ac, Ad, slr, List.cons_append, List.nil_append] | simp [Aa, V.fz, fzL, V.up, upL, Ab, Ac, Ad, slr]) (by first | rfl | simp only [Aa, V.fz, fzL, V.up, upL, Ab, Ac, Ad, slr, List.cons_append, List.nil_append] | simp [Aa, V.fz, fzL, V.up, upL, Ab, Ac, Ad, slr]) h fun h => ?_
  conv => whnf
  refine Ask.o h fun p4 h => ?_
  conv => whnf
  cases h; exact ⟨rfl, rfl⟩
 conv => whnf
 cases h; exact ⟨rfl, rfl⟩
noncomputable def I4 (k0 : Int) (tables0 : (List (List Int))) : Option (List SOp) :=
 (At (D1 k0 tables0) ((0 : Int), Ar SOp)).bind fun q5_5 =>
 some q5_5
theorem Afh {k0 : Int} {tables0 : (List (List Int))} {v : (List SOp)} (h : I4 k0 tables0 = some v) : Ret Try.prog Qg [Ae k0, (slr false 1 (slr false 1 Ae)) tables0] ((slr true 2 (Ak true)) v) := by
 refine Bm Af5 (Nat.le_of_ble_eq_true rfl) ?_
 unfold I4 at h
 conv => whnf
 refine BslQ.o (Ak true) (Ar SOp) (by exact fun _ => ⟨rfl, rfl⟩) (by first | rfl | simp only [Aa, V.fz, fzL, V.up, upL, Ab, Ac, Ad, slr, List.cons_append, List.nil_append] | simp [Aa, V.fz, fzL, V.up, upL, Ab, Ac, Ad, slr]) ?_
 conv => whnf
 refine LoopQ.o [6, 5, 0, 1] (Lc k0 tables0) (Rd k0 tables0) h (fun s o h => Z1 s o h) (by first | rfl | simp [restrict, look, Aa, V.fz, fzL, V.up, upL, Ab, Ac, Ad, slr]) (fun _ => rfl) ?_
 rintro q5_5 h
 try dsimp only at h
 conv => whnf
 cases h; exact (by first | rfl | simp only [Ah, Aa, V.fz, fzL, V.up, upL, Ab, Ac, Ad, slr] | simp [Ah, Aa, V.fz, fzL, V.up, upL, Ab, Ac, Ad, slr])
noncomputable def Ck (n0 : Int) (k0 : Int) (place0 : Int) (r1 : Int) : (Int × (List Int)) → Option ((Int × (List Int)) ⊕ (List Int)) := fun (x15, x7) =>
 if x15 < (↑r1.toNat : Int) then
 (F4 (x15) (k0) (n0)).bind fun r4 =>
 ask ((0 : Int) ≤ place0 ∧ place0 < (↑r4.length : Int)) <|
 ask ((0 : Int) ≤ x15 ∧ x15 < (↑x7.length : Int)) <|
 ask (InI (x15 + (1 : Int))) <|
 some (.inl (x15 + (1 : Int), x7.set x15.toNat (nth r4 place0.toNat)))
 else
 some (.inr x7)
def Hp (n0 : Int) (k0 : Int) (place0 : Int) (r1 : Int) : (Int × (List Int)) → St := fun s => [(15, A.val (Ae s.1)), (14, A.val (Ae ((↑r1.toNat : Int)))), (7, A.val ((slr true 1 Ae) s.2)), (0, A.val (Ae (n0))), (1, A.val (Ae (k0))), (2, A.val (Ae (place0)))]
def L6 (_n0 : Int) (_k0 : Int) (_place0 : Int) (_r1 : Int) : (List Int) → Tgt
 | s => ((Ex.exit 0), [7], [(7, A.val ((slr true 1 Ae) s))])
theorem U5 {n0 : Int} {k0 : Int} {place0 : Int} {r1 : Int} (s : (Int × (List Int))) (o : (Int × (List Int)) ⊕ (List Int)) (h : Ck n0 k0 place0 r1 s = some o) : vc Try.prog Mb (Ef [15, 14, 7, 0, 1, 2] (Hp n0 k0 place0 r1) (L6 n0 k0 place0 r1) o) (Hp n0 k0 place0 r1 s) := by
 obtain ⟨x15, x7⟩ := s
 unfold Ck at h
 try dsimp only at h
 conv => whnf
 refine Br.od h (fun p3 h => ?_) (fun p3 h => ?_)
 ·conv => whnf
  refine CallQ.o (slr true 1 Ae) (by first | rfl | simp only [Aa, V.fz, fzL, V.up, upL, Ab, Ac, Ad, slr, List.cons_append, List.nil_append] | simp [Aa, V.fz, fzL, V.up, upL, Ab, Ac, Ad, slr]) h (fun r h => Qf h) (fun r4 h => ?_)
  conv => whnf
  refine Len.map ?_
  conv => whnf
  refine Ask.o h fun p5 h => ?_
  conv => whnf
  refine Cells.one (fun _ => ⟨rfl, rfl⟩) (by first | omega | (simp [Bc] at * <;> omega)) ?_
  conv => whnf
  refine Len.map ?_
  conv => whnf
  refine Ask.o h fun p6 h => ?_
  conv => whnf
  refine SetKids.one (fun _ => ⟨rfl, rfl⟩) (nth r4 place0.toNat) (by first | rfl | simp only [Aa, V.fz, fzL, V.up, upL, Ab, Ac, Ad, slr, List.cons_append, List.nil_append] | simp [Aa, V.fz, fzL, V.up, upL, Ab, Ac, Ad, slr]) (by first | omega | (simp [Bc] at * <;> omega)) ?_
  conv => whnf
  refine Ask.o h fun p7 h => ?_
  conv => whnf
  cases h; exact ⟨rfl, rfl⟩
 conv => whnf
 cases h; exact ⟨rfl, rfl⟩
noncomputable def Dh (n0 : Int) (k0 : Int) (place0 : Int) : Option (List Int) :=
 (Cc (n0) (k0)).bind fun r1 =>
 ask ((0 : Int) ≤ r1 ∧ r1 ≤ (↑LIM : Int)) <|
 (At (Ck n0 k0 place0 r1) ((0 : Int), List.replicate r1.toNat (0 : Int))).bind fun q8_7 =>
 some q8_7
theorem K4 {n0 : Int} {k0 : Int} {place0 : Int} {v : (List Int)} (h : Dh n0 k0 place0 = some v) : Ret Try.prog Fp [Ae n0, Ae k0, Ae place0] ((slr true 1 Ae) v) := by
 refine Bm Zm (Nat.le_of_ble_eq_true rfl) ?_
 unfold Dh at h
 conv => whnf
 refine CallQ.o Ae (by first | rfl | simp only [Aa, V.fz, fzL, V.up, upL, Ab, Ac, Ad, slr, List.cons_append, List.nil_append] | simp [Aa, V.fz, fzL, V.up, upL, Ab, Ac, Ad, slr]) h (fun r h => Fu h) (fun r1 h => ?_)
 conv => whnf
 refine Ask.o h fun p2 h => ?_
 conv => whnf
 refine MkQ.o Ae ((0 : Int)) rfl ?_
 conv => whnf
 refine Len.mrep ?_
 conv => whnf
 refine LoopQ.o [15, 14, 7, 0, 1, 2] (Hp n0 k0 place0 r1) (L6 n0 k0 place0 r1) h (fun s o h => U5 s o h) (by first | rfl | simp [restrict, look, Aa, V.fz, fzL, V.up, upL, Ab, Ac, Ad, slr]) (fun _ => rfl) ?_
 rintro q8_7 h
 try dsimp only at h
 conv => whnf
 cases h; exact (by first | rfl | simp only [Ah, Aa, V.fz, fzL, V.up, upL, Ab, Ac, Ad, slr] | simp [Ah, Aa, V.fz, fzL, V.up, upL, Ab, Ac, Ad, slr])
noncomputable def Fa (n0 : Int) (op0 : SOp) : Int → Option (Int ⊕ (Unit ⊕ Unit)) := fun x5 =>
 if x5 < (↑op0.Table.length : Int) then
 ask ((0 : Int) ≤ x5 ∧ x5 < (↑op0.Table.length : Int)) <|
 ask (InI (n0 - (1 : Int))) <|
 (Gn (nth op0.Table x5.toNat) ((0 : Int)) (n0 - (1 : Int))).bind fun r9 =>
 if (r9) = true then
 ask (InI (x5 + (1 : Int))) <|
 some (.inl (x5 + (1 : Int)))
 else
 some (.inr (.inl ()))
 else
 some (.inr (.inr ()))
def Oo (n0 : Int) (op0 : SOp) : Int → St := fun s => [(5, A.val (Ae s)), (3, A.val ((rP true (Ak false)) (op0))), (0, A.val (Ae (n0)))]
def Tz (_n0 : Int) (_op0 : SOp) : (Unit ⊕ Unit) → Tgt
 | (.inl _s) => (Ex.ret, [4], [(4, A.val (V.bool (false)))])
 | (.inr _s) => ((Ex.exit 0), [], [])
theorem Adt {n0 : Int} {op0 : SOp} (x5 : Int) (o : Int ⊕ (Unit ⊕ Unit)) (h : Fa n0 op0 x5 = some o) : vc Try.prog Uv (Ef [5, 3, 0] (Oo n0 op0) (Tz n0 op0) o) (Oo n0 op0 x5) := by
 unfold Fa at h
 try dsimp only at h
 conv => whnf
 refine Cells.lit rfl rfl ?_
 conv => whnf
 refine Len.map ?_
 conv => whnf
 refine Br.od h (fun p6 h => ?_) (fun p6 h => ?_)
 ·conv => whnf
  refine Cells.lit rfl rfl ?_
  conv => whnf
  refine Len.map ?_
  conv => whnf
  refine Ask.o h fun p7 h => ?_
  conv => whnf
  refine Elem.o (by first | omega | (simp [Bc] at * <;> omega)) ?_
  conv => whnf
  refine Ask.o h fun p8 h => ?_
  conv => whnf
  refine CallQ.o V.bool (by first | rfl | simp only [Aa, V.fz, fzL, V.up, upL, Ab, Ac, Ad, slr, List.cons_append, List.nil_append] | simp [Aa, V.fz, fzL, V.up, upL, Ab, Ac, Ad, slr]) h (fun r h => Pa h) (fun r9 h => ?_)
  conv => whnf
  refine Br.flip ?_
  conv => whnf
  refine Br.ob h (fun p10 h => ?_) (fun p10 h => ?_)
  ·conv => whnf
   refine Ask.o h fun p11 h => ?_
   conv => whnf
   cases h; exact ⟨rfl, rfl⟩
  conv => whnf
  cases h; exact ⟨rfl, rfl⟩
 conv => whnf
 cases h; exact ⟨rfl, rfl⟩
noncomputable def Hl (n0 : Int) (op0 : SOp) : Option Bool :=
 (((Gn (op0.Arity) ((0 : Int)) ((3 : Int))).bind fun r1 =>
 if (r1) = true then
 (Cu (n0) (op0.Arity)).bind fun r3 =>
 if (↑op0.Table.length : Int) ≠ r3 then
 some (.inl ())
 else
 some (.inr ())
 else
 some (.inl ()) : Option (Unit ⊕ Unit))).bind fun t => match t with
 | (.inl _) => (some false)
 | (.inr _) => ((At (Fa n0 op0) (0 : Int)).bind fun t => match t with
 | (.inl _) => (some false)
 | (.inr _) => (some true))
theorem Abk {n0 : Int} {op0 : SOp} {v : Bool} (h : Hl n0 op0 = some v) : Ret Try.prog O6 [Ae n0, (Ak false) op0] (V.bool v) := by
 refine Bm Ak4 (Nat.le_of_ble_eq_true rfl) ?_
 unfold Hl at h
 conv => whnf
 refine CutQ.o (fun t : (Unit ⊕ Unit) => match t with | (.inl s) => (Ex.ret, [4], [(4, A.val (V.bool (false)))]) | (.inr s) => (Ex.normal, [3, 0], [(3, A.val ((rP true (Ak false)) (op0))), (0, A.val (Ae (n0)))])) h ?_ ?_
 ·intro t h
  conv => whnf
  refine Cells.lit rfl rfl ?_
  conv => whnf
  refine CallP.o V.bool (by first | rfl | simp only [Aa, V.fz, fzL, V.up, upL, Ab, Ac, Ad, slr, List.cons_append, List.nil_append] | simp [Aa, V.fz, fzL, V.up, upL, Ab, Ac, Ad, slr]) h (fun r h => Pa h) (fun r1 h => ?_)
  conv => whnf
  refine Br.flip ?_
  conv => whnf
  refine Br.ob h (fun p2 h => ?_) (fun p2 h => ?_)
  ·conv => whnf
   refine Br.no ?_
   conv => whnf
   refine Cells.lit rfl rfl ?_
   conv => whnf
   refine Br.no ?_
   conv => whnf
   refine Len.map ?_
   conv => whnf
   refine Br.no ?_
   conv => whnf
   refine Br.no ?_
   conv => whnf
   refine Br.no ?_
   conv => whnf
   refine Cells.lit rfl rfl ?_
   conv => whnf
   refine Br.no ?_
   conv => whnf
   refine CallP.o Ae (by first | rfl | simp only [Aa, V.fz, fzL, V.up, upL, Ab, Ac, Ad, slr, List.cons_append, List.nil_append] | simp [Aa, V.fz, fzL, V.up, upL, Ab, Ac, Ad, slr]) h (fun r h => Id h) (fun r3 h => ?_)
   conv => whnf
   refine Br.no ?_
   conv => whnf
   refine Br.no ?_
   conv => whnf
   refine Br.on h (fun p4 h => ?_) (fun p4 h => ?_)
   ·conv => whnf
    cases h; exact ⟨rfl, rfl⟩
   conv => whnf
   cases h; exact ⟨rfl, rfl⟩
  conv => whnf
  refine Br.yes ?_
  conv => whnf
  refine Br.yes ?_
  conv => whnf
  refine Br.yes ?_
  conv => whnf
  refine Br.yes ?_
  conv => whnf
  refine Br.yes ?_
  conv => whnf
  refine Br.yes ?_
  conv => whnf
  refine Br.yes ?_
  conv => whnf
  refine Br.yes ?_
  conv => whnf
  refine Br.yes ?_
  conv => whnf
  cases h; exact ⟨rfl, rfl⟩
 rintro (⟨⟩ | ⟨⟩) h
 ·try dsimp only at h
  conv => whnf
  cases h; exact (by first | rfl | simp only [Ah, Aa, V.fz, fzL, V.up, upL, Ab, Ac, Ad, slr] | simp [Ah, Aa, V.fz, fzL, V.up, upL, Ab, Ac, Ad, slr])
 try dsimp only at h
 conv => whnf
 refine LoopQ.o [5, 3, 0] (Oo n0 op0) (Tz n0 op0) h (fun s o h => Adt s o h) (by first | rfl | simp [restrict, look, Aa, V.fz, fzL, V.up, upL, Ab, Ac, Ad, slr]) (by rintro (_ | _) <;> rfl) ?_
 rintro (⟨⟩ | ⟨⟩) h
 ·try dsimp only at h
  conv => whnf
  cases h; exact (by first | rfl | simp only [Ah, Aa, V.fz, fzL, V.up, upL, Ab, Ac, Ad, slr] | simp [Ah, Aa, V.fz, fzL, V.up, upL, Ab, Ac, Ad, slr])
 try dsimp only at h
 conv => whnf
 cases h; exact (by first | rfl | simp only [Ah, Aa, V.fz, fzL, V.up, upL, Ab, Ac, Ad, slr] | simp [Ah, Aa, V.fz, fzL, V.up, upL, Ab, Ac, Ad, slr])
noncomputable def Av (c0 : Sl1Cur) (n0 : Int) : Option (Int × Sl1Cur) :=
 if n0 ≤ (1 : Int) then
 some ((0 : Int), c0)
 else
 (Eh (c0)).bind fun (r2, u3) =>
 if n0 > (200 : Int) then
 ask (InI (r2 * (256 : Int))) <|
 (Eh (u3)).bind fun (r6, u7) =>
 ask (InI (r2 * (256 : Int) + r6)) <|
 ask (n0 ≠ (0 : Int)) <|
 some ((r2 * (256 : Int) + r6).tmod n0, u7)
 else
 ask (n0 ≠ (0 : Int)) <|
 some (r2.tmod n0, u3)
theorem A7 {c0 : Sl1Cur} {n0 : Int} {v : (Int × Sl1Cur)} (h : Av c0 n0 = some v) : P7 Try.prog Ay [(rP true (Am false)) c0, Ae n0] (Ae v.1) 0 ((rP true (Am false)) v.2) := by
 refine M8 Zo (Nat.le_of_ble_eq_true rfl) ?_
 unfold Av at h
 conv => whnf
 refine Br.od h (fun p1 h => ?_) (fun p1 h => ?_)
 ·conv => whnf
  cases h; exact ⟨(by first | rfl | simp only [Ah, Aa, V.fz, fzL, V.up, upL, Ab, Ac, Ad, slr] | simp [Ah, Aa, V.fz, fzL, V.up, upL, Ab, Ac, Ad, slr]), (by first | rfl | simp only [Ah, Aa, V.fz, fzL, V.up, upL, Ab, Ac, Ad, slr] | simp [Ah, Aa, V.fz, fzL, V.up, upL, Ab, Ac, Ad, slr])⟩
 conv => whnf
 refine CallQ.io Ae (rP true (Am false)) (by first | rfl | simp only [Aa, V.fz, fzL, V.up, upL, Ab, Ac, Ad, slr, List.cons_append, List.nil_append] | simp [Aa, V.fz, fzL, V.up, upL, Ab, Ac, Ad, slr]) rfl (fun _ => rfl) (fun _ => ⟨rfl, rfl⟩) rfl h (fun r h => O7 h) (fun r2 u3 h => ?_)
 conv => whnf
 refine Br.od h (fun p4 h => ?_) (fun p4 h => ?_)
 ·conv => whnf
  refine Ask.o h fun p5 h => ?_
  conv => whnf
  refine CallQ.io Ae (rP true (Am false)) (by first | rfl | simp only [Aa, V.fz, fzL, V.up, upL, Ab, Ac, Ad, slr, List.cons_append, List.nil_append] | simp [Aa, V.fz, fzL, V.up, upL, Ab, Ac, Ad, slr]) rfl (fun _ => rfl) (fun _ => ⟨rfl, rfl⟩) rfl h (fun r h => O7 h) (fun r6 u7 h => ?_)
  conv => whnf
  refine Ask.o h fun p8 h => ?_
  conv => whnf
  refine Ask.o h fun p9 h => ?_
  conv => whnf
  cases h; exact ⟨(by first | rfl | simp only [Ah, Aa, V.fz, fzL, V.up, upL, Ab, Ac, Ad, slr] | simp [Ah, Aa, V.fz, fzL, V.up, upL, Ab, Ac, Ad, slr]), (by first | rfl | simp only [Ah, Aa, V.fz, fzL, V.up, upL, Ab, Ac, Ad, slr] | simp [Ah, Aa, V.fz, fzL, V.up, upL, Ab, Ac, Ad, slr])⟩
 conv => whnf
 refine Ask.o h fun p10 h => ?_
 conv => whnf
 cases h; exact ⟨(by first | rfl | simp only [Ah, Aa, V.fz, fzL, V.up, upL, Ab, Ac, Ad, slr] | simp [Ah, Aa, V.fz, fzL, V.up, upL, Ab, Ac, Ad, slr]), (by first | rfl | simp only [Ah, Aa, V.fz, fzL, V.up, upL, Ab, Ac, Ad, slr] | simp [Ah, Aa, V.fz, fzL, V.up, upL, Ab, Ac, Ad, slr])⟩
noncomputable def B5 (n0 : Int) (k0 : Int) (place0 : Int) : (Int × (List Int)) → Option ((Int × (List Int)) ⊕ (List Int)) := fun (x8, x7) =>
 (Cu (n0) (k0)).bind fun r1 =>
 if x8 < r1 then
 (F2 (n0) (k0) (x8)).bind fun r3 =>
 ask ((0 : Int) ≤ place0 ∧ place0 < (↑r3.length : Int)) <|
 ask ((x7).length + ([nth r3 place0.toNat]).length ≤ LIM) <|
 ask (InI (x8 + (1 : Int))) <|
 some (.inl (x8 + (1 : Int), x7 ++ [nth r3 place0.toNat]))
 else
 some (.inr x7)
def F6 (n0 : Int) (k0 : Int) (place0 : Int) : (Int × (List Int)) → St := fun s => [(8, A.val (Ae s.1)), (7, A.val ((slr true 1 Ae) s.2)), (0, A.val (Ae (n0))), (1, A.val (Ae (k0))), (2, A.val (Ae (place0)))]
def Ju (_n0 : Int) (_k0 : Int) (_place0 : Int) : (List Int) → Tgt
 | s => ((Ex.exit 0), [7], [(7, A.val ((slr true 1 Ae) s))])
theorem Qr {n0 : Int} {k0 : Int} {place0 : Int} (s : (Int × (List Int))) (o : (Int × (List Int)) ⊕ (List Int)) (h : B5 n0 k0 place0 s = some o) : vc Try.prog Jy (Ef [8, 7, 0, 1, 2] (F6 n0 k0 place0) (Ju n0 k0 place0) o) (F6 n0 k0 place0 s) := by
 obtain ⟨x8, x7⟩ := s
 unfold B5 at h
 try dsimp only at h
 conv => whnf
 refine CallQ.o Ae (by first | rfl | simp only [Aa, V.fz, fzL, V.up, upL, Ab, Ac, Ad, slr, List.cons_append, List.nil_append] | simp [Aa, V.fz, fzL, V.up, upL, Ab, Ac, Ad, slr]) h (fun r h => Id h) (fun r1 h => ?_)
 conv => whnf
 refine Br.od h (fun p2 h => ?_) (fun p2 h => ?_)
 ·conv => whnf
  refine CallQ.o (slr true 1 Ae) (by first | rfl | simp only [Aa, V.fz, fzL, V.up, upL, Ab, Ac, Ad, slr, List.cons_append, List.nil_append] | simp [Aa, V.fz, fzL, V.up, upL, Ab, Ac, Ad, slr]) h (fun r h => Wx h) (fun r3 h => ?_)
  conv => whnf
  refine Len.map ?_
  conv => whnf
  refine Ask.o h fun p4 h => ?_
  conv => whnf
  refine Cells.one (fun _ => ⟨rfl, rfl⟩) (by first | omega | (simp [Bc] at * <;> omega)) ?_
  conv => whnf
  refine BslQ.o Ae ([nth r3 place0.toNat]) (by exact fun _ => ⟨rfl, rfl⟩) (by first | rfl | simp only [Aa, V.fz, fzL, V.up, upL, Ab, Ac, Ad, slr, List.cons_append, List.nil_append] | simp [Aa, V.fz, fzL, V.up, upL, Ab, Ac, Ad, slr]) ?_
  conv => whnf
  refine NoOwn.o (fun _ => rfl) ?_
  conv => whnf
  refine AppQ.o (m := 1) Ae (by exact fun _ => ⟨rfl, rfl⟩) (x7) ([nth r3 place0.toNat]) (by first | rfl | simp only [Aa, V.fz, fzL, V.up, upL, Ab, Ac, Ad, slr, List.cons_append, List.nil_append] | simp [Aa, V.fz, fzL, V.up, upL, Ab, Ac, Ad, slr]) (by first | rfl | simp only [Aa, V.fz, fzL, V.up, upL, Ab, Ac, Ad, slr, List.cons_append, List.nil_append] | simp [Aa, V.fz, fzL, V.up, upL, Ab, Ac, Ad, slr]) h fun h => ?_
  conv => whnf
  refine Ask.o h fun p5 h => ?_
  conv => whnf
  cases h; exact ⟨rfl, rfl⟩
 conv => whnf
 cases h; exact ⟨rfl, rfl⟩
noncomputable def C8 (n0 : Int) (k0 : Int) (place0 : Int) : Option (List Int) :=
 (At (B5 n0 k0 place0) ((0 : Int), Ar Int)).bind fun q6_7 =>
 some q6_7
theorem L3 {n0 : Int} {k0 : Int} {place0 : Int} {v : (List Int)} (h : C8 n0 k0 place0 = some v) : Ret Try.prog Fn [Ae n0, Ae k0, Ae place0] ((slr true 1 Ae) v) := by
 refine Bm Ug (Nat.le_of_ble_eq_true rfl) ?_
 unfold C8 at h
 conv => whnf
 refine BslQ.o Ae (Ar Int) (by exact fun _ => ⟨rfl, rfl⟩) (by first | rfl | simp only [Aa, V.fz, fzL, V.up, upL, Ab, Ac, Ad, slr, List.cons_append, List.nil_append] | simp [Aa, V.fz, fzL, V.up, upL, Ab, Ac, Ad, slr]) ?_
 conv => whnf
 refine LoopQ.o [8, 7, 0, 1, 2] (F6 n0 k0 place0) (Ju n0 k0 place0) h (fun s o h => Qr s o h) (by first | rfl | simp [restrict, look, Aa, V.fz, fzL, V.up, upL, Ab, Ac, Ad, slr]) (fun _ => rfl) ?_
 rintro q6_7 h
 try dsimp only at h
 conv => whnf
 cases h; exact (by first | rfl | simp only [Ah, Aa, V.fz, fzL, V.up, upL, Ab, Ac, Ad, slr] | simp [Ah, Aa, V.fz, fzL, V.up, upL, Ab, Ac, Ad, slr])
end Go.Proofs.Ytoaojijoefljaaa.Ax
