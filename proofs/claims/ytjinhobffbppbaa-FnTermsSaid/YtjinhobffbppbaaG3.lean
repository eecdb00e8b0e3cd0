/-
 What the functions compute, as functions on plain data, and that the program does compute it; written by program.
-/
import Derived.Test.YtjinhobffbppbaaCode
import Derived.Test.YtjinhobffbppbaaG1
import Derived.Test.YtjinhobffbppbaaG2
namespace Go.Proofs.Ytjinhobffbppbaa.Ax
open Go
set_option maxRecDepth 100000
set_option maxHeartbeats 4000000
noncomputable def E9 (have0 : List Bool) : (Int × (List Int)) → Option ((Int × (List Int)) ⊕ (List Int)) := fun (x9, x3) =>
 if x9 < (↑have0.length : Int) then
 ask ((0 : Int) ≤ x9 ∧ x9 < (↑have0.length : Int)) <|
 if (nth have0 x9.toNat) = true then
 ask ((x3).length + ([x9]).length ≤ LIM) <|
 ask (InI (x9 + (1 : Int))) <|
 some (.inl (x9 + (1 : Int), x3 ++ [x9]))
 else
 ask (InI (x9 + (1 : Int))) <|
 some (.inl (x9 + (1 : Int), x3))
 else
 some (.inr x3)
def Iq (have0 : List Bool) : (Int × (List Int)) → St := fun s => [(9, A.val (Ae s.1)), (8, A.val (Ae ((↑have0.length : Int)))), (7, A.val ((slr false 1 V.bool) (have0))), (3, A.val ((slr true 1 Ae) s.2))]
def M1 (_have0 : List Bool) : (List Int) → Tgt
 | s => ((Ex.exit 0), [3], [(3, A.val ((slr true 1 Ae) s))])
theorem Uz {have0 : List Bool} (s : (Int × (List Int))) (o : (Int × (List Int)) ⊕ (List Int)) (h : E9 have0 s = some o) : vc Try.prog Mu (F6 [9, 8, 7, 3] (Iq have0) (M1 have0) o) (Iq have0 s) := by
 obtain ⟨x9, x3⟩ := s
 unfold E9 at h
 try dsimp only at h
 conv => whnf
 refine Br.od h (fun p1 h => ?_) (fun p1 h => ?_)
 ·conv => whnf
  refine Len.map ?_
  conv => whnf
  refine Ask.o h fun p2 h => ?_
  conv => whnf
  refine Elem.o (by first | omega | (simp [A5] at *; omega)) ?_
  conv => whnf
  refine Br.ob h (fun p3 h => ?_) (fun p3 h => ?_)
  ·conv => whnf
   refine BslQ.o Ae [x9] (by exact fun _ => ⟨rfl, rfl⟩) (by first | rfl | simp only [Aa, V.fz, fzL, V.up, upL, Ab, Ac, Ad, slr, List.cons_append, List.nil_append] | simp [Aa, V.fz, fzL, V.up, upL, Ab, Ac, Ad, slr]) ?_
   conv => whnf
   refine NoOwn.o (fun _ => rfl) ?_
   conv => whnf
   refine AppQ.o (m := 1) Ae (by exact fun _ => ⟨rfl, rfl⟩) (x3) ([x9]) (by first | rfl | simp only [Aa, V.fz, fzL, V.up, upL, Ab, Ac, Ad, slr, List.cons_append, List.nil_append] | simp [Aa, V.fz, fzL, V.up, upL, Ab, Ac, Ad, slr]) (by first | rfl | simp only [Aa, V.fz, fzL, V.up, upL, Ab, Ac, Ad, slr, List.cons_append, List.nil_append] | simp [Aa, V.fz, fzL, V.up, upL, Ab, Ac, Ad, slr]) h fun h => ?_
   conv => whnf
   refine Ask.o h fun p4 h => ?_
   conv => whnf
   cases h; exact ⟨rfl, rfl⟩
  conv => whnf
  refine Ask.o h fun p5 h => ?_
  conv => whnf
  cases h; exact ⟨rfl, rfl⟩
 conv => whnf
 cases h; exact ⟨rfl, rfl⟩
noncomputable def Gu (have0 : (List Bool)) : Option (List Int) :=
 (Bb (E9 have0) ((0 : Int), Au Int)).bind fun q6_3 =>
 some q6_3
theorem Aae {have0 : (List Bool)} {v : (List Int)} (h : Gu have0 = some v) : Ret Try.prog L8 [(slr false 1 V.bool) have0] ((slr true 1 Ae) v) := by
 refine Bf Z9 (Nat.le_of_ble_eq_true rfl) ?_
 unfold Gu at h
 conv => whnf
 refine BslQ.o Ae (Au Int) (by exact fun _ => ⟨rfl, rfl⟩) (by first | rfl | simp only [Aa, V.fz, fzL, V.up, upL, Ab, Ac, Ad, slr, List.cons_append, List.nil_append] | simp [Aa, V.fz, fzL, V.up, upL, Ab, Ac, Ad, slr]) ?_
 conv => whnf
 refine Len.map ?_
 conv => whnf
 refine LoopQ.o [9, 8, 7, 3] (Iq have0) (M1 have0) h (fun s o h => Uz s o h) (by first | rfl | simp [restrict, look, Aa, V.fz, fzL, V.up, upL, Ab, Ac, Ad, slr]) (fun _ => rfl) ?_
 rintro q6_3 h
 try dsimp only at h
 conv => whnf
 cases h; exact (by first | rfl | simp only [Ah, Aa, V.fz, fzL, V.up, upL, Ab, Ac, Ad, slr] | simp [Ah, Aa, V.fz, fzL, V.up, upL, Ab, Ac, Ad, slr])
noncomputable def Cu (l0 : List Int) (n0 : Int) : Int → Option (Int ⊕ Int) := fun x5 =>
 if x5 < (↑l0.length : Int) then
 ask ((0 : Int) ≤ x5 ∧ x5 < (↑l0.length : Int)) <|
 if nth l0 x5.toNat < n0 then
 ask (InI (x5 + (1 : Int))) <|
 some (.inl (x5 + (1 : Int)))
 else
 some (.inr x5)
 else
 some (.inr x5)
def Jx (l0 : List Int) (n0 : Int) : Int → St := fun s => [(5, A.val (Ae s)), (0, A.val ((slr false 1 Ae) (l0))), (1, A.val (Ae (n0)))]
def Ny (l0 : List Int) (n0 : Int) : Int → Tgt
 | s => ((Ex.exit 0), [5, 0, 1], [(5, A.val (Ae s)), (0, A.val ((slr false 1 Ae) (l0))), (1, A.val (Ae (n0)))])
theorem Wd {l0 : List Int} {n0 : Int} (x5 : Int) (o : Int ⊕ Int) (h : Cu l0 n0 x5 = some o) : vc Try.prog N7 (F6 [5, 0, 1] (Jx l0 n0) (Ny l0 n0) o) (Jx l0 n0 x5) := by
 unfold Cu at h
 try dsimp only at h
 conv => whnf
 refine Len.map ?_
 conv => whnf
 refine Br.od h (fun p1 h => ?_) (fun p1 h => ?_)
 ·conv => whnf
  refine Br.yes ?_
  conv => whnf
  refine Br.yes ?_
  conv => whnf
  refine Len.map ?_
  conv => whnf
  refine Ask.o h fun p2 h => ?_
  conv => whnf
  refine Elem.o (by first | omega | (simp [A5] at *; omega)) ?_
  conv => whnf
  refine Br.yes ?_
  conv => whnf
  refine Br.yes ?_
  conv => whnf
  refine Br.yes ?_
  conv => whnf
  refine Br.yes ?_
  conv => whnf
  refine Br.od h (fun p3 h => ?_) (fun p3 h => ?_)
  ·conv => whnf
   refine Ask.o h fun p4 h => ?_
   conv => whnf
   cases h; exact ⟨rfl, rfl⟩
  conv => whnf
  cases h; exact ⟨rfl, rfl⟩
 conv => whnf
 refine Br.no ?_
 conv => whnf
 refine Br.no ?_
 conv => whnf
 refine Br.no ?_
 conv => whnf
 refine Br.no ?_
 conv => whnf
 refine Br.no ?_
 conv => whnf
 refine Br.no ?_
 conv => whnf
 refine Br.no ?_
 conv => whnf
 cases h; exact ⟨rfl, rfl⟩
noncomputable def Hk (l0 : (List Int)) (n0 : Int) : Option (List Int) :=
 (Bb (Cu l0 n0) (0 : Int)).bind fun q5_5 =>
 ((if q5_5 < (↑l0.length : Int) then
 ask ((0 : Int) ≤ q5_5 ∧ q5_5 < (↑l0.length : Int)) <|
 if nth l0 q5_5.toNat = n0 then
 some (.inl ())
 else
 some (.inr ())
 else
 some (.inr ()) : Option (Unit ⊕ Unit))).bind fun t => match t with
 | (.inl _) => (some l0)
 | (.inr _) => (ask (0 ≤ (0 : Int) ∧ (0 : Int) ≤ q5_5 ∧ q5_5 ≤ ((l0.length : Nat) : Int)) <|
 ask ((Au Int).length + (List.take (q5_5.toNat - Int.toNat (0 : Int)) (List.drop (Int.toNat (0 : Int)) l0)).length ≤ LIM) <|
 ask ((Au Int ++ List.take (q5_5.toNat - Int.toNat (0 : Int)) (List.drop (Int.toNat (0 : Int)) l0)).length + ([n0]).length ≤ LIM) <|
 ask (0 ≤ q5_5 ∧ q5_5 ≤ (↑l0.length : Int) ∧ (↑l0.length : Int) ≤ ((l0.length : Nat) : Int)) <|
 ask ((Au Int ++ List.take (q5_5.toNat - Int.toNat (0 : Int)) (List.drop (Int.toNat (0 : Int)) l0) ++ [n0]).length + (List.take ((↑l0.length : Int).toNat - q5_5.toNat) (List.drop q5_5.toNat l0)).length ≤ LIM) <|
 some (Au Int ++ List.take (q5_5.toNat - Int.toNat (0 : Int)) (List.drop (Int.toNat (0 : Int)) l0) ++ [n0] ++ List.take ((↑l0.length : Int).toNat - q5_5.toNat) (List.drop q5_5.toNat l0)))
theorem Acy {l0 : (List Int)} {n0 : Int} {v : (List Int)} (h : Hk l0 n0 = some v) : Ret Try.prog M8 [(slr false 1 Ae) l0, Ae n0] ((slr false 1 Ae) v) := by
 refine Ti Ac6 (Nat.le_of_ble_eq_true rfl) ?_
 unfold Hk at h
 conv => whnf
 refine LoopQ.o [5, 0, 1] (Jx l0 n0) (Ny l0 n0) h (fun s o h => Wd s o h) (by first | rfl | simp [restrict, look, Aa, V.fz, fzL, V.up, upL, Ab, Ac, Ad, slr]) (fun _ => rfl) ?_
 rintro q5_5 h
 try dsimp only at h
 conv => whnf
 refine CutQ.o (fun t : (Unit ⊕ Unit) => match t with | (.inl s) => (Ex.ret, [4], [(4, A.val ((slr false 1 Ae) (l0)))]) | (.inr s) => (Ex.normal, [5, 0, 1], [(5, A.val (Ae (q5_5))), (0, A.val ((slr false 1 Ae) (l0))), (1, A.val (Ae (n0)))])) h ?_ ?_
 ·intro t h
  conv => whnf
  refine Len.map ?_
  conv => whnf
  refine Br.od h (fun p6 h => ?_) (fun p6 h => ?_)
  ·conv => whnf
   refine Br.yes ?_
   conv => whnf
   refine Br.yes ?_
   conv => whnf
   refine Len.map ?_
   conv => whnf
   refine Ask.o h fun p7 h => ?_
   conv => whnf
   refine Elem.o (by first | omega | (simp [A5] at *; omega)) ?_
   conv => whnf
   refine Br.yes ?_
   conv => whnf
   refine Br.yes ?_
   conv => whnf
   refine Br.yes ?_
   conv => whnf
   refine Br.yes ?_
   conv => whnf
   refine Br.oe h (fun p8 h => ?_) (fun p8 h => ?_)
   ·conv => whnf
    cases h; exact ⟨rfl, rfl⟩
   conv => whnf
   cases h; exact ⟨rfl, rfl⟩
  conv => whnf
  refine Br.no ?_
  conv => whnf
  refine Br.no ?_
  conv => whnf
  refine Br.no ?_
  conv => whnf
  refine Br.no ?_
  conv => whnf
  refine Br.no ?_
  conv => whnf
  refine Br.no ?_
  conv => whnf
  refine Br.no ?_
  conv => whnf
  cases h; exact ⟨rfl, rfl⟩
 rintro (⟨⟩ | ⟨⟩) h
 ·try dsimp only at h
  conv => whnf
  cases h; exact (by first | rfl | simp only [Ah, Aa, V.fz, fzL, V.up, upL, Ab, Ac, Ad, slr] | simp [Ah, Aa, V.fz, fzL, V.up, upL, Ab, Ac, Ad, slr])
 try dsimp only at h
 conv => whnf
 refine BslQ.o Ae (Au Int) (by exact fun _ => ⟨rfl, rfl⟩) (by first | rfl | simp only [Aa, V.fz, fzL, V.up, upL, Ab, Ac, Ad, slr, List.cons_append, List.nil_append] | simp [Aa, V.fz, fzL, V.up, upL, Ab, Ac, Ad, slr]) ?_
 conv => whnf
 refine SlcQ.o Ae h fun h => ?_
 conv => whnf
 refine AppQ.o (m := 1) Ae (by exact fun _ => ⟨rfl, rfl⟩) (Au Int) (List.take (q5_5.toNat - Int.toNat (0 : Int)) (List.drop (Int.toNat (0 : Int)) l0)) (by first | rfl | simp only [Aa, V.fz, fzL, V.up, upL, Ab, Ac, Ad, slr, List.cons_append, List.nil_append] | simp [Aa, V.fz, fzL, V.up, upL, Ab, Ac, Ad, slr]) (by first | rfl | simp only [Aa, V.fz, fzL, V.up, upL, Ab, Ac, Ad, slr, List.cons_append, List.nil_append] | simp [Aa, V.fz, fzL, V.up, upL, Ab, Ac, Ad, slr]) h fun h => ?_
 conv => whnf
 refine BslQ.o Ae [n0] (by exact fun _ => ⟨rfl, rfl⟩) (by first | rfl | simp only [Aa, V.fz, fzL, V.up, upL, Ab, Ac, Ad, slr, List.cons_append, List.nil_append] | simp [Aa, V.fz, fzL, V.up, upL, Ab, Ac, Ad, slr]) ?_
 conv => whnf
 refine NoOwn.o (fun _ => rfl) ?_
 conv => whnf
 refine AppQ.o (m := 1) Ae (by exact fun _ => ⟨rfl, rfl⟩) (Au Int ++ List.take (q5_5.toNat - Int.toNat (0 : Int)) (List.drop (Int.toNat (0 : Int)) l0)) ([n0]) (by first | rfl | simp only [Aa, V.fz, fzL, V.up, upL, Ab, Ac, Ad, slr, List.cons_append, List.nil_append] | simp [Aa, V.fz, fzL, V.up, upL, Ab, Ac, Ad, slr]) (by first | rfl | simp only [Aa, V.fz, fzL, V.up, upL, Ab, Ac, Ad, slr, List.cons_append, List.nil_append] | simp [Aa, V.fz, fzL, V.up, upL, Ab, Ac, Ad, slr]) h fun h => ?_
 conv => whnf
 refine Len.map ?_
 conv => whnf
 refine SlcQ.o Ae h fun h => ?_
 conv => whnf
 refine AppQ.o (m := 1) Ae (by exact fun _ => ⟨rfl, rfl⟩) (Au Int ++ List.take (q5_5.toNat - Int.toNat (0 : Int)) (List.drop (Int.toNat (0 : Int)) l0) ++ [n0]) (List.take ((↑l0.length : Int).toNat - q5_5.toNat) (List.drop q5_5.toNat l0)) (by first | rfl | simp only [Aa, V.fz, fzL, V.up, upL, Ab, Ac, Ad, slr, List.cons_append, List.nil_append] | simp [Aa, V.fz, fzL, V.up, upL, Ab, Ac, Ad, slr]) (by first | rfl | simp only [Aa, V.fz, fzL, V.up, upL, Ab, Ac, Ad, slr, List.cons_append, List.nil_append] | simp [Aa, V.fz, fzL, V.up, upL, Ab, Ac, Ad, slr]) h fun h => ?_
 conv => whnf
 cases h; exact (by first | rfl | simp only [Ah, Ac, slr] | simp [Ah, Aa, V.fz, fzL, V.up, upL, Ab, Ac, Ad, slr])
noncomputable def Dm (n0 : Int) : (Int × Int) → Option ((Int × Int) ⊕ Int) := fun (x5, x1) =>
 if x1 > (0 : Int) then
 ask (InI (x5 * n0)) <|
 ask (InI (x1 - (1 : Int))) <|
 some (.inl (x5 * n0, x1 - (1 : Int)))
 else
 some (.inr x5)
def Ju (n0 : Int) : (Int × Int) → St := fun s => [(5, A.val (Ae s.1)), (0, A.val (Ae (n0))), (1, A.val (Ae s.2))]
def N0 (_n0 : Int) : Int → Tgt
 | s => ((Ex.exit 0), [5], [(5, A.val (Ae s))])
theorem Wj {n0 : Int} (s : (Int × Int)) (o : (Int × Int) ⊕ Int) (h : Dm n0 s = some o) : vc Try.prog N8 (F6 [5, 0, 1] (Ju n0) (N0 n0) o) (Ju n0 s) := by
 obtain ⟨x5, x1⟩ := s
 unfold Dm at h
 try dsimp only at h
 conv => whnf
 refine Br.od h (fun p1 h => ?_) (fun p1 h => ?_)
 ·conv => whnf
  refine Ask.o h fun p2 h => ?_
  conv => whnf
  refine Ask.o h fun p3 h => ?_
  conv => whnf
  cases h; exact ⟨rfl, rfl⟩
 conv => whnf
 cases h; exact ⟨rfl, rfl⟩
noncomputable def F9 (n0 : Int) (k0 : Int) : Option Int :=
 (Bb (Dm n0) ((1 : Int), k0)).bind fun q4_5 =>
 some q4_5
theorem Acg {n0 : Int} {k0 : Int} {v : Int} (h : F9 n0 k0 = some v) : Ret Try.prog Ns [Ae n0, Ae k0] (Ae v) := by
 refine Bf Acb (Nat.le_of_ble_eq_true rfl) ?_
 unfold F9 at h
 conv => whnf
 refine LoopQ.o [5, 0, 1] (Ju n0) (N0 n0) h (fun s o h => Wj s o h) (by first | rfl | simp [restrict, look, Aa, V.fz, fzL, V.up, upL, Ab, Ac, Ad, slr]) (fun _ => rfl) ?_
 rintro q4_5 h
 try dsimp only at h
 conv => whnf
 cases h; exact (by first | rfl | simp only [Ah, Aa, V.fz, fzL, V.up, upL, Ab, Ac, Ad, slr] | simp [Ah, Aa, V.fz, fzL, V.up, upL, Ab, Ac, Ad, slr])
noncomputable def D7 (s0 : ByteArray) : (Int × SOp) → Option ((Int × SOp) ⊕ SOp) := fun (x4, x3) =>
 if x4 < (↑s0.size : Int) then
 ask ((0 : Int) ≤ x4 ∧ x4 < (↑s0.size : Int)) <|
 ask ((x3.Table).length + ([IntKind.i64.wrap (IntKind.u8.wrap (Vt s0 x4 - (48 : Int)))]).length ≤ LIM) <|
 ask (InI (x4 + (1 : Int))) <|
 some (.inl (x4 + (1 : Int), { Arity := x3.Arity, Table := x3.Table ++ [IntKind.i64.wrap (IntKind.u8.wrap (Vt s0 x4 - (48 : Int)))] }))
 else
 some (.inr x3)
def G1 (s0 : ByteArray) : (Int × SOp) → St := fun s => [(4, A.val (Ae s.1)), (3, A.val ((rP true (Ba true)) s.2)), (2, A.val ((rP true (Ba true)) ({ Arity := (0 : Int), Table := Au Int }))), (0, A.val (V.str (s0)))]
def Kk (_s0 : ByteArray) : SOp → Tgt
 | s => ((Ex.exit 0), [3, 2], [(3, A.val ((rP true (Ba true)) s)), (2, A.val ((rP true (Ba true)) ({ Arity := (0 : Int), Table := Au Int })))])
theorem Q8 {s0 : ByteArray} (s : (Int × SOp)) (o : (Int × SOp) ⊕ SOp) (h : D7 s0 s = some o) : vc Try.prog Ks (F6 [4, 3, 2, 0] (G1 s0) (Kk s0) o) (G1 s0 s) := by
 obtain ⟨x4, x3⟩ := s
 unfold D7 at h
 try dsimp only at h
 conv => whnf
 refine Br.od h (fun p1 h => ?_) (fun p1 h => ?_)
 ·conv => whnf
  refine Cells.lit rfl rfl ?_
  conv => whnf
  refine Ask.o h fun p2 h => ?_
  conv => whnf
  refine BslQ.o Ae ([IntKind.i64.wrap (IntKind.u8.wrap (Vt s0 x4 - (48 : Int)))]) (by exact fun _ => ⟨rfl, rfl⟩) (by first | rfl | simp only [Aa, V.fz, fzL, V.up, upL, Ab, Ac, Ad, slr, List.cons_append, List.nil_append] | simp [Aa, V.fz, fzL, V.up, upL, Ab, Ac, Ad, slr]) ?_
  conv => whnf
  refine NoOwn.o (fun _ => rfl) ?_
  conv => whnf
  refine Kid.lit rfl rfl ?_
  conv => whnf
  refine Kid.lit rfl rfl ?_
  conv => whnf
  refine SetKids.lit rfl ?_
  conv => whnf
  refine AppQ.o (m := 1) Ae (by exact fun _ => ⟨rfl, rfl⟩) (x3.Table) ([IntKind.i64.wrap (IntKind.u8.wrap (Vt s0 x4 - (48 : Int)))]) (by first | rfl | simp only [Aa, V.fz, fzL, V.up, upL, Ab, Ac, Ad, slr, List.cons_append, List.nil_append] | simp [Aa, V.fz, fzL, V.up, upL, Ab, Ac, Ad, slr]) (by first | rfl | simp only [Aa, V.fz, fzL, V.up, upL, Ab, Ac, Ad, slr, List.cons_append, List.nil_append] | simp [Aa, V.fz, fzL, V.up, upL, Ab, Ac, Ad, slr]) h fun h => ?_
  conv => whnf
  refine SetKids.lit rfl ?_
  conv => whnf
  refine Ask.o h fun p3 h => ?_
  conv => whnf
  cases h; exact ⟨rfl, rfl⟩
 conv => whnf
 cases h; exact ⟨rfl, rfl⟩
noncomputable def A2 (s0 : ByteArray) : Option SOp :=
 (Bb (D7 s0) ((0 : Int), { Arity := (2 : Int), Table := Au Int })).bind fun q4_3 =>
 some q4_3
theorem Bc {s0 : ByteArray} {v : SOp} (h : A2 s0 = some v) : Ret Try.prog A6 [V.str s0] ((Ba true) v) := by
 refine Bf Wm (Nat.le_of_ble_eq_true rfl) ?_
 unfold A2 at h
 conv => whnf
 refine SetKids.lit rfl ?_
 conv => whnf
 refine LoopQ.o [4, 3, 2, 0] (G1 s0) (Kk s0) h (fun s o h => Q8 s o h) (by first | rfl | simp [restrict, look, Aa, V.fz, fzL, V.up, upL, Ab, Ac, Ad, slr]) (fun _ => rfl) ?_
 rintro q4_3 h
 try dsimp only at h
 conv => whnf
 refine Cells.lit rfl rfl ?_
 conv => whnf
 refine SetKids.lit rfl ?_
 conv => whnf
 cases h; exact (by first | rfl | simp only [Ah, Aa, V.fz, fzL, V.up, upL, Ab, Ac, Ad, slr] | simp [Ah, Aa, V.fz, fzL, V.up, upL, Ab, Ac, Ad, slr])
noncomputable def D8 (n0 : Int) : (Int × SOp) → Option ((Int × SOp) ⊕ SOp) := fun (x4, x3) =>
 ask (InI (n0 * n0)) <|
 ask (InI (n0 * n0 * n0)) <|
 if x4 < n0 * n0 * n0 then
 ask (InI (n0 * n0)) <|
 ask (n0 * n0 ≠ (0 : Int) ∧ InI (x4.tdiv (n0 * n0))) <|
 ask (InI (x4.tdiv (n0 * n0) + n0)) <|
 ask (n0 ≠ (0 : Int) ∧ InI (x4.tdiv n0)) <|
 ask (n0 ≠ (0 : Int)) <|
 ask (InI (x4.tdiv (n0 * n0) + n0 - (x4.tdiv n0).tmod n0)) <|
 ask (n0 ≠ (0 : Int)) <|
 ask (InI (x4.tdiv (n0 * n0) + n0 - (x4.tdiv n0).tmod n0 + x4.tmod n0)) <|
 ask (n0 ≠ (0 : Int)) <|
 ask ((x3.Table).length + ([(x4.tdiv (n0 * n0) + n0 - (x4.tdiv n0).tmod n0 + x4.tmod n0).tmod n0]).length ≤ LIM) <|
 ask (InI (x4 + (1 : Int))) <|
 some (.inl (x4 + (1 : Int), { Arity := x3.Arity, Table := x3.Table ++ [(x4.tdiv (n0 * n0) + n0 - (x4.tdiv n0).tmod n0 + x4.tmod n0).tmod n0] }))
 else
 some (.inr x3)
def G3 (n0 : Int) : (Int × SOp) → St := fun s => [(4, A.val (Ae s.1)), (3, A.val ((rP true (Ba true)) s.2)), (2, A.val ((rP true (Ba true)) ({ Arity := (0 : Int), Table := Au Int }))), (0, A.val (Ae (n0)))]
def Kw (_n0 : Int) : SOp → Tgt
 | s => ((Ex.exit 0), [3, 2], [(3, A.val ((rP true (Ba true)) s)), (2, A.val ((rP true (Ba true)) ({ Arity := (0 : Int), Table := Au Int })))])
theorem Rf {n0 : Int} (s : (Int × SOp)) (o : (Int × SOp) ⊕ SOp) (h : D8 n0 s = some o) : vc Try.prog Km (F6 [4, 3, 2, 0] (G3 n0) (Kw n0) o) (G3 n0 s) := by
 obtain ⟨x4, x3⟩ := s
 unfold D8 at h
 try dsimp only at h
 conv => whnf
 refine Ask.o h fun p1 h => ?_
 conv => whnf
 refine Ask.o h fun p2 h => ?_
 conv => whnf
 refine Br.od h (fun p3 h => ?_) (fun p3 h => ?_)
 ·conv => whnf
  refine Cells.lit rfl rfl ?_
  conv => whnf
  refine Ask.o h fun p4 h => ?_
  conv => whnf
  refine Ask.o h fun p5 h => ?_
  conv => whnf
  refine Ask.o h fun p6 h => ?_
  conv => whnf
  refine Ask.o h fun p7 h => ?_
  conv => whnf
  refine Ask.o h fun p8 h => ?_
  conv => whnf
  refine Ask.o h fun p9 h => ?_
  conv => whnf
  refine Ask.o h fun p10 h => ?_
  conv => whnf
  refine Ask.o h fun p11 h => ?_
  conv => whnf
  refine Ask.o h fun p12 h => ?_
  conv => whnf
  refine BslQ.o Ae ([(x4.tdiv (n0 * n0) + n0 - (x4.tdiv n0).tmod n0 + x4.tmod n0).tmod n0]) (by exact fun _ => ⟨rfl, rfl⟩) (by first | rfl | simp only [Aa, V.fz, fzL, V.up, upL, Ab, Ac, Ad, slr, List.cons_append, List.nil_append] | simp [Aa, V.fz, fzL, V.up, upL, Ab, Ac, Ad, slr]) ?_
  conv => whnf
  refine NoOwn.o (fun _ => rfl) ?_
  conv => whnf
  refine Kid.lit rfl rfl ?_
  conv => whnf
  refine Kid.lit rfl rfl ?_
  conv => whnf
  refine SetKids.lit rfl ?_
  conv => whnf
  refine AppQ.o (m := 1) Ae (by exact fun _ => ⟨rfl, rfl⟩) (x3.Table) ([(x4.tdiv (n0 * n0) + n0 - (x4.tdiv n0).tmod n0 + x4.tmod n0).tmod n0]) (by first | rfl | simp only [Aa, V.fz, fzL, V.up, upL, Ab, Ac, Ad, slr, List.cons_append, List.nil_append] | simp [Aa, V.fz, fzL, V.up, upL, Ab, Ac, Ad, slr]) (by first | rfl | simp only [Aa, V.fz, fzL, V.up, upL, Ab, Ac, Ad, slr, List.cons_append, List.nil_append] | simp [Aa, V.fz, fzL, V.up, upL, Ab, Ac, Ad, slr]) h fun h => ?_
  conv => whnf
  refine SetKids.lit rfl ?_
  conv => whnf
  refine Ask.o h fun p13 h => ?_
  conv => whnf
  cases h; exact ⟨rfl, rfl⟩
 conv => whnf
 cases h; exact ⟨rfl, rfl⟩
noncomputable def Ec (n0 : Int) : Option SOp :=
 (Bb (D8 n0) ((0 : Int), { Arity := (3 : Int), Table := Au Int })).bind fun q14_3 =>
 some q14_3
theorem Od {n0 : Int} {v : SOp} (h : Ec n0 = some v) : Ret Try.prog Gz [Ae n0] ((Ba true) v) := by
 refine Bf Wf (Nat.le_of_ble_eq_true rfl) ?_
 unfold Ec at h
 conv => whnf
 refine SetKids.lit rfl ?_
 conv => whnf
 refine LoopQ.o [4, 3, 2, 0] (G3 n0) (Kw n0) h (fun s o h => Rf s o h) (by first | rfl | simp [restrict, look, Aa, V.fz, fzL, V.up, upL, Ab, Ac, Ad, slr]) (fun _ => rfl) ?_
 rintro q14_3 h
 try dsimp only at h
 conv => whnf
 refine Cells.lit rfl rfl ?_
 conv => whnf
 refine SetKids.lit rfl ?_
 conv => whnf
 cases h; exact (by first | rfl | simp only [Ah, Aa, V.fz, fzL, V.up, upL, Ab, Ac, Ad, slr] | simp [Ah, Aa, V.fz, fzL, V.up, upL, Ab, Ac, Ad, slr])
noncomputable def Ee (code0 : List Int) (q3_1 : Int) : (Int × (List Int)) → Option ((Int × (List Int)) ⊕ (List Int)) := fun (x6, x5) =>
 if x6 < (6 : Int) then
 ask (InI (x6 + (2 : Int))) <|
 (Kf (code0) (x6 + (2 : Int))).bind fun r6 =>
 ask (q3_1 ≠ (0 : Int)) <|
 ask ((x5).length + ([r6.tmod q3_1]).length ≤ LIM) <|
 ask (InI (x6 + (1 : Int))) <|
 some (.inl (x6 + (1 : Int), x5 ++ [r6.tmod q3_1]))
 else
 some (.inr x5)
def H2 (code0 : List Int) (q3_1 : Int) : (Int × (List Int)) → St := fun s => [(6, A.val (Ae s.1)), (5, A.val ((slr true 1 Ae) s.2)), (1, A.val (Ae (q3_1))), (0, A.val ((slr false 1 (V.int IntKind.u8)) (code0)))]
def K5 (_code0 : List Int) (_q3_1 : Int) : (List Int) → Tgt
 | s => ((Ex.exit 0), [5], [(5, A.val ((slr true 1 Ae) s))])
theorem R6 {code0 : List Int} {q3_1 : Int} (s : (Int × (List Int))) (o : (Int × (List Int)) ⊕ (List Int)) (h : Ee code0 q3_1 s = some o) : vc Try.prog Lg (F6 [6, 5, 1, 0] (H2 code0 q3_1) (K5 code0 q3_1) o) (H2 code0 q3_1 s) := by
 obtain ⟨x6, x5⟩ := s
 unfold Ee at h
 try dsimp only at h
 conv => whnf
 refine Br.od h (fun p4 h => ?_) (fun p4 h => ?_)
 ·conv => whnf
  refine Ask.o h fun p5 h => ?_
  conv => whnf
  refine CallQ.o Ae (by first | rfl | simp only [Aa, V.fz, fzL, V.up, upL, Ab, Ac, Ad, slr, List.cons_append, List.nil_append] | simp [Aa, V.fz, fzL, V.up, upL, Ab, Ac, Ad, slr]) h (fun r h => Agc h) (fun r6 h => ?_)
  conv => whnf
  refine Ask.o h fun p7 h => ?_
  conv => whnf
  refine BslQ.o Ae ([r6.tmod q3_1]) (by exact fun _ => ⟨rfl, rfl⟩) (by first | rfl | simp only [Aa, V.fz, fzL, V.up, upL, Ab, Ac, Ad, slr, List.cons_append, List.nil_append] | simp [Aa, V.fz, fzL, V.up, upL, Ab, Ac, Ad, slr]) ?_
  conv => whnf
  refine NoOwn.o (fun _ => rfl) ?_
  conv => whnf
  refine AppQ.o (m := 1) Ae (by exact fun _ => ⟨rfl, rfl⟩) (x5) ([r6.tmod q3_1]) (by first | rfl | simp only [Aa, V.fz, fzL, V.up, upL, Ab, Ac, Ad, slr, List.cons_append, List.nil_append] | simp [Aa, V.fz, fzL, V.up, upL, Ab, Ac, Ad, slr]) (by first | rfl | simp only [Aa, V.fz, fzL, V.up, upL, Ab, Ac, Ad, slr, List.cons_append, List.nil_append] | simp [Aa, V.fz, fzL, V.up, upL, Ab, Ac, Ad, slr]) h fun h => ?_
  conv => whnf
  refine Ask.o h fun p8 h => ?_
  conv => whnf
  cases h; exact ⟨rfl, rfl⟩
 conv => whnf
 cases h; exact ⟨rfl, rfl⟩
noncomputable def Ev (code0 : (List Int)) (n0 : Int) : Option (List Int) :=
 ((if n0 < (1 : Int) then
 some (1 : Int)
 else
 if n0 > (8 : Int) then
 some (1 : Int)
 else
 some n0 : Option Int)).bind fun q3_1 =>
 (Bb (Ee code0 q3_1) ((0 : Int), Au Int)).bind fun q9_5 =>
 some q9_5
theorem Pg {code0 : (List Int)} {n0 : Int} {v : (List Int)} (h : Ev code0 n0 = some v) : Ret Try.prog Hz [(slr false 1 (V.int IntKind.u8)) code0, Ae n0] ((slr true 1 Ae) v) := by
 refine Bf Y4 (Nat.le_of_ble_eq_true rfl) ?_
 unfold Ev at h
 conv => whnf
 refine CutQ.o (fun t : Int => match t with | s => (Ex.normal, [1, 0], [(1, A.val (Ae s)), (0, A.val ((slr false 1 (V.int IntKind.u8)) (code0)))])) h ?_ ?_
 ·intro t h
  conv => whnf
  refine Br.od h (fun p1 h => ?_) (fun p1 h => ?_)
  ·conv => whnf
   refine Br.yes ?_
   conv => whnf
   refine Br.yes ?_
   conv => whnf
   refine Br.yes ?_
   conv => whnf
   cases h; exact ⟨rfl, rfl⟩
  conv => whnf
  refine Br.no ?_
  conv => whnf
  refine Br.no ?_
  conv => whnf
  refine Br.od h (fun p2 h => ?_) (fun p2 h => ?_)
  ·conv => whnf
   cases h; exact ⟨rfl, rfl⟩
  conv => whnf
  cases h; exact ⟨rfl, rfl⟩
 rintro q3_1 h
 try dsimp only at h
 conv => whnf
 refine BslQ.o Ae (Au Int) (by exact fun _ => ⟨rfl, rfl⟩) (by first | rfl | simp only [Aa, V.fz, fzL, V.up, upL, Ab, Ac, Ad, slr, List.cons_append, List.nil_append] | simp [Aa, V.fz, fzL, V.up, upL, Ab, Ac, Ad, slr]) ?_
 conv => whnf
 refine LoopQ.o [6, 5, 1, 0] (H2 code0 q3_1) (K5 code0 q3_1) h (fun s o h => R6 s o h) (by first | rfl | simp [restrict, look, Aa, V.fz, fzL, V.up, upL, Ab, Ac, Ad, slr]) (fun _ => rfl) ?_
 rintro q9_5 h
 try dsimp only at h
 conv => whnf
 cases h; exact (by first | rfl | simp only [Ah, Aa, V.fz, fzL, V.up, upL, Ab, Ac, Ad, slr] | simp [Ah, Aa, V.fz, fzL, V.up, upL, Ab, Ac, Ad, slr])
noncomputable def Al (c0 : Sl1Cur) (n0 : Int) : Option (Int × Sl1Cur) :=
 if n0 ≤ (1 : Int) then
 some ((0 : Int), c0)
 else
 (Df (c0)).bind fun (r2, u3) =>
 if n0 > (200 : Int) then
 ask (InI (r2 * (256 : Int))) <|
 (Df (u3)).bind fun (r6, u7) =>
 ask (InI (r2 * (256 : Int) + r6)) <|
 ask (n0 ≠ (0 : Int)) <|
 some ((r2 * (256 : Int) + r6).tmod n0, u7)
 else
 ask (n0 ≠ (0 : Int)) <|
 some (r2.tmod n0, u3)
theorem Aq {c0 : Sl1Cur} {n0 : Int} {v : (Int × Sl1Cur)} (h : Al c0 n0 = some v) : Og Try.prog Ao [(rP true (Ai false)) c0, Ae n0] (Ae v.1) 0 ((rP true (Ai false)) v.2) := by
 refine Nm Sv (Nat.le_of_ble_eq_true rfl) ?_
 unfold Al at h
 conv => whnf
 refine Br.od h (fun p1 h => ?_) (fun p1 h => ?_)
 ·conv => whnf
  cases h; exact ⟨(by first | rfl | simp only [Ah, Aa, V.fz, fzL, V.up, upL, Ab, Ac, Ad, slr] | simp [Ah, Aa, V.fz, fzL, V.up, upL, Ab, Ac, Ad, slr]), (by first | rfl | simp only [Ah, Aa, V.fz, fzL, V.up, upL, Ab, Ac, Ad, slr] | simp [Ah, Aa, V.fz, fzL, V.up, upL, Ab, Ac, Ad, slr])⟩
 conv => whnf
 refine CallQ.io Ae (rP true (Ai false)) (by first | rfl | simp only [Aa, V.fz, fzL, V.up, upL, Ab, Ac, Ad, slr, List.cons_append, List.nil_append] | simp [Aa, V.fz, fzL, V.up, upL, Ab, Ac, Ad, slr]) rfl (fun _ => rfl) (fun _ => ⟨rfl, rfl⟩) rfl h (fun r h => K1 h) (fun r2 u3 h => ?_)
 conv => whnf
 refine Br.od h (fun p4 h => ?_) (fun p4 h => ?_)
 ·conv => whnf
  refine Ask.o h fun p5 h => ?_
  conv => whnf
  refine CallQ.io Ae (rP true (Ai false)) (by first | rfl | simp only [Aa, V.fz, fzL, V.up, upL, Ab, Ac, Ad, slr, List.cons_append, List.nil_append] | simp [Aa, V.fz, fzL, V.up, upL, Ab, Ac, Ad, slr]) rfl (fun _ => rfl) (fun _ => ⟨rfl, rfl⟩) rfl h (fun r h => K1 h) (fun r6 u7 h => ?_)
  conv => whnf
  refine Ask.o h fun p8 h => ?_
  conv => whnf
  refine Ask.o h fun p9 h => ?_
  conv => whnf
  cases h; exact ⟨(by first | rfl | simp only [Ah, Aa, V.fz, fzL, V.up, upL, Ab, Ac, Ad, slr] | simp [Ah, Aa, V.fz, fzL, V.up, upL, Ab, Ac, Ad, slr]), (by first | rfl | simp only [Ah, Aa, V.fz, fzL, V.up, upL, Ab, Ac, Ad, slr] | simp [Ah, Aa, V.fz, fzL, V.up, upL, Ab, Ac, Ad, slr])⟩
 conv => whnf
 refine Ask.o h fun p10 h => ?_
 conv => whnf
 cases h; exact ⟨(by first | rfl | simp only [Ah, Aa, V.fz, fzL, V.up, upL, Ab, Ac, Ad, slr] | simp [Ah, Aa, V.fz, fzL, V.up, upL, Ab, Ac, Ad, slr]), (by first | rfl | simp only [Ah, Aa, V.fz, fzL, V.up, upL, Ab, Ac, Ad, slr] | simp [Ah, Aa, V.fz, fzL, V.up, upL, Ab, Ac, Ad, slr])⟩
noncomputable def El (a0 : SAlgebra) (t0 : (List Int)) : Option Bool :=
 if (↑t0.length : Int) ≤ (60 : Int) then
 (Ej (a0) (t0) ((0 : Int))).bind fun r2 =>
 some (r2 == (↑t0.length : Int))
 else
 some false
theorem L2 {a0 : SAlgebra} {t0 : (List Int)} {v : Bool} (h : El a0 t0 = some v) : Ret Try.prog Gy [(Ag false) a0, (slr false 1 Ae) t0] (V.bool v) := by
 refine Bf Aah (Nat.le_of_ble_eq_true rfl) ?_
 unfold El at h
 conv => whnf
 refine Len.map ?_
 conv => whnf
 refine Br.od h (fun p1 h => ?_) (fun p1 h => ?_)
 ·conv => whnf
  refine Cells.lit rfl rfl ?_
  conv => whnf
  refine Br.yes ?_
  conv => whnf
  refine Br.yes ?_
  conv => whnf
  refine CallQ.o Ae (by first | rfl | simp only [Aa, V.fz, fzL, V.up, upL, Ab, Ac, Ad, slr, List.cons_append, List.nil_append] | simp [Aa, V.fz, fzL, V.up, upL, Ab, Ac, Ad, slr]) h (fun r h => Nd h) (fun r2 h => ?_)
  conv => whnf
  refine Br.yes ?_
  conv => whnf
  refine Br.yes ?_
  conv => whnf
  refine Len.map ?_
  conv => whnf
  refine Br.yes ?_
  conv => whnf
  refine Br.yes ?_
  conv => whnf
  cases h; exact (by first | rfl | simp only [Ah, Aa, V.fz, fzL, V.up, upL, Ab, Ac, Ad, slr] | simp [Ah, Aa, V.fz, fzL, V.up, upL, Ab, Ac, Ad, slr])
 conv => whnf
 refine Br.no ?_
 conv => whnf
 refine Br.no ?_
 conv => whnf
 refine Br.no ?_
 conv => whnf
 refine Br.no ?_
 conv => whnf
 refine Br.no ?_
 conv => whnf
 refine Br.no ?_
 conv => whnf
 cases h; exact (by first | rfl | simp only [Ah, Aa, V.fz, fzL, V.up, upL, Ab, Ac, Ad, slr] | simp [Ah, Aa, V.fz, fzL, V.up, upL, Ab, Ac, Ad, slr])
noncomputable def E7 (a0 : SAlgebra) (t0 : (List Int)) (at0 : Int) (by0 : (List Int)) : Option (List Int) :=
 ask (0 ≤ (0 : Int) ∧ (0 : Int) ≤ at0 ∧ at0 ≤ ((t0.length : Nat) : Int)) <|
 (Ga (List.take (at0.toNat - Int.toNat (0 : Int)) (List.drop (Int.toNat (0 : Int)) t0))).bind fun r1 =>
 ask ((r1).length + (by0).length ≤ LIM) <|
 (Ej (a0) (t0) (at0)).bind fun r2 =>
 ask (0 ≤ r2 ∧ r2 ≤ (↑t0.length : Int) ∧ (↑t0.length : Int) ≤ ((t0.length : Nat) : Int)) <|
 ask ((r1 ++ by0).length + (List.take ((↑t0.length : Int).toNat - r2.toNat) (List.drop r2.toNat t0)).length ≤ LIM) <|
 some (r1 ++ by0 ++ List.take ((↑t0.length : Int).toNat - r2.toNat) (List.drop r2.toNat t0))
theorem Ul {a0 : SAlgebra} {t0 : (List Int)} {at0 : Int} {by0 : (List Int)} {v : (List Int)} (h : E7 a0 t0 at0 by0 = some v) : Ret Try.prog Iw [(Ag false) a0, (slr false 1 Ae) t0, Ae at0, (slr false 1 Ae) by0] ((slr true 1 Ae) v) := by
 refine Bf Tl (Nat.le_of_ble_eq_true rfl) ?_
 unfold E7 at h
 conv => whnf
 refine SlcQ.o Ae h fun h => ?_
 conv => whnf
 refine CallQ.o (slr true 1 Ae) (by first | rfl | simp only [Aa, V.fz, fzL, V.up, upL, Ab, Ac, Ad, slr, List.cons_append, List.nil_append] | simp [Aa, V.fz, fzL, V.up, upL, Ab, Ac, Ad, slr]) h (fun r h => Sy h) (fun r1 h => ?_)
 conv => whnf
 refine AppQ.o (m := 1) Ae (by exact fun _ => ⟨rfl, rfl⟩) (r1) (by0) (by first | rfl | simp only [Aa, V.fz, fzL, V.up, upL, Ab, Ac, Ad, slr, List.cons_append, List.nil_append] | simp [Aa, V.fz, fzL, V.up, upL, Ab, Ac, Ad, slr]) (by first | rfl | simp only [Aa, V.fz, fzL, V.up, upL, Ab, Ac, Ad, slr, List.cons_append, List.nil_append] | simp [Aa, V.fz, fzL, V.up, upL, Ab, Ac, Ad, slr]) h fun h => ?_
 conv => whnf
 refine Cells.lit rfl rfl ?_
 conv => whnf
 refine CallQ.o Ae (by first | rfl | simp only [Aa, V.fz, fzL, V.up, upL, Ab, Ac, Ad, slr, List.cons_append, List.nil_append] | simp [Aa, V.fz, fzL, V.up, upL, Ab, Ac, Ad, slr]) h (fun r h => Nd h) (fun r2 h => ?_)
 conv => whnf
 refine Len.map ?_
 conv => whnf
 refine SlcQ.o Ae h fun h => ?_
 conv => whnf
 refine AppQ.o (m := 1) Ae (by exact fun _ => ⟨rfl, rfl⟩) (r1 ++ by0) (List.take ((↑t0.length : Int).toNat - r2.toNat) (List.drop r2.toNat t0)) (by first | rfl | simp only [Aa, V.fz, fzL, V.up, upL, Ab, Ac, Ad, slr, List.cons_append, List.nil_append] | simp [Aa, V.fz, fzL, V.up, upL, Ab, Ac, Ad, slr]) (by first | rfl | simp only [Aa, V.fz, fzL, V.up, upL, Ab, Ac, Ad, slr, List.cons_append, List.nil_append] | simp [Aa, V.fz, fzL, V.up, upL, Ab, Ac, Ad, slr]) h fun h => ?_
 conv => whnf
 cases h; exact (by first | rfl | simp only [Ah, Aa, V.fz, fzL, V.up, upL, Ab, Ac, Ad, slr] | simp [Ah, Aa, V.fz, fzL, V.up, upL, Ab, Ac, Ad, slr])
noncomputable def Bh (a0 : SAlgebra) (t0 : List Int) : (Int × Int) → Option ((Int × Int) ⊕ (Int ⊕ Unit)) := fun (x8, x7) =>
 if x8 < (↑t0.length : Int) then
 ask (InI (x7 - (1 : Int))) <|
 ask ((0 : Int) ≤ x8 ∧ x8 < (↑t0.length : Int)) <|
 if nth t0 x8.toNat < (0 : Int) then
 ask ((0 : Int) ≤ x8 ∧ x8 < (↑t0.length : Int)) <|
 (Cv (nth t0 x8.toNat) (IntKind.i64.wrap ((0 : Int) - (↑a0.Ops.length : Int))) ((-1 : Int))).bind fun r6 =>
 if (r6) = true then
 ask ((0 : Int) ≤ x8 ∧ x8 < (↑t0.length : Int)) <|
 ask (InI ((-1 : Int) - nth t0 x8.toNat)) <|
 ask ((0 : Int) ≤ (-1 : Int) - nth t0 x8.toNat ∧ (-1 : Int) - nth t0 x8.toNat < (↑a0.Ops.length : Int)) <|
 ask (InI (x7 - (1 : Int) + (nth a0.Ops ((-1 : Int) - nth t0 x8.toNat).toNat).Arity)) <|
 if x7 - (1 : Int) + (nth a0.Ops ((-1 : Int) - nth t0 x8.toNat).toNat).Arity = (0 : Int) then
 ask (InI (x8 + (1 : Int))) <|
 some (.inr (.inl (x8 + (1 : Int))))
 else
 ask (InI (x8 + (1 : Int))) <|
 some (.inl (x8 + (1 : Int), x7 - (1 : Int) + (nth a0.Ops ((-1 : Int) - nth t0 x8.toNat).toNat).Arity))
 else
 some (.inr (.inl (-1 : Int)))
 else
 ask ((0 : Int) ≤ x8 ∧ x8 < (↑t0.length : Int)) <|
 if nth t0 x8.toNat ≥ (6 : Int) then
 some (.inr (.inl (-1 : Int)))
 else
 if x7 - (1 : Int) = (0 : Int) then
 ask (InI (x8 + (1 : Int))) <|
 some (.inr (.inl (x8 + (1 : Int))))
 else
 ask (InI (x8 + (1 : Int))) <|
 some (.inl (x8 + (1 : Int), x7 - (1 : Int)))
 else
 some (.inr (.inr ()))
def Jv (a0 : SAlgebra) (t0 : List Int) : (Int × Int) → St := fun s => [(8, A.val (Ae s.1)), (7, A.val (Ae s.2)), (3, A.val ((rP true (Ag false)) (a0))), (1, A.val ((slr false 1 Ae) (t0)))]
def Nz (_a0 : SAlgebra) (_t0 : List Int) : (Int ⊕ Unit) → Tgt
 | (.inl s) => (Ex.ret, [6], [(6, A.val (Ae s))])
 | (.inr _s) => ((Ex.exit 0), [], [])
theorem Wi {a0 : SAlgebra} {t0 : List Int} (s : (Int × Int)) (o : (Int × Int) ⊕ (Int ⊕ Unit)) (h : Bh a0 t0 s = some o) : vc Try.prog N6 (F6 [8, 7, 3, 1] (Jv a0 t0) (Nz a0 t0) o) (Jv a0 t0 s) := by
 obtain ⟨x8, x7⟩ := s
 unfold Bh at h
 try dsimp only at h
 conv => whnf
 refine Len.map ?_
 conv => whnf
 refine Br.od h (fun p1 h => ?_) (fun p1 h => ?_)
 ·conv => whnf
  refine Ask.o h fun p2 h => ?_
  conv => whnf
  refine Len.map ?_
  conv => whnf
  refine Ask.o h fun p3 h => ?_
  conv => whnf
  refine Elem.o (by first | omega | (simp [A5] at *; omega)) ?_
  conv => whnf
  refine Br.od h (fun p4 h => ?_) (fun p4 h => ?_)
  ·conv => whnf
   refine Len.map ?_
   conv => whnf
   refine Ask.o h fun p5 h => ?_
   conv => whnf
   refine Elem.o (by first | omega | (simp [A5] at *; omega)) ?_
   conv => whnf
   refine Cells.lit rfl rfl ?_
   conv => whnf
   refine Len.map ?_
   conv => whnf
   refine CallQ.o V.bool (by first | rfl | simp only [Aa, V.fz, fzL, V.up, upL, Ab, Ac, Ad, slr, List.cons_append, List.nil_append] | simp [Aa, V.fz, fzL, V.up, upL, Ab, Ac, Ad, slr]) h (fun r h => G8 h) (fun r6 h => ?_)
   conv => whnf
   refine Br.flip ?_
   conv => whnf
   refine Br.ob h (fun p7 h => ?_) (fun p7 h => ?_)
   ·conv => whnf
    refine Cells.lit rfl rfl ?_
    conv => whnf
    refine Len.map ?_
    conv => whnf
    refine Ask.o h fun p8 h => ?_
    conv => whnf
    refine Elem.o (by first | omega | (simp [A5] at *; omega)) ?_
    conv => whnf
    refine Ask.o h fun p9 h => ?_
    conv => whnf
    refine Len.map ?_
    conv => whnf
    refine Ask.o h fun p10 h => ?_
    conv => whnf
    refine Elem.o (by first | omega | (simp [A5] at *; omega)) ?_
    conv => whnf
    refine Ask.o h fun p11 h => ?_
    conv => whnf
    refine Br.oe h (fun p12 h => ?_) (fun p12 h => ?_)
    ·conv => whnf
     refine Ask.o h fun p13 h => ?_
     conv => whnf
     cases h; exact ⟨rfl, rfl⟩
    conv => whnf
    refine Ask.o h fun p14 h => ?_
    conv => whnf
    cases h; exact ⟨rfl, rfl⟩
   conv => whnf
   cases h; exact ⟨rfl, rfl⟩
  conv => whnf
  refine Len.map ?_
  conv => whnf
  refine Ask.o h fun p15 h => ?_
  conv => whnf
  refine Elem.o (by first | omega | (simp [A5] at *; omega)) ?_
  conv => whnf
  refine Br.od h (fun p16 h => ?_) (fun p16 h => ?_)
  ·conv => whnf
   cases h; exact ⟨rfl, rfl⟩
  conv => whnf
  refine Br.oe h (fun p17 h => ?_) (fun p17 h => ?_)
  ·conv => whnf
   refine Ask.o h fun p18 h => ?_
   conv => whnf
   cases h; exact ⟨rfl, rfl⟩
  conv => whnf
  refine Ask.o h fun p19 h => ?_
  conv => whnf
  cases h; exact ⟨rfl, rfl⟩
 conv => whnf
 cases h; exact ⟨rfl, rfl⟩
noncomputable def C9 (a0 : SAlgebra) (t0 : (List Int)) (at0 : Int) : Option Int :=
 (Bb (Bh a0 t0) (at0, (1 : Int))).bind fun t => match t with
 | (.inl q20_6) => (some q20_6)
 | (.inr _) => (some (-1 : Int))
theorem Hq {a0 : SAlgebra} {t0 : (List Int)} {at0 : Int} {v : Int} (h : C9 a0 t0 at0 = some v) : Ret Try.prog Ff [(Ag false) a0, (slr false 1 Ae) t0, Ae at0] (Ae v) := by
 refine Bf Acc (Nat.le_of_ble_eq_true rfl) ?_
 unfold C9 at h
 conv => whnf
 refine LoopQ.o [8, 7, 3, 1] (Jv a0 t0) (Nz a0 t0) h (fun s o h => Wi s o h) (by first | rfl | simp [restrict, look, Aa, V.fz, fzL, V.up, upL, Ab, Ac, Ad, slr]) (by rintro (_ | _) <;> rfl) ?_
 rintro (q20_6 | ⟨⟩) h
 ·try dsimp only at h
  conv => whnf
  cases h; exact (by first | rfl | simp only [Ah, Aa, V.fz, fzL, V.up, upL, Ab, Ac, Ad, slr] | simp [Ah, Aa, V.fz, fzL, V.up, upL, Ab, Ac, Ad, slr])
 try dsimp only at h
 conv => whnf
 cases h; exact (by first | rfl | simp only [Ah, Aa, V.fz, fzL, V.up, upL, Ab, Ac, Ad, slr] | simp [Ah, Aa, V.fz, fzL, V.up, upL, Ab, Ac, Ad, slr])
end Go.Proofs.Ytjinhobffbppbaa.Ax
