/-
 What the functions compute, as functions on plain data, and that the program does compute it; written by program.
-/
import Derived.Test.YtidaaijecmkndaaCode
import Derived.Test.YtidaaijecmkndaaG1
import Derived.Test.YtidaaijecmkndaaG2
namespace Go.Proofs.Ytidaaijecmkndaa.Ax
open Go
set_option maxRecDepth 100000
set_option maxHeartbeats 4000000
noncomputable def Dp (_a0 : SAlgebra) (in0 : List Bool) (_x6 : Int) (_x7 : Int) (_x5' : List Bool) (r5 : List Int) : (Int × Bool) → Option ((Int × Bool) ⊕ Bool) := fun (x10, x9) =>
 if x10 < (↑r5.length : Int) then
 if (x9) = true then
 ask ((0 : Int) ≤ x10 ∧ x10 < (↑r5.length : Int)) <|
 ask ((0 : Int) ≤ nth r5 x10.toNat ∧ nth r5 x10.toNat < (↑in0.length : Int)) <|
 ask (InI (x10 + (1 : Int))) <|
 some (.inl (x10 + (1 : Int), nth in0 (nth r5 x10.toNat).toNat))
 else
 ask (InI (x10 + (1 : Int))) <|
 some (.inl (x10 + (1 : Int), false))
 else
 some (.inr x9)
def K9 (a0 : SAlgebra) (in0 : List Bool) (x6 : Int) (x7 : Int) (x5' : List Bool) (r5 : List Int) : (Int × Bool) → St := fun s => [(10, A.val (Af s.1)), (9, A.val (V.bool s.2)), (8, A.val ((slr true 1 Af) (r5))), (7, A.val (Af (x7))), (6, A.val (Af (x6))), (5, A.val ((slr true 1 V.bool) (x5'))), (2, A.val ((rP true (Ag false)) (a0))), (1, A.val ((slr false 1 V.bool) (in0)))]
def Rz (a0 : SAlgebra) (in0 : List Bool) (x6 : Int) (x7 : Int) (x5' : List Bool) (_r5 : List Int) : Bool → Tgt
 | s => ((Ex.exit 4), [9, 7, 6, 5, 2, 1], [(9, A.val (V.bool s)), (7, A.val (Af (x7))), (6, A.val (Af (x6))), (5, A.val ((slr true 1 V.bool) (x5'))), (2, A.val ((rP true (Ag false)) (a0))), (1, A.val ((slr false 1 V.bool) (in0)))])
theorem Aan {a0 : SAlgebra} {in0 : List Bool} {x6 : Int} {x7 : Int} {x5' : List Bool} {r5 : List Int} (s : (Int × Bool)) (o : (Int × Bool) ⊕ Bool) (h : Dp a0 in0 x6 x7 x5' r5 s = some o) : vc Try.prog Q6 (C0 [10, 9, 8, 7, 6, 5, 2, 1] (K9 a0 in0 x6 x7 x5' r5) (Rz a0 in0 x6 x7 x5' r5) o) (K9 a0 in0 x6 x7 x5' r5 s) := by
 obtain ⟨x10, x9⟩ := s
 unfold Dp at h
 try dsimp only at h
 conv => whnf
 refine Len.map ?_
 conv => whnf
 refine Br.od h (fun p6 h => ?_) (fun p6 h => ?_)
 ·conv => whnf
  refine Br.ob h (fun p7 h => ?_) (fun p7 h => ?_)
  ·conv => whnf
   refine Br.yes ?_
   conv => whnf
   refine Br.yes ?_
   conv => whnf
   refine Br.yes ?_
   conv => whnf
   refine Len.map ?_
   conv => whnf
   refine Ask.o h fun p8 h => ?_
   conv => whnf
   refine Br.yes ?_
   conv => whnf
   refine Cells.one (fun _ => ⟨rfl, rfl⟩) (by first | omega | (simp [As] at *; omega)) ?_
   conv => whnf
   refine Br.yes ?_
   conv => whnf
   refine Len.map ?_
   conv => whnf
   refine Ask.o h fun p9 h => ?_
   conv => whnf
   refine Elem.o (by first | omega | (simp [As] at *; omega)) ?_
   conv => whnf
   refine Br.yes ?_
   conv => whnf
   refine Br.yes ?_
   conv => whnf
   refine Ask.o h fun p10 h => ?_
   conv => whnf
   cases h; exact ⟨rfl, rfl⟩
  conv => whnf
  refine Br.no ?_
  conv => whnf
  refine Br.no ?_
  conv => whnf
  refine Br.no ?_
  conv => whnf
  refine Br.no ?_
  conv => whnf
  refine Br.no ?_
  conv => whnf
  refine Br.no ?_
  conv => whnf
  refine Br.no ?_
  conv => whnf
  refine Ask.o h fun p11 h => ?_
  conv => whnf
  cases h; exact ⟨rfl, rfl⟩
 conv => whnf
 cases h; exact ⟨rfl, rfl⟩
noncomputable def Eo (a0 : SAlgebra) (in0 : List Bool) (x6 : Int) : (Int × (List Bool)) → Option ((Int × (List Bool)) ⊕ (List Bool)) := fun (x7, x5') =>
 ask ((0 : Int) ≤ x6 ∧ x6 < (↑a0.Ops.length : Int)) <|
 if x7 < (↑(nth a0.Ops x6.toNat).Table.length : Int) then
 ask ((0 : Int) ≤ x6 ∧ x6 < (↑a0.Ops.length : Int)) <|
 (Ip (a0.Size) ((nth a0.Ops x6.toNat).Arity) (x7)).bind fun r5 =>
 (Am (Dp a0 in0 x6 x7 x5' r5) ((0 : Int), true)).bind fun q12_9 =>
 if (q12_9) = true then
 ask ((0 : Int) ≤ x6 ∧ x6 < (↑a0.Ops.length : Int)) <|
 ask ((0 : Int) ≤ x7 ∧ x7 < (↑(nth a0.Ops x6.toNat).Table.length : Int)) <|
 ask ((0 : Int) ≤ nth (nth a0.Ops x6.toNat).Table x7.toNat ∧ nth (nth a0.Ops x6.toNat).Table x7.toNat < (↑x5'.length : Int)) <|
 ask (InI (x7 + (1 : Int))) <|
 some (.inl (x7 + (1 : Int), x5'.set (nth (nth a0.Ops x6.toNat).Table x7.toNat).toNat true))
 else
 ask (InI (x7 + (1 : Int))) <|
 some (.inl (x7 + (1 : Int), x5'))
 else
 some (.inr x5')
def Lr (a0 : SAlgebra) (in0 : List Bool) (x6 : Int) : (Int × (List Bool)) → St := fun s => [(7, A.val (Af s.1)), (6, A.val (Af (x6))), (5, A.val ((slr true 1 V.bool) s.2)), (2, A.val ((rP true (Ag false)) (a0))), (1, A.val ((slr false 1 V.bool) (in0)))]
def Qr (a0 : SAlgebra) (in0 : List Bool) (x6 : Int) : (List Bool) → Tgt
 | s => ((Ex.exit 2), [6, 5, 2, 1], [(6, A.val (Af (x6))), (5, A.val ((slr true 1 V.bool) s)), (2, A.val ((rP true (Ag false)) (a0))), (1, A.val ((slr false 1 V.bool) (in0)))])
theorem Abl {a0 : SAlgebra} {in0 : List Bool} {x6 : Int} (s : (Int × (List Bool))) (o : (Int × (List Bool)) ⊕ (List Bool)) (h : Eo a0 in0 x6 s = some o) : vc Try.prog Qq (C0 [7, 6, 5, 2, 1] (Lr a0 in0 x6) (Qr a0 in0 x6) o) (Lr a0 in0 x6 s) := by
 obtain ⟨x7, x5'⟩ := s
 unfold Eo at h
 try dsimp only at h
 conv => whnf
 refine Cells.lit rfl rfl ?_
 conv => whnf
 refine Len.map ?_
 conv => whnf
 refine Ask.o h fun p2 h => ?_
 conv => whnf
 refine Elem.o (by first | omega | (simp [As] at *; omega)) ?_
 conv => whnf
 refine Len.map ?_
 conv => whnf
 refine Br.od h (fun p3 h => ?_) (fun p3 h => ?_)
 ·conv => whnf
  refine Cells.lit rfl rfl ?_
  conv => whnf
  refine Cells.lit rfl rfl ?_
  conv => whnf
  refine Len.map ?_
  conv => whnf
  refine Ask.o h fun p4 h => ?_
  conv => whnf
  refine Elem.o (by first | omega | (simp [As] at *; omega)) ?_
  conv => whnf
  refine CallQ.o (slr true 1 Af) (by first | rfl | simp only [Aa, V.fz, fzL, V.up, upL, Ab, Ac, Ad, slr, List.cons_append, List.nil_append] | simp [Aa, V.fz, fzL, V.up, upL, Ab, Ac, Ad, slr]) h (fun r h => Agq h) (fun r5 h => ?_)
  conv => whnf
  refine LoopQ.o [10, 9, 8, 7, 6, 5, 2, 1] (K9 a0 in0 x6 x7 x5' r5) (Rz a0 in0 x6 x7 x5' r5) h (fun s o h => Aan s o h) (by first | rfl | simp [restrict, look, Aa, V.fz, fzL, V.up, upL, Ab, Ac, Ad, slr]) (fun _ => rfl) ?_
  rintro q12_9 h
  try dsimp only at h
  conv => whnf
  refine Br.ob h (fun p13 h => ?_) (fun p13 h => ?_)
  ·conv => whnf
   refine Cells.lit rfl rfl ?_
   conv => whnf
   refine Len.map ?_
   conv => whnf
   refine Ask.o h fun p14 h => ?_
   conv => whnf
   refine Elem.o (by first | omega | (simp [As] at *; omega)) ?_
   conv => whnf
   refine Len.map ?_
   conv => whnf
   refine Ask.o h fun p15 h => ?_
   conv => whnf
   refine Elem.o (by first | omega | (simp [As] at *; omega)) ?_
   conv => whnf
   refine Len.map ?_
   conv => whnf
   refine Ask.o h fun p16 h => ?_
   conv => whnf
   refine SetKids.one (fun _ => ⟨rfl, rfl⟩) (true) (by first | rfl | simp only [Aa, V.fz, fzL, V.up, upL, Ab, Ac, Ad, slr, List.cons_append, List.nil_append] | simp [Aa, V.fz, fzL, V.up, upL, Ab, Ac, Ad, slr]) (by first | omega | (simp [As] at *; omega)) ?_
   conv => whnf
   refine Ask.o h fun p17 h => ?_
   conv => whnf
   cases h; exact ⟨rfl, rfl⟩
  conv => whnf
  refine Ask.o h fun p18 h => ?_
  conv => whnf
  cases h; exact ⟨rfl, rfl⟩
 conv => whnf
 cases h; exact ⟨rfl, rfl⟩
noncomputable def Fy (a0 : SAlgebra) (in0 : List Bool) : (Int × (List Bool)) → Option ((Int × (List Bool)) ⊕ (List Bool)) := fun (x6, x5) =>
 if x6 < (↑a0.Ops.length : Int) then
 (Am (Eo a0 in0 x6) ((0 : Int), x5)).bind fun q19_5 =>
 ask (InI (x6 + (1 : Int))) <|
 some (.inl (x6 + (1 : Int), q19_5))
 else
 some (.inr x5)
def Ly (a0 : SAlgebra) (in0 : List Bool) : (Int × (List Bool)) → St := fun s => [(6, A.val (Af s.1)), (5, A.val ((slr true 1 V.bool) s.2)), (2, A.val ((rP true (Ag false)) (a0))), (1, A.val ((slr false 1 V.bool) (in0)))]
def Qu (_a0 : SAlgebra) (_in0 : List Bool) : (List Bool) → Tgt
 | s => ((Ex.exit 0), [5], [(5, A.val ((slr true 1 V.bool) s))])
theorem Aa4 {a0 : SAlgebra} {in0 : List Bool} (s : (Int × (List Bool))) (o : (Int × (List Bool)) ⊕ (List Bool)) (h : Fy a0 in0 s = some o) : vc Try.prog Q8 (C0 [6, 5, 2, 1] (Ly a0 in0) (Qu a0 in0) o) (Ly a0 in0 s) := by
 obtain ⟨x6, x5⟩ := s
 unfold Fy at h
 try dsimp only at h
 conv => whnf
 refine Cells.lit rfl rfl ?_
 conv => whnf
 refine Len.map ?_
 conv => whnf
 refine Br.od h (fun p1 h => ?_) (fun p1 h => ?_)
 ·conv => whnf
  refine LoopQ.o [7, 6, 5, 2, 1] (Lr a0 in0 x6) (Qr a0 in0 x6) h (fun s o h => Abl s o h) (by first | rfl | simp [restrict, look, Aa, V.fz, fzL, V.up, upL, Ab, Ac, Ad, slr]) (fun _ => rfl) ?_
  rintro q19_5 h
  try dsimp only at h
  conv => whnf
  refine Ask.o h fun p20 h => ?_
  conv => whnf
  cases h; exact ⟨rfl, rfl⟩
 conv => whnf
 cases h; exact ⟨rfl, rfl⟩
noncomputable def Is (a0 : SAlgebra) (in0 : (List Bool)) : Option (List Bool) :=
 ask ((A5 Bool).length + (in0).length ≤ LIM) <|
 (Am (Fy a0 in0) ((0 : Int), A5 Bool ++ in0)).bind fun q21_5 =>
 some q21_5
theorem Ag3 {a0 : SAlgebra} {in0 : (List Bool)} {v : (List Bool)} (h : Is a0 in0 = some v) : Ret Try.prog P7 [(Ag false) a0, (slr false 1 V.bool) in0] ((slr true 1 V.bool) v) := by
 refine A1 Ag5 (Nat.le_of_ble_eq_true rfl) ?_
 unfold Is at h
 conv => whnf
 refine BslQ.o V.bool (A5 Bool) (by exact fun _ => ⟨rfl, rfl⟩) (by first | rfl | simp only [Aa, V.fz, fzL, V.up, upL, Ab, Ac, Ad, slr, List.cons_append, List.nil_append] | simp [Aa, V.fz, fzL, V.up, upL, Ab, Ac, Ad, slr]) ?_
 conv => whnf
 refine AppQ.o (m := 1) V.bool (by exact fun _ => ⟨rfl, rfl⟩) (A5 Bool) (in0) (by first | rfl | simp only [Aa, V.fz, fzL, V.up, upL, Ab, Ac, Ad, slr, List.cons_append, List.nil_append] | simp [Aa, V.fz, fzL, V.up, upL, Ab, Ac, Ad, slr]) (by first | rfl | simp only [Aa, V.fz, fzL, V.up, upL, Ab, Ac, Ad, slr, List.cons_append, List.nil_append] | simp [Aa, V.fz, fzL, V.up, upL, Ab, Ac, Ad, slr]) h fun h => ?_
 conv => whnf
 refine LoopQ.o [6, 5, 2, 1] (Ly a0 in0) (Qu a0 in0) h (fun s o h => Aa4 s o h) (by first | rfl | simp [restrict, look, Aa, V.fz, fzL, V.up, upL, Ab, Ac, Ad, slr]) (fun _ => rfl) ?_
 rintro q21_5 h
 try dsimp only at h
 conv => whnf
 cases h; exact (by first | rfl | simp only [Ah, Aa, V.fz, fzL, V.up, upL, Ab, Ac, Ad, slr] | simp [Ah, Aa, V.fz, fzL, V.up, upL, Ab, Ac, Ad, slr])
noncomputable def Cf (s0 : (List Int)) (t0 : (List Int)) : Option Int :=
 if (↑s0.length : Int) < (↑t0.length : Int) then
 some (-1 : Int)
 else
 if (↑s0.length : Int) > (↑t0.length : Int) then
 some (1 : Int)
 else
 (D8 (s0) (t0)).bind fun r3 =>
 some r3
theorem Nc {s0 : (List Int)} {t0 : (List Int)} {v : Int} (h : Cf s0 t0 = some v) : Ret Try.prog C6 [(slr false 1 Af) s0, (slr false 1 Af) t0] (Af v) := by
 refine A1 Wr (Nat.le_of_ble_eq_true rfl) ?_
 unfold Cf at h
 conv => whnf
 refine Len.map ?_
 conv => whnf
 refine Len.map ?_
 conv => whnf
 refine Br.od h (fun p1 h => ?_) (fun p1 h => ?_)
 ·conv => whnf
  cases h; exact (by first | rfl | simp only [Ah, Aa, V.fz, fzL, V.up, upL, Ab, Ac, Ad, slr] | simp [Ah, Aa, V.fz, fzL, V.up, upL, Ab, Ac, Ad, slr])
 conv => whnf
 refine Len.map ?_
 conv => whnf
 refine Len.map ?_
 conv => whnf
 refine Br.od h (fun p2 h => ?_) (fun p2 h => ?_)
 ·conv => whnf
  cases h; exact (by first | rfl | simp only [Ah, Aa, V.fz, fzL, V.up, upL, Ab, Ac, Ad, slr] | simp [Ah, Aa, V.fz, fzL, V.up, upL, Ab, Ac, Ad, slr])
 conv => whnf
 refine CallQ.o Af (by first | rfl | simp only [Aa, V.fz, fzL, V.up, upL, Ab, Ac, Ad, slr, List.cons_append, List.nil_append] | simp [Aa, V.fz, fzL, V.up, upL, Ab, Ac, Ad, slr]) h (fun r h => Wv h) (fun r3 h => ?_)
 conv => whnf
 cases h; exact (by first | rfl | simp only [Ah, Aa, V.fz, fzL, V.up, upL, Ab, Ac, Ad, slr] | simp [Ah, Aa, V.fz, fzL, V.up, upL, Ab, Ac, Ad, slr])
noncomputable def Hn (list0 : (List Int)) (at0 : Int) : Option (List Int) :=
 ask (0 ≤ (0 : Int) ∧ (0 : Int) ≤ at0 ∧ at0 ≤ ((list0.length : Nat) : Int)) <|
 (Ht (List.take (at0.toNat - Int.toNat (0 : Int)) (List.drop (Int.toNat (0 : Int)) list0))).bind fun r1 =>
 ask (InI (at0 + (1 : Int))) <|
 ask (0 ≤ at0 + (1 : Int) ∧ at0 + (1 : Int) ≤ (↑list0.length : Int) ∧ (↑list0.length : Int) ≤ ((list0.length : Nat) : Int)) <|
 ask ((r1).length + (List.take ((↑list0.length : Int).toNat - (at0 + (1 : Int)).toNat) (List.drop (at0 + (1 : Int)).toNat list0)).length ≤ LIM) <|
 some (r1 ++ List.take ((↑list0.length : Int).toNat - (at0 + (1 : Int)).toNat) (List.drop (at0 + (1 : Int)).toNat list0))
theorem Ae5 {list0 : (List Int)} {at0 : Int} {v : (List Int)} (h : Hn list0 at0 = some v) : Ret Try.prog Ow [(slr false 1 Af) list0, Af at0] ((slr true 1 Af) v) := by
 refine A1 Adp (Nat.le_of_ble_eq_true rfl) ?_
 unfold Hn at h
 conv => whnf
 refine SlcQ.o Af h fun h => ?_
 conv => whnf
 refine CallP.o (slr true 1 Af) (by first | rfl | simp only [Aa, V.fz, fzL, V.up, upL, Ab, Ac, Ad, slr, List.cons_append, List.nil_append] | simp [Aa, V.fz, fzL, V.up, upL, Ab, Ac, Ad, slr]) h (fun r h => Zb h) (fun r1 h => ?_)
 conv => whnf
 refine Ask.o h fun p2 h => ?_
 conv => whnf
 refine Len.map ?_
 conv => whnf
 refine SlcQ.o Af h fun h => ?_
 conv => whnf
 refine AppQ.o (m := 1) Af (by exact fun _ => ⟨rfl, rfl⟩) (r1) (List.take ((↑list0.length : Int).toNat - (at0 + (1 : Int)).toNat) (List.drop (at0 + (1 : Int)).toNat list0)) (by first | rfl | simp only [Aa, V.fz, fzL, V.up, upL, Ab, Ac, Ad, slr, List.cons_append, List.nil_append] | simp [Aa, V.fz, fzL, V.up, upL, Ab, Ac, Ad, slr]) (by first | rfl | simp only [Aa, V.fz, fzL, V.up, upL, Ab, Ac, Ad, slr, List.cons_append, List.nil_append] | simp [Aa, V.fz, fzL, V.up, upL, Ab, Ac, Ad, slr]) h fun h => ?_
 conv => whnf
 cases h; exact (by first | rfl | simp only [Ah, Aa, V.fz, fzL, V.up, upL, Ab, Ac, Ad, slr] | simp [Ah, Aa, V.fz, fzL, V.up, upL, Ab, Ac, Ad, slr])
noncomputable def Dn (rows0 : List (List Int)) (beyond0 : List Int → List Int → Option Bool) (x14 : Int) (_x5 : List (List Int)) : (Int × Bool) → Option ((Int × Bool) ⊕ Bool) := fun (x21, x8) =>
 if x21 < (↑rows0.length : Int) then
 ask ((0 : Int) ≤ x21 ∧ x21 < (↑rows0.length : Int)) <|
 if x21 ≠ x14 then
 (beyond0 (nth rows0 x14.toNat) (nth rows0 x21.toNat)).bind fun r6 =>
 if (r6) = true then
 ask (InI (x21 + (1 : Int))) <|
 some (.inl (x21 + (1 : Int), false))
 else
 ask (InI (x21 + (1 : Int))) <|
 some (.inl (x21 + (1 : Int), x8))
 else
 ask (InI (x21 + (1 : Int))) <|
 some (.inl (x21 + (1 : Int), x8))
 else
 some (.inr x8)
def Ji (rows0 : List (List Int)) (f_beyond0 : Nat) (c_beyond0 : List V) (x14 : Int) (x5 : List (List Int)) : (Int × Bool) → St := fun s => [(21, A.val (Af s.1)), (20, A.val (Af ((↑rows0.length : Int)))), (19, A.val ((slr false 1 (slr false 1 Af)) (rows0))), (8, A.val (V.bool s.2)), (7, A.val ((slr false 1 Af) (nth rows0 x14.toNat))), (6, A.val (Af (x14))), (14, A.val (Af (x14))), (13, A.val (Af ((↑rows0.length : Int)))), (12, A.val ((slr false 1 (slr false 1 Af)) (rows0))), (5, A.val ((slr true 1 (slr true 1 Af)) (x5))), (0, A.val ((slr false 1 (slr false 1 Af)) (rows0))), (1, A.val (V.fclo f_beyond0 c_beyond0))]
def Oj (rows0 : List (List Int)) (f_beyond0 : Nat) (c_beyond0 : List V) (x14 : Int) (x5 : List (List Int)) : Bool → Tgt
 | s => ((Ex.exit 2), [8, 7, 14, 13, 12, 5, 0, 1], [(8, A.val (V.bool s)), (7, A.val ((slr false 1 Af) (nth rows0 x14.toNat))), (14, A.val (Af (x14))), (13, A.val (Af ((↑rows0.length : Int)))), (12, A.val ((slr false 1 (slr false 1 Af)) (rows0))), (5, A.val ((slr true 1 (slr true 1 Af)) (x5))), (0, A.val ((slr false 1 (slr false 1 Af)) (rows0))), (1, A.val (V.fclo f_beyond0 c_beyond0))])
theorem Xu {rows0 : List (List Int)} {beyond0 : List Int → List Int → Option Bool} {x14 : Int} {x5 : List (List Int)} {f_beyond0 : Nat} {c_beyond0 : List V} (h_beyond0 : ∀ w_0 w_1 v, beyond0 w_0 w_1 = some v → Ret Try.prog f_beyond0 ([(slr false 1 Af) w_0, (slr false 1 Af) w_1] ++ fzL c_beyond0) (V.bool v)) (s : (Int × Bool)) (o : (Int × Bool) ⊕ Bool) (h : Dn rows0 beyond0 x14 x5 s = some o) : vc Try.prog Oi (C0 [21, 20, 19, 8, 7, 6, 14, 13, 12, 5, 0, 1] (Ji rows0 f_beyond0 c_beyond0 x14 x5) (Oj rows0 f_beyond0 c_beyond0 x14 x5) o) (Ji rows0 f_beyond0 c_beyond0 x14 x5 s) := by
 obtain ⟨x21, x8⟩ := s
 unfold Dn at h
 try dsimp only at h
 conv => whnf
 refine Br.od h (fun p3 h => ?_) (fun p3 h => ?_)
 ·conv => whnf
  refine Len.map ?_
  conv => whnf
  refine Ask.o h fun p4 h => ?_
  conv => whnf
  refine Elem.o (by first | omega | (simp [As] at *; omega)) ?_
  conv => whnf
  refine Br.on h (fun p5 h => ?_) (fun p5 h => ?_)
  ·conv => whnf
   refine Br.yes ?_
   conv => whnf
   refine Br.yes ?_
   conv => whnf
   refine Br.yes ?_
   conv => whnf
   refine CloQ.o V.bool (by first | rfl | simp only [Aa, V.fz, fzL, V.up, upL, Ab, Ac, Ad, slr, List.cons_append, List.nil_append] | simp [Aa, V.fz, fzL, V.up, upL, Ab, Ac, Ad, slr]) (fun _ => by first | rfl | simp [Gl, V.noFz, Bz, Be, NoFz.eq]) h (fun r h => h_beyond0 _ _ _ h) (fun r6 h => ?_)
   conv => whnf
   refine Br.yes ?_
   conv => whnf
   refine Br.ob h (fun p7 h => ?_) (fun p7 h => ?_)
   ·conv => whnf
    refine Ask.o h fun p8 h => ?_
    conv => whnf
    cases h; exact ⟨rfl, rfl⟩
   conv => whnf
   refine Ask.o h fun p9 h => ?_
   conv => whnf
   cases h; exact ⟨rfl, rfl⟩
  conv => whnf
  refine Br.no ?_
  conv => whnf
  refine Br.no ?_
  conv => whnf
  refine Br.no ?_
  conv => whnf
  refine Br.no ?_
  conv => whnf
  refine Br.no ?_
  conv => whnf
  refine Ask.o h fun p10 h => ?_
  conv => whnf
  cases h; exact ⟨rfl, rfl⟩
 conv => whnf
 cases h; exact ⟨rfl, rfl⟩
noncomputable def De (rows0 : List (List Int)) (beyond0 : List Int → List Int → Option Bool) : (Int × (List (List Int))) → Option ((Int × (List (List Int))) ⊕ (List (List Int))) := fun (x14, x5) =>
 if x14 < (↑rows0.length : Int) then
 ask ((0 : Int) ≤ x14 ∧ x14 < (↑rows0.length : Int)) <|
 (Am (Dn rows0 beyond0 x14 x5) ((0 : Int), true)).bind fun q11_8 =>
 if (q11_8) = true then
 (Ht (nth rows0 x14.toNat)).bind fun r13 =>
 ask ((x5).length + ([r13]).length ≤ LIM) <|
 ask (InI (x14 + (1 : Int))) <|
 some (.inl (x14 + (1 : Int), x5 ++ [r13]))
 else
 ask (InI (x14 + (1 : Int))) <|
 some (.inl (x14 + (1 : Int), x5))
 else
 some (.inr x5)
def Jg (rows0 : List (List Int)) (f_beyond0 : Nat) (c_beyond0 : List V) : (Int × (List (List Int))) → St := fun s => [(14, A.val (Af s.1)), (13, A.val (Af ((↑rows0.length : Int)))), (12, A.val ((slr false 1 (slr false 1 Af)) (rows0))), (5, A.val ((slr true 1 (slr true 1 Af)) s.2)), (0, A.val ((slr false 1 (slr false 1 Af)) (rows0))), (1, A.val (V.fclo f_beyond0 c_beyond0))]
def Oo (_rows0 : List (List Int)) (_f_beyond0 : Nat) (_c_beyond0 : List V) : (List (List Int)) → Tgt
 | s => ((Ex.exit 0), [5], [(5, A.val ((slr true 1 (slr true 1 Af)) s))])
theorem Yq {rows0 : List (List Int)} {beyond0 : List Int → List Int → Option Bool} {f_beyond0 : Nat} {c_beyond0 : List V} (h_beyond0 : ∀ w_0 w_1 v, beyond0 w_0 w_1 = some v → Ret Try.prog f_beyond0 ([(slr false 1 Af) w_0, (slr false 1 Af) w_1] ++ fzL c_beyond0) (V.bool v)) (s : (Int × (List (List Int)))) (o : (Int × (List (List Int))) ⊕ (List (List Int))) (h : De rows0 beyond0 s = some o) : vc Try.prog Ox (C0 [14, 13, 12, 5, 0, 1] (Jg rows0 f_beyond0 c_beyond0) (Oo rows0 f_beyond0 c_beyond0) o) (Jg rows0 f_beyond0 c_beyond0 s) := by
 obtain ⟨x14, x5⟩ := s
 unfold De at h
 try dsimp only at h
 conv => whnf
 refine Br.od h (fun p1 h => ?_) (fun p1 h => ?_)
 ·conv => whnf
  refine Len.map ?_
  conv => whnf
  refine Ask.o h fun p2 h => ?_
  conv => whnf
  refine Elem.o (by first | omega | (simp [As] at *; omega)) ?_
  conv => whnf
  refine Len.map ?_
  conv => whnf
  refine LoopQ.o [21, 20, 19, 8, 7, 6, 14, 13, 12, 5, 0, 1] (Ji rows0 f_beyond0 c_beyond0 x14 x5) (Oj rows0 f_beyond0 c_beyond0 x14 x5) h (fun s o h => Xu h_beyond0 s o h) (by first | rfl | simp [restrict, look, Aa, V.fz, fzL, V.up, upL, Ab, Ac, Ad, slr]) (fun _ => rfl) ?_
  rintro q11_8 h
  try dsimp only at h
  conv => whnf
  refine Br.ob h (fun p12 h => ?_) (fun p12 h => ?_)
  ·conv => whnf
   refine CallQ.o (slr true 1 Af) (by first | rfl | simp only [Aa, V.fz, fzL, V.up, upL, Ab, Ac, Ad, slr, List.cons_append, List.nil_append] | simp [Aa, V.fz, fzL, V.up, upL, Ab, Ac, Ad, slr]) h (fun r h => Zb h) (fun r13 h => ?_)
   conv => whnf
   refine BslQ.o (slr true 1 Af) [r13] (by exact fun _ => ⟨rfl, rfl⟩) (by first | rfl | simp only [Aa, V.fz, fzL, V.up, upL, Ab, Ac, Ad, slr, List.cons_append, List.nil_append] | simp [Aa, V.fz, fzL, V.up, upL, Ab, Ac, Ad, slr]) ?_
   conv => whnf
   refine NoOwn.own rfl ?_
   conv => whnf
   refine AppQ.o (m := 1) (slr true 1 Af) (by exact fun _ => ⟨rfl, rfl⟩) (x5) ([r13]) (by first | rfl | simp only [Aa, V.fz, fzL, V.up, upL, Ab, Ac, Ad, slr, List.cons_append, List.nil_append] | simp [Aa, V.fz, fzL, V.up, upL, Ab, Ac, Ad, slr]) (by first | rfl | simp only [Aa, V.fz, fzL, V.up, upL, Ab, Ac, Ad, slr, List.cons_append, List.nil_append] | simp [Aa, V.fz, fzL, V.up, upL, Ab, Ac, Ad, slr]) h fun h => ?_
   conv => whnf
   refine Ask.o h fun p14 h => ?_
   conv => whnf
   cases h; exact ⟨rfl, rfl⟩
  conv => whnf
  refine Ask.o h fun p15 h => ?_
  conv => whnf
  cases h; exact ⟨rfl, rfl⟩
 conv => whnf
 cases h; exact ⟨rfl, rfl⟩
noncomputable def C9 (rows0 : (List (List Int))) (beyond0 : ((List Int) → (List Int) → Option Bool)) : Option (List (List Int)) :=
 (Am (De rows0 beyond0) ((0 : Int), A5 (List Int))).bind fun q16_5 =>
 some q16_5
theorem Mz {rows0 : (List (List Int))} {beyond0 : ((List Int) → (List Int) → Option Bool)} {f_beyond0 : Nat} {c_beyond0 : List V} (h_beyond0 : ∀ w_0 w_1 v, beyond0 w_0 w_1 = some v → Ret Try.prog f_beyond0 ([(slr false 1 Af) w_0, (slr false 1 Af) w_1] ++ fzL c_beyond0) (V.bool v)) {v : (List (List Int))} (h : C9 rows0 beyond0 = some v) : Ret Try.prog I0 [(slr false 1 (slr false 1 Af)) rows0, V.fclo f_beyond0 c_beyond0] ((slr true 1 (slr true 1 Af)) v) := by
 refine A1 Acf (Nat.le_of_ble_eq_true rfl) ?_
 unfold C9 at h
 conv => whnf
 refine BslQ.o (slr true 1 Af) (A5 (List Int)) (by exact fun _ => ⟨rfl, rfl⟩) (by first | rfl | simp only [Aa, V.fz, fzL, V.up, upL, Ab, Ac, Ad, slr, List.cons_append, List.nil_append] | simp [Aa, V.fz, fzL, V.up, upL, Ab, Ac, Ad, slr]) ?_
 conv => whnf
 refine Len.map ?_
 conv => whnf
 refine LoopQ.o [14, 13, 12, 5, 0, 1] (Jg rows0 f_beyond0 c_beyond0) (Oo rows0 f_beyond0 c_beyond0) h (fun s o h => Yq h_beyond0 s o h) (by first | rfl | simp [restrict, look, Aa, V.fz, fzL, V.up, upL, Ab, Ac, Ad, slr]) (fun _ => rfl) ?_
 rintro q16_5 h
 try dsimp only at h
 conv => whnf
 cases h; exact (by first | rfl | simp only [Ah, Aa, V.fz, fzL, V.up, upL, Ab, Ac, Ad, slr] | simp [Ah, Aa, V.fz, fzL, V.up, upL, Ab, Ac, Ad, slr])
noncomputable def Dq (x0 : List Int) (y0 : List Int) : Int → Option (Int ⊕ (Unit ⊕ Unit)) := fun x9 =>
 if x9 < (↑x0.length : Int) then
 ask ((0 : Int) ≤ x9 ∧ x9 < (↑x0.length : Int)) <|
 (G6 (y0) (nth x0 x9.toNat)).bind fun r3 =>
 if (r3) = true then
 some (.inr (.inl ()))
 else
 ask (InI (x9 + (1 : Int))) <|
 some (.inl (x9 + (1 : Int)))
 else
 some (.inr (.inr ()))
def Lg (x0 : List Int) (y0 : List Int) : Int → St := fun s => [(9, A.val (Af s)), (8, A.val (Af ((↑x0.length : Int)))), (7, A.val ((slr false 1 Af) (x0))), (1, A.val ((slr false 1 Af) (y0)))]
def Rl (_x0 : List Int) (_y0 : List Int) : (Unit ⊕ Unit) → Tgt
 | (.inl _s) => (Ex.ret, [4], [(4, A.val (V.bool (false)))])
 | (.inr _s) => ((Ex.exit 0), [], [])
theorem Abj {x0 : List Int} {y0 : List Int} (x9 : Int) (o : Int ⊕ (Unit ⊕ Unit)) (h : Dq x0 y0 x9 = some o) : vc Try.prog Rf (C0 [9, 8, 7, 1] (Lg x0 y0) (Rl x0 y0) o) (Lg x0 y0 x9) := by
 unfold Dq at h
 try dsimp only at h
 conv => whnf
 refine Br.od h (fun p1 h => ?_) (fun p1 h => ?_)
 ·conv => whnf
  refine Len.map ?_
  conv => whnf
  refine Ask.o h fun p2 h => ?_
  conv => whnf
  refine Elem.o (by first | omega | (simp [As] at *; omega)) ?_
  conv => whnf
  refine CallQ.o V.bool (by first | rfl | simp only [Aa, V.fz, fzL, V.up, upL, Ab, Ac, Ad, slr, List.cons_append, List.nil_append] | simp [Aa, V.fz, fzL, V.up, upL, Ab, Ac, Ad, slr]) h (fun r h => W6 h) (fun r3 h => ?_)
  conv => whnf
  refine Br.ob h (fun p4 h => ?_) (fun p4 h => ?_)
  ·conv => whnf
   cases h; exact ⟨rfl, rfl⟩
  conv => whnf
  refine Ask.o h fun p5 h => ?_
  conv => whnf
  cases h; exact ⟨rfl, rfl⟩
 conv => whnf
 cases h; exact ⟨rfl, rfl⟩
noncomputable def G7 (x0 : (List Int)) (y0 : (List Int)) : Option Bool :=
 (Am (Dq x0 y0) (0 : Int)).bind fun t => match t with
 | (.inl _) => (some false)
 | (.inr _) => (some true)
theorem Xb {x0 : (List Int)} {y0 : (List Int)} {v : Bool} (h : G7 x0 y0 = some v) : Ret Try.prog Iq [(slr false 1 Af) x0, (slr false 1 Af) y0] (V.bool v) := by
 refine A1 Ahp (Nat.le_of_ble_eq_true rfl) ?_
 unfold G7 at h
 conv => whnf
 refine Len.map ?_
 conv => whnf
 refine LoopQ.o [9, 8, 7, 1] (Lg x0 y0) (Rl x0 y0) h (fun s o h => Abj s o h) (by first | rfl | simp [restrict, look, Aa, V.fz, fzL, V.up, upL, Ab, Ac, Ad, slr]) (by rintro (_ | _) <;> rfl) ?_
 rintro (⟨⟩ | ⟨⟩) h
 ·try dsimp only at h
  conv => whnf
  cases h; exact (by first | rfl | simp only [Ah, Aa, V.fz, fzL, V.up, upL, Ab, Ac, Ad, slr] | simp [Ah, Aa, V.fz, fzL, V.up, upL, Ab, Ac, Ad, slr])
 try dsimp only at h
 conv => whnf
 cases h; exact (by first | rfl | simp only [Ah, Aa, V.fz, fzL, V.up, upL, Ab, Ac, Ad, slr] | simp [Ah, Aa, V.fz, fzL, V.up, upL, Ab, Ac, Ad, slr])
noncomputable def Co (x0 : List Int) (y0 : List Int) : Int → Option (Int ⊕ (Unit ⊕ Unit)) := fun x5 =>
 if x5 < (↑x0.length : Int) then
 ask ((0 : Int) ≤ x5 ∧ x5 < (↑x0.length : Int)) <|
 (Kt (y0) (nth x0 x5.toNat)).bind fun r3 =>
 if (r3) = true then
 ask (InI (x5 + (1 : Int))) <|
 some (.inl (x5 + (1 : Int)))
 else
 some (.inr (.inl ()))
 else
 some (.inr (.inr ()))
def Jc (x0 : List Int) (y0 : List Int) : Int → St := fun s => [(5, A.val (Af s)), (0, A.val ((slr false 1 Af) (x0))), (1, A.val ((slr false 1 Af) (y0)))]
def Oq (_x0 : List Int) (_y0 : List Int) : (Unit ⊕ Unit) → Tgt
 | (.inl _s) => (Ex.ret, [4], [(4, A.val (V.bool (false)))])
 | (.inr _s) => ((Ex.exit 0), [], [])
theorem Yx {x0 : List Int} {y0 : List Int} (x5 : Int) (o : Int ⊕ (Unit ⊕ Unit)) (h : Co x0 y0 x5 = some o) : vc Try.prog Ob (C0 [5, 0, 1] (Jc x0 y0) (Oq x0 y0) o) (Jc x0 y0 x5) := by
 unfold Co at h
 try dsimp only at h
 conv => whnf
 refine Len.map ?_
 conv => whnf
 refine Br.od h (fun p1 h => ?_) (fun p1 h => ?_)
 ·conv => whnf
  refine Len.map ?_
  conv => whnf
  refine Ask.o h fun p2 h => ?_
  conv => whnf
  refine Elem.o (by first | omega | (simp [As] at *; omega)) ?_
  conv => whnf
  refine CallQ.o V.bool (by first | rfl | simp only [Aa, V.fz, fzL, V.up, upL, Ab, Ac, Ad, slr, List.cons_append, List.nil_append] | simp [Aa, V.fz, fzL, V.up, upL, Ab, Ac, Ad, slr]) h (fun r h => Aiv h) (fun r3 h => ?_)
  conv => whnf
  refine Br.flip ?_
  conv => whnf
  refine Br.ob h (fun p4 h => ?_) (fun p4 h => ?_)
  ·conv => whnf
   refine Ask.o h fun p5 h => ?_
   conv => whnf
   cases h; exact ⟨rfl, rfl⟩
  conv => whnf
  cases h; exact ⟨rfl, rfl⟩
 conv => whnf
 cases h; exact ⟨rfl, rfl⟩
noncomputable def Fd (x0 : (List Int)) (y0 : (List Int)) : Option Bool :=
 (Am (Co x0 y0) (0 : Int)).bind fun t => match t with
 | (.inl _) => (some false)
 | (.inr _) => (some true)
theorem T1 {x0 : (List Int)} {y0 : (List Int)} {v : Bool} (h : Fd x0 y0 = some v) : Ret Try.prog I2 [(slr false 1 Af) x0, (slr false 1 Af) y0] (V.bool v) := by
 refine A1 Acs (Nat.le_of_ble_eq_true rfl) ?_
 unfold Fd at h
 conv => whnf
 refine LoopQ.o [5, 0, 1] (Jc x0 y0) (Oq x0 y0) h (fun s o h => Yx s o h) (by first | rfl | simp [restrict, look, Aa, V.fz, fzL, V.up, upL, Ab, Ac, Ad, slr]) (by rintro (_ | _) <;> rfl) ?_
 rintro (⟨⟩ | ⟨⟩) h
 ·try dsimp only at h
  conv => whnf
  cases h; exact (by first | rfl | simp only [Ah, Aa, V.fz, fzL, V.up, upL, Ab, Ac, Ad, slr] | simp [Ah, Aa, V.fz, fzL, V.up, upL, Ab, Ac, Ad, slr])
 try dsimp only at h
 conv => whnf
 cases h; exact (by first | rfl | simp only [Ah, Aa, V.fz, fzL, V.up, upL, Ab, Ac, Ad, slr] | simp [Ah, Aa, V.fz, fzL, V.up, upL, Ab, Ac, Ad, slr])
end Go.Proofs.Ytidaaijecmkndaa.Ax
