/-
 What the functions compute, as functions on plain data, and that the program does compute it; written by program.
-/
import Derived.Test.YtidaaijecmkndaaCode
import Derived.Test.YtidaaijecmkndaaG3
import Derived.Test.YtidaaijecmkndaaG5
import Derived.Test.YtidaaijecmkndaaG6
import Derived.Test.YtidaaijecmkndaaG9
namespace Go.Proofs.Ytidaaijecmkndaa.Ax
open Go
set_option maxRecDepth 100000
set_option maxHeartbeats 4000000
noncomputable def Ch (r3 : List (List Int)) (x6 : Int) (_x4 : List (List Int)) : (Int × Bool) → Option ((Int × Bool) ⊕ Bool) := fun (x8, x7) =>
 if x8 < (↑r3.length : Int) then
 ask ((0 : Int) ≤ x8 ∧ x8 < (↑r3.length : Int)) <|
 if (↑(nth r3 x8.toNat).length : Int) > (0 : Int) then
 ask ((0 : Int) ≤ x8 ∧ x8 < (↑r3.length : Int)) <|
 ask ((0 : Int) ≤ x6 ∧ x6 < (↑r3.length : Int)) <|
 if (↑(nth r3 x8.toNat).length : Int) < (↑(nth r3 x6.toNat).length : Int) then
 ask ((0 : Int) ≤ x8 ∧ x8 < (↑r3.length : Int)) <|
 ask ((0 : Int) ≤ x6 ∧ x6 < (↑r3.length : Int)) <|
 (Fd (nth r3 x8.toNat) (nth r3 x6.toNat)).bind fun r14 =>
 if (r14) = true then
 ask (InI (x8 + (1 : Int))) <|
 some (.inl (x8 + (1 : Int), false))
 else
 ask (InI (x8 + (1 : Int))) <|
 some (.inl (x8 + (1 : Int), x7))
 else
 ask (InI (x8 + (1 : Int))) <|
 some (.inl (x8 + (1 : Int), x7))
 else
 ask (InI (x8 + (1 : Int))) <|
 some (.inl (x8 + (1 : Int), x7))
 else
 some (.inr x7)
def G9 (r3 : List (List Int)) (x6 : Int) (x4 : List (List Int)) : (Int × Bool) → St := fun s => [(8, A.val (Af s.1)), (7, A.val (V.bool s.2)), (6, A.val (Af (x6))), (5, A.val ((slr true 1 (slr false 1 Af)) (r3))), (4, A.val ((slr true 1 (slr false 1 Af)) (x4)))]
def Kz (r3 : List (List Int)) (x6 : Int) (x4 : List (List Int)) : Bool → Tgt
 | s => ((Ex.exit 2), [7, 6, 5, 4], [(7, A.val (V.bool s)), (6, A.val (Af (x6))), (5, A.val ((slr true 1 (slr false 1 Af)) (r3))), (4, A.val ((slr true 1 (slr false 1 Af)) (x4)))])
theorem T9 {r3 : List (List Int)} {x6 : Int} {x4 : List (List Int)} (s : (Int × Bool)) (o : (Int × Bool) ⊕ Bool) (h : Ch r3 x6 x4 s = some o) : vc Try.prog Kx (C0 [8, 7, 6, 5, 4] (G9 r3 x6 x4) (Kz r3 x6 x4) o) (G9 r3 x6 x4 s) := by
 obtain ⟨x8, x7⟩ := s
 unfold Ch at h
 try dsimp only at h
 conv => whnf
 refine Len.map ?_
 conv => whnf
 refine Br.od h (fun p6 h => ?_) (fun p6 h => ?_)
 ·conv => whnf
  refine Len.map ?_
  conv => whnf
  refine Ask.o h fun p7 h => ?_
  conv => whnf
  refine Cells.one (fun _ => ⟨rfl, rfl⟩) (by first | omega | (simp [As] at *; omega)) ?_
  conv => whnf
  refine Len.map ?_
  conv => whnf
  refine Br.od h (fun p8 h => ?_) (fun p8 h => ?_)
  ·conv => whnf
   refine Br.yes ?_
   conv => whnf
   refine Br.yes ?_
   conv => whnf
   refine Len.map ?_
   conv => whnf
   refine Ask.o h fun p9 h => ?_
   conv => whnf
   refine Br.yes ?_
   conv => whnf
   refine Cells.one (fun _ => ⟨rfl, rfl⟩) (by first | omega | (simp [As] at *; omega)) ?_
   conv => whnf
   refine Br.yes ?_
   conv => whnf
   refine Len.map ?_
   conv => whnf
   refine Br.yes ?_
   conv => whnf
   refine Br.yes ?_
   conv => whnf
   refine Br.yes ?_
   conv => whnf
   refine Len.map ?_
   conv => whnf
   refine Ask.o h fun p10 h => ?_
   conv => whnf
   refine Br.yes ?_
   conv => whnf
   refine Cells.one (fun _ => ⟨rfl, rfl⟩) (by first | omega | (simp [As] at *; omega)) ?_
   conv => whnf
   refine Br.yes ?_
   conv => whnf
   refine Len.map ?_
   conv => whnf
   refine Br.yes ?_
   conv => whnf
   refine Br.yes ?_
   conv => whnf
   refine Br.od h (fun p11 h => ?_) (fun p11 h => ?_)
   ·conv => whnf
    refine Br.yes ?_
    conv => whnf
    refine Br.yes ?_
    conv => whnf
    refine Len.map ?_
    conv => whnf
    refine Ask.o h fun p12 h => ?_
    conv => whnf
    refine Br.yes ?_
    conv => whnf
    refine Cells.one (fun _ => ⟨rfl, rfl⟩) (by first | omega | (simp [As] at *; omega)) ?_
    conv => whnf
    refine Br.yes ?_
    conv => whnf
    refine Br.yes ?_
    conv => whnf
    refine Br.yes ?_
    conv => whnf
    refine Len.map ?_
    conv => whnf
    refine Ask.o h fun p13 h => ?_
    conv => whnf
    refine Br.yes ?_
    conv => whnf
    refine Cells.one (fun _ => ⟨rfl, rfl⟩) (by first | omega | (simp [As] at *; omega)) ?_
    conv => whnf
    refine Br.yes ?_
    conv => whnf
    refine CallQ.o V.bool (by first | rfl | simp only [Aa, V.fz, fzL, V.up, upL, Ab, Ac, Ad, slr, List.cons_append, List.nil_append] | simp [Aa, V.fz, fzL, V.up, upL, Ab, Ac, Ad, slr]) h (fun r h => T1 h) (fun r14 h => ?_)
    conv => whnf
    refine Br.yes ?_
    conv => whnf
    refine Br.ob h (fun p15 h => ?_) (fun p15 h => ?_)
    ·conv => whnf
     refine Ask.o h fun p16 h => ?_
     conv => whnf
     cases h; exact ⟨rfl, rfl⟩
    conv => whnf
    refine Ask.o h fun p17 h => ?_
    conv => whnf
    cases h; exact ⟨rfl, rfl⟩
   conv => whnf
   refine Br.no ?_
   conv => whnf
   refine Br.no ?_
   conv => whnf
   refine Br.no ?_
   conv => whnf
   refine Br.no ?_
   conv => whnf
   refine Br.no ?_
   conv => whnf
   refine Br.no ?_
   conv => whnf
   refine Br.no ?_
   conv => whnf
   refine Br.no ?_
   conv => whnf
   refine Br.no ?_
   conv => whnf
   refine Br.no ?_
   conv => whnf
   refine Ask.o h fun p18 h => ?_
   conv => whnf
   cases h; exact ⟨rfl, rfl⟩
  conv => whnf
  refine Br.no ?_
  conv => whnf
  refine Br.no ?_
  conv => whnf
  refine Br.no ?_
  conv => whnf
  refine Br.no ?_
  conv => whnf
  refine Br.no ?_
  conv => whnf
  refine Br.no ?_
  conv => whnf
  refine Br.no ?_
  conv => whnf
  refine Br.no ?_
  conv => whnf
  refine Br.no ?_
  conv => whnf
  refine Br.no ?_
  conv => whnf
  refine Br.no ?_
  conv => whnf
  refine Br.no ?_
  conv => whnf
  refine Br.no ?_
  conv => whnf
  refine Br.no ?_
  conv => whnf
  refine Br.no ?_
  conv => whnf
  refine Br.no ?_
  conv => whnf
  refine Br.no ?_
  conv => whnf
  refine Br.no ?_
  conv => whnf
  refine Br.no ?_
  conv => whnf
  refine Br.no ?_
  conv => whnf
  refine Br.no ?_
  conv => whnf
  refine Br.no ?_
  conv => whnf
  refine Ask.o h fun p19 h => ?_
  conv => whnf
  cases h; exact ⟨rfl, rfl⟩
 conv => whnf
 cases h; exact ⟨rfl, rfl⟩
noncomputable def Ci (r3 : List (List Int)) : (Int × (List (List Int))) → Option ((Int × (List (List Int))) ⊕ (List (List Int))) := fun (x6, x4) =>
 if x6 < (↑r3.length : Int) then
 ask ((0 : Int) ≤ x6 ∧ x6 < (↑r3.length : Int)) <|
 (Am (Ch r3 x6 x4) ((0 : Int), decide ((↑(nth r3 x6.toNat).length : Int) > (0 : Int)))).bind fun q20_7 =>
 if (q20_7) = true then
 ask ((0 : Int) ≤ x6 ∧ x6 < (↑r3.length : Int)) <|
 ask ((x4).length + ([nth r3 x6.toNat]).length ≤ LIM) <|
 ask (InI (x6 + (1 : Int))) <|
 some (.inl (x6 + (1 : Int), x4 ++ [nth r3 x6.toNat]))
 else
 ask (InI (x6 + (1 : Int))) <|
 some (.inl (x6 + (1 : Int), x4))
 else
 some (.inr x4)
def Hb (r3 : List (List Int)) : (Int × (List (List Int))) → St := fun s => [(6, A.val (Af s.1)), (5, A.val ((slr true 1 (slr false 1 Af)) (r3))), (4, A.val ((slr true 1 (slr false 1 Af)) s.2))]
def Ky (_r3 : List (List Int)) : (List (List Int)) → Tgt
 | s => ((Ex.exit 0), [4], [(4, A.val ((slr true 1 (slr false 1 Af)) s))])
theorem T7 {r3 : List (List Int)} (s : (Int × (List (List Int)))) (o : (Int × (List (List Int))) ⊕ (List (List Int))) (h : Ci r3 s = some o) : vc Try.prog K0 (C0 [6, 5, 4] (Hb r3) (Ky r3) o) (Hb r3 s) := by
 obtain ⟨x6, x4⟩ := s
 unfold Ci at h
 try dsimp only at h
 conv => whnf
 refine Len.map ?_
 conv => whnf
 refine Br.od h (fun p4 h => ?_) (fun p4 h => ?_)
 ·conv => whnf
  refine Len.map ?_
  conv => whnf
  refine Ask.o h fun p5 h => ?_
  conv => whnf
  refine Cells.one (fun _ => ⟨rfl, rfl⟩) (by first | omega | (simp [As] at *; omega)) ?_
  conv => whnf
  refine Len.map ?_
  conv => whnf
  refine LoopQ.o [8, 7, 6, 5, 4] (G9 r3 x6 x4) (Kz r3 x6 x4) h (fun s o h => T9 s o h) (by first | rfl | simp [restrict, look, Aa, V.fz, fzL, V.up, upL, Ab, Ac, Ad, slr]) (fun _ => rfl) ?_
  rintro q20_7 h
  try dsimp only at h
  conv => whnf
  refine Br.ob h (fun p21 h => ?_) (fun p21 h => ?_)
  ·conv => whnf
   refine Len.map ?_
   conv => whnf
   refine Ask.o h fun p22 h => ?_
   conv => whnf
   refine Cells.one (fun _ => ⟨rfl, rfl⟩) (by first | omega | (simp [As] at *; omega)) ?_
   conv => whnf
   refine BslQ.o (slr false 1 Af) ([nth r3 x6.toNat]) (by exact fun _ => ⟨rfl, rfl⟩) (by first | rfl | simp only [Aa, V.fz, fzL, V.up, upL, Ab, Ac, Ad, slr, List.cons_append, List.nil_append] | simp [Aa, V.fz, fzL, V.up, upL, Ab, Ac, Ad, slr]) ?_
   conv => whnf
   refine NoOwn.o (fun _ => rfl) ?_
   conv => whnf
   refine AppQ.o (m := 1) (slr false 1 Af) (by exact fun _ => ⟨rfl, rfl⟩) (x4) ([nth r3 x6.toNat]) (by first | rfl | simp only [Aa, V.fz, fzL, V.up, upL, Ab, Ac, Ad, slr, List.cons_append, List.nil_append] | simp [Aa, V.fz, fzL, V.up, upL, Ab, Ac, Ad, slr]) (by first | rfl | simp only [Aa, V.fz, fzL, V.up, upL, Ab, Ac, Ad, slr, List.cons_append, List.nil_append] | simp [Aa, V.fz, fzL, V.up, upL, Ab, Ac, Ad, slr]) h fun h => ?_
   conv => whnf
   refine Ask.o h fun p23 h => ?_
   conv => whnf
   cases h; exact ⟨rfl, rfl⟩
  conv => whnf
  refine Ask.o h fun p24 h => ?_
  conv => whnf
  cases h; exact ⟨rfl, rfl⟩
 conv => whnf
 cases h; exact ⟨rfl, rfl⟩
noncomputable def Et (a0 : SAlgebra) : Option ((List (List Int)) × Bool) :=
 (Eh (a0)).bind fun r1 =>
 if (r1) = true then
 (Hw (a0)).bind fun r3 =>
 (Am (Ci r3) ((0 : Int), A5 (List Int))).bind fun q25_4 =>
 some (q25_4, true)
 else
 some (A5 (List Int), false)
theorem Xl {a0 : SAlgebra} {v : ((List (List Int)) × Bool)} (h : Et a0 = some v) : Ret Try.prog I5 [(Ag false) a0] ((fun r => V.tup [(slr false 1 (slr false 1 Af)) r.1, V.bool r.2]) v) := by
 refine V4 Xt (Nat.le_of_ble_eq_true rfl) ?_
 unfold Et at h
 conv => whnf
 refine BslQ.o (slr true 1 Af) (A5 (List Int)) (by exact fun _ => ⟨rfl, rfl⟩) (by first | rfl | simp only [Aa, V.fz, fzL, V.up, upL, Ab, Ac, Ad, slr, List.cons_append, List.nil_append] | simp [Aa, V.fz, fzL, V.up, upL, Ab, Ac, Ad, slr]) ?_
 conv => whnf
 refine Cells.lit rfl rfl ?_
 conv => whnf
 refine CallQ.o V.bool (by first | rfl | simp only [Aa, V.fz, fzL, V.up, upL, Ab, Ac, Ad, slr, List.cons_append, List.nil_append] | simp [Aa, V.fz, fzL, V.up, upL, Ab, Ac, Ad, slr]) h (fun r h => L5 h) (fun r1 h => ?_)
 conv => whnf
 refine Br.flip ?_
 conv => whnf
 refine Br.ob h (fun p2 h => ?_) (fun p2 h => ?_)
 ·conv => whnf
  refine Cells.lit rfl rfl ?_
  conv => whnf
  refine CallQ.o (slr true 1 (slr false 1 Af)) (by first | rfl | simp only [Aa, V.fz, fzL, V.up, upL, Ab, Ac, Ad, slr, List.cons_append, List.nil_append] | simp [Aa, V.fz, fzL, V.up, upL, Ab, Ac, Ad, slr]) h (fun r h => Z5 h) (fun r3 h => ?_)
  conv => whnf
  refine LoopQ.o [6, 5, 4] (Hb r3) (Ky r3) h (fun s o h => T7 s o h) (by first | rfl | simp [restrict, look, Aa, V.fz, fzL, V.up, upL, Ab, Ac, Ad, slr]) (fun _ => rfl) ?_
  rintro q25_4 h
  try dsimp only at h
  conv => whnf
  cases h; exact (by first | rfl | simp only [Ah, V.fz, fzL, V.up, Ab, slr] | simp [Ah, Aa, V.fz, fzL, V.up, upL, Ab, Ac, Ad, slr])
 conv => whnf
 cases h; exact (by first | rfl | simp only [Ah, Aa, V.fz, fzL, V.up, upL, Ab, Ac, Ad, slr] | simp [Ah, Aa, V.fz, fzL, V.up, upL, Ab, Ac, Ad, slr])
noncomputable def Ew (a0 : SAlgebra) : Option (List (List Int)) :=
 (F5 (a0)).bind fun r1 =>
 ask (InI ((↑r1.length : Int) - (1 : Int))) <|
 ask (0 ≤ (0 : Int) ∧ (0 : Int) ≤ (↑r1.length : Int) - (1 : Int) ∧ (↑r1.length : Int) - (1 : Int) ≤ ((r1.length : Nat) : Int)) <|
 (C9 (List.take (((↑r1.length : Int) - (1 : Int)).toNat - Int.toNat (0 : Int)) (List.drop (Int.toNat (0 : Int)) r1)) (fun w_0 w_1 => G7 w_0 w_1)).bind fun r3 =>
 some r3
theorem Yv {a0 : SAlgebra} {v : (List (List Int))} (h : Ew a0 = some v) : Ret Try.prog Jh [(Ag false) a0] ((slr true 1 (slr true 1 Af)) v) := by
 refine A1 Yu (Nat.le_of_ble_eq_true rfl) ?_
 unfold Ew at h
 conv => whnf
 refine Cells.lit rfl rfl ?_
 conv => whnf
 refine CallQ.o (slr true 1 (slr true 1 Af)) (by first | rfl | simp only [Aa, V.fz, fzL, V.up, upL, Ab, Ac, Ad, slr, List.cons_append, List.nil_append] | simp [Aa, V.fz, fzL, V.up, upL, Ab, Ac, Ad, slr]) h (fun r h => Va h) (fun r1 h => ?_)
 conv => whnf
 refine FrzQ.d (V.sl false (1 : Nat) (List.map (slr false (1 : Nat) Af) r1)) (by first | (simp only [slr]; done) | (simp [Fe, V.fz, Ab, slr]; done)) ?_
 conv => whnf
 refine Len.map ?_
 conv => whnf
 refine Ask.o h fun p2 h => ?_
 conv => whnf
 refine SlcQ.o (slr false 1 Af) h fun h => ?_
 conv => whnf
 refine CallQ.o (slr true 1 (slr true 1 Af)) (by first | rfl | simp only [Aa, V.fz, fzL, V.up, upL, Ab, Ac, Ad, slr, List.cons_append, List.nil_append] | simp [Aa, V.fz, fzL, V.up, upL, Ab, Ac, Ad, slr]) h (fun r h => Mz (f_beyond0 := Iq) (c_beyond0 := []) (fun w_0 w_1 v h => Ret.cast (by first | rfl | simp only [Aa, V.fz, fzL, V.up, upL, Ab, Ac, Ad, slr, List.cons_append, List.nil_append] | simp [Aa, V.fz, fzL, V.up, upL, Ab, Ac, Ad, slr]) (Xb h)) h) (fun r3 h => ?_)
 conv => whnf
 cases h; exact (by first | rfl | simp only [Ah, Aa, V.fz, fzL, V.up, upL, Ab, Ac, Ad, slr] | simp [Ah, Aa, V.fz, fzL, V.up, upL, Ab, Ac, Ad, slr])
noncomputable def C4 (a0 : SAlgebra) (r1 : List (List Int)) (x5 : Int) (_x3 : List (List Int)) : (Int × Bool) → Option ((Int × Bool) ⊕ Bool) := fun (x7, x6) =>
 if x7 < (↑r1.length : Int) then
 ask ((0 : Int) ≤ x7 ∧ x7 < (↑r1.length : Int)) <|
 if (↑(nth r1 x7.toNat).length : Int) < a0.Size then
 ask ((0 : Int) ≤ x7 ∧ x7 < (↑r1.length : Int)) <|
 ask ((0 : Int) ≤ x5 ∧ x5 < (↑r1.length : Int)) <|
 if (↑(nth r1 x7.toNat).length : Int) > (↑(nth r1 x5.toNat).length : Int) then
 ask ((0 : Int) ≤ x5 ∧ x5 < (↑r1.length : Int)) <|
 ask ((0 : Int) ≤ x7 ∧ x7 < (↑r1.length : Int)) <|
 (Fd (nth r1 x5.toNat) (nth r1 x7.toNat)).bind fun r12 =>
 if (r12) = true then
 ask (InI (x7 + (1 : Int))) <|
 some (.inl (x7 + (1 : Int), false))
 else
 ask (InI (x7 + (1 : Int))) <|
 some (.inl (x7 + (1 : Int), x6))
 else
 ask (InI (x7 + (1 : Int))) <|
 some (.inl (x7 + (1 : Int), x6))
 else
 ask (InI (x7 + (1 : Int))) <|
 some (.inl (x7 + (1 : Int), x6))
 else
 some (.inr x6)
def Ie (a0 : SAlgebra) (r1 : List (List Int)) (x5 : Int) (x3 : List (List Int)) : (Int × Bool) → St := fun s => [(7, A.val (Af s.1)), (6, A.val (V.bool s.2)), (5, A.val (Af (x5))), (4, A.val ((slr true 1 (slr false 1 Af)) (r1))), (3, A.val ((slr true 1 (slr false 1 Af)) (x3))), (1, A.val ((rP true (Ag false)) (a0)))]
def Nf (a0 : SAlgebra) (r1 : List (List Int)) (x5 : Int) (x3 : List (List Int)) : Bool → Tgt
 | s => ((Ex.exit 2), [6, 5, 4, 3, 1], [(6, A.val (V.bool s)), (5, A.val (Af (x5))), (4, A.val ((slr true 1 (slr false 1 Af)) (r1))), (3, A.val ((slr true 1 (slr false 1 Af)) (x3))), (1, A.val ((rP true (Ag false)) (a0)))])
theorem Wt {a0 : SAlgebra} {r1 : List (List Int)} {x5 : Int} {x3 : List (List Int)} (s : (Int × Bool)) (o : (Int × Bool) ⊕ Bool) (h : C4 a0 r1 x5 x3 s = some o) : vc Try.prog Nd (C0 [7, 6, 5, 4, 3, 1] (Ie a0 r1 x5 x3) (Nf a0 r1 x5 x3) o) (Ie a0 r1 x5 x3 s) := by
 obtain ⟨x7, x6⟩ := s
 unfold C4 at h
 try dsimp only at h
 conv => whnf
 refine Len.map ?_
 conv => whnf
 refine Br.od h (fun p4 h => ?_) (fun p4 h => ?_)
 ·conv => whnf
  refine Len.map ?_
  conv => whnf
  refine Ask.o h fun p5 h => ?_
  conv => whnf
  refine Cells.one (fun _ => ⟨rfl, rfl⟩) (by first | omega | (simp [As] at *; omega)) ?_
  conv => whnf
  refine Len.map ?_
  conv => whnf
  refine Cells.lit rfl rfl ?_
  conv => whnf
  refine Br.od h (fun p6 h => ?_) (fun p6 h => ?_)
  ·conv => whnf
   refine Br.yes ?_
   conv => whnf
   refine Br.yes ?_
   conv => whnf
   refine Len.map ?_
   conv => whnf
   refine Ask.o h fun p7 h => ?_
   conv => whnf
   refine Br.yes ?_
   conv => whnf
   refine Cells.one (fun _ => ⟨rfl, rfl⟩) (by first | omega | (simp [As] at *; omega)) ?_
   conv => whnf
   refine Br.yes ?_
   conv => whnf
   refine Len.map ?_
   conv => whnf
   refine Br.yes ?_
   conv => whnf
   refine Br.yes ?_
   conv => whnf
   refine Br.yes ?_
   conv => whnf
   refine Len.map ?_
   conv => whnf
   refine Ask.o h fun p8 h => ?_
   conv => whnf
   refine Br.yes ?_
   conv => whnf
   refine Cells.one (fun _ => ⟨rfl, rfl⟩) (by first | omega | (simp [As] at *; omega)) ?_
   conv => whnf
   refine Br.yes ?_
   conv => whnf
   refine Len.map ?_
   conv => whnf
   refine Br.yes ?_
   conv => whnf
   refine Br.yes ?_
   conv => whnf
   refine Br.od h (fun p9 h => ?_) (fun p9 h => ?_)
   ·conv => whnf
    refine Br.yes ?_
    conv => whnf
    refine Br.yes ?_
    conv => whnf
    refine Len.map ?_
    conv => whnf
    refine Ask.o h fun p10 h => ?_
    conv => whnf
    refine Br.yes ?_
    conv => whnf
    refine Cells.one (fun _ => ⟨rfl, rfl⟩) (by first | omega | (simp [As] at *; omega)) ?_
    conv => whnf
    refine Br.yes ?_
    conv => whnf
    refine Br.yes ?_
    conv => whnf
    refine Br.yes ?_
    conv => whnf
    refine Len.map ?_
    conv => whnf
    refine Ask.o h fun p11 h => ?_
    conv => whnf
    refine Br.yes ?_
    conv => whnf
    refine Cells.one (fun _ => ⟨rfl, rfl⟩) (by first | omega | (simp [As] at *; omega)) ?_
    conv => whnf
    refine Br.yes ?_
    conv => whnf
    refine CallQ.o V.bool (by first | rfl | simp only [Aa, V.fz, fzL, V.up, upL, Ab, Ac, Ad, slr, List.cons_append, List.nil_append] | simp [Aa, V.fz, fzL, V.up, upL, Ab, Ac, Ad, slr]) h (fun r h => T1 h) (fun r12 h => ?_)
    conv => whnf
    refine Br.yes ?_
    conv => whnf
    refine Br.ob h (fun p13 h => ?_) (fun p13 h => ?_)
    ·conv => whnf
     refine Ask.o h fun p14 h => ?_
     conv => whnf
     cases h; exact ⟨rfl, rfl⟩
    conv => whnf
    refine Ask.o h fun p15 h => ?_
    conv => whnf
    cases h; exact ⟨rfl, rfl⟩
   conv => whnf
   refine Br.no ?_
   conv => whnf
   refine Br.no ?_
   conv => whnf
   refine Br.no ?_
   conv => whnf
   refine Br.no ?_
   conv => whnf
   refine Br.no ?_
   conv => whnf
   refine Br.no ?_
   conv => whnf
   refine Br.no ?_
   conv => whnf
   refine Br.no ?_
   conv => whnf
   refine Br.no ?_
   conv => whnf
   refine Br.no ?_
   conv => whnf
   refine Ask.o h fun p16 h => ?_
   conv => whnf
   cases h; exact ⟨rfl, rfl⟩
  conv => whnf
  refine Br.no ?_
  conv => whnf
  refine Br.no ?_
  conv => whnf
  refine Br.no ?_
  conv => whnf
  refine Br.no ?_
  conv => whnf
  refine Br.no ?_
  conv => whnf
  refine Br.no ?_
  conv => whnf
  refine Br.no ?_
  conv => whnf
  refine Br.no ?_
  conv => whnf
  refine Br.no ?_
  conv => whnf
  refine Br.no ?_
  conv => whnf
  refine Br.no ?_
  conv => whnf
  refine Br.no ?_
  conv => whnf
  refine Br.no ?_
  conv => whnf
  refine Br.no ?_
  conv => whnf
  refine Br.no ?_
  conv => whnf
  refine Br.no ?_
  conv => whnf
  refine Br.no ?_
  conv => whnf
  refine Br.no ?_
  conv => whnf
  refine Br.no ?_
  conv => whnf
  refine Br.no ?_
  conv => whnf
  refine Br.no ?_
  conv => whnf
  refine Br.no ?_
  conv => whnf
  refine Ask.o h fun p17 h => ?_
  conv => whnf
  cases h; exact ⟨rfl, rfl⟩
 conv => whnf
 cases h; exact ⟨rfl, rfl⟩
noncomputable def C5 (a0 : SAlgebra) (r1 : List (List Int)) : (Int × (List (List Int))) → Option ((Int × (List (List Int))) ⊕ (List (List Int))) := fun (x5, x3) =>
 if x5 < (↑r1.length : Int) then
 ask ((0 : Int) ≤ x5 ∧ x5 < (↑r1.length : Int)) <|
 (Am (C4 a0 r1 x5 x3) ((0 : Int), decide ((↑(nth r1 x5.toNat).length : Int) < a0.Size))).bind fun q18_6 =>
 if (q18_6) = true then
 ask ((0 : Int) ≤ x5 ∧ x5 < (↑r1.length : Int)) <|
 ask ((x3).length + ([nth r1 x5.toNat]).length ≤ LIM) <|
 ask (InI (x5 + (1 : Int))) <|
 some (.inl (x5 + (1 : Int), x3 ++ [nth r1 x5.toNat]))
 else
 ask (InI (x5 + (1 : Int))) <|
 some (.inl (x5 + (1 : Int), x3))
 else
 some (.inr x3)
def Ig (a0 : SAlgebra) (r1 : List (List Int)) : (Int × (List (List Int))) → St := fun s => [(5, A.val (Af s.1)), (4, A.val ((slr true 1 (slr false 1 Af)) (r1))), (3, A.val ((slr true 1 (slr false 1 Af)) s.2)), (1, A.val ((rP true (Ag false)) (a0)))]
def Na (_a0 : SAlgebra) (_r1 : List (List Int)) : (List (List Int)) → Tgt
 | s => ((Ex.exit 0), [3], [(3, A.val ((slr true 1 (slr false 1 Af)) s))])
theorem W1 {a0 : SAlgebra} {r1 : List (List Int)} (s : (Int × (List (List Int)))) (o : (Int × (List (List Int))) ⊕ (List (List Int))) (h : C5 a0 r1 s = some o) : vc Try.prog Nj (C0 [5, 4, 3, 1] (Ig a0 r1) (Na a0 r1) o) (Ig a0 r1 s) := by
 obtain ⟨x5, x3⟩ := s
 unfold C5 at h
 try dsimp only at h
 conv => whnf
 refine Len.map ?_
 conv => whnf
 refine Br.od h (fun p2 h => ?_) (fun p2 h => ?_)
 ·conv => whnf
  refine Len.map ?_
  conv => whnf
  refine Ask.o h fun p3 h => ?_
  conv => whnf
  refine Cells.one (fun _ => ⟨rfl, rfl⟩) (by first | omega | (simp [As] at *; omega)) ?_
  conv => whnf
  refine Len.map ?_
  conv => whnf
  refine Cells.lit rfl rfl ?_
  conv => whnf
  refine LoopQ.o [7, 6, 5, 4, 3, 1] (Ie a0 r1 x5 x3) (Nf a0 r1 x5 x3) h (fun s o h => Wt s o h) (by first | rfl | simp [restrict, look, Aa, V.fz, fzL, V.up, upL, Ab, Ac, Ad, slr]) (fun _ => rfl) ?_
  rintro q18_6 h
  try dsimp only at h
  conv => whnf
  refine Br.ob h (fun p19 h => ?_) (fun p19 h => ?_)
  ·conv => whnf
   refine Len.map ?_
   conv => whnf
   refine Ask.o h fun p20 h => ?_
   conv => whnf
   refine Cells.one (fun _ => ⟨rfl, rfl⟩) (by first | omega | (simp [As] at *; omega)) ?_
   conv => whnf
   refine BslQ.o (slr false 1 Af) ([nth r1 x5.toNat]) (by exact fun _ => ⟨rfl, rfl⟩) (by first | rfl | simp only [Aa, V.fz, fzL, V.up, upL, Ab, Ac, Ad, slr, List.cons_append, List.nil_append] | simp [Aa, V.fz, fzL, V.up, upL, Ab, Ac, Ad, slr]) ?_
   conv => whnf
   refine NoOwn.o (fun _ => rfl) ?_
   conv => whnf
   refine AppQ.o (m := 1) (slr false 1 Af) (by exact fun _ => ⟨rfl, rfl⟩) (x3) ([nth r1 x5.toNat]) (by first | rfl | simp only [Aa, V.fz, fzL, V.up, upL, Ab, Ac, Ad, slr, List.cons_append, List.nil_append] | simp [Aa, V.fz, fzL, V.up, upL, Ab, Ac, Ad, slr]) (by first | rfl | simp only [Aa, V.fz, fzL, V.up, upL, Ab, Ac, Ad, slr, List.cons_append, List.nil_append] | simp [Aa, V.fz, fzL, V.up, upL, Ab, Ac, Ad, slr]) h fun h => ?_
   conv => whnf
   refine Ask.o h fun p21 h => ?_
   conv => whnf
   cases h; exact ⟨rfl, rfl⟩
  conv => whnf
  refine Ask.o h fun p22 h => ?_
  conv => whnf
  cases h; exact ⟨rfl, rfl⟩
 conv => whnf
 cases h; exact ⟨rfl, rfl⟩
noncomputable def Ga (a0 : SAlgebra) : Option (List (List Int)) :=
 (Hw (a0)).bind fun r1 =>
 (Am (C5 a0 r1) ((0 : Int), A5 (List Int))).bind fun q23_3 =>
 some q23_3
theorem Aai {a0 : SAlgebra} {v : (List (List Int))} (h : Ga a0 = some v) : Ret Try.prog Lq [(Ag false) a0] ((slr true 1 (slr false 1 Af)) v) := by
 refine A1 Abm (Nat.le_of_ble_eq_true rfl) ?_
 unfold Ga at h
 conv => whnf
 refine BslQ.o (slr true 1 Af) (A5 (List Int)) (by exact fun _ => ⟨rfl, rfl⟩) (by first | rfl | simp only [Aa, V.fz, fzL, V.up, upL, Ab, Ac, Ad, slr, List.cons_append, List.nil_append] | simp [Aa, V.fz, fzL, V.up, upL, Ab, Ac, Ad, slr]) ?_
 conv => whnf
 refine Cells.lit rfl rfl ?_
 conv => whnf
 refine CallQ.o (slr true 1 (slr false 1 Af)) (by first | rfl | simp only [Aa, V.fz, fzL, V.up, upL, Ab, Ac, Ad, slr, List.cons_append, List.nil_append] | simp [Aa, V.fz, fzL, V.up, upL, Ab, Ac, Ad, slr]) h (fun r h => Z5 h) (fun r1 h => ?_)
 conv => whnf
 refine LoopQ.o [5, 4, 3, 1] (Ig a0 r1) (Na a0 r1) h (fun s o h => W1 s o h) (by first | rfl | simp [restrict, look, Aa, V.fz, fzL, V.up, upL, Ab, Ac, Ad, slr]) (fun _ => rfl) ?_
 rintro q23_3 h
 try dsimp only at h
 conv => whnf
 cases h; exact (by first | rfl | simp only [Ah, Aa, V.fz, fzL, V.up, upL, Ab, Ac, Ad, slr] | simp [Ah, Aa, V.fz, fzL, V.up, upL, Ab, Ac, Ad, slr])
noncomputable def Cp (a0 : SAlgebra) : Option ((List (List Int)) × Bool) :=
 (Cc (a0)).bind fun r1 =>
 if (r1) = true then
 (Ew (a0)).bind fun r3 =>
 some (r3, true)
 else
 some (A5 (List Int), false)
theorem Yf {a0 : SAlgebra} {v : ((List (List Int)) × Bool)} (h : Cp a0 = some v) : Ret Try.prog Jb [(Ag false) a0] ((fun r => V.tup [(slr true 1 (slr true 1 Af)) r.1, V.bool r.2]) v) := by
 refine A1 Yg (Nat.le_of_ble_eq_true rfl) ?_
 unfold Cp at h
 conv => whnf
 refine Cells.lit rfl rfl ?_
 conv => whnf
 refine CallQ.o V.bool (by first | rfl | simp only [Aa, V.fz, fzL, V.up, upL, Ab, Ac, Ad, slr, List.cons_append, List.nil_append] | simp [Aa, V.fz, fzL, V.up, upL, Ab, Ac, Ad, slr]) h (fun r h => F3 h) (fun r1 h => ?_)
 conv => whnf
 refine Br.flip ?_
 conv => whnf
 refine Br.ob h (fun p2 h => ?_) (fun p2 h => ?_)
 ·conv => whnf
  refine Cells.lit rfl rfl ?_
  conv => whnf
  refine CallQ.o (slr true 1 (slr true 1 Af)) (by first | rfl | simp only [Aa, V.fz, fzL, V.up, upL, Ab, Ac, Ad, slr, List.cons_append, List.nil_append] | simp [Aa, V.fz, fzL, V.up, upL, Ab, Ac, Ad, slr]) h (fun r h => Yv h) (fun r3 h => ?_)
  conv => whnf
  cases h; exact (by first | rfl | simp only [Ah, Aa, V.fz, fzL, V.up, upL, Ab, Ac, Ad, slr] | simp [Ah, Aa, V.fz, fzL, V.up, upL, Ab, Ac, Ad, slr])
 conv => whnf
 refine BslQ.o (slr true 1 Af) (A5 (List Int)) (by exact fun _ => ⟨rfl, rfl⟩) (by first | rfl | simp only [Aa, V.fz, fzL, V.up, upL, Ab, Ac, Ad, slr, List.cons_append, List.nil_append] | simp [Aa, V.fz, fzL, V.up, upL, Ab, Ac, Ad, slr]) ?_
 conv => whnf
 cases h; exact (by first | rfl | simp only [Ah, Aa, V.fz, fzL, V.up, upL, Ab, Ac, Ad, slr] | simp [Ah, Aa, V.fz, fzL, V.up, upL, Ab, Ac, Ad, slr])
noncomputable def Cq (a0 : SAlgebra) : Option ((List (List Int)) × Bool) :=
 (Eh (a0)).bind fun r1 =>
 if (r1) = true then
 (Ga (a0)).bind fun r3 =>
 some (r3, true)
 else
 some (A5 (List Int), false)
theorem Yk {a0 : SAlgebra} {v : ((List (List Int)) × Bool)} (h : Cq a0 = some v) : Ret Try.prog Je [(Ag false) a0] ((fun r => V.tup [(slr false 1 (slr false 1 Af)) r.1, V.bool r.2]) v) := by
 refine V4 Yj (Nat.le_of_ble_eq_true rfl) ?_
 unfold Cq at h
 conv => whnf
 refine Cells.lit rfl rfl ?_
 conv => whnf
 refine CallQ.o V.bool (by first | rfl | simp only [Aa, V.fz, fzL, V.up, upL, Ab, Ac, Ad, slr, List.cons_append, List.nil_append] | simp [Aa, V.fz, fzL, V.up, upL, Ab, Ac, Ad, slr]) h (fun r h => L5 h) (fun r1 h => ?_)
 conv => whnf
 refine Br.flip ?_
 conv => whnf
 refine Br.ob h (fun p2 h => ?_) (fun p2 h => ?_)
 ·conv => whnf
  refine Cells.lit rfl rfl ?_
  conv => whnf
  refine CallQ.o (slr true 1 (slr false 1 Af)) (by first | rfl | simp only [Aa, V.fz, fzL, V.up, upL, Ab, Ac, Ad, slr, List.cons_append, List.nil_append] | simp [Aa, V.fz, fzL, V.up, upL, Ab, Ac, Ad, slr]) h (fun r h => Aai h) (fun r3 h => ?_)
  conv => whnf
  cases h; exact (by first | rfl | simp only [Ah, V.fz, fzL, V.up, Ab, slr] | simp [Ah, Aa, V.fz, fzL, V.up, upL, Ab, Ac, Ad, slr])
 conv => whnf
 refine BslQ.o (slr true 1 Af) (A5 (List Int)) (by exact fun _ => ⟨rfl, rfl⟩) (by first | rfl | simp only [Aa, V.fz, fzL, V.up, upL, Ab, Ac, Ad, slr, List.cons_append, List.nil_append] | simp [Aa, V.fz, fzL, V.up, upL, Ab, Ac, Ad, slr]) ?_
 conv => whnf
 cases h; exact (by first | rfl | simp only [Ah, Aa, V.fz, fzL, V.up, upL, Ab, Ac, Ad, slr] | simp [Ah, Aa, V.fz, fzL, V.up, upL, Ab, Ac, Ad, slr])
end Go.Proofs.Ytidaaijecmkndaa.Ax
