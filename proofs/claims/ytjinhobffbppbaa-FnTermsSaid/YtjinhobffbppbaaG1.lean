/-
 What the functions compute, as functions on plain data, and that the program does compute it; written by program.
-/
import Derived.Test.YtjinhobffbppbaaCode
namespace Go.Proofs.Ytjinhobffbppbaa.Ax
open Go
set_option maxRecDepth 100000
set_option maxHeartbeats 4000000
noncomputable def Lb (code0 : (List Int)) : Option Bool :=
 some (decide ((↑code0.length : Int) > (65536 : Int)))
theorem Aeo {code0 : (List Int)} {v : Bool} (h : Lb code0 = some v) : Ret Try.prog Ou [(slr false 1 (V.int IntKind.u8)) code0] (V.bool v) := by
 refine Bf Ae3 (Nat.le_of_ble_eq_true rfl) ?_
 unfold Lb at h
 conv => whnf
 refine Len.map ?_
 conv => whnf
 cases h; exact (by first | rfl | simp only [Ah, Aa, V.fz, fzL, V.up, upL, Ab, Ac, Ad, slr] | simp [Ah, Aa, V.fz, fzL, V.up, upL, Ab, Ac, Ad, slr])
noncomputable def Dq (a0 : List Int) (b0 : List Int) : Int → Option (Int ⊕ (Unit ⊕ Unit)) := fun x5 =>
 if x5 < (↑a0.length : Int) then
 ask ((0 : Int) ≤ x5 ∧ x5 < (↑a0.length : Int)) <|
 ask ((0 : Int) ≤ x5 ∧ x5 < (↑b0.length : Int)) <|
 if nth a0 x5.toNat ≠ nth b0 x5.toNat then
 some (.inr (.inl ()))
 else
 ask (InI (x5 + (1 : Int))) <|
 some (.inl (x5 + (1 : Int)))
 else
 some (.inr (.inr ()))
def Jq (a0 : List Int) (b0 : List Int) : Int → St := fun s => [(5, A.val (Ae s)), (0, A.val ((slr false 1 Ae) (a0))), (1, A.val ((slr false 1 Ae) (b0)))]
def Oa (_a0 : List Int) (_b0 : List Int) : (Unit ⊕ Unit) → Tgt
 | (.inl _s) => (Ex.ret, [4], [(4, A.val (V.bool (false)))])
 | (.inr _s) => ((Ex.exit 0), [], [])
theorem V2 {a0 : List Int} {b0 : List Int} (x5 : Int) (o : Int ⊕ (Unit ⊕ Unit)) (h : Dq a0 b0 x5 = some o) : vc Try.prog N5 (F6 [5, 0, 1] (Jq a0 b0) (Oa a0 b0) o) (Jq a0 b0 x5) := by
 unfold Dq at h
 try dsimp only at h
 conv => whnf
 refine Len.map ?_
 conv => whnf
 refine Br.od h (fun p2 h => ?_) (fun p2 h => ?_)
 ·conv => whnf
  refine Len.map ?_
  conv => whnf
  refine Ask.o h fun p3 h => ?_
  conv => whnf
  refine Elem.o (by first | omega | (simp [A5] at *; omega)) ?_
  conv => whnf
  refine Len.map ?_
  conv => whnf
  refine Ask.o h fun p4 h => ?_
  conv => whnf
  refine Elem.o (by first | omega | (simp [A5] at *; omega)) ?_
  conv => whnf
  refine Br.on h (fun p5 h => ?_) (fun p5 h => ?_)
  ·conv => whnf
   cases h; exact ⟨rfl, rfl⟩
  conv => whnf
  refine Ask.o h fun p6 h => ?_
  conv => whnf
  cases h; exact ⟨rfl, rfl⟩
 conv => whnf
 cases h; exact ⟨rfl, rfl⟩
noncomputable def Bp (a0 : (List Int)) (b0 : (List Int)) : Option Bool :=
 if (↑a0.length : Int) ≠ (↑b0.length : Int) then
 some false
 else
 (Bb (Dq a0 b0) (0 : Int)).bind fun t => match t with
 | (.inl _) => (some false)
 | (.inr _) => (some true)
theorem H4 {a0 : (List Int)} {b0 : (List Int)} {v : Bool} (h : Bp a0 b0 = some v) : Ret Try.prog Fb [(slr false 1 Ae) a0, (slr false 1 Ae) b0] (V.bool v) := by
 refine Bf Ade (Nat.le_of_ble_eq_true rfl) ?_
 unfold Bp at h
 conv => whnf
 refine Len.map ?_
 conv => whnf
 refine Len.map ?_
 conv => whnf
 refine Br.on h (fun p1 h => ?_) (fun p1 h => ?_)
 ·conv => whnf
  cases h; exact (by first | rfl | simp only [Ah, Aa, V.fz, fzL, V.up, upL, Ab, Ac, Ad, slr] | simp [Ah, Aa, V.fz, fzL, V.up, upL, Ab, Ac, Ad, slr])
 conv => whnf
 refine LoopQ.o [5, 0, 1] (Jq a0 b0) (Oa a0 b0) h (fun s o h => V2 s o h) (by first | rfl | simp [restrict, look, Aa, V.fz, fzL, V.up, upL, Ab, Ac, Ad, slr]) (by rintro (_ | _) <;> rfl) ?_
 rintro (⟨⟩ | ⟨⟩) h
 ·try dsimp only at h
  conv => whnf
  cases h; exact (by first | rfl | simp only [Ah, Aa, V.fz, fzL, V.up, upL, Ab, Ac, Ad, slr] | simp [Ah, Aa, V.fz, fzL, V.up, upL, Ab, Ac, Ad, slr])
 try dsimp only at h
 conv => whnf
 cases h; exact (by first | rfl | simp only [Ah, Aa, V.fz, fzL, V.up, upL, Ab, Ac, Ad, slr] | simp [Ah, Aa, V.fz, fzL, V.up, upL, Ab, Ac, Ad, slr])
noncomputable def Dc (t0 : List Int) (terms0 : List (List Int)) : (Int × (List Int)) → Option ((Int × (List Int)) ⊕ (Unit ⊕ (List Int))) := fun (x12, x6) =>
 if x12 < (↑t0.length : Int) then
 ask ((0 : Int) ≤ x12 ∧ x12 < (↑t0.length : Int)) <|
 if nth t0 x12.toNat < (0 : Int) then
 ask ((x6).length + ([nth t0 x12.toNat]).length ≤ LIM) <|
 ask (InI (x12 + (1 : Int))) <|
 some (.inl (x12 + (1 : Int), x6 ++ [nth t0 x12.toNat]))
 else
 if nth t0 x12.toNat ≥ (↑terms0.length : Int) then
 some (.inr (.inl ()))
 else
 ask ((0 : Int) ≤ nth t0 x12.toNat ∧ nth t0 x12.toNat < (↑terms0.length : Int)) <|
 ask ((x6).length + (nth terms0 (nth t0 x12.toNat).toNat).length ≤ LIM) <|
 if (↑(x6 ++ nth terms0 (nth t0 x12.toNat).toNat).length : Int) > (60 : Int) then
 some (.inr (.inl ()))
 else
 ask (InI (x12 + (1 : Int))) <|
 some (.inl (x12 + (1 : Int), x6 ++ nth terms0 (nth t0 x12.toNat).toNat))
 else
 some (.inr (.inr x6))
def F7 (t0 : List Int) (terms0 : List (List Int)) : (Int × (List Int)) → St := fun s => [(12, A.val (Ae s.1)), (11, A.val (Ae ((↑t0.length : Int)))), (10, A.val ((slr false 1 Ae) (t0))), (6, A.val ((slr true 1 Ae) s.2)), (1, A.val ((slr false 1 (slr false 1 Ae)) (terms0)))]
def Je (_t0 : List Int) (_terms0 : List (List Int)) : (Unit ⊕ (List Int)) → Tgt
 | (.inl _s) => (Ex.ret, [5, 4], [(5, A.val (V.bool (false))), (4, A.val ((slr true 1 Ae) (Au Int)))])
 | (.inr s) => ((Ex.exit 0), [6], [(6, A.val ((slr true 1 Ae) s))])
theorem Pf {t0 : List Int} {terms0 : List (List Int)} (s : (Int × (List Int))) (o : (Int × (List Int)) ⊕ (Unit ⊕ (List Int))) (h : Dc t0 terms0 s = some o) : vc Try.prog Jl (F6 [12, 11, 10, 6, 1] (F7 t0 terms0) (Je t0 terms0) o) (F7 t0 terms0 s) := by
 obtain ⟨x12, x6⟩ := s
 unfold Dc at h
 try dsimp only at h
 conv => whnf
 refine Br.od h (fun p1 h => ?_) (fun p1 h => ?_)
 ·conv => whnf
  refine Len.map ?_
  conv => whnf
  refine Ask.o h fun p2 h => ?_
  conv => whnf
  refine Elem.o (by first | omega | (simp [A5] at *; omega)) ?_
  conv => whnf
  refine Br.od h (fun p3 h => ?_) (fun p3 h => ?_)
  ·conv => whnf
   refine BslQ.o Ae ([nth t0 x12.toNat]) (by exact fun _ => ⟨rfl, rfl⟩) (by first | rfl | simp only [Aa, V.fz, fzL, V.up, upL, Ab, Ac, Ad, slr, List.cons_append, List.nil_append] | simp [Aa, V.fz, fzL, V.up, upL, Ab, Ac, Ad, slr]) ?_
   conv => whnf
   refine NoOwn.o (fun _ => rfl) ?_
   conv => whnf
   refine AppQ.o (m := 1) Ae (by exact fun _ => ⟨rfl, rfl⟩) (x6) ([nth t0 x12.toNat]) (by first | rfl | simp only [Aa, V.fz, fzL, V.up, upL, Ab, Ac, Ad, slr, List.cons_append, List.nil_append] | simp [Aa, V.fz, fzL, V.up, upL, Ab, Ac, Ad, slr]) (by first | rfl | simp only [Aa, V.fz, fzL, V.up, upL, Ab, Ac, Ad, slr, List.cons_append, List.nil_append] | simp [Aa, V.fz, fzL, V.up, upL, Ab, Ac, Ad, slr]) h fun h => ?_
   conv => whnf
   refine Ask.o h fun p4 h => ?_
   conv => whnf
   cases h; exact ⟨rfl, rfl⟩
  conv => whnf
  refine Len.map ?_
  conv => whnf
  refine Br.od h (fun p5 h => ?_) (fun p5 h => ?_)
  ·conv => whnf
   refine BslQ.o Ae (Au Int) (by exact fun _ => ⟨rfl, rfl⟩) (by first | rfl | simp only [Aa, V.fz, fzL, V.up, upL, Ab, Ac, Ad, slr, List.cons_append, List.nil_append] | simp [Aa, V.fz, fzL, V.up, upL, Ab, Ac, Ad, slr]) ?_
   conv => whnf
   cases h; exact ⟨rfl, rfl⟩
  conv => whnf
  refine Len.map ?_
  conv => whnf
  refine Ask.o h fun p6 h => ?_
  conv => whnf
  refine Elem.o (by first | omega | (simp [A5] at *; omega)) ?_
  conv => whnf
  refine AppQ.o (m := 1) Ae (by exact fun _ => ⟨rfl, rfl⟩) (x6) (nth terms0 (nth t0 x12.toNat).toNat) (by first | rfl | simp only [Aa, V.fz, fzL, V.up, upL, Ab, Ac, Ad, slr, List.cons_append, List.nil_append] | simp [Aa, V.fz, fzL, V.up, upL, Ab, Ac, Ad, slr]) (by first | rfl | simp only [Aa, V.fz, fzL, V.up, upL, Ab, Ac, Ad, slr, List.cons_append, List.nil_append] | simp [Aa, V.fz, fzL, V.up, upL, Ab, Ac, Ad, slr]) h fun h => ?_
  conv => whnf
  refine Len.map ?_
  conv => whnf
  refine Br.od h (fun p7 h => ?_) (fun p7 h => ?_)
  ·conv => whnf
   refine BslQ.o Ae (Au Int) (by exact fun _ => ⟨rfl, rfl⟩) (by first | rfl | simp only [Aa, V.fz, fzL, V.up, upL, Ab, Ac, Ad, slr, List.cons_append, List.nil_append] | simp [Aa, V.fz, fzL, V.up, upL, Ab, Ac, Ad, slr]) ?_
   conv => whnf
   cases h; exact ⟨rfl, rfl⟩
  conv => whnf
  refine Ask.o h fun p8 h => ?_
  conv => whnf
  cases h; exact ⟨rfl, rfl⟩
 conv => whnf
 cases h; exact ⟨rfl, rfl⟩
noncomputable def Ei (t0 : (List Int)) (terms0 : (List (List Int))) : Option ((List Int) × Bool) :=
 (Bb (Dc t0 terms0) ((0 : Int), Au Int)).bind fun t => match t with
 | (.inl _) => (some (Au Int, false))
 | (.inr q9_6) => (if (↑q9_6.length : Int) > (60 : Int) then
 some (Au Int, false)
 else
 some (q9_6, true))
theorem Sr {t0 : (List Int)} {terms0 : (List (List Int))} {v : ((List Int) × Bool)} (h : Ei t0 terms0 = some v) : Ret Try.prog Hr [(slr false 1 Ae) t0, (slr false 1 (slr false 1 Ae)) terms0] ((fun r => V.tup [(slr true 1 Ae) r.1, V.bool r.2]) v) := by
 refine Bf Sj (Nat.le_of_ble_eq_true rfl) ?_
 unfold Ei at h
 conv => whnf
 refine BslQ.o Ae (Au Int) (by exact fun _ => ⟨rfl, rfl⟩) (by first | rfl | simp only [Aa, V.fz, fzL, V.up, upL, Ab, Ac, Ad, slr, List.cons_append, List.nil_append] | simp [Aa, V.fz, fzL, V.up, upL, Ab, Ac, Ad, slr]) ?_
 conv => whnf
 refine Len.map ?_
 conv => whnf
 refine LoopQ.o [12, 11, 10, 6, 1] (F7 t0 terms0) (Je t0 terms0) h (fun s o h => Pf s o h) (by first | rfl | simp [restrict, look, Aa, V.fz, fzL, V.up, upL, Ab, Ac, Ad, slr]) (by rintro (_ | _) <;> rfl) ?_
 rintro (⟨⟩ | q9_6) h
 ·try dsimp only at h
  conv => whnf
  cases h; exact (by first | rfl | simp only [Ah, Aa, V.fz, fzL, V.up, upL, Ab, Ac, Ad, slr] | simp [Ah, Aa, V.fz, fzL, V.up, upL, Ab, Ac, Ad, slr])
 try dsimp only at h
 conv => whnf
 refine Len.map ?_
 conv => whnf
 refine Br.od h (fun p10 h => ?_) (fun p10 h => ?_)
 ·conv => whnf
  refine BslQ.o Ae (Au Int) (by exact fun _ => ⟨rfl, rfl⟩) (by first | rfl | simp only [Aa, V.fz, fzL, V.up, upL, Ab, Ac, Ad, slr, List.cons_append, List.nil_append] | simp [Aa, V.fz, fzL, V.up, upL, Ab, Ac, Ad, slr]) ?_
  conv => whnf
  cases h; exact (by first | rfl | simp only [Ah, Aa, V.fz, fzL, V.up, upL, Ab, Ac, Ad, slr] | simp [Ah, Aa, V.fz, fzL, V.up, upL, Ab, Ac, Ad, slr])
 conv => whnf
 cases h; exact (by first | rfl | simp only [Ah, Aa, V.fz, fzL, V.up, upL, Ab, Ac, Ad, slr] | simp [Ah, Aa, V.fz, fzL, V.up, upL, Ab, Ac, Ad, slr])
noncomputable def Cp (t0 : List Int) (terms0 : List (List Int)) : (Int × (List Int)) → Option ((Int × (List Int)) ⊕ (Unit ⊕ (List Int))) := fun (x7, x6) =>
 if x7 < (↑t0.length : Int) then
 ask ((0 : Int) ≤ x7 ∧ x7 < (↑t0.length : Int)) <|
 if nth t0 x7.toNat ≥ (↑terms0.length : Int) then
 some (.inr (.inl ()))
 else
 ask ((0 : Int) ≤ x7 ∧ x7 < (↑t0.length : Int)) <|
 if nth t0 x7.toNat < (0 : Int) then
 ask ((0 : Int) ≤ x7 ∧ x7 < (↑t0.length : Int)) <|
 ask ((x6).length + ([nth t0 x7.toNat]).length ≤ LIM) <|
 if (↑(x6 ++ [nth t0 x7.toNat]).length : Int) > (60 : Int) then
 some (.inr (.inl ()))
 else
 ask (InI (x7 + (1 : Int))) <|
 some (.inl (x7 + (1 : Int), x6 ++ [nth t0 x7.toNat]))
 else
 ask ((0 : Int) ≤ x7 ∧ x7 < (↑t0.length : Int)) <|
 ask ((0 : Int) ≤ nth t0 x7.toNat ∧ nth t0 x7.toNat < (↑terms0.length : Int)) <|
 ask ((x6).length + (nth terms0 (nth t0 x7.toNat).toNat).length ≤ LIM) <|
 if (↑(x6 ++ nth terms0 (nth t0 x7.toNat).toNat).length : Int) > (60 : Int) then
 some (.inr (.inl ()))
 else
 ask (InI (x7 + (1 : Int))) <|
 some (.inl (x7 + (1 : Int), x6 ++ nth terms0 (nth t0 x7.toNat).toNat))
 else
 some (.inr (.inr x6))
def Fe (t0 : List Int) (terms0 : List (List Int)) : (Int × (List Int)) → St := fun s => [(7, A.val (Ae s.1)), (6, A.val ((slr true 1 Ae) s.2)), (0, A.val ((slr false 1 Ae) (t0))), (1, A.val ((slr false 1 (slr false 1 Ae)) (terms0)))]
def Hu (_t0 : List Int) (_terms0 : List (List Int)) : (Unit ⊕ (List Int)) → Tgt
 | (.inl _s) => (Ex.ret, [5, 4], [(5, A.val (V.bool (false))), (4, A.val ((slr true 1 Ae) (Au Int)))])
 | (.inr s) => ((Ex.exit 0), [6], [(6, A.val ((slr true 1 Ae) s))])
theorem M4 {t0 : List Int} {terms0 : List (List Int)} (s : (Int × (List Int))) (o : (Int × (List Int)) ⊕ (Unit ⊕ (List Int))) (h : Cp t0 terms0 s = some o) : vc Try.prog H3 (F6 [7, 6, 0, 1] (Fe t0 terms0) (Hu t0 terms0) o) (Fe t0 terms0 s) := by
 obtain ⟨x7, x6⟩ := s
 unfold Cp at h
 try dsimp only at h
 conv => whnf
 refine Len.map ?_
 conv => whnf
 refine Br.od h (fun p1 h => ?_) (fun p1 h => ?_)
 ·conv => whnf
  refine Len.map ?_
  conv => whnf
  refine Ask.o h fun p2 h => ?_
  conv => whnf
  refine Elem.o (by first | omega | (simp [A5] at *; omega)) ?_
  conv => whnf
  refine Len.map ?_
  conv => whnf
  refine Br.od h (fun p3 h => ?_) (fun p3 h => ?_)
  ·conv => whnf
   refine BslQ.o Ae (Au Int) (by exact fun _ => ⟨rfl, rfl⟩) (by first | rfl | simp only [Aa, V.fz, fzL, V.up, upL, Ab, Ac, Ad, slr, List.cons_append, List.nil_append] | simp [Aa, V.fz, fzL, V.up, upL, Ab, Ac, Ad, slr]) ?_
   conv => whnf
   cases h; exact ⟨rfl, rfl⟩
  conv => whnf
  refine Len.map ?_
  conv => whnf
  refine Ask.o h fun p4 h => ?_
  conv => whnf
  refine Elem.o (by first | omega | (simp [A5] at *; omega)) ?_
  conv => whnf
  refine Br.od h (fun p5 h => ?_) (fun p5 h => ?_)
  ·conv => whnf
   refine Len.map ?_
   conv => whnf
   refine Ask.o h fun p6 h => ?_
   conv => whnf
   refine Elem.o (by first | omega | (simp [A5] at *; omega)) ?_
   conv => whnf
   refine BslQ.o Ae ([nth t0 x7.toNat]) (by exact fun _ => ⟨rfl, rfl⟩) (by first | rfl | simp only [Aa, V.fz, fzL, V.up, upL, Ab, Ac, Ad, slr, List.cons_append, List.nil_append] | simp [Aa, V.fz, fzL, V.up, upL, Ab, Ac, Ad, slr]) ?_
   conv => whnf
   refine NoOwn.o (fun _ => rfl) ?_
   conv => whnf
   refine AppQ.o (m := 1) Ae (by exact fun _ => ⟨rfl, rfl⟩) (x6) ([nth t0 x7.toNat]) (by first | rfl | simp only [Aa, V.fz, fzL, V.up, upL, Ab, Ac, Ad, slr, List.cons_append, List.nil_append] | simp [Aa, V.fz, fzL, V.up, upL, Ab, Ac, Ad, slr]) (by first | rfl | simp only [Aa, V.fz, fzL, V.up, upL, Ab, Ac, Ad, slr, List.cons_append, List.nil_append] | simp [Aa, V.fz, fzL, V.up, upL, Ab, Ac, Ad, slr]) h fun h => ?_
   conv => whnf
   refine Len.map ?_
   conv => whnf
   refine Br.od h (fun p7 h => ?_) (fun p7 h => ?_)
   ·conv => whnf
    refine BslQ.o Ae (Au Int) (by exact fun _ => ⟨rfl, rfl⟩) (by first | rfl | simp only [Aa, V.fz, fzL, V.up, upL, Ab, Ac, Ad, slr, List.cons_append, List.nil_append] | simp [Aa, V.fz, fzL, V.up, upL, Ab, Ac, Ad, slr]) ?_
    conv => whnf
    cases h; exact ⟨rfl, rfl⟩
   conv => whnf
   refine Ask.o h fun p8 h => ?_
   conv => whnf
   cases h; exact ⟨rfl, rfl⟩
  conv => whnf
  refine Len.map ?_
  conv => whnf
  refine Ask.o h fun p9 h => ?_
  conv => whnf
  refine Elem.o (by first | omega | (simp [A5] at *; omega)) ?_
  conv => whnf
  refine Len.map ?_
  conv => whnf
  refine Ask.o h fun p10 h => ?_
  conv => whnf
  refine Elem.o (by first | omega | (simp [A5] at *; omega)) ?_
  conv => whnf
  refine AppQ.o (m := 1) Ae (by exact fun _ => ⟨rfl, rfl⟩) (x6) (nth terms0 (nth t0 x7.toNat).toNat) (by first | rfl | simp only [Aa, V.fz, fzL, V.up, upL, Ab, Ac, Ad, slr, List.cons_append, List.nil_append] | simp [Aa, V.fz, fzL, V.up, upL, Ab, Ac, Ad, slr]) (by first | rfl | simp only [Aa, V.fz, fzL, V.up, upL, Ab, Ac, Ad, slr, List.cons_append, List.nil_append] | simp [Aa, V.fz, fzL, V.up, upL, Ab, Ac, Ad, slr]) h fun h => ?_
  conv => whnf
  refine Len.map ?_
  conv => whnf
  refine Br.od h (fun p11 h => ?_) (fun p11 h => ?_)
  ·conv => whnf
   refine BslQ.o Ae (Au Int) (by exact fun _ => ⟨rfl, rfl⟩) (by first | rfl | simp only [Aa, V.fz, fzL, V.up, upL, Ab, Ac, Ad, slr, List.cons_append, List.nil_append] | simp [Aa, V.fz, fzL, V.up, upL, Ab, Ac, Ad, slr]) ?_
   conv => whnf
   cases h; exact ⟨rfl, rfl⟩
  conv => whnf
  refine Ask.o h fun p12 h => ?_
  conv => whnf
  cases h; exact ⟨rfl, rfl⟩
 conv => whnf
 cases h; exact ⟨rfl, rfl⟩
noncomputable def Dt (t0 : (List Int)) (terms0 : (List (List Int))) : Option ((List Int) × Bool) :=
 (Bb (Cp t0 terms0) ((0 : Int), Au Int)).bind fun t => match t with
 | (.inl _) => (some (Au Int, false))
 | (.inr q13_6) => (some (q13_6, true))
theorem Qh {t0 : (List Int)} {terms0 : (List (List Int))} {v : ((List Int) × Bool)} (h : Dt t0 terms0 = some v) : Ret Try.prog Gf [(slr false 1 Ae) t0, (slr false 1 (slr false 1 Ae)) terms0] ((fun r => V.tup [(slr true 1 Ae) r.1, V.bool r.2]) v) := by
 refine Bf Qg (Nat.le_of_ble_eq_true rfl) ?_
 unfold Dt at h
 conv => whnf
 refine BslQ.o Ae (Au Int) (by exact fun _ => ⟨rfl, rfl⟩) (by first | rfl | simp only [Aa, V.fz, fzL, V.up, upL, Ab, Ac, Ad, slr, List.cons_append, List.nil_append] | simp [Aa, V.fz, fzL, V.up, upL, Ab, Ac, Ad, slr]) ?_
 conv => whnf
 refine LoopQ.o [7, 6, 0, 1] (Fe t0 terms0) (Hu t0 terms0) h (fun s o h => M4 s o h) (by first | rfl | simp [restrict, look, Aa, V.fz, fzL, V.up, upL, Ab, Ac, Ad, slr]) (by rintro (_ | _) <;> rfl) ?_
 rintro (⟨⟩ | q13_6) h
 ·try dsimp only at h
  conv => whnf
  cases h; exact (by first | rfl | simp only [Ah, Aa, V.fz, fzL, V.up, upL, Ab, Ac, Ad, slr] | simp [Ah, Aa, V.fz, fzL, V.up, upL, Ab, Ac, Ad, slr])
 try dsimp only at h
 conv => whnf
 cases h; exact (by first | rfl | simp only [Ah, Aa, V.fz, fzL, V.up, upL, Ab, Ac, Ad, slr] | simp [Ah, Aa, V.fz, fzL, V.up, upL, Ab, Ac, Ad, slr])
noncomputable def Kf (code0 : (List Int)) (i0 : Int) : Option Int :=
 if i0 < (↑code0.length : Int) then
 ask ((0 : Int) ≤ i0 ∧ i0 < (↑code0.length : Int)) <|
 some (IntKind.i64.wrap (nth code0 i0.toNat))
 else
 ask (InI (i0 * (7 : Int))) <|
 ask (InI (i0 * (7 : Int) + (↑code0.length : Int))) <|
 some ((i0 * (7 : Int) + (↑code0.length : Int)).tmod (256 : Int))
theorem Agc {code0 : (List Int)} {i0 : Int} {v : Int} (h : Kf code0 i0 = some v) : Ret Try.prog Rd [(slr false 1 (V.int IntKind.u8)) code0, Ae i0] (Ae v) := by
 refine Bf Agv (Nat.le_of_ble_eq_true rfl) ?_
 unfold Kf at h
 conv => whnf
 refine Len.map ?_
 conv => whnf
 refine Br.od h (fun p1 h => ?_) (fun p1 h => ?_)
 ·conv => whnf
  refine Len.map ?_
  conv => whnf
  refine Ask.o h fun p2 h => ?_
  conv => whnf
  refine Elem.o (by first | omega | (simp [A5] at *; omega)) ?_
  conv => whnf
  cases h; exact (by first | rfl | simp only [Ah, Aa, V.fz, fzL, V.up, upL, Ab, Ac, Ad, slr] | simp [Ah, Aa, V.fz, fzL, V.up, upL, Ab, Ac, Ad, slr])
 conv => whnf
 refine Ask.o h fun p3 h => ?_
 conv => whnf
 refine Len.map ?_
 conv => whnf
 refine Ask.o h fun p4 h => ?_
 conv => whnf
 refine Ask.mk (by decide) ?_
 conv => whnf
 cases h; exact (by first | rfl | simp only [Ah, Aa, V.fz, fzL, V.up, upL, Ab, Ac, Ad, slr] | simp [Ah, Aa, V.fz, fzL, V.up, upL, Ab, Ac, Ad, slr])
noncomputable def C6 (list0 : List Int) (n0 : Int) : Int → Option (Int ⊕ (Unit ⊕ Unit)) := fun x9 =>
 if x9 < (↑list0.length : Int) then
 ask ((0 : Int) ≤ x9 ∧ x9 < (↑list0.length : Int)) <|
 if nth list0 x9.toNat < (0 : Int) then
 some (.inr (.inl ()))
 else
 if nth list0 x9.toNat ≥ n0 then
 some (.inr (.inl ()))
 else
 ask (InI (x9 + (1 : Int))) <|
 some (.inl (x9 + (1 : Int)))
 else
 some (.inr (.inr ()))
def Ip (list0 : List Int) (n0 : Int) : Int → St := fun s => [(9, A.val (Ae s)), (8, A.val (Ae ((↑list0.length : Int)))), (7, A.val ((slr false 1 Ae) (list0))), (1, A.val (Ae (n0)))]
def Mt (_list0 : List Int) (_n0 : Int) : (Unit ⊕ Unit) → Tgt
 | (.inl _s) => (Ex.ret, [4], [(4, A.val (V.bool (false)))])
 | (.inr _s) => ((Ex.exit 0), [], [])
theorem Tx {list0 : List Int} {n0 : Int} (x9 : Int) (o : Int ⊕ (Unit ⊕ Unit)) (h : C6 list0 n0 x9 = some o) : vc Try.prog Mk (F6 [9, 8, 7, 1] (Ip list0 n0) (Mt list0 n0) o) (Ip list0 n0 x9) := by
 unfold C6 at h
 try dsimp only at h
 conv => whnf
 refine Br.od h (fun p1 h => ?_) (fun p1 h => ?_)
 ·conv => whnf
  refine Len.map ?_
  conv => whnf
  refine Ask.o h fun p2 h => ?_
  conv => whnf
  refine Elem.o (by first | omega | (simp [A5] at *; omega)) ?_
  conv => whnf
  refine Br.od h (fun p3 h => ?_) (fun p3 h => ?_)
  ·conv => whnf
   refine Br.yes ?_
   conv => whnf
   refine Br.yes ?_
   conv => whnf
   refine Br.yes ?_
   conv => whnf
   refine Br.yes ?_
   conv => whnf
   cases h; exact ⟨rfl, rfl⟩
  conv => whnf
  refine Br.no ?_
  conv => whnf
  refine Br.no ?_
  conv => whnf
  refine Br.no ?_
  conv => whnf
  refine Br.od h (fun p4 h => ?_) (fun p4 h => ?_)
  ·conv => whnf
   cases h; exact ⟨rfl, rfl⟩
  conv => whnf
  refine Ask.o h fun p5 h => ?_
  conv => whnf
  cases h; exact ⟨rfl, rfl⟩
 conv => whnf
 cases h; exact ⟨rfl, rfl⟩
noncomputable def Fr (list0 : (List Int)) (n0 : Int) : Option Bool :=
 (Bb (C6 list0 n0) (0 : Int)).bind fun t => match t with
 | (.inl _) => (some false)
 | (.inr _) => (some true)
theorem Q0 {list0 : (List Int)} {n0 : Int} {v : Bool} (h : Fr list0 n0 = some v) : Ret Try.prog I4 [(slr false 1 Ae) list0, Ae n0] (V.bool v) := by
 refine Bf Aaf (Nat.le_of_ble_eq_true rfl) ?_
 unfold Fr at h
 conv => whnf
 refine Len.map ?_
 conv => whnf
 refine LoopQ.o [9, 8, 7, 1] (Ip list0 n0) (Mt list0 n0) h (fun s o h => Tx s o h) (by first | rfl | simp [restrict, look, Aa, V.fz, fzL, V.up, upL, Ab, Ac, Ad, slr]) (by rintro (_ | _) <;> rfl) ?_
 rintro (⟨⟩ | ⟨⟩) h
 ·try dsimp only at h
  conv => whnf
  cases h; exact (by first | rfl | simp only [Ah, Aa, V.fz, fzL, V.up, upL, Ab, Ac, Ad, slr] | simp [Ah, Aa, V.fz, fzL, V.up, upL, Ab, Ac, Ad, slr])
 try dsimp only at h
 conv => whnf
 cases h; exact (by first | rfl | simp only [Ah, Aa, V.fz, fzL, V.up, upL, Ab, Ac, Ad, slr] | simp [Ah, Aa, V.fz, fzL, V.up, upL, Ab, Ac, Ad, slr])
noncomputable def B5 (t0 : List Int) (n0 : Int) : Int → Option (Int ⊕ (Unit ⊕ Unit)) := fun x9 =>
 if x9 < (↑t0.length : Int) then
 ask ((0 : Int) ≤ x9 ∧ x9 < (↑t0.length : Int)) <|
 if nth t0 x9.toNat ≥ n0 then
 some (.inr (.inl ()))
 else
 ask (InI (x9 + (1 : Int))) <|
 some (.inl (x9 + (1 : Int)))
 else
 some (.inr (.inr ()))
def Gg (t0 : List Int) (n0 : Int) : Int → St := fun s => [(9, A.val (Ae s)), (8, A.val (Ae ((↑t0.length : Int)))), (7, A.val ((slr false 1 Ae) (t0))), (1, A.val (Ae (n0)))]
def J1 (_t0 : List Int) (_n0 : Int) : (Unit ⊕ Unit) → Tgt
 | (.inl _s) => (Ex.ret, [4], [(4, A.val (V.bool (false)))])
 | (.inr _s) => ((Ex.exit 0), [], [])
theorem P9 {t0 : List Int} {n0 : Int} (x9 : Int) (o : Int ⊕ (Unit ⊕ Unit)) (h : B5 t0 n0 x9 = some o) : vc Try.prog J3 (F6 [9, 8, 7, 1] (Gg t0 n0) (J1 t0 n0) o) (Gg t0 n0 x9) := by
 unfold B5 at h
 try dsimp only at h
 conv => whnf
 refine Br.od h (fun p1 h => ?_) (fun p1 h => ?_)
 ·conv => whnf
  refine Len.map ?_
  conv => whnf
  refine Ask.o h fun p2 h => ?_
  conv => whnf
  refine Elem.o (by first | omega | (simp [A5] at *; omega)) ?_
  conv => whnf
  refine Br.od h (fun p3 h => ?_) (fun p3 h => ?_)
  ·conv => whnf
   cases h; exact ⟨rfl, rfl⟩
  conv => whnf
  refine Ask.o h fun p4 h => ?_
  conv => whnf
  cases h; exact ⟨rfl, rfl⟩
 conv => whnf
 cases h; exact ⟨rfl, rfl⟩
noncomputable def E1 (t0 : (List Int)) (n0 : Int) : Option Bool :=
 (Bb (B5 t0 n0) (0 : Int)).bind fun t => match t with
 | (.inl _) => (some false)
 | (.inr _) => (some true)
theorem U0 {t0 : (List Int)} {n0 : Int} {v : Bool} (h : E1 t0 n0 = some v) : Ret Try.prog Im [(slr false 1 Ae) t0, Ae n0] (V.bool v) := by
 refine Bf Tv (Nat.le_of_ble_eq_true rfl) ?_
 unfold E1 at h
 conv => whnf
 refine Len.map ?_
 conv => whnf
 refine LoopQ.o [9, 8, 7, 1] (Gg t0 n0) (J1 t0 n0) h (fun s o h => P9 s o h) (by first | rfl | simp [restrict, look, Aa, V.fz, fzL, V.up, upL, Ab, Ac, Ad, slr]) (by rintro (_ | _) <;> rfl) ?_
 rintro (⟨⟩ | ⟨⟩) h
 ·try dsimp only at h
  conv => whnf
  cases h; exact (by first | rfl | simp only [Ah, Aa, V.fz, fzL, V.up, upL, Ab, Ac, Ad, slr] | simp [Ah, Aa, V.fz, fzL, V.up, upL, Ab, Ac, Ad, slr])
 try dsimp only at h
 conv => whnf
 cases h; exact (by first | rfl | simp only [Ah, Aa, V.fz, fzL, V.up, upL, Ab, Ac, Ad, slr] | simp [Ah, Aa, V.fz, fzL, V.up, upL, Ab, Ac, Ad, slr])
end Go.Proofs.Ytjinhobffbppbaa.Ax
