/-
 What the functions compute, as functions on plain data, and that the program does compute it; written by program.
-/
import Derived.Test.YtidaaijecmkndaaCode
namespace Go.Proofs.Ytidaaijecmkndaa.Ax
open Go
set_option maxRecDepth 100000
set_option maxHeartbeats 4000000
noncomputable def Nd (code0 : (List Int)) : Option Bool :=
 some (decide ((↑code0.length : Int) > (65536 : Int)))
theorem Af5 {code0 : (List Int)} {v : Bool} (h : Nd code0 = some v) : Ret Try.prog Rp [(slr false 1 (V.int IntKind.u8)) code0] (V.bool v) := by
 refine Bg Afp (Nat.le_of_ble_eq_true rfl) ?_
 unfold Nd at h
 conv => whnf
 refine Len.map ?_
 conv => whnf
 cases h; exact (by first | rfl | simp only [Ah, Aa, V.fz, fzL, V.up, upL, Ab, Ac, Ad, slr] | simp [Ah, Aa, V.fz, fzL, V.up, upL, Ab, Ac, Ad, slr])
noncomputable def Du (a0 : List Int) (b0 : List Int) : Int → Option (Int ⊕ (Unit ⊕ Unit)) := fun x5 =>
 if x5 < (↑a0.length : Int) then
 ask ((0 : Int) ≤ x5 ∧ x5 < (↑a0.length : Int)) <|
 ask ((0 : Int) ≤ x5 ∧ x5 < (↑b0.length : Int)) <|
 if nth a0 x5.toNat ≠ nth b0 x5.toNat then
 some (.inr (.inl ()))
 else
 ask (InI (x5 + (1 : Int))) <|
 some (.inl (x5 + (1 : Int)))
 else
 some (.inr (.inr ()))
def Kh (a0 : List Int) (b0 : List Int) : Int → St := fun s => [(5, A.val (Ae s)), (0, A.val ((slr false 1 Ae) (a0))), (1, A.val ((slr false 1 Ae) (b0)))]
def Pt (_a0 : List Int) (_b0 : List Int) : (Unit ⊕ Unit) → Tgt
 | (.inl _s) => (Ex.ret, [4], [(4, A.val (V.bool (false)))])
 | (.inr _s) => ((Ex.exit 0), [], [])
theorem Ya {a0 : List Int} {b0 : List Int} (x5 : Int) (o : Int ⊕ (Unit ⊕ Unit)) (h : Du a0 b0 x5 = some o) : vc Try.prog P7 (Er [5, 0, 1] (Kh a0 b0) (Pt a0 b0) o) (Kh a0 b0 x5) := by
 unfold Du at h
 try dsimp only at h
 conv => whnf
 refine Len.map ?_
 conv => whnf
 refine Br.od h (fun p2 h => ?_) (fun p2 h => ?_)
 ·conv => whnf
  refine Len.map ?_
  conv => whnf
  refine Ask.o h fun p3 h => ?_
  conv => whnf
  refine Elem.o (by first | omega | (simp [A1] at *; omega)) ?_
  conv => whnf
  refine Len.map ?_
  conv => whnf
  refine Ask.o h fun p4 h => ?_
  conv => whnf
  refine Elem.o (by first | omega | (simp [A1] at *; omega)) ?_
  conv => whnf
  refine Br.on h (fun p5 h => ?_) (fun p5 h => ?_)
  ·conv => whnf
   cases h; exact ⟨rfl, rfl⟩
  conv => whnf
  refine Ask.o h fun p6 h => ?_
  conv => whnf
  cases h; exact ⟨rfl, rfl⟩
 conv => whnf
 cases h; exact ⟨rfl, rfl⟩
noncomputable def E9 (a0 : (List Int)) (b0 : (List Int)) : Option Bool :=
 if (↑a0.length : Int) ≠ (↑b0.length : Int) then
 some false
 else
 (Aw (Du a0 b0) (0 : Int)).bind fun t => match t with
 | (.inl _) => (some false)
 | (.inr _) => (some true)
theorem Vj {a0 : (List Int)} {b0 : (List Int)} {v : Bool} (h : E9 a0 b0 = some v) : Ret Try.prog K8 [(slr false 1 Ae) a0, (slr false 1 Ae) b0] (V.bool v) := by
 refine Bg Aem (Nat.le_of_ble_eq_true rfl) ?_
 unfold E9 at h
 conv => whnf
 refine Len.map ?_
 conv => whnf
 refine Len.map ?_
 conv => whnf
 refine Br.on h (fun p1 h => ?_) (fun p1 h => ?_)
 ·conv => whnf
  cases h; exact (by first | rfl | simp only [Ah, Aa, V.fz, fzL, V.up, upL, Ab, Ac, Ad, slr] | simp [Ah, Aa, V.fz, fzL, V.up, upL, Ab, Ac, Ad, slr])
 conv => whnf
 refine LoopQ.o [5, 0, 1] (Kh a0 b0) (Pt a0 b0) h (fun s o h => Ya s o h) (by first | rfl | simp [restrict, look, Aa, V.fz, fzL, V.up, upL, Ab, Ac, Ad, slr]) (by rintro (_ | _) <;> rfl) ?_
 rintro (⟨⟩ | ⟨⟩) h
 ·try dsimp only at h
  conv => whnf
  cases h; exact (by first | rfl | simp only [Ah, Aa, V.fz, fzL, V.up, upL, Ab, Ac, Ad, slr] | simp [Ah, Aa, V.fz, fzL, V.up, upL, Ab, Ac, Ad, slr])
 try dsimp only at h
 conv => whnf
 cases h; exact (by first | rfl | simp only [Ah, Aa, V.fz, fzL, V.up, upL, Ab, Ac, Ad, slr] | simp [Ah, Aa, V.fz, fzL, V.up, upL, Ab, Ac, Ad, slr])
noncomputable def Cm (x0 : Int) (a0 : Int) (b0 : Int) : Option Bool :=
 if x0 ≥ a0 then
 some (decide (x0 ≤ b0))
 else
 some false
theorem E8 {x0 : Int} {a0 : Int} {b0 : Int} {v : Bool} (h : Cm x0 a0 b0 = some v) : Ret Try.prog Dh [Ae x0, Ae a0, Ae b0] (V.bool v) := by
 refine Bg Aev (Nat.le_of_ble_eq_true rfl) ?_
 unfold Cm at h
 conv => whnf
 refine Br.od h (fun p1 h => ?_) (fun p1 h => ?_)
 ·conv => whnf
  refine Br.yes ?_
  conv => whnf
  refine Br.yes ?_
  conv => whnf
  refine Br.yes ?_
  conv => whnf
  cases h; exact (by first | rfl | simp only [Ah, Aa, V.fz, fzL, V.up, upL, Ab, Ac, Ad, slr] | simp [Ah, Aa, V.fz, fzL, V.up, upL, Ab, Ac, Ad, slr])
 conv => whnf
 refine Br.no ?_
 conv => whnf
 refine Br.no ?_
 conv => whnf
 refine Br.no ?_
 conv => whnf
 cases h; exact (by first | rfl | simp only [Ah, Aa, V.fz, fzL, V.up, upL, Ab, Ac, Ad, slr] | simp [Ah, Aa, V.fz, fzL, V.up, upL, Ab, Ac, Ad, slr])
noncomputable def Dr (n0 : Int) : (Int × Int) → Option ((Int × Int) ⊕ Int) := fun (x5, x1) =>
 if x1 > (0 : Int) then
 ask (InI (x5 * n0)) <|
 ask (InI (x1 - (1 : Int))) <|
 some (.inl (x5 * n0, x1 - (1 : Int)))
 else
 some (.inr x5)
def Kf (n0 : Int) : (Int × Int) → St := fun s => [(5, A.val (Ae s.1)), (0, A.val (Ae (n0))), (1, A.val (Ae s.2))]
def Pr (_n0 : Int) : Int → Tgt
 | s => ((Ex.exit 0), [5], [(5, A.val (Ae s))])
theorem X1 {n0 : Int} (s : (Int × Int)) (o : (Int × Int) ⊕ Int) (h : Dr n0 s = some o) : vc Try.prog Px (Er [5, 0, 1] (Kf n0) (Pr n0) o) (Kf n0 s) := by
 obtain ⟨x5, x1⟩ := s
 unfold Dr at h
 try dsimp only at h
 conv => whnf
 refine Br.od h (fun p1 h => ?_) (fun p1 h => ?_)
 ·conv => whnf
  refine Ask.o h fun p2 h => ?_
  conv => whnf
  refine Ask.o h fun p3 h => ?_
  conv => whnf
  cases h; exact ⟨rfl, rfl⟩
 conv => whnf
 cases h; exact ⟨rfl, rfl⟩
noncomputable def Fb (n0 : Int) (k0 : Int) : Option Int :=
 (Aw (Dr n0) ((1 : Int), k0)).bind fun q4_5 =>
 some q4_5
theorem O8 {n0 : Int} {k0 : Int} {v : Int} (h : Fb n0 k0 = some v) : Ret Try.prog I0 [Ae n0, Ae k0] (Ae v) := by
 refine Bg Adl (Nat.le_of_ble_eq_true rfl) ?_
 unfold Fb at h
 conv => whnf
 refine LoopQ.o [5, 0, 1] (Kf n0) (Pr n0) h (fun s o h => X1 s o h) (by first | rfl | simp [restrict, look, Aa, V.fz, fzL, V.up, upL, Ab, Ac, Ad, slr]) (fun _ => rfl) ?_
 rintro q4_5 h
 try dsimp only at h
 conv => whnf
 cases h; exact (by first | rfl | simp only [Ah, Aa, V.fz, fzL, V.up, upL, Ab, Ac, Ad, slr] | simp [Ah, Aa, V.fz, fzL, V.up, upL, Ab, Ac, Ad, slr])
noncomputable def C6 (n0 : Int) (_f0 : SOp) (patterns0 : List (List Int)) (x8 : Int) (x9 : Int) (x10 : Int) (_x7'' : List Int) : (Int × Int) → Option ((Int × Int) ⊕ Int) := fun (x12, x11) =>
 ask ((0 : Int) ≤ x8 ∧ x8 < (↑patterns0.length : Int)) <|
 if x12 < (↑(nth patterns0 x8.toNat).length : Int) then
 ask (InI (x11 * n0)) <|
 ask ((0 : Int) ≤ x8 ∧ x8 < (↑patterns0.length : Int)) <|
 ask ((0 : Int) ≤ x12 ∧ x12 < (↑(nth patterns0 x8.toNat).length : Int)) <|
 ask ((0 : Int) ≤ nth (nth patterns0 x8.toNat) x12.toNat ∧ nth (nth patterns0 x8.toNat) x12.toNat < (↑[x9, x10].length : Int)) <|
 ask (InI (x11 * n0 + nth [x9, x10] (nth (nth patterns0 x8.toNat) x12.toNat).toNat)) <|
 ask (InI (x12 + (1 : Int))) <|
 some (.inl (x12 + (1 : Int), x11 * n0 + nth [x9, x10] (nth (nth patterns0 x8.toNat) x12.toNat).toNat))
 else
 some (.inr x11)
def Js (n0 : Int) (f0 : SOp) (patterns0 : List (List Int)) (x8 : Int) (x9 : Int) (x10 : Int) (x7'' : List Int) : (Int × Int) → St := fun s => [(12, A.val (Ae s.1)), (11, A.val (Ae s.2)), (10, A.val (Ae (x10))), (9, A.val (Ae (x9))), (8, A.val (Ae (x8))), (7, A.val ((slr true 1 Ae) (x7''))), (4, A.val ((rP true (Al false)) (f0))), (0, A.val (Ae (n0))), (2, A.val ((slr false 1 (slr false 1 Ae)) (patterns0)))]
def N4 (n0 : Int) (f0 : SOp) (patterns0 : List (List Int)) (x8 : Int) (x9 : Int) (x10 : Int) (x7'' : List Int) : Int → Tgt
 | s => ((Ex.exit 6), [11, 10, 9, 8, 7, 4, 0, 2], [(11, A.val (Ae s)), (10, A.val (Ae (x10))), (9, A.val (Ae (x9))), (8, A.val (Ae (x8))), (7, A.val ((slr true 1 Ae) (x7''))), (4, A.val ((rP true (Al false)) (f0))), (0, A.val (Ae (n0))), (2, A.val ((slr false 1 (slr false 1 Ae)) (patterns0)))])
theorem Wo {n0 : Int} {f0 : SOp} {patterns0 : List (List Int)} {x8 : Int} {x9 : Int} {x10 : Int} {x7'' : List Int} (s : (Int × Int)) (o : (Int × Int) ⊕ Int) (h : C6 n0 f0 patterns0 x8 x9 x10 x7'' s = some o) : vc Try.prog N0 (Er [12, 11, 10, 9, 8, 7, 4, 0, 2] (Js n0 f0 patterns0 x8 x9 x10 x7'') (N4 n0 f0 patterns0 x8 x9 x10 x7'') o) (Js n0 f0 patterns0 x8 x9 x10 x7'' s) := by
 obtain ⟨x12, x11⟩ := s
 unfold C6 at h
 try dsimp only at h
 conv => whnf
 refine Len.map ?_
 conv => whnf
 refine Ask.o h fun p4 h => ?_
 conv => whnf
 refine Elem.o (by first | omega | (simp [A1] at *; omega)) ?_
 conv => whnf
 refine Len.map ?_
 conv => whnf
 refine Br.od h (fun p5 h => ?_) (fun p5 h => ?_)
 ·conv => whnf
  refine Ask.o h fun p6 h => ?_
  conv => whnf
  refine BslQ.o Ae ([x9, x10]) (by exact fun _ => ⟨rfl, rfl⟩) (by first | rfl | simp only [Aa, V.fz, fzL, V.up, upL, Ab, Ac, Ad, slr, List.cons_append, List.nil_append] | simp [Aa, V.fz, fzL, V.up, upL, Ab, Ac, Ad, slr]) ?_
  conv => whnf
  refine Len.map ?_
  conv => whnf
  refine Ask.o h fun p7 h => ?_
  conv => whnf
  refine Elem.o (by first | omega | (simp [A1] at *; omega)) ?_
  conv => whnf
  refine Len.map ?_
  conv => whnf
  refine Ask.o h fun p8 h => ?_
  conv => whnf
  refine Elem.o (by first | omega | (simp [A1] at *; omega)) ?_
  conv => whnf
  refine Len.map ?_
  conv => whnf
  refine Ask.o h fun p9 h => ?_
  conv => whnf
  refine Cells.one (fun _ => ⟨rfl, rfl⟩) (by first | omega | (simp [A1] at *; omega)) ?_
  conv => whnf
  refine Ask.o h fun p10 h => ?_
  conv => whnf
  refine Ask.o h fun p11 h => ?_
  conv => whnf
  cases h; exact ⟨rfl, rfl⟩
 conv => whnf
 cases h; exact ⟨rfl, rfl⟩
noncomputable def Eb (n0 : Int) (f0 : SOp) (patterns0 : List (List Int)) (x8 : Int) (x9 : Int) : (Int × (List Int)) → Option ((Int × (List Int)) ⊕ (List Int)) := fun (x10, x7'') =>
 if x10 < n0 then
 (Aw (C6 n0 f0 patterns0 x8 x9 x10 x7'') ((0 : Int), (0 : Int))).bind fun q12_11 =>
 ask ((0 : Int) ≤ q12_11 ∧ q12_11 < (↑f0.Table.length : Int)) <|
 ask ((x7'').length + ([nth f0.Table q12_11.toNat]).length ≤ LIM) <|
 ask (InI (x10 + (1 : Int))) <|
 some (.inl (x10 + (1 : Int), x7'' ++ [nth f0.Table q12_11.toNat]))
 else
 some (.inr x7'')
def Jn (n0 : Int) (f0 : SOp) (patterns0 : List (List Int)) (x8 : Int) (x9 : Int) : (Int × (List Int)) → St := fun s => [(10, A.val (Ae s.1)), (9, A.val (Ae (x9))), (8, A.val (Ae (x8))), (7, A.val ((slr true 1 Ae) s.2)), (4, A.val ((rP true (Al false)) (f0))), (0, A.val (Ae (n0))), (2, A.val ((slr false 1 (slr false 1 Ae)) (patterns0)))]
def Og (n0 : Int) (f0 : SOp) (patterns0 : List (List Int)) (x8 : Int) (x9 : Int) : (List Int) → Tgt
 | s => ((Ex.exit 4), [9, 8, 7, 4, 0, 2], [(9, A.val (Ae (x9))), (8, A.val (Ae (x8))), (7, A.val ((slr true 1 Ae) s)), (4, A.val ((rP true (Al false)) (f0))), (0, A.val (Ae (n0))), (2, A.val ((slr false 1 (slr false 1 Ae)) (patterns0)))])
theorem Vv {n0 : Int} {f0 : SOp} {patterns0 : List (List Int)} {x8 : Int} {x9 : Int} (s : (Int × (List Int))) (o : (Int × (List Int)) ⊕ (List Int)) (h : Eb n0 f0 patterns0 x8 x9 s = some o) : vc Try.prog Oi (Er [10, 9, 8, 7, 4, 0, 2] (Jn n0 f0 patterns0 x8 x9) (Og n0 f0 patterns0 x8 x9) o) (Jn n0 f0 patterns0 x8 x9 s) := by
 obtain ⟨x10, x7''⟩ := s
 unfold Eb at h
 try dsimp only at h
 conv => whnf
 refine Br.od h (fun p3 h => ?_) (fun p3 h => ?_)
 ·conv => whnf
  refine LoopQ.o [12, 11, 10, 9, 8, 7, 4, 0, 2] (Js n0 f0 patterns0 x8 x9 x10 x7'') (N4 n0 f0 patterns0 x8 x9 x10 x7'') h (fun s o h => Wo s o h) (by first | rfl | simp [restrict, look, Aa, V.fz, fzL, V.up, upL, Ab, Ac, Ad, slr]) (fun _ => rfl) ?_
  rintro q12_11 h
  try dsimp only at h
  conv => whnf
  refine Cells.lit rfl rfl ?_
  conv => whnf
  refine Len.map ?_
  conv => whnf
  refine Ask.o h fun p13 h => ?_
  conv => whnf
  refine Elem.o (by first | omega | (simp [A1] at *; omega)) ?_
  conv => whnf
  refine BslQ.o Ae ([nth f0.Table q12_11.toNat]) (by exact fun _ => ⟨rfl, rfl⟩) (by first | rfl | simp only [Aa, V.fz, fzL, V.up, upL, Ab, Ac, Ad, slr, List.cons_append, List.nil_append] | simp [Aa, V.fz, fzL, V.up, upL, Ab, Ac, Ad, slr]) ?_
  conv => whnf
  refine NoOwn.o (fun _ => rfl) ?_
  conv => whnf
  refine AppQ.o (m := 1) Ae (by exact fun _ => ⟨rfl, rfl⟩) (x7'') ([nth f0.Table q12_11.toNat]) (by first | rfl | simp only [Aa, V.fz, fzL, V.up, upL, Ab, Ac, Ad, slr, List.cons_append, List.nil_append] | simp [Aa, V.fz, fzL, V.up, upL, Ab, Ac, Ad, slr]) (by first | rfl | simp only [Aa, V.fz, fzL, V.up, upL, Ab, Ac, Ad, slr, List.cons_append, List.nil_append] | simp [Aa, V.fz, fzL, V.up, upL, Ab, Ac, Ad, slr]) h fun h => ?_
  conv => whnf
  refine Ask.o h fun p14 h => ?_
  conv => whnf
  cases h; exact ⟨rfl, rfl⟩
 conv => whnf
 cases h; exact ⟨rfl, rfl⟩
noncomputable def Ec (n0 : Int) (f0 : SOp) (patterns0 : List (List Int)) (x8 : Int) : (Int × (List Int)) → Option ((Int × (List Int)) ⊕ (List Int)) := fun (x9, x7') =>
 if x9 < n0 then
 (Aw (Eb n0 f0 patterns0 x8 x9) ((0 : Int), x7')).bind fun q15_7 =>
 ask (InI (x9 + (1 : Int))) <|
 some (.inl (x9 + (1 : Int), q15_7))
 else
 some (.inr x7')
def Jw (n0 : Int) (f0 : SOp) (patterns0 : List (List Int)) (x8 : Int) : (Int × (List Int)) → St := fun s => [(9, A.val (Ae s.1)), (8, A.val (Ae (x8))), (7, A.val ((slr true 1 Ae) s.2)), (4, A.val ((rP true (Al false)) (f0))), (0, A.val (Ae (n0))), (2, A.val ((slr false 1 (slr false 1 Ae)) (patterns0)))]
def N6 (n0 : Int) (f0 : SOp) (patterns0 : List (List Int)) (x8 : Int) : (List Int) → Tgt
 | s => ((Ex.exit 2), [8, 7, 4, 0, 2], [(8, A.val (Ae (x8))), (7, A.val ((slr true 1 Ae) s)), (4, A.val ((rP true (Al false)) (f0))), (0, A.val (Ae (n0))), (2, A.val ((slr false 1 (slr false 1 Ae)) (patterns0)))])
theorem Wv {n0 : Int} {f0 : SOp} {patterns0 : List (List Int)} {x8 : Int} (s : (Int × (List Int))) (o : (Int × (List Int)) ⊕ (List Int)) (h : Ec n0 f0 patterns0 x8 s = some o) : vc Try.prog Nw (Er [9, 8, 7, 4, 0, 2] (Jw n0 f0 patterns0 x8) (N6 n0 f0 patterns0 x8) o) (Jw n0 f0 patterns0 x8 s) := by
 obtain ⟨x9, x7'⟩ := s
 unfold Ec at h
 try dsimp only at h
 conv => whnf
 refine Br.od h (fun p2 h => ?_) (fun p2 h => ?_)
 ·conv => whnf
  refine LoopQ.o [10, 9, 8, 7, 4, 0, 2] (Jn n0 f0 patterns0 x8 x9) (Og n0 f0 patterns0 x8 x9) h (fun s o h => Vv s o h) (by first | rfl | simp [restrict, look, Aa, V.fz, fzL, V.up, upL, Ab, Ac, Ad, slr]) (fun _ => rfl) ?_
  rintro q15_7 h
  try dsimp only at h
  conv => whnf
  refine Ask.o h fun p16 h => ?_
  conv => whnf
  cases h; exact ⟨rfl, rfl⟩
 conv => whnf
 cases h; exact ⟨rfl, rfl⟩
noncomputable def C8 (n0 : Int) (f0 : SOp) (patterns0 : List (List Int)) : (Int × (List Int)) → Option ((Int × (List Int)) ⊕ (List Int)) := fun (x8, x7) =>
 if x8 < (↑patterns0.length : Int) then
 (Aw (Ec n0 f0 patterns0 x8) ((0 : Int), x7)).bind fun q17_7 =>
 ask (InI (x8 + (1 : Int))) <|
 some (.inl (x8 + (1 : Int), q17_7))
 else
 some (.inr x7)
def Ji (n0 : Int) (f0 : SOp) (patterns0 : List (List Int)) : (Int × (List Int)) → St := fun s => [(8, A.val (Ae s.1)), (7, A.val ((slr true 1 Ae) s.2)), (4, A.val ((rP true (Al false)) (f0))), (0, A.val (Ae (n0))), (2, A.val ((slr false 1 (slr false 1 Ae)) (patterns0)))]
def N7 (_n0 : Int) (_f0 : SOp) (_patterns0 : List (List Int)) : (List Int) → Tgt
 | s => ((Ex.exit 0), [7], [(7, A.val ((slr true 1 Ae) s))])
theorem Vw {n0 : Int} {f0 : SOp} {patterns0 : List (List Int)} (s : (Int × (List Int))) (o : (Int × (List Int)) ⊕ (List Int)) (h : C8 n0 f0 patterns0 s = some o) : vc Try.prog Oh (Er [8, 7, 4, 0, 2] (Ji n0 f0 patterns0) (N7 n0 f0 patterns0) o) (Ji n0 f0 patterns0 s) := by
 obtain ⟨x8, x7⟩ := s
 unfold C8 at h
 try dsimp only at h
 conv => whnf
 refine Len.map ?_
 conv => whnf
 refine Br.od h (fun p1 h => ?_) (fun p1 h => ?_)
 ·conv => whnf
  refine LoopQ.o [9, 8, 7, 4, 0, 2] (Jw n0 f0 patterns0 x8) (N6 n0 f0 patterns0 x8) h (fun s o h => Wv s o h) (by first | rfl | simp [restrict, look, Aa, V.fz, fzL, V.up, upL, Ab, Ac, Ad, slr]) (fun _ => rfl) ?_
  rintro q17_7 h
  try dsimp only at h
  conv => whnf
  refine Ask.o h fun p18 h => ?_
  conv => whnf
  cases h; exact ⟨rfl, rfl⟩
 conv => whnf
 cases h; exact ⟨rfl, rfl⟩
noncomputable def D6 (n0 : Int) (f0 : SOp) (patterns0 : (List (List Int))) : Option (List Int) :=
 (Aw (C8 n0 f0 patterns0) ((0 : Int), Ba Int)).bind fun q19_7 =>
 some q19_7
theorem Nn {n0 : Int} {f0 : SOp} {patterns0 : (List (List Int))} {v : (List Int)} (h : D6 n0 f0 patterns0 = some v) : Ret Try.prog Hs [Ae n0, (Al false) f0, (slr false 1 (slr false 1 Ae)) patterns0] ((slr true 1 Ae) v) := by
 refine Bg Aby (Nat.le_of_ble_eq_true rfl) ?_
 unfold D6 at h
 conv => whnf
 refine BslQ.o Ae (Ba Int) (by exact fun _ => ⟨rfl, rfl⟩) (by first | rfl | simp only [Aa, V.fz, fzL, V.up, upL, Ab, Ac, Ad, slr, List.cons_append, List.nil_append] | simp [Aa, V.fz, fzL, V.up, upL, Ab, Ac, Ad, slr]) ?_
 conv => whnf
 refine LoopQ.o [8, 7, 4, 0, 2] (Ji n0 f0 patterns0) (N7 n0 f0 patterns0) h (fun s o h => Vw s o h) (by first | rfl | simp [restrict, look, Aa, V.fz, fzL, V.up, upL, Ab, Ac, Ad, slr]) (fun _ => rfl) ?_
 rintro q19_7 h
 try dsimp only at h
 conv => whnf
 cases h; exact (by first | rfl | simp only [Ah, Aa, V.fz, fzL, V.up, upL, Ab, Ac, Ad, slr] | simp [Ah, Aa, V.fz, fzL, V.up, upL, Ab, Ac, Ad, slr])
noncomputable def Ce (n0 : Int) : Option Bool :=
 if n0 ≥ (1 : Int) then
 some (decide (n0 ≤ (4 : Int)))
 else
 some false
theorem I8 {n0 : Int} {v : Bool} (h : Ce n0 = some v) : Ret Try.prog Ej [Ae n0] (V.bool v) := by
 refine Bg Qb (Nat.le_of_ble_eq_true rfl) ?_
 unfold Ce at h
 conv => whnf
 refine Br.od h (fun p1 h => ?_) (fun p1 h => ?_)
 ·conv => whnf
  refine Br.yes ?_
  conv => whnf
  refine Br.yes ?_
  conv => whnf
  cases h; exact (by first | rfl | simp only [Ah, Aa, V.fz, fzL, V.up, upL, Ab, Ac, Ad, slr] | simp [Ah, Aa, V.fz, fzL, V.up, upL, Ab, Ac, Ad, slr])
 conv => whnf
 refine Br.no ?_
 conv => whnf
 refine Br.no ?_
 conv => whnf
 cases h; exact (by first | rfl | simp only [Ah, Aa, V.fz, fzL, V.up, upL, Ab, Ac, Ad, slr] | simp [Ah, Aa, V.fz, fzL, V.up, upL, Ab, Ac, Ad, slr])
noncomputable def Dd (list0 : List Int) (n0 : Int) : Int → Option (Int ⊕ (Unit ⊕ Unit)) := fun x9 =>
 if x9 < (↑list0.length : Int) then
 ask ((0 : Int) ≤ x9 ∧ x9 < (↑list0.length : Int)) <|
 if nth list0 x9.toNat < (0 : Int) then
 some (.inr (.inl ()))
 else
 if nth list0 x9.toNat ≥ n0 then
 some (.inr (.inl ()))
 else
 ask (InI (x9 + (1 : Int))) <|
 some (.inl (x9 + (1 : Int)))
 else
 some (.inr (.inr ()))
def Jo (list0 : List Int) (n0 : Int) : Int → St := fun s => [(9, A.val (Ae s)), (8, A.val (Ae ((↑list0.length : Int)))), (7, A.val ((slr false 1 Ae) (list0))), (1, A.val (Ae (n0)))]
def N2 (_list0 : List Int) (_n0 : Int) : (Unit ⊕ Unit) → Tgt
 | (.inl _s) => (Ex.ret, [4], [(4, A.val (V.bool (false)))])
 | (.inr _s) => ((Ex.exit 0), [], [])
theorem Wk {list0 : List Int} {n0 : Int} (x9 : Int) (o : Int ⊕ (Unit ⊕ Unit)) (h : Dd list0 n0 x9 = some o) : vc Try.prog N8 (Er [9, 8, 7, 1] (Jo list0 n0) (N2 list0 n0) o) (Jo list0 n0 x9) := by
 unfold Dd at h
 try dsimp only at h
 conv => whnf
 refine Br.od h (fun p1 h => ?_) (fun p1 h => ?_)
 ·conv => whnf
  refine Len.map ?_
  conv => whnf
  refine Ask.o h fun p2 h => ?_
  conv => whnf
  refine Elem.o (by first | omega | (simp [A1] at *; omega)) ?_
  conv => whnf
  refine Br.od h (fun p3 h => ?_) (fun p3 h => ?_)
  ·conv => whnf
   refine Br.yes ?_
   conv => whnf
   refine Br.yes ?_
   conv => whnf
   refine Br.yes ?_
   conv => whnf
   refine Br.yes ?_
   conv => whnf
   cases h; exact ⟨rfl, rfl⟩
  conv => whnf
  refine Br.no ?_
  conv => whnf
  refine Br.no ?_
  conv => whnf
  refine Br.no ?_
  conv => whnf
  refine Br.od h (fun p4 h => ?_) (fun p4 h => ?_)
  ·conv => whnf
   cases h; exact ⟨rfl, rfl⟩
  conv => whnf
  refine Ask.o h fun p5 h => ?_
  conv => whnf
  cases h; exact ⟨rfl, rfl⟩
 conv => whnf
 cases h; exact ⟨rfl, rfl⟩
noncomputable def Fe (list0 : (List Int)) (n0 : Int) : Option Bool :=
 (Aw (Dd list0 n0) (0 : Int)).bind fun t => match t with
 | (.inl _) => (some false)
 | (.inr _) => (some true)
theorem Nm {list0 : (List Int)} {n0 : Int} {v : Bool} (h : Fe list0 n0 = some v) : Ret Try.prog Hn [(slr false 1 Ae) list0, Ae n0] (V.bool v) := by
 refine Bg Abl (Nat.le_of_ble_eq_true rfl) ?_
 unfold Fe at h
 conv => whnf
 refine Len.map ?_
 conv => whnf
 refine LoopQ.o [9, 8, 7, 1] (Jo list0 n0) (N2 list0 n0) h (fun s o h => Wk s o h) (by first | rfl | simp [restrict, look, Aa, V.fz, fzL, V.up, upL, Ab, Ac, Ad, slr]) (by rintro (_ | _) <;> rfl) ?_
 rintro (⟨⟩ | ⟨⟩) h
 ·try dsimp only at h
  conv => whnf
  cases h; exact (by first | rfl | simp only [Ah, Aa, V.fz, fzL, V.up, upL, Ab, Ac, Ad, slr] | simp [Ah, Aa, V.fz, fzL, V.up, upL, Ab, Ac, Ad, slr])
 try dsimp only at h
 conv => whnf
 cases h; exact (by first | rfl | simp only [Ah, Aa, V.fz, fzL, V.up, upL, Ab, Ac, Ad, slr] | simp [Ah, Aa, V.fz, fzL, V.up, upL, Ab, Ac, Ad, slr])
noncomputable def Cy (args0 : List Int) (n0 : Int) : (Int × Int) → Option ((Int × Int) ⊕ Int) := fun (x10, x5) =>
 if x10 < (↑args0.length : Int) then
 ask ((0 : Int) ≤ x10 ∧ x10 < (↑args0.length : Int)) <|
 ask (InI (x5 * n0)) <|
 ask (InI (x5 * n0 + nth args0 x10.toNat)) <|
 ask (InI (x10 + (1 : Int))) <|
 some (.inl (x10 + (1 : Int), x5 * n0 + nth args0 x10.toNat))
 else
 some (.inr x5)
def Ix (args0 : List Int) (n0 : Int) : (Int × Int) → St := fun s => [(10, A.val (Ae s.1)), (9, A.val (Ae ((↑args0.length : Int)))), (8, A.val ((slr false 1 Ae) (args0))), (5, A.val (Ae s.2)), (1, A.val (Ae (n0)))]
def Ng (_args0 : List Int) (_n0 : Int) : Int → Tgt
 | s => ((Ex.exit 0), [5], [(5, A.val (Ae s))])
theorem U4 {args0 : List Int} {n0 : Int} (s : (Int × Int)) (o : (Int × Int) ⊕ Int) (h : Cy args0 n0 s = some o) : vc Try.prog My (Er [10, 9, 8, 5, 1] (Ix args0 n0) (Ng args0 n0) o) (Ix args0 n0 s) := by
 obtain ⟨x10, x5⟩ := s
 unfold Cy at h
 try dsimp only at h
 conv => whnf
 refine Br.od h (fun p1 h => ?_) (fun p1 h => ?_)
 ·conv => whnf
  refine Len.map ?_
  conv => whnf
  refine Ask.o h fun p2 h => ?_
  conv => whnf
  refine Elem.o (by first | omega | (simp [A1] at *; omega)) ?_
  conv => whnf
  refine Ask.o h fun p3 h => ?_
  conv => whnf
  refine Ask.o h fun p4 h => ?_
  conv => whnf
  refine Ask.o h fun p5 h => ?_
  conv => whnf
  cases h; exact ⟨rfl, rfl⟩
 conv => whnf
 cases h; exact ⟨rfl, rfl⟩
noncomputable def Fj (args0 : (List Int)) (n0 : Int) : Option Int :=
 (Aw (Cy args0 n0) ((0 : Int), (0 : Int))).bind fun q6_5 =>
 some q6_5
theorem Aar {args0 : (List Int)} {n0 : Int} {v : Int} (h : Fj args0 n0 = some v) : Ret Try.prog Ly [(slr false 1 Ae) args0, Ae n0] (Ae v) := by
 refine Bg Zs (Nat.le_of_ble_eq_true rfl) ?_
 unfold Fj at h
 conv => whnf
 refine Len.map ?_
 conv => whnf
 refine LoopQ.o [10, 9, 8, 5, 1] (Ix args0 n0) (Ng args0 n0) h (fun s o h => U4 s o h) (by first | rfl | simp [restrict, look, Aa, V.fz, fzL, V.up, upL, Ab, Ac, Ad, slr]) (fun _ => rfl) ?_
 rintro q6_5 h
 try dsimp only at h
 conv => whnf
 cases h; exact (by first | rfl | simp only [Ah, Aa, V.fz, fzL, V.up, upL, Ab, Ac, Ad, slr] | simp [Ah, Aa, V.fz, fzL, V.up, upL, Ab, Ac, Ad, slr])
noncomputable def Cx (f0 : List Int) (g0 : List Int) : (Int × (List Int)) → Option ((Int × (List Int)) ⊕ (List Int)) := fun (x13, x5) =>
 if x13 < (↑f0.length : Int) then
 ask ((0 : Int) ≤ x13 ∧ x13 < (↑f0.length : Int)) <|
 ask ((0 : Int) ≤ nth f0 x13.toNat ∧ nth f0 x13.toNat < (↑g0.length : Int)) <|
 ask ((0 : Int) ≤ x13 ∧ x13 < (↑x5.length : Int)) <|
 ask (InI (x13 + (1 : Int))) <|
 some (.inl (x13 + (1 : Int), x5.set x13.toNat (nth g0 (nth f0 x13.toNat).toNat)))
 else
 some (.inr x5)
def I3 (f0 : List Int) (g0 : List Int) : (Int × (List Int)) → St := fun s => [(13, A.val (Ae s.1)), (12, A.val (Ae ((↑f0.length : Int)))), (11, A.val ((slr false 1 Ae) (f0))), (5, A.val ((slr true 1 Ae) s.2)), (1, A.val ((slr false 1 Ae) (g0)))]
def M4 (_f0 : List Int) (_g0 : List Int) : (List Int) → Tgt
 | s => ((Ex.exit 0), [5], [(5, A.val ((slr true 1 Ae) s))])
theorem T3 {f0 : List Int} {g0 : List Int} (s : (Int × (List Int))) (o : (Int × (List Int)) ⊕ (List Int)) (h : Cx f0 g0 s = some o) : vc Try.prog M9 (Er [13, 12, 11, 5, 1] (I3 f0 g0) (M4 f0 g0) o) (I3 f0 g0 s) := by
 obtain ⟨x13, x5⟩ := s
 unfold Cx at h
 try dsimp only at h
 conv => whnf
 refine Br.od h (fun p2 h => ?_) (fun p2 h => ?_)
 ·conv => whnf
  refine Len.map ?_
  conv => whnf
  refine Ask.o h fun p3 h => ?_
  conv => whnf
  refine Elem.o (by first | omega | (simp [A1] at *; omega)) ?_
  conv => whnf
  refine Len.map ?_
  conv => whnf
  refine Ask.o h fun p4 h => ?_
  conv => whnf
  refine Elem.o (by first | omega | (simp [A1] at *; omega)) ?_
  conv => whnf
  refine Len.map ?_
  conv => whnf
  refine Ask.o h fun p5 h => ?_
  conv => whnf
  refine SetKids.one (fun _ => ⟨rfl, rfl⟩) (nth g0 (nth f0 x13.toNat).toNat) (by first | rfl | simp only [Aa, V.fz, fzL, V.up, upL, Ab, Ac, Ad, slr, List.cons_append, List.nil_append] | simp [Aa, V.fz, fzL, V.up, upL, Ab, Ac, Ad, slr]) (by first | omega | (simp [A1] at *; omega)) ?_
  conv => whnf
  refine Ask.o h fun p6 h => ?_
  conv => whnf
  cases h; exact ⟨rfl, rfl⟩
 conv => whnf
 cases h; exact ⟨rfl, rfl⟩
noncomputable def Ge (f0 : (List Int)) (g0 : (List Int)) : Option (List Int) :=
 ask ((0 : Int) ≤ (↑f0.length : Int) ∧ (↑f0.length : Int) ≤ (↑LIM : Int)) <|
 (Aw (Cx f0 g0) ((0 : Int), List.replicate (↑f0.length : Int).toNat (0 : Int))).bind fun q7_5 =>
 some q7_5
theorem Zy {f0 : (List Int)} {g0 : (List Int)} {v : (List Int)} (h : Ge f0 g0 = some v) : Ret Try.prog L4 [(slr false 1 Ae) f0, (slr false 1 Ae) g0] ((slr true 1 Ae) v) := by
 refine Bg Zm (Nat.le_of_ble_eq_true rfl) ?_
 unfold Ge at h
 conv => whnf
 refine Len.map ?_
 conv => whnf
 refine Ask.o h fun p1 h => ?_
 conv => whnf
 refine MkQ.o Ae ((0 : Int)) rfl ?_
 conv => whnf
 refine Len.map ?_
 conv => whnf
 refine LoopQ.o [13, 12, 11, 5, 1] (I3 f0 g0) (M4 f0 g0) h (fun s o h => T3 s o h) (by first | rfl | simp [restrict, look, Aa, V.fz, fzL, V.up, upL, Ab, Ac, Ad, slr]) (fun _ => rfl) ?_
 rintro q7_5 h
 try dsimp only at h
 conv => whnf
 cases h; exact (by first | rfl | simp only [Ah, Aa, V.fz, fzL, V.up, upL, Ab, Ac, Ad, slr] | simp [Ah, Aa, V.fz, fzL, V.up, upL, Ab, Ac, Ad, slr])
noncomputable def Iv (list0 : (List Int)) : Option (List Int) :=
 ask ((Ba Int).length + (list0).length ≤ LIM) <|
 some (Ba Int ++ list0)
theorem Ac5 {list0 : (List Int)} {v : (List Int)} (h : Iv list0 = some v) : Ret Try.prog O9 [(slr false 1 Ae) list0] ((slr true 1 Ae) v) := by
 refine Bg Aea (Nat.le_of_ble_eq_true rfl) ?_
 unfold Iv at h
 conv => whnf
 refine BslQ.o Ae (Ba Int) (by exact fun _ => ⟨rfl, rfl⟩) (by first | rfl | simp only [Aa, V.fz, fzL, V.up, upL, Ab, Ac, Ad, slr, List.cons_append, List.nil_append] | simp [Aa, V.fz, fzL, V.up, upL, Ab, Ac, Ad, slr]) ?_
 conv => whnf
 refine AppQ.o (m := 1) Ae (by exact fun _ => ⟨rfl, rfl⟩) (Ba Int) (list0) (by first | rfl | simp only [Aa, V.fz, fzL, V.up, upL, Ab, Ac, Ad, slr, List.cons_append, List.nil_append] | simp [Aa, V.fz, fzL, V.up, upL, Ab, Ac, Ad, slr]) (by first | rfl | simp only [Aa, V.fz, fzL, V.up, upL, Ab, Ac, Ad, slr, List.cons_append, List.nil_append] | simp [Aa, V.fz, fzL, V.up, upL, Ab, Ac, Ad, slr]) h fun h => ?_
 conv => whnf
 cases h; exact (by first | rfl | simp only [Ah, Aa, V.fz, fzL, V.up, upL, Ab, Ac, Ad, slr] | simp [Ah, Aa, V.fz, fzL, V.up, upL, Ab, Ac, Ad, slr])
noncomputable def Fs (l0 : (List Int)) : Option (List Int) :=
 ask ((Ba Int).length + (l0).length ≤ LIM) <|
 some (Ba Int ++ l0)
theorem On {l0 : (List Int)} {v : (List Int)} (h : Fs l0 = some v) : Ret Try.prog Ir [(slr false 1 Ae) l0] ((slr true 1 Ae) v) := by
 refine Bg Adc (Nat.le_of_ble_eq_true rfl) ?_
 unfold Fs at h
 conv => whnf
 refine BslQ.o Ae (Ba Int) (by exact fun _ => ⟨rfl, rfl⟩) (by first | rfl | simp only [Aa, V.fz, fzL, V.up, upL, Ab, Ac, Ad, slr, List.cons_append, List.nil_append] | simp [Aa, V.fz, fzL, V.up, upL, Ab, Ac, Ad, slr]) ?_
 conv => whnf
 refine AppQ.o (m := 1) Ae (by exact fun _ => ⟨rfl, rfl⟩) (Ba Int) (l0) (by first | rfl | simp only [Aa, V.fz, fzL, V.up, upL, Ab, Ac, Ad, slr, List.cons_append, List.nil_append] | simp [Aa, V.fz, fzL, V.up, upL, Ab, Ac, Ad, slr]) (by first | rfl | simp only [Aa, V.fz, fzL, V.up, upL, Ab, Ac, Ad, slr, List.cons_append, List.nil_append] | simp [Aa, V.fz, fzL, V.up, upL, Ab, Ac, Ad, slr]) h fun h => ?_
 conv => whnf
 cases h; exact (by first | rfl | simp only [Ah, Aa, V.fz, fzL, V.up, upL, Ab, Ac, Ad, slr] | simp [Ah, Aa, V.fz, fzL, V.up, upL, Ab, Ac, Ad, slr])
end Go.Proofs.Ytidaaijecmkndaa.Ax
