/-
 What the functions compute, as functions on plain data, and that the program does compute it; written by program.
-/
import Derived.Test.YtcpgnfohmeineaaCode
import Derived.Test.YtcpgnfohmeineaaG1
namespace Go.Proofs.Ytcpgnfohmeineaa.Ax
open Go
set_option maxRecDepth 100000
set_option maxHeartbeats 4000000
noncomputable def El (f0 : SOp) (n0 : Int) : Option Bool :=
 if f0.Arity ≥ (0 : Int) then
 if f0.Arity ≤ (3 : Int) then
 (Cu (n0) (f0.Arity)).bind fun r3 =>
 if (↑f0.Table.length : Int) = r3 then
 (Es (f0.Table) (n0)).bind fun r5 =>
 some r5
 else
 some false
 else
 some false
 else
 some false
theorem Ks {f0 : SOp} {n0 : Int} {v : Bool} (h : El f0 n0 = some v) : Ret Try.prog F3 [(Aj false) f0, Af n0] (V.bool v) := by
 refine A5 Aiy (Nat.le_of_ble_eq_true rfl) ?_
 unfold El at h
 conv => whnf
 refine Cells.lit rfl rfl ?_
 conv => whnf
 refine Br.od h (fun p1 h => ?_) (fun p1 h => ?_)
 ·conv => whnf
  refine Br.yes ?_
  conv => whnf
  refine Cells.lit rfl rfl ?_
  conv => whnf
  refine Br.yes ?_
  conv => whnf
  refine Br.yes ?_
  conv => whnf
  refine Br.od h (fun p2 h => ?_) (fun p2 h => ?_)
  ·conv => whnf
   refine Br.yes ?_
   conv => whnf
   refine Cells.lit rfl rfl ?_
   conv => whnf
   refine Br.yes ?_
   conv => whnf
   refine Len.map ?_
   conv => whnf
   refine Br.yes ?_
   conv => whnf
   refine Br.yes ?_
   conv => whnf
   refine Br.yes ?_
   conv => whnf
   refine Cells.lit rfl rfl ?_
   conv => whnf
   refine Br.yes ?_
   conv => whnf
   refine CallP.o Af (by first | rfl | simp only [Aa, V.fz, fzL, V.up, upL, Ab, Ac, Ad, slr, List.cons_append, List.nil_append] | simp [Aa, V.fz, fzL, V.up, upL, Ab, Ac, Ad, slr]) h (fun r h => Lv h) (fun r3 h => ?_)
   conv => whnf
   refine Br.yes ?_
   conv => whnf
   refine Br.yes ?_
   conv => whnf
   refine Br.oe h (fun p4 h => ?_) (fun p4 h => ?_)
   ·conv => whnf
    refine Br.yes ?_
    conv => whnf
    refine Cells.lit rfl rfl ?_
    conv => whnf
    refine Br.yes ?_
    conv => whnf
    refine Br.yes ?_
    conv => whnf
    refine CallQ.o V.bool (by first | rfl | simp only [Aa, V.fz, fzL, V.up, upL, Ab, Ac, Ad, slr, List.cons_append, List.nil_append] | simp [Aa, V.fz, fzL, V.up, upL, Ab, Ac, Ad, slr]) h (fun r h => Ob h) (fun r5 h => ?_)
    conv => whnf
    refine Br.yes ?_
    conv => whnf
    cases h; exact (by first | rfl | simp only [Ah, Aa, V.fz, fzL, V.up, upL, Ab, Ac, Ad, slr] | simp [Ah, Aa, V.fz, fzL, V.up, upL, Ab, Ac, Ad, slr])
   conv => whnf
   refine Br.no ?_
   conv => whnf
   refine Br.no ?_
   conv => whnf
   refine Br.no ?_
   conv => whnf
   refine Br.no ?_
   conv => whnf
   cases h; exact (by first | rfl | simp only [Ah, Aa, V.fz, fzL, V.up, upL, Ab, Ac, Ad, slr] | simp [Ah, Aa, V.fz, fzL, V.up, upL, Ab, Ac, Ad, slr])
  conv => whnf
  refine Br.no ?_
  conv => whnf
  refine Br.no ?_
  conv => whnf
  refine Br.no ?_
  conv => whnf
  refine Br.no ?_
  conv => whnf
  refine Br.no ?_
  conv => whnf
  refine Br.no ?_
  conv => whnf
  refine Br.no ?_
  conv => whnf
  refine Br.no ?_
  conv => whnf
  refine Br.no ?_
  conv => whnf
  refine Br.no ?_
  conv => whnf
  refine Br.no ?_
  conv => whnf
  refine Br.no ?_
  conv => whnf
  refine Br.no ?_
  conv => whnf
  cases h; exact (by first | rfl | simp only [Ah, Aa, V.fz, fzL, V.up, upL, Ab, Ac, Ad, slr] | simp [Ah, Aa, V.fz, fzL, V.up, upL, Ab, Ac, Ad, slr])
 conv => whnf
 refine Br.no ?_
 conv => whnf
 refine Br.no ?_
 conv => whnf
 refine Br.no ?_
 conv => whnf
 refine Br.no ?_
 conv => whnf
 refine Br.no ?_
 conv => whnf
 refine Br.no ?_
 conv => whnf
 refine Br.no ?_
 conv => whnf
 refine Br.no ?_
 conv => whnf
 refine Br.no ?_
 conv => whnf
 refine Br.no ?_
 conv => whnf
 refine Br.no ?_
 conv => whnf
 refine Br.no ?_
 conv => whnf
 refine Br.no ?_
 conv => whnf
 refine Br.no ?_
 conv => whnf
 refine Br.no ?_
 conv => whnf
 refine Br.no ?_
 conv => whnf
 refine Br.no ?_
 conv => whnf
 cases h; exact (by first | rfl | simp only [Ah, Aa, V.fz, fzL, V.up, upL, Ab, Ac, Ad, slr] | simp [Ah, Aa, V.fz, fzL, V.up, upL, Ab, Ac, Ad, slr])
noncomputable def D6 (n0 : Int) (op0 : SOp) : Int → Option (Int ⊕ (Unit ⊕ Unit)) := fun x5 =>
 if x5 < (↑op0.Table.length : Int) then
 ask ((0 : Int) ≤ x5 ∧ x5 < (↑op0.Table.length : Int)) <|
 ask (InI (n0 - (1 : Int))) <|
 (D1 (nth op0.Table x5.toNat) ((0 : Int)) (n0 - (1 : Int))).bind fun r9 =>
 if (r9) = true then
 ask (InI (x5 + (1 : Int))) <|
 some (.inl (x5 + (1 : Int)))
 else
 some (.inr (.inl ()))
 else
 some (.inr (.inr ()))
def L9 (n0 : Int) (op0 : SOp) : Int → St := fun s => [(5, A.val (Af s)), (3, A.val ((rP true (Aj false)) (op0))), (0, A.val (Af (n0)))]
def Rj (_n0 : Int) (_op0 : SOp) : (Unit ⊕ Unit) → Tgt
 | (.inl _s) => (Ex.ret, [4], [(4, A.val (V.bool (false)))])
 | (.inr _s) => ((Ex.exit 0), [], [])
theorem Zh {n0 : Int} {op0 : SOp} (x5 : Int) (o : Int ⊕ (Unit ⊕ Unit)) (h : D6 n0 op0 x5 = some o) : vc Try.prog R5 (Dx [5, 3, 0] (L9 n0 op0) (Rj n0 op0) o) (L9 n0 op0 x5) := by
 unfold D6 at h
 try dsimp only at h
 conv => whnf
 refine Cells.lit rfl rfl ?_
 conv => whnf
 refine Len.map ?_
 conv => whnf
 refine Br.od h (fun p6 h => ?_) (fun p6 h => ?_)
 ·conv => whnf
  refine Cells.lit rfl rfl ?_
  conv => whnf
  refine Len.map ?_
  conv => whnf
  refine Ask.o h fun p7 h => ?_
  conv => whnf
  refine Elem.o (by first | omega | (simp [A4] at *; omega)) ?_
  conv => whnf
  refine Ask.o h fun p8 h => ?_
  conv => whnf
  refine CallQ.o V.bool (by first | rfl | simp only [Aa, V.fz, fzL, V.up, upL, Ab, Ac, Ad, slr, List.cons_append, List.nil_append] | simp [Aa, V.fz, fzL, V.up, upL, Ab, Ac, Ad, slr]) h (fun r h => H5 h) (fun r9 h => ?_)
  conv => whnf
  refine Br.flip ?_
  conv => whnf
  refine Br.ob h (fun p10 h => ?_) (fun p10 h => ?_)
  ·conv => whnf
   refine Ask.o h fun p11 h => ?_
   conv => whnf
   cases h; exact ⟨rfl, rfl⟩
  conv => whnf
  cases h; exact ⟨rfl, rfl⟩
 conv => whnf
 cases h; exact ⟨rfl, rfl⟩
noncomputable def E5 (n0 : Int) (op0 : SOp) : Option Bool :=
 (((D1 (op0.Arity) ((0 : Int)) ((3 : Int))).bind fun r1 =>
 if (r1) = true then
 (B9 (n0) (op0.Arity)).bind fun r3 =>
 if (↑op0.Table.length : Int) ≠ r3 then
 some (.inl ())
 else
 some (.inr ())
 else
 some (.inl ()) : Option (Unit ⊕ Unit))).bind fun t => match t with
 | (.inl _) => (some false)
 | (.inr _) => ((Ap (D6 n0 op0) (0 : Int)).bind fun t => match t with
 | (.inl _) => (some false)
 | (.inr _) => (some true))
theorem Nw {n0 : Int} {op0 : SOp} {v : Bool} (h : E5 n0 op0 = some v) : Ret Try.prog Hx [Af n0, (Aj false) op0] (V.bool v) := by
 refine A5 Aiq (Nat.le_of_ble_eq_true rfl) ?_
 unfold E5 at h
 conv => whnf
 refine CutQ.o (fun t : (Unit ⊕ Unit) => match t with | (.inl s) => (Ex.ret, [4], [(4, A.val (V.bool (false)))]) | (.inr s) => (Ex.normal, [3, 0], [(3, A.val ((rP true (Aj false)) (op0))), (0, A.val (Af (n0)))])) h ?_ ?_
 ·intro t h
  conv => whnf
  refine Cells.lit rfl rfl ?_
  conv => whnf
  refine CallP.o V.bool (by first | rfl | simp only [Aa, V.fz, fzL, V.up, upL, Ab, Ac, Ad, slr, List.cons_append, List.nil_append] | simp [Aa, V.fz, fzL, V.up, upL, Ab, Ac, Ad, slr]) h (fun r h => H5 h) (fun r1 h => ?_)
  conv => whnf
  refine Br.flip ?_
  conv => whnf
  refine Br.ob h (fun p2 h => ?_) (fun p2 h => ?_)
  ·conv => whnf
   refine Br.no ?_
   conv => whnf
   refine Cells.lit rfl rfl ?_
   conv => whnf
   refine Br.no ?_
   conv => whnf
   refine Len.map ?_
   conv => whnf
   refine Br.no ?_
   conv => whnf
   refine Br.no ?_
   conv => whnf
   refine Br.no ?_
   conv => whnf
   refine Cells.lit rfl rfl ?_
   conv => whnf
   refine Br.no ?_
   conv => whnf
   refine CallP.o Af (by first | rfl | simp only [Aa, V.fz, fzL, V.up, upL, Ab, Ac, Ad, slr, List.cons_append, List.nil_append] | simp [Aa, V.fz, fzL, V.up, upL, Ab, Ac, Ad, slr]) h (fun r h => It h) (fun r3 h => ?_)
   conv => whnf
   refine Br.no ?_
   conv => whnf
   refine Br.no ?_
   conv => whnf
   refine Br.on h (fun p4 h => ?_) (fun p4 h => ?_)
   ·conv => whnf
    cases h; exact ⟨rfl, rfl⟩
   conv => whnf
   cases h; exact ⟨rfl, rfl⟩
  conv => whnf
  refine Br.yes ?_
  conv => whnf
  refine Br.yes ?_
  conv => whnf
  refine Br.yes ?_
  conv => whnf
  refine Br.yes ?_
  conv => whnf
  refine Br.yes ?_
  conv => whnf
  refine Br.yes ?_
  conv => whnf
  refine Br.yes ?_
  conv => whnf
  refine Br.yes ?_
  conv => whnf
  refine Br.yes ?_
  conv => whnf
  cases h; exact ⟨rfl, rfl⟩
 rintro (⟨⟩ | ⟨⟩) h
 ·try dsimp only at h
  conv => whnf
  cases h; exact (by first | rfl | simp only [Ah, Aa, V.fz, fzL, V.up, upL, Ab, Ac, Ad, slr] | simp [Ah, Aa, V.fz, fzL, V.up, upL, Ab, Ac, Ad, slr])
 try dsimp only at h
 conv => whnf
 refine LoopQ.o [5, 3, 0] (L9 n0 op0) (Rj n0 op0) h (fun s o h => Zh s o h) (by first | rfl | simp [restrict, look, Aa, V.fz, fzL, V.up, upL, Ab, Ac, Ad, slr]) (by rintro (_ | _) <;> rfl) ?_
 rintro (⟨⟩ | ⟨⟩) h
 ·try dsimp only at h
  conv => whnf
  cases h; exact (by first | rfl | simp only [Ah, Aa, V.fz, fzL, V.up, upL, Ab, Ac, Ad, slr] | simp [Ah, Aa, V.fz, fzL, V.up, upL, Ab, Ac, Ad, slr])
 try dsimp only at h
 conv => whnf
 cases h; exact (by first | rfl | simp only [Ah, Aa, V.fz, fzL, V.up, upL, Ab, Ac, Ad, slr] | simp [Ah, Aa, V.fz, fzL, V.up, upL, Ab, Ac, Ad, slr])
noncomputable def Ci (n0 : Int) (_f0 : SOp) (g0 : SOp) (_x9 : Int) (r5 : List Int) (x13 : Int) (_x11 : Int) : (Int × Int) → Option ((Int × Int) ⊕ Int) := fun (x15, x14) =>
 if x15 < g0.Arity then
 ask (InI (x14 * n0)) <|
 ask (InI (x13 * g0.Arity)) <|
 ask (InI (x13 * g0.Arity + x15)) <|
 ask ((0 : Int) ≤ x13 * g0.Arity + x15 ∧ x13 * g0.Arity + x15 < (↑r5.length : Int)) <|
 ask (InI (x14 * n0 + nth r5 (x13 * g0.Arity + x15).toNat)) <|
 ask (InI (x15 + (1 : Int))) <|
 some (.inl (x15 + (1 : Int), x14 * n0 + nth r5 (x13 * g0.Arity + x15).toNat))
 else
 some (.inr x14)
def Gc (n0 : Int) (f0 : SOp) (g0 : SOp) (x9 : Int) (r5 : List Int) (x13 : Int) (x11 : Int) : (Int × Int) → St := fun s => [(15, A.val (Af s.1)), (14, A.val (Af s.2)), (13, A.val (Af (x13))), (12, A.val (Af ((0 : Int)))), (11, A.val (Af (x11))), (10, A.val ((slr true 1 Af) (r5))), (9, A.val (Af (x9))), (8, A.val (Af (g0.Arity))), (7, A.val (Af (f0.Arity))), (5, A.val ((rP true (Aj false)) (g0))), (4, A.val ((rP true (Aj false)) (f0))), (0, A.val (Af (n0)))]
def J7 (n0 : Int) (f0 : SOp) (g0 : SOp) (x9 : Int) (r5 : List Int) (x13 : Int) (x11 : Int) : Int → Tgt
 | s => ((Ex.exit 4), [14, 13, 12, 11, 10, 9, 8, 7, 5, 4, 0], [(14, A.val (Af s)), (13, A.val (Af (x13))), (12, A.val (Af ((0 : Int)))), (11, A.val (Af (x11))), (10, A.val ((slr true 1 Af) (r5))), (9, A.val (Af (x9))), (8, A.val (Af (g0.Arity))), (7, A.val (Af (f0.Arity))), (5, A.val ((rP true (Aj false)) (g0))), (4, A.val ((rP true (Aj false)) (f0))), (0, A.val (Af (n0)))])
theorem Ri {n0 : Int} {f0 : SOp} {g0 : SOp} {x9 : Int} {r5 : List Int} {x13 : Int} {x11 : Int} (s : (Int × Int)) (o : (Int × Int) ⊕ Int) (h : Ci n0 f0 g0 x9 r5 x13 x11 s = some o) : vc Try.prog Ky (Dx [15, 14, 13, 12, 11, 10, 9, 8, 7, 5, 4, 0] (Gc n0 f0 g0 x9 r5 x13 x11) (J7 n0 f0 g0 x9 r5 x13 x11) o) (Gc n0 f0 g0 x9 r5 x13 x11 s) := by
 obtain ⟨x15, x14⟩ := s
 unfold Ci at h
 try dsimp only at h
 conv => whnf
 refine Br.od h (fun p7 h => ?_) (fun p7 h => ?_)
 ·conv => whnf
  refine Ask.o h fun p8 h => ?_
  conv => whnf
  refine Ask.o h fun p9 h => ?_
  conv => whnf
  refine Ask.o h fun p10 h => ?_
  conv => whnf
  refine Len.map ?_
  conv => whnf
  refine Ask.o h fun p11 h => ?_
  conv => whnf
  refine Cells.one (fun _ => ⟨rfl, rfl⟩) (by first | omega | (simp [A4] at *; omega)) ?_
  conv => whnf
  refine Ask.o h fun p12 h => ?_
  conv => whnf
  refine Ask.o h fun p13 h => ?_
  conv => whnf
  cases h; exact ⟨rfl, rfl⟩
 conv => whnf
 cases h; exact ⟨rfl, rfl⟩
noncomputable def Cc (n0 : Int) (f0 : SOp) (g0 : SOp) (x9 : Int) (r5 : List Int) : (Int × Int) → Option ((Int × Int) ⊕ Int) := fun (x13, x11) =>
 if x13 < f0.Arity then
 (Ap (Ci n0 f0 g0 x9 r5 x13 x11) ((0 : Int), (0 : Int))).bind fun q14_14 =>
 ask (InI (x11 * n0)) <|
 ask ((0 : Int) ≤ q14_14 ∧ q14_14 < (↑g0.Table.length : Int)) <|
 ask (InI (x11 * n0 + nth g0.Table q14_14.toNat)) <|
 ask (InI (x13 + (1 : Int))) <|
 some (.inl (x13 + (1 : Int), x11 * n0 + nth g0.Table q14_14.toNat))
 else
 some (.inr x11)
def F7 (n0 : Int) (f0 : SOp) (g0 : SOp) (x9 : Int) (r5 : List Int) : (Int × Int) → St := fun s => [(13, A.val (Af s.1)), (12, A.val (Af ((0 : Int)))), (11, A.val (Af s.2)), (10, A.val ((slr true 1 Af) (r5))), (9, A.val (Af (x9))), (8, A.val (Af (g0.Arity))), (7, A.val (Af (f0.Arity))), (5, A.val ((rP true (Aj false)) (g0))), (4, A.val ((rP true (Aj false)) (f0))), (0, A.val (Af (n0)))]
def Ko (n0 : Int) (f0 : SOp) (g0 : SOp) (x9 : Int) (r5 : List Int) : Int → Tgt
 | s => ((Ex.exit 2), [12, 11, 10, 9, 8, 7, 5, 4, 0], [(12, A.val (Af ((0 : Int)))), (11, A.val (Af s)), (10, A.val ((slr true 1 Af) (r5))), (9, A.val (Af (x9))), (8, A.val (Af (g0.Arity))), (7, A.val (Af (f0.Arity))), (5, A.val ((rP true (Aj false)) (g0))), (4, A.val ((rP true (Aj false)) (f0))), (0, A.val (Af (n0)))])
theorem Rd {n0 : Int} {f0 : SOp} {g0 : SOp} {x9 : Int} {r5 : List Int} (s : (Int × Int)) (o : (Int × Int) ⊕ Int) (h : Cc n0 f0 g0 x9 r5 s = some o) : vc Try.prog Ke (Dx [13, 12, 11, 10, 9, 8, 7, 5, 4, 0] (F7 n0 f0 g0 x9 r5) (Ko n0 f0 g0 x9 r5) o) (F7 n0 f0 g0 x9 r5 s) := by
 obtain ⟨x13, x11⟩ := s
 unfold Cc at h
 try dsimp only at h
 conv => whnf
 refine Br.od h (fun p6 h => ?_) (fun p6 h => ?_)
 ·conv => whnf
  refine LoopQ.o [15, 14, 13, 12, 11, 10, 9, 8, 7, 5, 4, 0] (Gc n0 f0 g0 x9 r5 x13 x11) (J7 n0 f0 g0 x9 r5 x13 x11) h (fun s o h => Ri s o h) (by first | rfl | simp [restrict, look, Aa, V.fz, fzL, V.up, upL, Ab, Ac, Ad, slr]) (fun _ => rfl) ?_
  rintro q14_14 h
  try dsimp only at h
  conv => whnf
  refine Ask.o h fun p15 h => ?_
  conv => whnf
  refine Cells.lit rfl rfl ?_
  conv => whnf
  refine Len.map ?_
  conv => whnf
  refine Ask.o h fun p16 h => ?_
  conv => whnf
  refine Elem.o (by first | omega | (simp [A4] at *; omega)) ?_
  conv => whnf
  refine Ask.o h fun p17 h => ?_
  conv => whnf
  refine Ask.o h fun p18 h => ?_
  conv => whnf
  cases h; exact ⟨rfl, rfl⟩
 conv => whnf
 cases h; exact ⟨rfl, rfl⟩
noncomputable def Ck (n0 : Int) (f0 : SOp) (g0 : SOp) (_x9 : Int) (r5 : List Int) (_q19_11 : Int) (x16 : Int) (_x12 : Int) : (Int × Int) → Option ((Int × Int) ⊕ Int) := fun (x18, x17) =>
 if x18 < f0.Arity then
 ask (InI (x17 * n0)) <|
 ask (InI (x18 * g0.Arity)) <|
 ask (InI (x18 * g0.Arity + x16)) <|
 ask ((0 : Int) ≤ x18 * g0.Arity + x16 ∧ x18 * g0.Arity + x16 < (↑r5.length : Int)) <|
 ask (InI (x17 * n0 + nth r5 (x18 * g0.Arity + x16).toNat)) <|
 ask (InI (x18 + (1 : Int))) <|
 some (.inl (x18 + (1 : Int), x17 * n0 + nth r5 (x18 * g0.Arity + x16).toNat))
 else
 some (.inr x17)
def Gp (n0 : Int) (f0 : SOp) (g0 : SOp) (x9 : Int) (r5 : List Int) (q19_11 : Int) (x16 : Int) (x12 : Int) : (Int × Int) → St := fun s => [(18, A.val (Af s.1)), (17, A.val (Af s.2)), (16, A.val (Af (x16))), (12, A.val (Af (x12))), (11, A.val (Af (q19_11))), (10, A.val ((slr true 1 Af) (r5))), (9, A.val (Af (x9))), (8, A.val (Af (g0.Arity))), (7, A.val (Af (f0.Arity))), (5, A.val ((rP true (Aj false)) (g0))), (4, A.val ((rP true (Aj false)) (f0))), (0, A.val (Af (n0)))]
def J8 (n0 : Int) (f0 : SOp) (g0 : SOp) (x9 : Int) (r5 : List Int) (q19_11 : Int) (x16 : Int) (x12 : Int) : Int → Tgt
 | s => ((Ex.exit 8), [17, 16, 12, 11, 10, 9, 8, 7, 5, 4, 0], [(17, A.val (Af s)), (16, A.val (Af (x16))), (12, A.val (Af (x12))), (11, A.val (Af (q19_11))), (10, A.val ((slr true 1 Af) (r5))), (9, A.val (Af (x9))), (8, A.val (Af (g0.Arity))), (7, A.val (Af (f0.Arity))), (5, A.val ((rP true (Aj false)) (g0))), (4, A.val ((rP true (Aj false)) (f0))), (0, A.val (Af (n0)))])
theorem Rt {n0 : Int} {f0 : SOp} {g0 : SOp} {x9 : Int} {r5 : List Int} {q19_11 : Int} {x16 : Int} {x12 : Int} (s : (Int × Int)) (o : (Int × Int) ⊕ Int) (h : Ck n0 f0 g0 x9 r5 q19_11 x16 x12 s = some o) : vc Try.prog Kt (Dx [18, 17, 16, 12, 11, 10, 9, 8, 7, 5, 4, 0] (Gp n0 f0 g0 x9 r5 q19_11 x16 x12) (J8 n0 f0 g0 x9 r5 q19_11 x16 x12) o) (Gp n0 f0 g0 x9 r5 q19_11 x16 x12 s) := by
 obtain ⟨x18, x17⟩ := s
 unfold Ck at h
 try dsimp only at h
 conv => whnf
 refine Br.od h (fun p21 h => ?_) (fun p21 h => ?_)
 ·conv => whnf
  refine Ask.o h fun p22 h => ?_
  conv => whnf
  refine Ask.o h fun p23 h => ?_
  conv => whnf
  refine Ask.o h fun p24 h => ?_
  conv => whnf
  refine Len.map ?_
  conv => whnf
  refine Ask.o h fun p25 h => ?_
  conv => whnf
  refine Cells.one (fun _ => ⟨rfl, rfl⟩) (by first | omega | (simp [A4] at *; omega)) ?_
  conv => whnf
  refine Ask.o h fun p26 h => ?_
  conv => whnf
  refine Ask.o h fun p27 h => ?_
  conv => whnf
  cases h; exact ⟨rfl, rfl⟩
 conv => whnf
 cases h; exact ⟨rfl, rfl⟩
noncomputable def Cm (n0 : Int) (f0 : SOp) (g0 : SOp) (x9 : Int) (r5 : List Int) (q19_11 : Int) : (Int × Int) → Option ((Int × Int) ⊕ Int) := fun (x16, x12) =>
 if x16 < g0.Arity then
 (Ap (Ck n0 f0 g0 x9 r5 q19_11 x16 x12) ((0 : Int), (0 : Int))).bind fun q28_17 =>
 ask (InI (x12 * n0)) <|
 ask ((0 : Int) ≤ q28_17 ∧ q28_17 < (↑f0.Table.length : Int)) <|
 ask (InI (x12 * n0 + nth f0.Table q28_17.toNat)) <|
 ask (InI (x16 + (1 : Int))) <|
 some (.inl (x16 + (1 : Int), x12 * n0 + nth f0.Table q28_17.toNat))
 else
 some (.inr x12)
def Ga (n0 : Int) (f0 : SOp) (g0 : SOp) (x9 : Int) (r5 : List Int) (q19_11 : Int) : (Int × Int) → St := fun s => [(16, A.val (Af s.1)), (12, A.val (Af s.2)), (11, A.val (Af (q19_11))), (10, A.val ((slr true 1 Af) (r5))), (9, A.val (Af (x9))), (8, A.val (Af (g0.Arity))), (7, A.val (Af (f0.Arity))), (5, A.val ((rP true (Aj false)) (g0))), (4, A.val ((rP true (Aj false)) (f0))), (0, A.val (Af (n0)))]
def Kl (n0 : Int) (f0 : SOp) (g0 : SOp) (x9 : Int) (_r5 : List Int) (q19_11 : Int) : Int → Tgt
 | s => ((Ex.exit 6), [12, 11, 9, 8, 7, 5, 4, 0], [(12, A.val (Af s)), (11, A.val (Af (q19_11))), (9, A.val (Af (x9))), (8, A.val (Af (g0.Arity))), (7, A.val (Af (f0.Arity))), (5, A.val ((rP true (Aj false)) (g0))), (4, A.val ((rP true (Aj false)) (f0))), (0, A.val (Af (n0)))])
theorem Ro {n0 : Int} {f0 : SOp} {g0 : SOp} {x9 : Int} {r5 : List Int} {q19_11 : Int} (s : (Int × Int)) (o : (Int × Int) ⊕ Int) (h : Cm n0 f0 g0 x9 r5 q19_11 s = some o) : vc Try.prog Ka (Dx [16, 12, 11, 10, 9, 8, 7, 5, 4, 0] (Ga n0 f0 g0 x9 r5 q19_11) (Kl n0 f0 g0 x9 r5 q19_11) o) (Ga n0 f0 g0 x9 r5 q19_11 s) := by
 obtain ⟨x16, x12⟩ := s
 unfold Cm at h
 try dsimp only at h
 conv => whnf
 refine Br.od h (fun p20 h => ?_) (fun p20 h => ?_)
 ·conv => whnf
  refine LoopQ.o [18, 17, 16, 12, 11, 10, 9, 8, 7, 5, 4, 0] (Gp n0 f0 g0 x9 r5 q19_11 x16 x12) (J8 n0 f0 g0 x9 r5 q19_11 x16 x12) h (fun s o h => Rt s o h) (by first | rfl | simp [restrict, look, Aa, V.fz, fzL, V.up, upL, Ab, Ac, Ad, slr]) (fun _ => rfl) ?_
  rintro q28_17 h
  try dsimp only at h
  conv => whnf
  refine Ask.o h fun p29 h => ?_
  conv => whnf
  refine Cells.lit rfl rfl ?_
  conv => whnf
  refine Len.map ?_
  conv => whnf
  refine Ask.o h fun p30 h => ?_
  conv => whnf
  refine Elem.o (by first | omega | (simp [A4] at *; omega)) ?_
  conv => whnf
  refine Ask.o h fun p31 h => ?_
  conv => whnf
  refine Ask.o h fun p32 h => ?_
  conv => whnf
  cases h; exact ⟨rfl, rfl⟩
 conv => whnf
 cases h; exact ⟨rfl, rfl⟩
noncomputable def Bo (n0 : Int) (f0 : SOp) (g0 : SOp) : Int → Option (Int ⊕ (Unit ⊕ Unit)) := fun x9 =>
 ask (InI (f0.Arity * g0.Arity)) <|
 (B9 (n0) (f0.Arity * g0.Arity)).bind fun r2 =>
 if x9 < r2 then
 ask (InI (f0.Arity * g0.Arity)) <|
 (B8 (n0) (f0.Arity * g0.Arity) (x9)).bind fun r5 =>
 (Ap (Cc n0 f0 g0 x9 r5) ((0 : Int), (0 : Int))).bind fun q19_11 =>
 (Ap (Cm n0 f0 g0 x9 r5 q19_11) ((0 : Int), (0 : Int))).bind fun q33_12 =>
 ask ((0 : Int) ≤ q19_11 ∧ q19_11 < (↑f0.Table.length : Int)) <|
 ask ((0 : Int) ≤ q33_12 ∧ q33_12 < (↑g0.Table.length : Int)) <|
 if nth f0.Table q19_11.toNat ≠ nth g0.Table q33_12.toNat then
 some (.inr (.inl ()))
 else
 ask (InI (x9 + (1 : Int))) <|
 some (.inl (x9 + (1 : Int)))
 else
 some (.inr (.inr ()))
def F9 (n0 : Int) (f0 : SOp) (g0 : SOp) : Int → St := fun s => [(9, A.val (Af s)), (8, A.val (Af (g0.Arity))), (7, A.val (Af (f0.Arity))), (5, A.val ((rP true (Aj false)) (g0))), (4, A.val ((rP true (Aj false)) (f0))), (0, A.val (Af (n0)))]
def Kj (_n0 : Int) (_f0 : SOp) (_g0 : SOp) : (Unit ⊕ Unit) → Tgt
 | (.inl _s) => (Ex.ret, [6], [(6, A.val (V.bool (false)))])
 | (.inr _s) => ((Ex.exit 0), [], [])
theorem Sd {n0 : Int} {f0 : SOp} {g0 : SOp} (x9 : Int) (o : Int ⊕ (Unit ⊕ Unit)) (h : Bo n0 f0 g0 x9 = some o) : vc Try.prog Kh (Dx [9, 8, 7, 5, 4, 0] (F9 n0 f0 g0) (Kj n0 f0 g0) o) (F9 n0 f0 g0 x9) := by
 unfold Bo at h
 try dsimp only at h
 conv => whnf
 refine Ask.o h fun p1 h => ?_
 conv => whnf
 refine CallQ.o Af (by first | rfl | simp only [Aa, V.fz, fzL, V.up, upL, Ab, Ac, Ad, slr, List.cons_append, List.nil_append] | simp [Aa, V.fz, fzL, V.up, upL, Ab, Ac, Ad, slr]) h (fun r h => It h) (fun r2 h => ?_)
 conv => whnf
 refine Br.od h (fun p3 h => ?_) (fun p3 h => ?_)
 ·conv => whnf
  refine Ask.o h fun p4 h => ?_
  conv => whnf
  refine CallQ.o (slr true 1 Af) (by first | rfl | simp only [Aa, V.fz, fzL, V.up, upL, Ab, Ac, Ad, slr, List.cons_append, List.nil_append] | simp [Aa, V.fz, fzL, V.up, upL, Ab, Ac, Ad, slr]) h (fun r h => Jt h) (fun r5 h => ?_)
  conv => whnf
  refine LoopQ.o [13, 12, 11, 10, 9, 8, 7, 5, 4, 0] (F7 n0 f0 g0 x9 r5) (Ko n0 f0 g0 x9 r5) h (fun s o h => Rd s o h) (by first | rfl | simp [restrict, look, Aa, V.fz, fzL, V.up, upL, Ab, Ac, Ad, slr]) (fun _ => rfl) ?_
  rintro q19_11 h
  try dsimp only at h
  conv => whnf
  refine LoopQ.o [16, 12, 11, 10, 9, 8, 7, 5, 4, 0] (Ga n0 f0 g0 x9 r5 q19_11) (Kl n0 f0 g0 x9 r5 q19_11) h (fun s o h => Ro s o h) (by first | rfl | simp [restrict, look, Aa, V.fz, fzL, V.up, upL, Ab, Ac, Ad, slr]) (fun _ => rfl) ?_
  rintro q33_12 h
  try dsimp only at h
  conv => whnf
  refine Cells.lit rfl rfl ?_
  conv => whnf
  refine Len.map ?_
  conv => whnf
  refine Ask.o h fun p34 h => ?_
  conv => whnf
  refine Elem.o (by first | omega | (simp [A4] at *; omega)) ?_
  conv => whnf
  refine Cells.lit rfl rfl ?_
  conv => whnf
  refine Len.map ?_
  conv => whnf
  refine Ask.o h fun p35 h => ?_
  conv => whnf
  refine Elem.o (by first | omega | (simp [A4] at *; omega)) ?_
  conv => whnf
  refine Br.on h (fun p36 h => ?_) (fun p36 h => ?_)
  ·conv => whnf
   cases h; exact ⟨rfl, rfl⟩
  conv => whnf
  refine Ask.o h fun p37 h => ?_
  conv => whnf
  cases h; exact ⟨rfl, rfl⟩
 conv => whnf
 cases h; exact ⟨rfl, rfl⟩
noncomputable def Fu (n0 : Int) (f0 : SOp) (g0 : SOp) : Option Bool :=
 (Ap (Bo n0 f0 g0) (0 : Int)).bind fun t => match t with
 | (.inl _) => (some false)
 | (.inr _) => (some true)
theorem U7 {n0 : Int} {f0 : SOp} {g0 : SOp} {v : Bool} (h : Fu n0 f0 g0 = some v) : Ret Try.prog Is [Af n0, (Aj false) f0, (Aj false) g0] (V.bool v) := by
 refine A5 U1 (Nat.le_of_ble_eq_true rfl) ?_
 unfold Fu at h
 conv => whnf
 refine Cells.lit rfl rfl ?_
 conv => whnf
 refine Cells.lit rfl rfl ?_
 conv => whnf
 refine LoopQ.o [9, 8, 7, 5, 4, 0] (F9 n0 f0 g0) (Kj n0 f0 g0) h (fun s o h => Sd s o h) (by first | rfl | simp [restrict, look, Aa, V.fz, fzL, V.up, upL, Ab, Ac, Ad, slr]) (by rintro (_ | _) <;> rfl) ?_
 rintro (⟨⟩ | ⟨⟩) h
 ·try dsimp only at h
  conv => whnf
  cases h; exact (by first | rfl | simp only [Ah, Aa, V.fz, fzL, V.up, upL, Ab, Ac, Ad, slr] | simp [Ah, Aa, V.fz, fzL, V.up, upL, Ab, Ac, Ad, slr])
 try dsimp only at h
 conv => whnf
 cases h; exact (by first | rfl | simp only [Ah, Aa, V.fz, fzL, V.up, upL, Ab, Ac, Ad, slr] | simp [Ah, Aa, V.fz, fzL, V.up, upL, Ab, Ac, Ad, slr])
noncomputable def Jz (n0 : Int) : Option Bool :=
 (D1 (n0) ((1 : Int)) ((8 : Int))).bind fun r1 =>
 some r1
theorem Ade {n0 : Int} {v : Bool} (h : Jz n0 = some v) : Ret Try.prog Oa [Af n0] (V.bool v) := by
 refine A5 Acc (Nat.le_of_ble_eq_true rfl) ?_
 unfold Jz at h
 conv => whnf
 refine CallQ.o V.bool (by first | rfl | simp only [Aa, V.fz, fzL, V.up, upL, Ab, Ac, Ad, slr, List.cons_append, List.nil_append] | simp [Aa, V.fz, fzL, V.up, upL, Ab, Ac, Ad, slr]) h (fun r h => H5 h) (fun r1 h => ?_)
 conv => whnf
 cases h; exact (by first | rfl | simp only [Ah, Aa, V.fz, fzL, V.up, upL, Ab, Ac, Ad, slr] | simp [Ah, Aa, V.fz, fzL, V.up, upL, Ab, Ac, Ad, slr])
noncomputable def B0 (n0 : Int) (list0 : List Int) : Int → Option (Int ⊕ (Unit ⊕ Unit)) := fun x5 =>
 if x5 < (↑list0.length : Int) then
 ask ((0 : Int) ≤ x5 ∧ x5 < (↑list0.length : Int)) <|
 ask (InI (n0 - (1 : Int))) <|
 (D1 (nth list0 x5.toNat) ((0 : Int)) (n0 - (1 : Int))).bind fun r4 =>
 if (r4) = true then
 ask (InI (x5 + (1 : Int))) <|
 some (.inl (x5 + (1 : Int)))
 else
 some (.inr (.inl ()))
 else
 some (.inr (.inr ()))
def Gr (n0 : Int) (list0 : List Int) : Int → St := fun s => [(5, A.val (Af s)), (0, A.val (Af (n0))), (1, A.val ((slr false 1 Af) (list0)))]
def Kf (_n0 : Int) (_list0 : List Int) : (Unit ⊕ Unit) → Tgt
 | (.inl _s) => (Ex.ret, [4], [(4, A.val (V.bool (false)))])
 | (.inr _s) => ((Ex.exit 0), [], [])
theorem Rx {n0 : Int} {list0 : List Int} (x5 : Int) (o : Int ⊕ (Unit ⊕ Unit)) (h : B0 n0 list0 x5 = some o) : vc Try.prog Kx (Dx [5, 0, 1] (Gr n0 list0) (Kf n0 list0) o) (Gr n0 list0 x5) := by
 unfold B0 at h
 try dsimp only at h
 conv => whnf
 refine Len.map ?_
 conv => whnf
 refine Br.od h (fun p1 h => ?_) (fun p1 h => ?_)
 ·conv => whnf
  refine Len.map ?_
  conv => whnf
  refine Ask.o h fun p2 h => ?_
  conv => whnf
  refine Elem.o (by first | omega | (simp [A4] at *; omega)) ?_
  conv => whnf
  refine Ask.o h fun p3 h => ?_
  conv => whnf
  refine CallQ.o V.bool (by first | rfl | simp only [Aa, V.fz, fzL, V.up, upL, Ab, Ac, Ad, slr, List.cons_append, List.nil_append] | simp [Aa, V.fz, fzL, V.up, upL, Ab, Ac, Ad, slr]) h (fun r h => H5 h) (fun r4 h => ?_)
  conv => whnf
  refine Br.flip ?_
  conv => whnf
  refine Br.ob h (fun p5 h => ?_) (fun p5 h => ?_)
  ·conv => whnf
   refine Ask.o h fun p6 h => ?_
   conv => whnf
   cases h; exact ⟨rfl, rfl⟩
  conv => whnf
  cases h; exact ⟨rfl, rfl⟩
 conv => whnf
 cases h; exact ⟨rfl, rfl⟩
noncomputable def Eo (n0 : Int) (list0 : (List Int)) : Option Bool :=
 (Ap (B0 n0 list0) (0 : Int)).bind fun t => match t with
 | (.inl _) => (some false)
 | (.inr _) => (some true)
theorem Vy {n0 : Int} {list0 : (List Int)} {v : Bool} (h : Eo n0 list0 = some v) : Ret Try.prog I1 [Af n0, (slr false 1 Af) list0] (V.bool v) := by
 refine A5 Vb (Nat.le_of_ble_eq_true rfl) ?_
 unfold Eo at h
 conv => whnf
 refine LoopQ.o [5, 0, 1] (Gr n0 list0) (Kf n0 list0) h (fun s o h => Rx s o h) (by first | rfl | simp [restrict, look, Aa, V.fz, fzL, V.up, upL, Ab, Ac, Ad, slr]) (by rintro (_ | _) <;> rfl) ?_
 rintro (⟨⟩ | ⟨⟩) h
 ·try dsimp only at h
  conv => whnf
  cases h; exact (by first | rfl | simp only [Ah, Aa, V.fz, fzL, V.up, upL, Ab, Ac, Ad, slr] | simp [Ah, Aa, V.fz, fzL, V.up, upL, Ab, Ac, Ad, slr])
 try dsimp only at h
 conv => whnf
 cases h; exact (by first | rfl | simp only [Ah, Aa, V.fz, fzL, V.up, upL, Ab, Ac, Ad, slr] | simp [Ah, Aa, V.fz, fzL, V.up, upL, Ab, Ac, Ad, slr])
noncomputable def Bk (n0 : Int) (k0 : Int) (place0 : Int) : (Int × (List Int)) → Option ((Int × (List Int)) ⊕ (List Int)) := fun (x8, x7) =>
 (B9 (n0) (k0)).bind fun r1 =>
 if x8 < r1 then
 (B8 (n0) (k0) (x8)).bind fun r3 =>
 ask ((0 : Int) ≤ place0 ∧ place0 < (↑r3.length : Int)) <|
 ask ((x7).length + ([nth r3 place0.toNat]).length ≤ LIM) <|
 ask (InI (x8 + (1 : Int))) <|
 some (.inl (x8 + (1 : Int), x7 ++ [nth r3 place0.toNat]))
 else
 some (.inr x7)
def E2 (n0 : Int) (k0 : Int) (place0 : Int) : (Int × (List Int)) → St := fun s => [(8, A.val (Af s.1)), (7, A.val ((slr true 1 Af) s.2)), (0, A.val (Af (n0))), (1, A.val (Af (k0))), (2, A.val (Af (place0)))]
def Hu (_n0 : Int) (_k0 : Int) (_place0 : Int) : (List Int) → Tgt
 | s => ((Ex.exit 0), [7], [(7, A.val ((slr true 1 Af) s))])
theorem Pg {n0 : Int} {k0 : Int} {place0 : Int} (s : (Int × (List Int))) (o : (Int × (List Int)) ⊕ (List Int)) (h : Bk n0 k0 place0 s = some o) : vc Try.prog Hw (Dx [8, 7, 0, 1, 2] (E2 n0 k0 place0) (Hu n0 k0 place0) o) (E2 n0 k0 place0 s) := by
 obtain ⟨x8, x7⟩ := s
 unfold Bk at h
 try dsimp only at h
 conv => whnf
 refine CallQ.o Af (by first | rfl | simp only [Aa, V.fz, fzL, V.up, upL, Ab, Ac, Ad, slr, List.cons_append, List.nil_append] | simp [Aa, V.fz, fzL, V.up, upL, Ab, Ac, Ad, slr]) h (fun r h => It h) (fun r1 h => ?_)
 conv => whnf
 refine Br.od h (fun p2 h => ?_) (fun p2 h => ?_)
 ·conv => whnf
  refine CallQ.o (slr true 1 Af) (by first | rfl | simp only [Aa, V.fz, fzL, V.up, upL, Ab, Ac, Ad, slr, List.cons_append, List.nil_append] | simp [Aa, V.fz, fzL, V.up, upL, Ab, Ac, Ad, slr]) h (fun r h => Jt h) (fun r3 h => ?_)
  conv => whnf
  refine Len.map ?_
  conv => whnf
  refine Ask.o h fun p4 h => ?_
  conv => whnf
  refine Cells.one (fun _ => ⟨rfl, rfl⟩) (by first | omega | (simp [A4] at *; omega)) ?_
  conv => whnf
  refine BslQ.o Af ([nth r3 place0.toNat]) (by exact fun _ => ⟨rfl, rfl⟩) (by first | rfl | simp only [Aa, V.fz, fzL, V.up, upL, Ab, Ac, Ad, slr, List.cons_append, List.nil_append] | simp [Aa, V.fz, fzL, V.up, upL, Ab, Ac, Ad, slr]) ?_
  conv => whnf
  refine NoOwn.o (fun _ => rfl) ?_
  conv => whnf
  refine AppQ.o (m := 1) Af (by exact fun _ => ⟨rfl, rfl⟩) (x7) ([nth r3 place0.toNat]) (by first | rfl | simp only [Aa, V.fz, fzL, V.up, upL, Ab, Ac, Ad, slr, List.cons_append, List.nil_append] | simp [Aa, V.fz, fzL, V.up, upL, Ab, Ac, Ad, slr]) (by first | rfl | simp only [Aa, V.fz, fzL, V.up, upL, Ab, Ac, Ad, slr, List.cons_append, List.nil_append] | simp [Aa, V.fz, fzL, V.up, upL, Ab, Ac, Ad, slr]) h fun h => ?_
  conv => whnf
  refine Ask.o h fun p5 h => ?_
  conv => whnf
  cases h; exact ⟨rfl, rfl⟩
 conv => whnf
 cases h; exact ⟨rfl, rfl⟩
noncomputable def Dj (n0 : Int) (k0 : Int) (place0 : Int) : Option (List Int) :=
 (Ap (Bk n0 k0 place0) ((0 : Int), Bl Int)).bind fun q6_7 =>
 some q6_7
theorem Ra {n0 : Int} {k0 : Int} {place0 : Int} {v : (List Int)} (h : Dj n0 k0 place0 = some v) : Ret Try.prog Gt [Af n0, Af k0, Af place0] ((slr true 1 Af) v) := by
 refine A5 Rz (Nat.le_of_ble_eq_true rfl) ?_
 unfold Dj at h
 conv => whnf
 refine BslQ.o Af (Bl Int) (by exact fun _ => ⟨rfl, rfl⟩) (by first | rfl | simp only [Aa, V.fz, fzL, V.up, upL, Ab, Ac, Ad, slr, List.cons_append, List.nil_append] | simp [Aa, V.fz, fzL, V.up, upL, Ab, Ac, Ad, slr]) ?_
 conv => whnf
 refine LoopQ.o [8, 7, 0, 1, 2] (E2 n0 k0 place0) (Hu n0 k0 place0) h (fun s o h => Pg s o h) (by first | rfl | simp [restrict, look, Aa, V.fz, fzL, V.up, upL, Ab, Ac, Ad, slr]) (fun _ => rfl) ?_
 rintro q6_7 h
 try dsimp only at h
 conv => whnf
 cases h; exact (by first | rfl | simp only [Ah, Aa, V.fz, fzL, V.up, upL, Ab, Ac, Ad, slr] | simp [Ah, Aa, V.fz, fzL, V.up, upL, Ab, Ac, Ad, slr])
end Go.Proofs.Ytcpgnfohmeineaa.Ax
