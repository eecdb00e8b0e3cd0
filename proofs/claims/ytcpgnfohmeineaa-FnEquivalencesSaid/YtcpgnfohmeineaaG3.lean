/-
 What the functions compute, as functions on plain data, and that the program does compute it; written by program.
-/
import Derived.Test.YtcpgnfohmeineaaCode
import Derived.Test.YtcpgnfohmeineaaG1
import Derived.Test.YtcpgnfohmeineaaG2
namespace Go.Proofs.Ytcpgnfohmeineaa.Ax
open Go
set_option maxRecDepth 100000
set_option maxHeartbeats 4000000
noncomputable def Cw (n0 : Int) : (Int × (List Int)) → Option ((Int × (List Int)) ⊕ (List Int)) := fun (x4, x3) =>
 if x4 < n0 then
 ask ((x3).length + ([x4]).length ≤ LIM) <|
 ask (InI (x4 + (1 : Int))) <|
 some (.inl (x4 + (1 : Int), x3 ++ [x4]))
 else
 some (.inr x3)
def Jd (n0 : Int) : (Int × (List Int)) → St := fun s => [(4, A.val (Af s.1)), (3, A.val ((slr true 1 Af) s.2)), (0, A.val (Af (n0)))]
def Pf (_n0 : Int) : (List Int) → Tgt
 | s => ((Ex.exit 0), [3], [(3, A.val ((slr true 1 Af) s))])
theorem Zg {n0 : Int} (s : (Int × (List Int))) (o : (Int × (List Int)) ⊕ (List Int)) (h : Cw n0 s = some o) : vc Try.prog Pi (Cu [4, 3, 0] (Jd n0) (Pf n0) o) (Jd n0 s) := by
 obtain ⟨x4, x3⟩ := s
 unfold Cw at h
 try dsimp only at h
 conv => whnf
 refine Br.od h (fun p1 h => ?_) (fun p1 h => ?_)
 ·conv => whnf
  refine BslQ.o Af [x4] (by exact fun _ => ⟨rfl, rfl⟩) (by rfl) ?_
  conv => whnf
  refine NoOwn.o (fun _ => rfl) ?_
  conv => whnf
  refine AppQ.o (m := 1) Af (by exact fun _ => ⟨rfl, rfl⟩) (x3) ([x4]) (by rfl) (by rfl) h fun h => ?_
  conv => whnf
  refine Ask.o h fun p2 h => ?_
  conv => whnf
  cases h; exact ⟨rfl, rfl⟩
 conv => whnf
 cases h; exact ⟨rfl, rfl⟩
noncomputable def Da (n0 : Int) : Option (List Int) :=
 (Al (Cw n0) ((0 : Int), Av Int)).bind fun q3_3 =>
 some q3_3
theorem I8 {n0 : Int} {v : (List Int)} (h : Da n0 = some v) : Ret Try.prog Fd [Af n0] ((slr true 1 Af) v) := by
 refine A8 Ac0 (Nat.le_of_ble_eq_true rfl) ?_
 unfold Da at h
 conv => whnf
 refine BslQ.o Af (Av Int) (by exact fun _ => ⟨rfl, rfl⟩) (by rfl) ?_
 conv => whnf
 refine LoopQ.o [4, 3, 0] (Jd n0) (Pf n0) h (fun s o h => Zg s o h) (by rfl) (fun _ => rfl) ?_
 rintro q3_3 h
 try dsimp only at h
 conv => whnf
 cases h; exact (by rfl)
noncomputable def Fi (p0 : List Int) (q5_2 : Int) (q5_1 : Int) : (Int × (List Int)) → Option ((Int × (List Int)) ⊕ (List Int)) := fun (x26, x40) =>
 if x26 < (↑p0.length : Int) then
 ask ((0 : Int) ≤ x26 ∧ x26 < (↑x40.length : Int)) <|
 if nth x40 x26.toNat = q5_2 then
 ask ((0 : Int) ≤ x26 ∧ x26 < (↑x40.length : Int)) <|
 ask (InI (x26 + (1 : Int))) <|
 some (.inl (x26 + (1 : Int), x40.set x26.toNat q5_1))
 else
 ask (InI (x26 + (1 : Int))) <|
 some (.inl (x26 + (1 : Int), x40))
 else
 some (.inr x40)
def Pv (p0 : List Int) (q5_2 : Int) (q5_1 : Int) : (Int × (List Int)) → St := fun s => [(26, A.val (Af s.1)), (25, A.val (Af ((↑p0.length : Int)))), (2, A.val (Af (q5_2))), (1, A.val (Af (q5_1))), (0, A.ref 40 []), (40, A.val ((slr true 1 Af) s.2))]
def W5 (_p0 : List Int) (_q5_2 : Int) (_q5_1 : Int) : (List Int) → Tgt
 | s => ((Ex.exit 0), [40], [(40, A.val ((slr true 1 Af) s))])
theorem Agq {p0 : List Int} {q5_2 : Int} {q5_1 : Int} (s : (Int × (List Int))) (o : (Int × (List Int)) ⊕ (List Int)) (h : Fi p0 q5_2 q5_1 s = some o) : vc Try.prog Xg (Cu [26, 25, 2, 1, 0, 40] (Pv p0 q5_2 q5_1) (W5 p0 q5_2 q5_1) o) (Pv p0 q5_2 q5_1 s) := by
 obtain ⟨x26, x40⟩ := s
 unfold Fi at h
 try dsimp only at h
 conv => whnf
 refine Br.od h (fun p6 h => ?_) (fun p6 h => ?_)
 ·conv => whnf
  refine Len.map ?_
  conv => whnf
  refine Ask.o h fun p7 h => ?_
  conv => whnf
  refine Cells.one (fun _ => ⟨rfl, rfl⟩) (by first | omega | (simp [Ap] at *; omega)) ?_
  conv => whnf
  refine Br.oe h (fun p8 h => ?_) (fun p8 h => ?_)
  ·conv => whnf
   refine Len.map ?_
   conv => whnf
   refine Ask.o h fun p9 h => ?_
   conv => whnf
   refine SetKids.one (fun _ => ⟨rfl, rfl⟩) (q5_1) (by rfl) (by first | omega | (simp [Ap] at *; omega)) ?_
   conv => whnf
   refine Ask.o h fun p10 h => ?_
   conv => whnf
   cases h; exact ⟨rfl, rfl⟩
  conv => whnf
  refine Ask.o h fun p11 h => ?_
  conv => whnf
  cases h; exact ⟨rfl, rfl⟩
 conv => whnf
 cases h; exact ⟨rfl, rfl⟩
noncomputable def M3 (p0 : (List Int)) (x0 : Int) (y0 : Int) : Option (Bool × (List Int)) :=
 ask ((0 : Int) ≤ x0 ∧ x0 < (↑p0.length : Int)) <|
 ask ((0 : Int) ≤ y0 ∧ y0 < (↑p0.length : Int)) <|
 if nth p0 x0.toNat = nth p0 y0.toNat then
 some (false, p0)
 else
 ((if nth p0 x0.toNat > nth p0 y0.toNat then
 some (nth p0 x0.toNat, nth p0 y0.toNat)
 else
 some (nth p0 y0.toNat, nth p0 x0.toNat) : Option (Int × Int))).bind fun (q5_2, q5_1) =>
 (Al (Fi p0 q5_2 q5_1) ((0 : Int), p0)).bind fun q12_40 =>
 some (true, q12_40)
theorem Aoi {p0 : (List Int)} {x0 : Int} {y0 : Int} {v : (Bool × (List Int))} (h : M3 p0 x0 y0 = some v) : Qs Try.prog Wp [(slr true 1 Af) p0, Af x0, Af y0] (V.bool v.1) 0 ((slr true 1 Af) v.2) := by
 refine Lh Amv (Nat.le_of_ble_eq_true rfl) ?_
 unfold M3 at h
 conv => whnf
 refine Len.map ?_
 conv => whnf
 refine Ask.o h fun p1 h => ?_
 conv => whnf
 refine Cells.one (fun _ => ⟨rfl, rfl⟩) (by first | omega | (simp [Ap] at *; omega)) ?_
 conv => whnf
 refine Len.map ?_
 conv => whnf
 refine Ask.o h fun p2 h => ?_
 conv => whnf
 refine Cells.one (fun _ => ⟨rfl, rfl⟩) (by first | omega | (simp [Ap] at *; omega)) ?_
 conv => whnf
 refine Br.oe h (fun p3 h => ?_) (fun p3 h => ?_)
 ·conv => whnf
  cases h; exact ⟨(by rfl), (by rfl)⟩
 conv => whnf
 refine CutQ.o (fun t : (Int × Int) => match t with | s => (Ex.normal, [2, 1, 0, 40], [(2, A.val (Af s.1)), (1, A.val (Af s.2)), (0, A.ref 40 []), (40, A.val ((slr true 1 Af) (p0)))])) h ?_ ?_
 ·intro t h
  conv => whnf
  refine Br.od h (fun p4 h => ?_) (fun p4 h => ?_)
  ·conv => whnf
   cases h; exact ⟨rfl, rfl⟩
  conv => whnf
  cases h; exact ⟨rfl, rfl⟩
 rintro ⟨q5_2, q5_1⟩ h
 try dsimp only at h
 conv => whnf
 refine Len.map ?_
 conv => whnf
 refine LoopQ.o [26, 25, 2, 1, 0, 40] (Pv p0 q5_2 q5_1) (W5 p0 q5_2 q5_1) h (fun s o h => Agq s o h) (by rfl) (fun _ => rfl) ?_
 rintro q12_40 h
 try dsimp only at h
 conv => whnf
 cases h; exact ⟨(by rfl), (by rfl)⟩
noncomputable def E9 (p0 : List Int) : (Int × Int) → Option ((Int × Int) ⊕ Int) := fun (x4, x3) =>
 if x4 < (↑p0.length : Int) then
 ask ((0 : Int) ≤ x4 ∧ x4 < (↑p0.length : Int)) <|
 if nth p0 x4.toNat = x4 then
 ask (InI (x3 + (1 : Int))) <|
 ask (InI (x4 + (1 : Int))) <|
 some (.inl (x4 + (1 : Int), x3 + (1 : Int)))
 else
 ask (InI (x4 + (1 : Int))) <|
 some (.inl (x4 + (1 : Int), x3))
 else
 some (.inr x3)
def M0 (p0 : List Int) : (Int × Int) → St := fun s => [(4, A.val (Af s.1)), (3, A.val (Af s.2)), (0, A.val ((slr false 1 Af) (p0)))]
def S0 (_p0 : List Int) : Int → Tgt
 | s => ((Ex.exit 0), [3], [(3, A.val (Af s))])
theorem Ab2 {p0 : List Int} (s : (Int × Int)) (o : (Int × Int) ⊕ Int) (h : E9 p0 s = some o) : vc Try.prog Sc (Cu [4, 3, 0] (M0 p0) (S0 p0) o) (M0 p0 s) := by
 obtain ⟨x4, x3⟩ := s
 unfold E9 at h
 try dsimp only at h
 conv => whnf
 refine Len.map ?_
 conv => whnf
 refine Br.od h (fun p1 h => ?_) (fun p1 h => ?_)
 ·conv => whnf
  refine Len.map ?_
  conv => whnf
  refine Ask.o h fun p2 h => ?_
  conv => whnf
  refine Elem.o (by first | omega | (simp [Ap] at *; omega)) ?_
  conv => whnf
  refine Br.oe h (fun p3 h => ?_) (fun p3 h => ?_)
  ·conv => whnf
   refine Ask.o h fun p4 h => ?_
   conv => whnf
   refine Ask.o h fun p5 h => ?_
   conv => whnf
   cases h; exact ⟨rfl, rfl⟩
  conv => whnf
  refine Ask.o h fun p6 h => ?_
  conv => whnf
  cases h; exact ⟨rfl, rfl⟩
 conv => whnf
 cases h; exact ⟨rfl, rfl⟩
noncomputable def E7 (p0 : (List Int)) : Option Int :=
 (Al (E9 p0) ((0 : Int), (0 : Int))).bind fun q7_3 =>
 some q7_3
theorem Mg {p0 : (List Int)} {v : Int} (h : E7 p0 = some v) : Ret Try.prog Hw [(slr false 1 Af) p0] (Af v) := by
 refine A8 Ahj (Nat.le_of_ble_eq_true rfl) ?_
 unfold E7 at h
 conv => whnf
 refine LoopQ.o [4, 3, 0] (M0 p0) (S0 p0) h (fun s o h => Ab2 s o h) (by rfl) (fun _ => rfl) ?_
 rintro q7_3 h
 try dsimp only at h
 conv => whnf
 cases h; exact (by rfl)
noncomputable def Ef (a0 : List Int) (b0 : List Int) : Int → Option (Int ⊕ (Bool ⊕ Unit)) := fun x5 =>
 if x5 < (↑a0.length : Int) then
 ask ((0 : Int) ≤ x5 ∧ x5 < (↑a0.length : Int)) <|
 ask ((0 : Int) ≤ x5 ∧ x5 < (↑b0.length : Int)) <|
 if nth a0 x5.toNat ≠ nth b0 x5.toNat then
 ask ((0 : Int) ≤ x5 ∧ x5 < (↑a0.length : Int)) <|
 ask ((0 : Int) ≤ x5 ∧ x5 < (↑b0.length : Int)) <|
 some (.inr (.inl (decide (nth a0 x5.toNat < nth b0 x5.toNat))))
 else
 ask (InI (x5 + (1 : Int))) <|
 some (.inl (x5 + (1 : Int)))
 else
 some (.inr (.inr ()))
def Nk (a0 : List Int) (b0 : List Int) : Int → St := fun s => [(5, A.val (Af s)), (0, A.val ((slr false 1 Af) (a0))), (1, A.val ((slr false 1 Af) (b0)))]
def Un (_a0 : List Int) (_b0 : List Int) : (Bool ⊕ Unit) → Tgt
 | (.inl s) => (Ex.ret, [4], [(4, A.val (V.bool s))])
 | (.inr _s) => ((Ex.exit 0), [], [])
theorem Ad2 {a0 : List Int} {b0 : List Int} (x5 : Int) (o : Int ⊕ (Bool ⊕ Unit)) (h : Ef a0 b0 x5 = some o) : vc Try.prog We (Cu [5, 0, 1] (Nk a0 b0) (Un a0 b0) o) (Nk a0 b0 x5) := by
 unfold Ef at h
 try dsimp only at h
 conv => whnf
 refine Len.map ?_
 conv => whnf
 refine Br.od h (fun p1 h => ?_) (fun p1 h => ?_)
 ·conv => whnf
  refine Len.map ?_
  conv => whnf
  refine Ask.o h fun p2 h => ?_
  conv => whnf
  refine Elem.o (by first | omega | (simp [Ap] at *; omega)) ?_
  conv => whnf
  refine Len.map ?_
  conv => whnf
  refine Ask.o h fun p3 h => ?_
  conv => whnf
  refine Elem.o (by first | omega | (simp [Ap] at *; omega)) ?_
  conv => whnf
  refine Br.on h (fun p4 h => ?_) (fun p4 h => ?_)
  ·conv => whnf
   refine Len.map ?_
   conv => whnf
   refine Ask.o h fun p5 h => ?_
   conv => whnf
   refine Elem.o (by first | omega | (simp [Ap] at *; omega)) ?_
   conv => whnf
   refine Len.map ?_
   conv => whnf
   refine Ask.o h fun p6 h => ?_
   conv => whnf
   refine Elem.o (by first | omega | (simp [Ap] at *; omega)) ?_
   conv => whnf
   cases h; exact ⟨rfl, rfl⟩
  conv => whnf
  refine Ask.o h fun p7 h => ?_
  conv => whnf
  cases h; exact ⟨rfl, rfl⟩
 conv => whnf
 cases h; exact ⟨rfl, rfl⟩
noncomputable def Fv (a0 : (List Int)) (b0 : (List Int)) : Option Bool :=
 (Al (Ef a0 b0) (0 : Int)).bind fun t => match t with
 | (.inl q8_4) => (some q8_4)
 | (.inr _) => (some false)
theorem Akz {a0 : (List Int)} {b0 : (List Int)} {v : Bool} (h : Fv a0 b0 = some v) : Ret Try.prog Uf [(slr false 1 Af) a0, (slr false 1 Af) b0] (V.bool v) := by
 refine A8 Ak0 (Nat.le_of_ble_eq_true rfl) ?_
 unfold Fv at h
 conv => whnf
 refine LoopQ.o [5, 0, 1] (Nk a0 b0) (Un a0 b0) h (fun s o h => Ad2 s o h) (by rfl) (by rintro (_ | _) <;> rfl) ?_
 rintro (q8_4 | ⟨⟩) h
 ·try dsimp only at h
  conv => whnf
  cases h; exact (by rfl)
 try dsimp only at h
 conv => whnf
 cases h; exact (by rfl)
noncomputable def Bn (n0 : Int) (p0 : (List Int)) : Option (SRelation × Bool) :=
 (Fp (n0)).bind fun r1 =>
 if (r1) = true then
 (El (n0) (p0)).bind fun r3 =>
 if (r3) = true then
 (C1 (p0)).bind fun r5 =>
 some (r5, true)
 else
 some ({ Arity := (0 : Int), Tuples := Av (List Int) }, false)
 else
 some ({ Arity := (0 : Int), Tuples := Av (List Int) }, false)
theorem F9 {n0 : Int} {p0 : (List Int)} {v : (SRelation × Bool)} (h : Bn n0 p0 = some v) : Ret Try.prog Cy [Af n0, (slr false 1 Af) p0] ((fun r => V.tup [(Ai true) r.1, V.bool r.2]) v) := by
 refine A8 Q5 (Nat.le_of_ble_eq_true rfl) ?_
 unfold Bn at h
 conv => whnf
 refine CallQ.o V.bool (by rfl) h (fun r h => Aab h) (fun r1 h => ?_)
 conv => whnf
 refine Br.flip ?_
 conv => whnf
 refine Br.ob h (fun p2 h => ?_) (fun p2 h => ?_)
 ·conv => whnf
  refine Br.no ?_
  conv => whnf
  refine Br.no ?_
  conv => whnf
  refine CallQ.o V.bool (by rfl) h (fun r h => Rx h) (fun r3 h => ?_)
  conv => whnf
  refine Br.no ?_
  conv => whnf
  refine Br.no ?_
  conv => whnf
  refine Br.flip ?_
  conv => whnf
  refine Br.ob h (fun p4 h => ?_) (fun p4 h => ?_)
  ·conv => whnf
   refine CallQ.o (Ai true) (by rfl) h (fun r h => Rv h) (fun r5 h => ?_)
   conv => whnf
   refine SetKids.lit rfl ?_
   conv => whnf
   cases h; exact (by rfl)
  conv => whnf
  refine SetKids.lit rfl ?_
  conv => whnf
  cases h; exact (by rfl)
 conv => whnf
 refine Br.yes ?_
 conv => whnf
 refine Br.yes ?_
 conv => whnf
 refine Br.yes ?_
 conv => whnf
 refine Br.yes ?_
 conv => whnf
 refine Br.yes ?_
 conv => whnf
 refine SetKids.lit rfl ?_
 conv => whnf
 cases h; exact (by rfl)
noncomputable def Ar (c0 : Sl1Cur) (n0 : Int) : Option (Int × Sl1Cur) :=
 if n0 ≤ (1 : Int) then
 some ((0 : Int), c0)
 else
 (Fe (c0)).bind fun (r2, u3) =>
 if n0 > (200 : Int) then
 ask (InI (r2 * (256 : Int))) <|
 (Fe (u3)).bind fun (r6, u7) =>
 ask (InI (r2 * (256 : Int) + r6)) <|
 ask (n0 ≠ (0 : Int)) <|
 some ((r2 * (256 : Int) + r6).tmod n0, u7)
 else
 ask (n0 ≠ (0 : Int)) <|
 some (r2.tmod n0, u3)
theorem Aw {c0 : Sl1Cur} {n0 : Int} {v : (Int × Sl1Cur)} (h : Ar c0 n0 = some v) : Qs Try.prog Aq [(rP true (Aj false)) c0, Af n0] (Af v.1) 0 ((rP true (Aj false)) v.2) := by
 refine Lh Ab9 (Nat.le_of_ble_eq_true rfl) ?_
 unfold Ar at h
 conv => whnf
 refine Br.od h (fun p1 h => ?_) (fun p1 h => ?_)
 ·conv => whnf
  cases h; exact ⟨(by rfl), (by rfl)⟩
 conv => whnf
 refine CallQ.io Af (rP true (Aj false)) (by rfl) rfl (fun _ => rfl) (fun _ => ⟨rfl, rfl⟩) rfl h (fun r h => S7 h) (fun r2 u3 h => ?_)
 conv => whnf
 refine Br.od h (fun p4 h => ?_) (fun p4 h => ?_)
 ·conv => whnf
  refine Ask.o h fun p5 h => ?_
  conv => whnf
  refine CallQ.io Af (rP true (Aj false)) (by rfl) rfl (fun _ => rfl) (fun _ => ⟨rfl, rfl⟩) rfl h (fun r h => S7 h) (fun r6 u7 h => ?_)
  conv => whnf
  refine Ask.o h fun p8 h => ?_
  conv => whnf
  refine Ask.o h fun p9 h => ?_
  conv => whnf
  cases h; exact ⟨(by rfl), (by rfl)⟩
 conv => whnf
 refine Ask.o h fun p10 h => ?_
 conv => whnf
 cases h; exact ⟨(by rfl), (by rfl)⟩
noncomputable def Lu (f0 : SOp) (n0 : Int) : Option Bool :=
 if f0.Arity ≥ (0 : Int) then
 if f0.Arity ≤ (3 : Int) then
 (Er (n0) (f0.Arity)).bind fun r3 =>
 if (↑f0.Table.length : Int) = r3 then
 (Ir (f0.Table) (n0)).bind fun r5 =>
 some r5
 else
 some false
 else
 some false
 else
 some false
theorem Aff {f0 : SOp} {n0 : Int} {v : Bool} (h : Lu f0 n0 = some v) : Ret Try.prog Se [(A7 false) f0, Af n0] (V.bool v) := by
 refine A8 Apa (Nat.le_of_ble_eq_true rfl) ?_
 unfold Lu at h
 conv => whnf
 refine Cells.lit rfl rfl ?_
 conv => whnf
 refine Br.od h (fun p1 h => ?_) (fun p1 h => ?_)
 ·conv => whnf
  refine Br.yes ?_
  conv => whnf
  refine Cells.lit rfl rfl ?_
  conv => whnf
  refine Br.yes ?_
  conv => whnf
  refine Br.yes ?_
  conv => whnf
  refine Br.od h (fun p2 h => ?_) (fun p2 h => ?_)
  ·conv => whnf
   refine Br.yes ?_
   conv => whnf
   refine Cells.lit rfl rfl ?_
   conv => whnf
   refine Br.yes ?_
   conv => whnf
   refine Len.map ?_
   conv => whnf
   refine Br.yes ?_
   conv => whnf
   refine Br.yes ?_
   conv => whnf
   refine Br.yes ?_
   conv => whnf
   refine Cells.lit rfl rfl ?_
   conv => whnf
   refine Br.yes ?_
   conv => whnf
   refine CallP.o Af (by rfl) h (fun r h => Wr h) (fun r3 h => ?_)
   conv => whnf
   refine Br.yes ?_
   conv => whnf
   refine Br.yes ?_
   conv => whnf
   refine Br.oe h (fun p4 h => ?_) (fun p4 h => ?_)
   ·conv => whnf
    refine Br.yes ?_
    conv => whnf
    refine Cells.lit rfl rfl ?_
    conv => whnf
    refine Br.yes ?_
    conv => whnf
    refine Br.yes ?_
    conv => whnf
    refine CallQ.o V.bool (by rfl) h (fun r h => Aaa h) (fun r5 h => ?_)
    conv => whnf
    refine Br.yes ?_
    conv => whnf
    cases h; exact (by rfl)
   conv => whnf
   refine Br.no ?_
   conv => whnf
   refine Br.no ?_
   conv => whnf
   refine Br.no ?_
   conv => whnf
   refine Br.no ?_
   conv => whnf
   cases h; exact (by rfl)
  conv => whnf
  refine Br.no ?_
  conv => whnf
  refine Br.no ?_
  conv => whnf
  refine Br.no ?_
  conv => whnf
  refine Br.no ?_
  conv => whnf
  refine Br.no ?_
  conv => whnf
  refine Br.no ?_
  conv => whnf
  refine Br.no ?_
  conv => whnf
  refine Br.no ?_
  conv => whnf
  refine Br.no ?_
  conv => whnf
  refine Br.no ?_
  conv => whnf
  refine Br.no ?_
  conv => whnf
  refine Br.no ?_
  conv => whnf
  refine Br.no ?_
  conv => whnf
  cases h; exact (by rfl)
 conv => whnf
 refine Br.no ?_
 conv => whnf
 refine Br.no ?_
 conv => whnf
 refine Br.no ?_
 conv => whnf
 refine Br.no ?_
 conv => whnf
 refine Br.no ?_
 conv => whnf
 refine Br.no ?_
 conv => whnf
 refine Br.no ?_
 conv => whnf
 refine Br.no ?_
 conv => whnf
 refine Br.no ?_
 conv => whnf
 refine Br.no ?_
 conv => whnf
 refine Br.no ?_
 conv => whnf
 refine Br.no ?_
 conv => whnf
 refine Br.no ?_
 conv => whnf
 refine Br.no ?_
 conv => whnf
 refine Br.no ?_
 conv => whnf
 refine Br.no ?_
 conv => whnf
 refine Br.no ?_
 conv => whnf
 cases h; exact (by rfl)
noncomputable def F6 (n0 : Int) (op0 : SOp) : Int → Option (Int ⊕ (Unit ⊕ Unit)) := fun x5 =>
 if x5 < (↑op0.Table.length : Int) then
 ask ((0 : Int) ≤ x5 ∧ x5 < (↑op0.Table.length : Int)) <|
 ask (InI (n0 - (1 : Int))) <|
 (D8 (nth op0.Table x5.toNat) ((0 : Int)) (n0 - (1 : Int))).bind fun r9 =>
 if (r9) = true then
 ask (InI (x5 + (1 : Int))) <|
 some (.inl (x5 + (1 : Int)))
 else
 some (.inr (.inl ()))
 else
 some (.inr (.inr ()))
def Rz (n0 : Int) (op0 : SOp) : Int → St := fun s => [(5, A.val (Af s)), (3, A.val ((rP true (A7 false)) (op0))), (0, A.val (Af (n0)))]
def Yx (_n0 : Int) (_op0 : SOp) : (Unit ⊕ Unit) → Tgt
 | (.inl _s) => (Ex.ret, [4], [(4, A.val (V.bool (false)))])
 | (.inr _s) => ((Ex.exit 0), [], [])
theorem Ajc {n0 : Int} {op0 : SOp} (x5 : Int) (o : Int ⊕ (Unit ⊕ Unit)) (h : F6 n0 op0 x5 = some o) : vc Try.prog Zc (Cu [5, 3, 0] (Rz n0 op0) (Yx n0 op0) o) (Rz n0 op0 x5) := by
 unfold F6 at h
 try dsimp only at h
 conv => whnf
 refine Cells.lit rfl rfl ?_
 conv => whnf
 refine Len.map ?_
 conv => whnf
 refine Br.od h (fun p6 h => ?_) (fun p6 h => ?_)
 ·conv => whnf
  refine Cells.lit rfl rfl ?_
  conv => whnf
  refine Len.map ?_
  conv => whnf
  refine Ask.o h fun p7 h => ?_
  conv => whnf
  refine Elem.o (by first | omega | (simp [Ap] at *; omega)) ?_
  conv => whnf
  refine Ask.o h fun p8 h => ?_
  conv => whnf
  refine CallQ.o V.bool (by rfl) h (fun r h => Ic h) (fun r9 h => ?_)
  conv => whnf
  refine Br.flip ?_
  conv => whnf
  refine Br.ob h (fun p10 h => ?_) (fun p10 h => ?_)
  ·conv => whnf
   refine Ask.o h fun p11 h => ?_
   conv => whnf
   cases h; exact ⟨rfl, rfl⟩
  conv => whnf
  cases h; exact ⟨rfl, rfl⟩
 conv => whnf
 cases h; exact ⟨rfl, rfl⟩
noncomputable def Pl (n0 : Int) (op0 : SOp) : Option Bool :=
 (((D8 (op0.Arity) ((0 : Int)) ((3 : Int))).bind fun r1 =>
 if (r1) = true then
 (Dz (n0) (op0.Arity)).bind fun r3 =>
 if (↑op0.Table.length : Int) ≠ r3 then
 some (.inl ())
 else
 some (.inr ())
 else
 some (.inl ()) : Option (Unit ⊕ Unit))).bind fun t => match t with
 | (.inl _) => (some false)
 | (.inr _) => ((Al (F6 n0 op0) (0 : Int)).bind fun t => match t with
 | (.inl _) => (some false)
 | (.inr _) => (some true))
theorem Aoz {n0 : Int} {op0 : SOp} {v : Bool} (h : Pl n0 op0 = some v) : Ret Try.prog Ya [Af n0, (A7 false) op0] (V.bool v) := by
 refine A8 Apz (Nat.le_of_ble_eq_true rfl) ?_
 unfold Pl at h
 conv => whnf
 refine CutQ.o (fun t : (Unit ⊕ Unit) => match t with | (.inl s) => (Ex.ret, [4], [(4, A.val (V.bool (false)))]) | (.inr s) => (Ex.normal, [3, 0], [(3, A.val ((rP true (A7 false)) (op0))), (0, A.val (Af (n0)))])) h ?_ ?_
 ·intro t h
  conv => whnf
  refine Cells.lit rfl rfl ?_
  conv => whnf
  refine CallP.o V.bool (by rfl) h (fun r h => Ic h) (fun r1 h => ?_)
  conv => whnf
  refine Br.flip ?_
  conv => whnf
  refine Br.ob h (fun p2 h => ?_) (fun p2 h => ?_)
  ·conv => whnf
   refine Br.no ?_
   conv => whnf
   refine Cells.lit rfl rfl ?_
   conv => whnf
   refine Br.no ?_
   conv => whnf
   refine Len.map ?_
   conv => whnf
   refine Br.no ?_
   conv => whnf
   refine Br.no ?_
   conv => whnf
   refine Br.no ?_
   conv => whnf
   refine Cells.lit rfl rfl ?_
   conv => whnf
   refine Br.no ?_
   conv => whnf
   refine CallP.o Af (by rfl) h (fun r h => Qo h) (fun r3 h => ?_)
   conv => whnf
   refine Br.no ?_
   conv => whnf
   refine Br.no ?_
   conv => whnf
   refine Br.on h (fun p4 h => ?_) (fun p4 h => ?_)
   ·conv => whnf
    cases h; exact ⟨rfl, rfl⟩
   conv => whnf
   cases h; exact ⟨rfl, rfl⟩
  conv => whnf
  refine Br.yes ?_
  conv => whnf
  refine Br.yes ?_
  conv => whnf
  refine Br.yes ?_
  conv => whnf
  refine Br.yes ?_
  conv => whnf
  refine Br.yes ?_
  conv => whnf
  refine Br.yes ?_
  conv => whnf
  refine Br.yes ?_
  conv => whnf
  refine Br.yes ?_
  conv => whnf
  refine Br.yes ?_
  conv => whnf
  cases h; exact ⟨rfl, rfl⟩
 rintro (⟨⟩ | ⟨⟩) h
 ·try dsimp only at h
  conv => whnf
  cases h; exact (by rfl)
 try dsimp only at h
 conv => whnf
 refine LoopQ.o [5, 3, 0] (Rz n0 op0) (Yx n0 op0) h (fun s o h => Ajc s o h) (by rfl) (by rintro (_ | _) <;> rfl) ?_
 rintro (⟨⟩ | ⟨⟩) h
 ·try dsimp only at h
  conv => whnf
  cases h; exact (by rfl)
 try dsimp only at h
 conv => whnf
 cases h; exact (by rfl)
noncomputable def Dx (n0 : Int) : Option Bool :=
 (D8 (n0) ((1 : Int)) ((8 : Int))).bind fun r1 =>
 some r1
theorem Ou {n0 : Int} {v : Bool} (h : Dx n0 = some v) : Ret Try.prog It [Af n0] (V.bool v) := by
 refine A8 Ajs (Nat.le_of_ble_eq_true rfl) ?_
 unfold Dx at h
 conv => whnf
 refine CallQ.o V.bool (by rfl) h (fun r h => Ic h) (fun r1 h => ?_)
 conv => whnf
 cases h; exact (by rfl)
noncomputable def Cv (n0 : Int) (list0 : List Int) : Int → Option (Int ⊕ (Unit ⊕ Unit)) := fun x5 =>
 if x5 < (↑list0.length : Int) then
 ask ((0 : Int) ≤ x5 ∧ x5 < (↑list0.length : Int)) <|
 ask (InI (n0 - (1 : Int))) <|
 (D8 (nth list0 x5.toNat) ((0 : Int)) (n0 - (1 : Int))).bind fun r4 =>
 if (r4) = true then
 ask (InI (x5 + (1 : Int))) <|
 some (.inl (x5 + (1 : Int)))
 else
 some (.inr (.inl ()))
 else
 some (.inr (.inr ()))
def Ja (n0 : Int) (list0 : List Int) : Int → St := fun s => [(5, A.val (Af s)), (0, A.val (Af (n0))), (1, A.val ((slr false 1 Af) (list0)))]
def Pb (_n0 : Int) (_list0 : List Int) : (Unit ⊕ Unit) → Tgt
 | (.inl _s) => (Ex.ret, [4], [(4, A.val (V.bool (false)))])
 | (.inr _s) => ((Ex.exit 0), [], [])
theorem Yb {n0 : Int} {list0 : List Int} (x5 : Int) (o : Int ⊕ (Unit ⊕ Unit)) (h : Cv n0 list0 x5 = some o) : vc Try.prog Pt (Cu [5, 0, 1] (Ja n0 list0) (Pb n0 list0) o) (Ja n0 list0 x5) := by
 unfold Cv at h
 try dsimp only at h
 conv => whnf
 refine Len.map ?_
 conv => whnf
 refine Br.od h (fun p1 h => ?_) (fun p1 h => ?_)
 ·conv => whnf
  refine Len.map ?_
  conv => whnf
  refine Ask.o h fun p2 h => ?_
  conv => whnf
  refine Elem.o (by first | omega | (simp [Ap] at *; omega)) ?_
  conv => whnf
  refine Ask.o h fun p3 h => ?_
  conv => whnf
  refine CallQ.o V.bool (by rfl) h (fun r h => Ic h) (fun r4 h => ?_)
  conv => whnf
  refine Br.flip ?_
  conv => whnf
  refine Br.ob h (fun p5 h => ?_) (fun p5 h => ?_)
  ·conv => whnf
   refine Ask.o h fun p6 h => ?_
   conv => whnf
   cases h; exact ⟨rfl, rfl⟩
  conv => whnf
  cases h; exact ⟨rfl, rfl⟩
 conv => whnf
 cases h; exact ⟨rfl, rfl⟩
noncomputable def Gq (n0 : Int) (list0 : (List Int)) : Option Bool :=
 (Al (Cv n0 list0) (0 : Int)).bind fun t => match t with
 | (.inl _) => (some false)
 | (.inr _) => (some true)
theorem Abw {n0 : Int} {list0 : (List Int)} {v : Bool} (h : Gq n0 list0 = some v) : Ret Try.prog Me [Af n0, (slr false 1 Af) list0] (V.bool v) := by
 refine A8 Acj (Nat.le_of_ble_eq_true rfl) ?_
 unfold Gq at h
 conv => whnf
 refine LoopQ.o [5, 0, 1] (Ja n0 list0) (Pb n0 list0) h (fun s o h => Yb s o h) (by rfl) (by rintro (_ | _) <;> rfl) ?_
 rintro (⟨⟩ | ⟨⟩) h
 ·try dsimp only at h
  conv => whnf
  cases h; exact (by rfl)
 try dsimp only at h
 conv => whnf
 cases h; exact (by rfl)
noncomputable def Cm (n0 : Int) (p0 : List Int) : Int → Option (Int ⊕ (Unit ⊕ Unit)) := fun x5 =>
 if x5 < n0 then
 ask ((0 : Int) ≤ x5 ∧ x5 < (↑p0.length : Int)) <|
 (D8 (nth p0 x5.toNat) ((0 : Int)) (x5)).bind fun r4 =>
 if (r4) = true then
 ask ((0 : Int) ≤ x5 ∧ x5 < (↑p0.length : Int)) <|
 ask ((0 : Int) ≤ nth p0 x5.toNat ∧ nth p0 x5.toNat < (↑p0.length : Int)) <|
 ask ((0 : Int) ≤ x5 ∧ x5 < (↑p0.length : Int)) <|
 if nth p0 (nth p0 x5.toNat).toNat ≠ nth p0 x5.toNat then
 some (.inr (.inl ()))
 else
 ask (InI (x5 + (1 : Int))) <|
 some (.inl (x5 + (1 : Int)))
 else
 some (.inr (.inl ()))
 else
 some (.inr (.inr ()))
def Iw (n0 : Int) (p0 : List Int) : Int → St := fun s => [(5, A.val (Af s)), (0, A.val (Af (n0))), (1, A.val ((slr false 1 Af) (p0)))]
def Nc (_n0 : Int) (_p0 : List Int) : (Unit ⊕ Unit) → Tgt
 | (.inl _s) => (Ex.ret, [4], [(4, A.val (V.bool (false)))])
 | (.inr _s) => ((Ex.exit 0), [], [])
theorem Xo {n0 : Int} {p0 : List Int} (x5 : Int) (o : Int ⊕ (Unit ⊕ Unit)) (h : Cm n0 p0 x5 = some o) : vc Try.prog Ni (Cu [5, 0, 1] (Iw n0 p0) (Nc n0 p0) o) (Iw n0 p0 x5) := by
 unfold Cm at h
 try dsimp only at h
 conv => whnf
 refine Br.od h (fun p2 h => ?_) (fun p2 h => ?_)
 ·conv => whnf
  refine Len.map ?_
  conv => whnf
  refine Ask.o h fun p3 h => ?_
  conv => whnf
  refine Elem.o (by first | omega | (simp [Ap] at *; omega)) ?_
  conv => whnf
  refine CallP.o V.bool (by rfl) h (fun r h => Ic h) (fun r4 h => ?_)
  conv => whnf
  refine Br.flip ?_
  conv => whnf
  refine Br.ob h (fun p5 h => ?_) (fun p5 h => ?_)
  ·conv => whnf
   refine Br.no ?_
   conv => whnf
   refine Br.no ?_
   conv => whnf
   refine Br.no ?_
   conv => whnf
   refine Len.map ?_
   conv => whnf
   refine Ask.o h fun p6 h => ?_
   conv => whnf
   refine Elem.o (by first | omega | (simp [Ap] at *; omega)) ?_
   conv => whnf
   refine Br.no ?_
   conv => whnf
   refine Br.no ?_
   conv => whnf
   refine Len.map ?_
   conv => whnf
   refine Ask.o h fun p7 h => ?_
   conv => whnf
   refine Elem.o (by first | omega | (simp [Ap] at *; omega)) ?_
   conv => whnf
   refine Br.no ?_
   conv => whnf
   refine Br.no ?_
   conv => whnf
   refine Br.no ?_
   conv => whnf
   refine Br.no ?_
   conv => whnf
   refine Len.map ?_
   conv => whnf
   refine Ask.o h fun p8 h => ?_
   conv => whnf
   refine Elem.o (by first | omega | (simp [Ap] at *; omega)) ?_
   conv => whnf
   refine Br.no ?_
   conv => whnf
   refine Br.no ?_
   conv => whnf
   refine Br.no ?_
   conv => whnf
   refine Br.on h (fun p9 h => ?_) (fun p9 h => ?_)
   ·conv => whnf
    cases h; exact ⟨rfl, rfl⟩
   conv => whnf
   refine Ask.o h fun p10 h => ?_
   conv => whnf
   cases h; exact ⟨rfl, rfl⟩
  conv => whnf
  refine Br.yes ?_
  conv => whnf
  refine Br.yes ?_
  conv => whnf
  refine Br.yes ?_
  conv => whnf
  refine Br.yes ?_
  conv => whnf
  refine Br.yes ?_
  conv => whnf
  refine Br.yes ?_
  conv => whnf
  refine Br.yes ?_
  conv => whnf
  refine Br.yes ?_
  conv => whnf
  refine Br.yes ?_
  conv => whnf
  refine Br.yes ?_
  conv => whnf
  refine Br.yes ?_
  conv => whnf
  refine Br.yes ?_
  conv => whnf
  refine Br.yes ?_
  conv => whnf
  cases h; exact ⟨rfl, rfl⟩
 conv => whnf
 cases h; exact ⟨rfl, rfl⟩
noncomputable def F8 (n0 : Int) (p0 : (List Int)) : Option Bool :=
 if (↑p0.length : Int) ≠ n0 then
 some false
 else
 (Al (Cm n0 p0) (0 : Int)).bind fun t => match t with
 | (.inl _) => (some false)
 | (.inr _) => (some true)
theorem Abo {n0 : Int} {p0 : (List Int)} {v : Bool} (h : F8 n0 p0 = some v) : Ret Try.prog Lk [Af n0, (slr false 1 Af) p0] (V.bool v) := by
 refine A8 Aaq (Nat.le_of_ble_eq_true rfl) ?_
 unfold F8 at h
 conv => whnf
 refine Len.map ?_
 conv => whnf
 refine Br.on h (fun p1 h => ?_) (fun p1 h => ?_)
 ·conv => whnf
  cases h; exact (by rfl)
 conv => whnf
 refine LoopQ.o [5, 0, 1] (Iw n0 p0) (Nc n0 p0) h (fun s o h => Xo s o h) (by rfl) (by rintro (_ | _) <;> rfl) ?_
 rintro (⟨⟩ | ⟨⟩) h
 ·try dsimp only at h
  conv => whnf
  cases h; exact (by rfl)
 try dsimp only at h
 conv => whnf
 cases h; exact (by rfl)
end Go.Proofs.Ytcpgnfohmeineaa.Ax
