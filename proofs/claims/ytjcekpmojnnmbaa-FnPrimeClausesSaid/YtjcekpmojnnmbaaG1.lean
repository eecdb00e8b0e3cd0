/-
 What the functions compute, as functions on plain data, and that the program does compute it; written by program.
-/
import Derived.Test.YtjcekpmojnnmbaaCode
namespace Go.Proofs.Ytjcekpmojnnmbaa.Ax
open Go
set_option maxRecDepth 100000
set_option maxHeartbeats 4000000
noncomputable def Rs (code0 : (List Int)) : Option Bool :=
 some (decide ((↑code0.length : Int) > (65536 : Int)))
theorem Aqq {code0 : (List Int)} {v : Bool} (h : Rs code0 = some v) : Ret Try.prog Yc [(slr false 1 (V.int IntKind.u8)) code0] (V.bool v) := by
 refine A7 Apx (Nat.le_of_ble_eq_true rfl) ?_
 unfold Rs at h
 refine Len.map ?_
 cases h; exact (by rfl)
noncomputable def D7 (a0 : List Bool) (b0 : List Bool) : Int → Option (Int ⊕ (Unit ⊕ Unit)) := fun x5 =>
 if x5 < (↑a0.length : Int) then
 ask ((0 : Int) ≤ x5 ∧ x5 < (↑a0.length : Int)) <|
 ask ((0 : Int) ≤ x5 ∧ x5 < (↑b0.length : Int)) <|
 if (nth a0 x5.toNat == nth b0 x5.toNat) = true then
 ask (InI (x5 + (1 : Int))) <|
 some (.inl (x5 + (1 : Int)))
 else
 some (.inr (.inl ()))
 else
 some (.inr (.inr ()))
def Mz (a0 : List Bool) (b0 : List Bool) : Int → St := fun s => [(5, A.val (Ae s)), (0, A.val ((slr false 1 V.bool) (a0))), (1, A.val ((slr false 1 V.bool) (b0)))]
def Uv (_a0 : List Bool) (_b0 : List Bool) : (Unit ⊕ Unit) → Tgt
 | (.inl _s) => (Ex.ret, [4], [(4, A.val (V.bool (false)))])
 | (.inr _s) => ((Ex.exit 0), [], [])
theorem Aev {a0 : List Bool} {b0 : List Bool} (x5 : Int) (o : Int ⊕ (Unit ⊕ Unit)) (h : D7 a0 b0 x5 = some o) : vc Try.prog U7 (C6 [5, 0, 1] (Mz a0 b0) (Uv a0 b0) o) (Mz a0 b0 x5) := by
 unfold D7 at h
 try dsimp only at h
 refine Len.map <| Br.od h (fun p2 h => ?_) (fun p2 h => ?_)
 ·refine Len.map <| Ask.o h fun p3 h => Elem.o (by first | omega | (simp [A4] at * <;> omega)) <| Len.map <| Ask.o h fun p4 h => Elem.o (by first | omega | (simp [A4] at * <;> omega)) <| Br.flip <| Br.ob h (fun p5 h => ?_) (fun p5 h => ?_)
  ·refine Ask.o h fun p6 h => ?_
   cases h; exact ⟨rfl, rfl⟩
  cases h; exact ⟨rfl, rfl⟩
 cases h; exact ⟨rfl, rfl⟩
noncomputable def Hv (a0 : (List Bool)) (b0 : (List Bool)) : Option Bool :=
 if (↑a0.length : Int) ≠ (↑b0.length : Int) then
 some false
 else
 (Al (D7 a0 b0) (0 : Int)).bind fun t => match t with
 | (.inl _) => (some false)
 | (.inr _) => (some true)
theorem Zr {a0 : (List Bool)} {b0 : (List Bool)} {v : Bool} (h : Hv a0 b0 = some v) : Ret Try.prog Ns [(slr false 1 V.bool) a0, (slr false 1 V.bool) b0] (V.bool v) := by
 refine A7 Alh (Nat.le_of_ble_eq_true rfl) ?_
 unfold Hv at h
 refine Len.map <| Len.map <| Br.on h (fun p1 h => ?_) (fun p1 h => ?_)
 ·cases h; exact (by rfl)
 refine LoopQ.o [5, 0, 1] (Mz a0 b0) (Uv a0 b0) h (fun s o h => Aev s o h) (by rfl) (by rintro (_ | _) <;> rfl) ?_
 rintro (⟨⟩ | ⟨⟩) h
 ·try dsimp only at h
  cases h; exact (by rfl)
 try dsimp only at h
 cases h; exact (by rfl)
noncomputable def Ev (a0 : List Int) (b0 : List Int) : Int → Option (Int ⊕ (Unit ⊕ Unit)) := fun x5 =>
 if x5 < (↑a0.length : Int) then
 ask ((0 : Int) ≤ x5 ∧ x5 < (↑a0.length : Int)) <|
 ask ((0 : Int) ≤ x5 ∧ x5 < (↑b0.length : Int)) <|
 if nth a0 x5.toNat ≠ nth b0 x5.toNat then
 some (.inr (.inl ()))
 else
 ask (InI (x5 + (1 : Int))) <|
 some (.inl (x5 + (1 : Int)))
 else
 some (.inr (.inr ()))
def Pc (a0 : List Int) (b0 : List Int) : Int → St := fun s => [(5, A.val (Ae s)), (0, A.val ((slr false 1 Ae) (a0))), (1, A.val ((slr false 1 Ae) (b0)))]
def V4 (_a0 : List Int) (_b0 : List Int) : (Unit ⊕ Unit) → Tgt
 | (.inl _s) => (Ex.ret, [4], [(4, A.val (V.bool (false)))])
 | (.inr _s) => ((Ex.exit 0), [], [])
theorem Age {a0 : List Int} {b0 : List Int} (x5 : Int) (o : Int ⊕ (Unit ⊕ Unit)) (h : Ev a0 b0 x5 = some o) : vc Try.prog Wk (C6 [5, 0, 1] (Pc a0 b0) (V4 a0 b0) o) (Pc a0 b0 x5) := by
 unfold Ev at h
 try dsimp only at h
 refine Len.map <| Br.od h (fun p2 h => ?_) (fun p2 h => ?_)
 ·refine Len.map <| Ask.o h fun p3 h => Elem.o (by first | omega | (simp [A4] at * <;> omega)) <| Len.map <| Ask.o h fun p4 h => Elem.o (by first | omega | (simp [A4] at * <;> omega)) <| Br.on h (fun p5 h => ?_) (fun p5 h => ?_)
  ·cases h; exact ⟨rfl, rfl⟩
  refine Ask.o h fun p6 h => ?_
  cases h; exact ⟨rfl, rfl⟩
 cases h; exact ⟨rfl, rfl⟩
noncomputable def Ln (a0 : (List Int)) (b0 : (List Int)) : Option Bool :=
 if (↑a0.length : Int) ≠ (↑b0.length : Int) then
 some false
 else
 (Al (Ev a0 b0) (0 : Int)).bind fun t => match t with
 | (.inl _) => (some false)
 | (.inr _) => (some true)
theorem Ao6 {a0 : (List Int)} {b0 : (List Int)} {v : Bool} (h : Ln a0 b0 = some v) : Ret Try.prog Vb [(slr false 1 Ae) a0, (slr false 1 Ae) b0] (V.bool v) := by
 refine A7 Aox (Nat.le_of_ble_eq_true rfl) ?_
 unfold Ln at h
 refine Len.map <| Len.map <| Br.on h (fun p1 h => ?_) (fun p1 h => ?_)
 ·cases h; exact (by rfl)
 refine LoopQ.o [5, 0, 1] (Pc a0 b0) (V4 a0 b0) h (fun s o h => Age s o h) (by rfl) (by rintro (_ | _) <;> rfl) ?_
 rintro (⟨⟩ | ⟨⟩) h
 ·try dsimp only at h
  cases h; exact (by rfl)
 try dsimp only at h
 cases h; exact (by rfl)
noncomputable def Fp (arity0 : Int) (clause0 : List Int) : (Int × Int) → Option ((Int × Int) ⊕ (Unit ⊕ Unit)) := fun (x11, x5) =>
 if x11 < (↑clause0.length : Int) then
 ask ((0 : Int) ≤ x11 ∧ x11 < (↑clause0.length : Int)) <|
 if (if IntKind.i64.wrap ((0 : Int) - nth clause0 x11.toNat) > nth clause0 x11.toNat then IntKind.i64.wrap ((0 : Int) - nth clause0 x11.toNat) else nth clause0 x11.toNat) ≤ x5 then
 some (.inr (.inl ()))
 else
 if (if IntKind.i64.wrap ((0 : Int) - nth clause0 x11.toNat) > nth clause0 x11.toNat then IntKind.i64.wrap ((0 : Int) - nth clause0 x11.toNat) else nth clause0 x11.toNat) > arity0 then
 some (.inr (.inl ()))
 else
 ask (InI (x11 + (1 : Int))) <|
 some (.inl (x11 + (1 : Int), if IntKind.i64.wrap ((0 : Int) - nth clause0 x11.toNat) > nth clause0 x11.toNat then IntKind.i64.wrap ((0 : Int) - nth clause0 x11.toNat) else nth clause0 x11.toNat))
 else
 some (.inr (.inr ()))
def Ks (arity0 : Int) (clause0 : List Int) : (Int × Int) → St := fun s => [(11, A.val (Ae s.1)), (10, A.val (Ae ((↑clause0.length : Int)))), (9, A.val ((slr false 1 Ae) (clause0))), (5, A.val (Ae s.2)), (0, A.val (Ae (arity0)))]
def Qx (_arity0 : Int) (_clause0 : List Int) : (Unit ⊕ Unit) → Tgt
 | (.inl _s) => (Ex.ret, [4], [(4, A.val (V.bool (false)))])
 | (.inr _s) => ((Ex.exit 0), [], [])
theorem Aaa {arity0 : Int} {clause0 : List Int} (s : (Int × Int)) (o : (Int × Int) ⊕ (Unit ⊕ Unit)) (h : Fp arity0 clause0 s = some o) : vc Try.prog Ql (C6 [11, 10, 9, 5, 0] (Ks arity0 clause0) (Qx arity0 clause0) o) (Ks arity0 clause0 s) := by
 obtain ⟨x11, x5⟩ := s
 unfold Fp at h
 try dsimp only at h
 refine Br.od h (fun p1 h => ?_) (fun p1 h => ?_)
 ·refine Len.map <| Ask.o h fun p2 h => Elem.o (by first | omega | (simp [A4] at * <;> omega)) <| Br.od h (fun p3 h => ?_) (fun p3 h => ?_)
  ·refine Br.yes <| Br.yes <| Br.yes <| Br.yes ?_
   cases h; exact ⟨rfl, rfl⟩
  refine Br.no <| Br.no <| Br.no <| Br.od h (fun p4 h => ?_) (fun p4 h => ?_)
  ·cases h; exact ⟨rfl, rfl⟩
  refine Ask.o h fun p5 h => ?_
  cases h; exact ⟨rfl, rfl⟩
 cases h; exact ⟨rfl, rfl⟩
noncomputable def Hp (arity0 : Int) (clause0 : (List Int)) : Option Bool :=
 (Al (Fp arity0 clause0) ((0 : Int), (0 : Int))).bind fun t => match t with
 | (.inl _) => (some false)
 | (.inr _) => (some true)
theorem Agl {arity0 : Int} {clause0 : (List Int)} {v : Bool} (h : Hp arity0 clause0 = some v) : Ret Try.prog O9 [Ae arity0, (slr false 1 Ae) clause0] (V.bool v) := by
 refine A7 Af0 (Nat.le_of_ble_eq_true rfl) ?_
 unfold Hp at h
 refine Len.map <| LoopQ.o [11, 10, 9, 5, 0] (Ks arity0 clause0) (Qx arity0 clause0) h (fun s o h => Aaa s o h) (by rfl) (by rintro (_ | _) <;> rfl) ?_
 rintro (⟨⟩ | ⟨⟩) h
 ·try dsimp only at h
  cases h; exact (by rfl)
 try dsimp only at h
 cases h; exact (by rfl)
noncomputable def Cm (t0 : List Int) (clause0 : List Int) : Int → Option (Int ⊕ (Unit ⊕ Unit)) := fun x9 =>
 if x9 < (↑clause0.length : Int) then
 ask ((0 : Int) ≤ x9 ∧ x9 < (↑clause0.length : Int)) <|
 if nth clause0 x9.toNat > (0 : Int) then
 ask (InI (nth clause0 x9.toNat - (1 : Int))) <|
 ask ((0 : Int) ≤ nth clause0 x9.toNat - (1 : Int) ∧ nth clause0 x9.toNat - (1 : Int) < (↑t0.length : Int)) <|
 if nth t0 (nth clause0 x9.toNat - (1 : Int)).toNat = (1 : Int) then
 some (.inr (.inl ()))
 else
 if nth clause0 x9.toNat < (0 : Int) then
 ask (InI (IntKind.i64.wrap ((0 : Int) - nth clause0 x9.toNat) - (1 : Int))) <|
 ask ((0 : Int) ≤ IntKind.i64.wrap ((0 : Int) - nth clause0 x9.toNat) - (1 : Int) ∧ IntKind.i64.wrap ((0 : Int) - nth clause0 x9.toNat) - (1 : Int) < (↑t0.length : Int)) <|
 if nth t0 (IntKind.i64.wrap ((0 : Int) - nth clause0 x9.toNat) - (1 : Int)).toNat = (0 : Int) then
 some (.inr (.inl ()))
 else
 ask (InI (x9 + (1 : Int))) <|
 some (.inl (x9 + (1 : Int)))
 else
 ask (InI (x9 + (1 : Int))) <|
 some (.inl (x9 + (1 : Int)))
 else
 if nth clause0 x9.toNat < (0 : Int) then
 ask (InI (IntKind.i64.wrap ((0 : Int) - nth clause0 x9.toNat) - (1 : Int))) <|
 ask ((0 : Int) ≤ IntKind.i64.wrap ((0 : Int) - nth clause0 x9.toNat) - (1 : Int) ∧ IntKind.i64.wrap ((0 : Int) - nth clause0 x9.toNat) - (1 : Int) < (↑t0.length : Int)) <|
 if nth t0 (IntKind.i64.wrap ((0 : Int) - nth clause0 x9.toNat) - (1 : Int)).toNat = (0 : Int) then
 some (.inr (.inl ()))
 else
 ask (InI (x9 + (1 : Int))) <|
 some (.inl (x9 + (1 : Int)))
 else
 ask (InI (x9 + (1 : Int))) <|
 some (.inl (x9 + (1 : Int)))
 else
 some (.inr (.inr ()))
def Id (t0 : List Int) (clause0 : List Int) : Int → St := fun s => [(9, A.val (Ae s)), (8, A.val (Ae ((↑clause0.length : Int)))), (7, A.val ((slr false 1 Ae) (clause0))), (0, A.val ((slr false 1 Ae) (t0)))]
def Mu (_t0 : List Int) (_clause0 : List Int) : (Unit ⊕ Unit) → Tgt
 | (.inl _s) => (Ex.ret, [4], [(4, A.val (V.bool (true)))])
 | (.inr _s) => ((Ex.exit 0), [], [])
theorem Wr {t0 : List Int} {clause0 : List Int} (x9 : Int) (o : Int ⊕ (Unit ⊕ Unit)) (h : Cm t0 clause0 x9 = some o) : vc Try.prog Mq (C6 [9, 8, 7, 0] (Id t0 clause0) (Mu t0 clause0) o) (Id t0 clause0 x9) := by
 unfold Cm at h
 try dsimp only at h
 refine Br.od h (fun p1 h => ?_) (fun p1 h => ?_)
 ·refine Len.map <| Ask.o h fun p2 h => Elem.o (by first | omega | (simp [A4] at * <;> omega)) <| Br.od h (fun p3 h => ?_) (fun p3 h => ?_)
  ·refine Br.yes <| Br.yes <| Ask.o h fun p4 h => Br.yes <| Len.map <| Ask.o h fun p5 h => Elem.o (by first | omega | (simp [A4] at * <;> omega)) <| Br.yes <| Br.yes <| Br.yes <| Br.oe h (fun p6 h => ?_) (fun p6 h => ?_)
   ·refine Br.yes <| Br.yes <| Br.yes <| Br.yes <| Br.yes ?_
    cases h; exact ⟨rfl, rfl⟩
   refine Br.no <| Br.no <| Br.od h (fun p7 h => ?_) (fun p7 h => ?_)
   ·refine Br.yes <| Br.yes <| Br.yes <| Ask.o h fun p8 h => Br.yes <| Len.map <| Ask.o h fun p9 h => Elem.o (by first | omega | (simp [A4] at * <;> omega)) <| Br.yes <| Br.yes <| Br.no <| Br.yes <| Br.no <| Br.oe h (fun p10 h => ?_) (fun p10 h => ?_)
    ·cases h; exact ⟨rfl, rfl⟩
    refine Ask.o h fun p11 h => ?_
    cases h; exact ⟨rfl, rfl⟩
   refine Br.no <| Br.no <| Br.no <| Br.no <| Br.no <| Br.no <| Br.no <| Br.no <| Br.no <| Br.no <| Ask.o h fun p12 h => ?_
   cases h; exact ⟨rfl, rfl⟩
  refine Br.no <| Br.no <| Br.no <| Br.no <| Br.no <| Br.no <| Br.no <| Br.no <| Br.no <| Br.od h (fun p13 h => ?_) (fun p13 h => ?_)
  ·refine Br.yes <| Br.yes <| Br.yes <| Ask.o h fun p14 h => Br.yes <| Len.map <| Ask.o h fun p15 h => Elem.o (by first | omega | (simp [A4] at * <;> omega)) <| Br.yes <| Br.yes <| Br.no <| Br.yes <| Br.no <| Br.oe h (fun p16 h => ?_) (fun p16 h => ?_)
   ·cases h; exact ⟨rfl, rfl⟩
   refine Ask.o h fun p17 h => ?_
   cases h; exact ⟨rfl, rfl⟩
  refine Br.no <| Br.no <| Br.no <| Br.no <| Br.no <| Br.no <| Br.no <| Br.no <| Br.no <| Br.no <| Ask.o h fun p18 h => ?_
  cases h; exact ⟨rfl, rfl⟩
 cases h; exact ⟨rfl, rfl⟩
noncomputable def D9 (t0 : (List Int)) (clause0 : (List Int)) : Option Bool :=
 (Al (Cm t0 clause0) (0 : Int)).bind fun t => match t with
 | (.inl _) => (some true)
 | (.inr _) => (some false)
theorem Qt {t0 : (List Int)} {clause0 : (List Int)} {v : Bool} (h : D9 t0 clause0 = some v) : Ret Try.prog Hl [(slr false 1 Ae) t0, (slr false 1 Ae) clause0] (V.bool v) := by
 refine A7 Abe (Nat.le_of_ble_eq_true rfl) ?_
 unfold D9 at h
 refine Len.map <| LoopQ.o [9, 8, 7, 0] (Id t0 clause0) (Mu t0 clause0) h (fun s o h => Wr s o h) (by rfl) (by rintro (_ | _) <;> rfl) ?_
 rintro (⟨⟩ | ⟨⟩) h
 ·try dsimp only at h
  cases h; exact (by rfl)
 try dsimp only at h
 cases h; exact (by rfl)
noncomputable def Fj (a0 : Int) (b0 : Int) : Option Int :=
 if a0 > b0 then
 some a0
 else
 some b0
theorem Nz {a0 : Int} {b0 : Int} {v : Int} (h : Fj a0 b0 = some v) : Ret Try.prog H3 [Ae a0, Ae b0] (Ae v) := by
 refine A7 Akp (Nat.le_of_ble_eq_true rfl) ?_
 unfold Fj at h
 refine Br.od h (fun p1 h => ?_) (fun p1 h => ?_)
 ·cases h; exact (by rfl)
 cases h; exact (by rfl)
noncomputable def Jb (a0 : Int) (b0 : Int) : Option Int :=
 if a0 < b0 then
 some a0
 else
 some b0
theorem Aii {a0 : Int} {b0 : Int} {v : Int} (h : Jb a0 b0 = some v) : Ret Try.prog Re [Ae a0, Ae b0] (Ae v) := by
 refine A7 Aiy (Nat.le_of_ble_eq_true rfl) ?_
 unfold Jb at h
 refine Br.od h (fun p1 h => ?_) (fun p1 h => ?_)
 ·cases h; exact (by rfl)
 cases h; exact (by rfl)
noncomputable def F8 (l0 : (List Int)) : Option (List Int) :=
 ask ((Ap Int).length + (l0).length ≤ LIM) <|
 some (Ap Int ++ l0)
theorem Qc {l0 : (List Int)} {v : (List Int)} (h : F8 l0 = some v) : Ret Try.prog Jv [(slr false 1 Ae) l0] ((slr true 1 Ae) v) := by
 refine A7 Anu (Nat.le_of_ble_eq_true rfl) ?_
 unfold F8 at h
 refine BslQ.o Ae (Ap Int) (by exact fun _ => ⟨rfl, rfl⟩) (by first | rfl | (simp only [Aa, V.fz, fzL, V.up, upL, Ab, Ac, Ad, slr, List.cons_append, List.nil_append]; done) | simp [Aa, V.fz, fzL, V.up, upL, Ab, Ac, Ad, slr]) <| AppQ.o (m := 1) Ae (by exact fun _ => ⟨rfl, rfl⟩) (Ap Int) (l0) (by rfl) (by rfl) h fun h => ?_
 cases h; exact (by rfl)
noncomputable def Fh (x0 : Int) (a0 : Int) (b0 : Int) : Option Bool :=
 if x0 ≥ a0 then
 some (decide (x0 ≤ b0))
 else
 some false
theorem K1 {x0 : Int} {a0 : Int} {b0 : Int} {v : Bool} (h : Fh x0 a0 b0 = some v) : Ret Try.prog Hd [Ae x0, Ae a0, Ae b0] (V.bool v) := by
 refine A7 Ap2 (Nat.le_of_ble_eq_true rfl) ?_
 unfold Fh at h
 refine Br.od h (fun p1 h => ?_) (fun p1 h => ?_)
 ·refine Br.yes <| Br.yes <| Br.yes ?_
  cases h; exact (by rfl)
 refine Br.no <| Br.no <| Br.no ?_
 cases h; exact (by rfl)
noncomputable def Ew (n0 : Int) : (Int × Int) → Option ((Int × Int) ⊕ Int) := fun (x5, x1) =>
 if x1 > (0 : Int) then
 ask (InI (x5 * n0)) <|
 ask (InI (x1 - (1 : Int))) <|
 some (.inl (x5 * n0, x1 - (1 : Int)))
 else
 some (.inr x5)
def Pj (n0 : Int) : (Int × Int) → St := fun s => [(5, A.val (Ae s.1)), (0, A.val (Ae (n0))), (1, A.val (Ae s.2))]
def Wa (_n0 : Int) : Int → Tgt
 | s => ((Ex.exit 0), [5], [(5, A.val (Ae s))])
theorem Aga {n0 : Int} (s : (Int × Int)) (o : (Int × Int) ⊕ Int) (h : Ew n0 s = some o) : vc Try.prog Wg (C6 [5, 0, 1] (Pj n0) (Wa n0) o) (Pj n0 s) := by
 obtain ⟨x5, x1⟩ := s
 unfold Ew at h
 try dsimp only at h
 refine Br.od h (fun p1 h => ?_) (fun p1 h => ?_)
 ·refine Ask.o h fun p2 h => Ask.o h fun p3 h => ?_
  cases h; exact ⟨rfl, rfl⟩
 cases h; exact ⟨rfl, rfl⟩
noncomputable def Gd (n0 : Int) (k0 : Int) : Option Int :=
 (Al (Ew n0) ((1 : Int), k0)).bind fun q4_5 =>
 some q4_5
theorem P6 {n0 : Int} {k0 : Int} {v : Int} (h : Gd n0 k0 = some v) : Ret Try.prog Jo [Ae n0, Ae k0] (Ae v) := by
 refine A7 Aou (Nat.le_of_ble_eq_true rfl) ?_
 unfold Gd at h
 refine LoopQ.o [5, 0, 1] (Pj n0) (Wa n0) h (fun s o h => Aga s o h) (by rfl) (fun _ => rfl) ?_
 rintro q4_5 h
 try dsimp only at h
 cases h; exact (by rfl)
noncomputable def Ea (n0 : Int) : (Int × (List Int) × Int) → Option ((Int × (List Int) × Int) ⊕ (List Int)) := fun (x8, x7, x2) =>
 if x8 ≥ (0 : Int) then
 ask (n0 ≠ (0 : Int)) <|
 ask ((0 : Int) ≤ x8 ∧ x8 < (↑x7.length : Int)) <|
 ask (n0 ≠ (0 : Int) ∧ InI (x2.tdiv n0)) <|
 ask (InI (x8 - (1 : Int))) <|
 some (.inl (x8 - (1 : Int), x7.set x8.toNat (x2.tmod n0), x2.tdiv n0))
 else
 some (.inr x7)
def Nl (n0 : Int) : (Int × (List Int) × Int) → St := fun s => [(8, A.val (Ae s.1)), (7, A.val ((slr true 1 Ae) s.2.1)), (0, A.val (Ae (n0))), (2, A.val (Ae s.2.2))]
def Uq (_n0 : Int) : (List Int) → Tgt
 | s => ((Ex.exit 0), [7], [(7, A.val ((slr true 1 Ae) s))])
theorem Aez {n0 : Int} (s : (Int × (List Int) × Int)) (o : (Int × (List Int) × Int) ⊕ (List Int)) (h : Ea n0 s = some o) : vc Try.prog Ue (C6 [8, 7, 0, 2] (Nl n0) (Uq n0) o) (Nl n0 s) := by
 obtain ⟨x8, x7, x2⟩ := s
 unfold Ea at h
 try dsimp only at h
 refine Br.od h (fun p3 h => ?_) (fun p3 h => ?_)
 ·refine Ask.o h fun p4 h => Len.map <| Ask.o h fun p5 h => SetKids.one (fun _ => ⟨rfl, rfl⟩) (x2.tmod n0) (by rfl) (by first | omega | (simp [A4] at * <;> omega)) <| Ask.o h fun p6 h => Ask.o h fun p7 h => ?_
  cases h; exact ⟨rfl, rfl⟩
 cases h; exact ⟨rfl, rfl⟩
noncomputable def Fi (n0 : Int) (arity0 : Int) (at0 : Int) : Option (List Int) :=
 ask ((0 : Int) ≤ arity0 ∧ arity0 ≤ (↑LIM : Int)) <|
 ask (InI (arity0 - (1 : Int))) <|
 (Al (Ea n0) (arity0 - (1 : Int), List.replicate arity0.toNat (0 : Int), at0)).bind fun q8_7 =>
 some q8_7
theorem Tu {n0 : Int} {arity0 : Int} {at0 : Int} {v : (List Int)} (h : Fi n0 arity0 at0 = some v) : Ret Try.prog Kh [Ae n0, Ae arity0, Ae at0] ((slr true 1 Ae) v) := by
 refine A7 Ake (Nat.le_of_ble_eq_true rfl) ?_
 unfold Fi at h
 refine Ask.o h fun p1 h => MkQ.o Ae ((0 : Int)) rfl <| Ask.o h fun p2 h => LoopQ.o [8, 7, 0, 2] (Nl n0) (Uq n0) h (fun s o h => Aez s o h) (by rfl) (fun _ => rfl) ?_
 rintro q8_7 h
 try dsimp only at h
 cases h; exact (by rfl)
noncomputable def Dk (t0 : List Int) (clause0 : List Int) : Int → Option (Int ⊕ (Unit ⊕ Unit)) := fun x5 =>
 if x5 < (↑clause0.length : Int) then
 ask ((0 : Int) ≤ x5 ∧ x5 < (↑clause0.length : Int)) <|
 if nth clause0 x5.toNat > (0 : Int) then
 ask ((0 : Int) ≤ x5 ∧ x5 < (↑clause0.length : Int)) <|
 ask (InI (nth clause0 x5.toNat - (1 : Int))) <|
 ask ((0 : Int) ≤ nth clause0 x5.toNat - (1 : Int) ∧ nth clause0 x5.toNat - (1 : Int) < (↑t0.length : Int)) <|
 if nth t0 (nth clause0 x5.toNat - (1 : Int)).toNat = (1 : Int) then
 some (.inr (.inl ()))
 else
 ask ((0 : Int) ≤ x5 ∧ x5 < (↑clause0.length : Int)) <|
 if nth clause0 x5.toNat < (0 : Int) then
 ask ((0 : Int) ≤ x5 ∧ x5 < (↑clause0.length : Int)) <|
 ask (InI (IntKind.i64.wrap ((0 : Int) - nth clause0 x5.toNat) - (1 : Int))) <|
 ask ((0 : Int) ≤ IntKind.i64.wrap ((0 : Int) - nth clause0 x5.toNat) - (1 : Int) ∧ IntKind.i64.wrap ((0 : Int) - nth clause0 x5.toNat) - (1 : Int) < (↑t0.length : Int)) <|
 if nth t0 (IntKind.i64.wrap ((0 : Int) - nth clause0 x5.toNat) - (1 : Int)).toNat = (0 : Int) then
 some (.inr (.inl ()))
 else
 ask (InI (x5 + (1 : Int))) <|
 some (.inl (x5 + (1 : Int)))
 else
 ask (InI (x5 + (1 : Int))) <|
 some (.inl (x5 + (1 : Int)))
 else
 ask ((0 : Int) ≤ x5 ∧ x5 < (↑clause0.length : Int)) <|
 if nth clause0 x5.toNat < (0 : Int) then
 ask ((0 : Int) ≤ x5 ∧ x5 < (↑clause0.length : Int)) <|
 ask (InI (IntKind.i64.wrap ((0 : Int) - nth clause0 x5.toNat) - (1 : Int))) <|
 ask ((0 : Int) ≤ IntKind.i64.wrap ((0 : Int) - nth clause0 x5.toNat) - (1 : Int) ∧ IntKind.i64.wrap ((0 : Int) - nth clause0 x5.toNat) - (1 : Int) < (↑t0.length : Int)) <|
 if nth t0 (IntKind.i64.wrap ((0 : Int) - nth clause0 x5.toNat) - (1 : Int)).toNat = (0 : Int) then
 some (.inr (.inl ()))
 else
 ask (InI (x5 + (1 : Int))) <|
 some (.inl (x5 + (1 : Int)))
 else
 ask (InI (x5 + (1 : Int))) <|
 some (.inl (x5 + (1 : Int)))
 else
 some (.inr (.inr ()))
def Kp (t0 : List Int) (clause0 : List Int) : Int → St := fun s => [(5, A.val (Ae s)), (0, A.val ((slr false 1 Ae) (t0))), (1, A.val ((slr false 1 Ae) (clause0)))]
def Q1 (_t0 : List Int) (_clause0 : List Int) : (Unit ⊕ Unit) → Tgt
 | (.inl _s) => (Ex.ret, [4], [(4, A.val (V.bool (true)))])
 | (.inr _s) => ((Ex.exit 0), [], [])
theorem Aa1 {t0 : List Int} {clause0 : List Int} (x5 : Int) (o : Int ⊕ (Unit ⊕ Unit)) (h : Dk t0 clause0 x5 = some o) : vc Try.prog Ra (C6 [5, 0, 1] (Kp t0 clause0) (Q1 t0 clause0) o) (Kp t0 clause0 x5) := by
 unfold Dk at h
 try dsimp only at h
 refine Len.map <| Br.od h (fun p1 h => ?_) (fun p1 h => ?_)
 ·refine Len.map <| Ask.o h fun p2 h => Elem.o (by first | omega | (simp [A4] at * <;> omega)) <| Br.od h (fun p3 h => ?_) (fun p3 h => ?_)
  ·refine Br.yes <| Br.yes <| Br.yes <| Len.map <| Ask.o h fun p4 h => Elem.o (by first | omega | (simp [A4] at * <;> omega)) <| Br.yes <| Br.yes <| Ask.o h fun p5 h => Br.yes <| Len.map <| Ask.o h fun p6 h => Elem.o (by first | omega | (simp [A4] at * <;> omega)) <| Br.yes <| Br.yes <| Br.yes <| Br.oe h (fun p7 h => ?_) (fun p7 h => ?_)
   ·refine Br.yes <| Br.yes <| Br.yes <| Br.yes <| Br.yes <| Br.yes <| Br.yes <| Br.yes ?_
    cases h; exact ⟨rfl, rfl⟩
   refine Br.no <| Br.no <| Len.map <| Ask.o h fun p8 h => Elem.o (by first | omega | (simp [A4] at * <;> omega)) <| Br.no <| Br.no <| Br.no <| Br.od h (fun p9 h => ?_) (fun p9 h => ?_)
   ·refine Br.yes <| Br.yes <| Br.yes <| Len.map <| Ask.o h fun p10 h => Elem.o (by first | omega | (simp [A4] at * <;> omega)) <| Br.yes <| Br.yes <| Br.yes <| Ask.o h fun p11 h => Br.yes <| Len.map <| Ask.o h fun p12 h => Elem.o (by first | omega | (simp [A4] at * <;> omega)) <| Br.yes <| Br.yes <| Br.no <| Br.yes <| Br.no <| Br.oe h (fun p13 h => ?_) (fun p13 h => ?_)
    ·cases h; exact ⟨rfl, rfl⟩
    refine Ask.o h fun p14 h => ?_
    cases h; exact ⟨rfl, rfl⟩
   refine Br.no <| Br.no <| Br.no <| Br.no <| Br.no <| Br.no <| Br.no <| Br.no <| Br.no <| Br.no <| Br.no <| Br.no <| Br.no <| Ask.o h fun p15 h => ?_
   cases h; exact ⟨rfl, rfl⟩
  refine Br.no <| Br.no <| Br.no <| Br.no <| Br.no <| Br.no <| Br.no <| Br.no <| Br.no <| Br.no <| Br.no <| Br.no <| Len.map <| Ask.o h fun p16 h => Elem.o (by first | omega | (simp [A4] at * <;> omega)) <| Br.no <| Br.no <| Br.no <| Br.od h (fun p17 h => ?_) (fun p17 h => ?_)
  ·refine Br.yes <| Br.yes <| Br.yes <| Len.map <| Ask.o h fun p18 h => Elem.o (by first | omega | (simp [A4] at * <;> omega)) <| Br.yes <| Br.yes <| Br.yes <| Ask.o h fun p19 h => Br.yes <| Len.map <| Ask.o h fun p20 h => Elem.o (by first | omega | (simp [A4] at * <;> omega)) <| Br.yes <| Br.yes <| Br.no <| Br.yes <| Br.no <| Br.oe h (fun p21 h => ?_) (fun p21 h => ?_)
   ·cases h; exact ⟨rfl, rfl⟩
   refine Ask.o h fun p22 h => ?_
   cases h; exact ⟨rfl, rfl⟩
  refine Br.no <| Br.no <| Br.no <| Br.no <| Br.no <| Br.no <| Br.no <| Br.no <| Br.no <| Br.no <| Br.no <| Br.no <| Br.no <| Ask.o h fun p23 h => ?_
  cases h; exact ⟨rfl, rfl⟩
 cases h; exact ⟨rfl, rfl⟩
noncomputable def F3 (t0 : (List Int)) (clause0 : (List Int)) : Option Bool :=
 (Al (Dk t0 clause0) (0 : Int)).bind fun t => match t with
 | (.inl _) => (some true)
 | (.inr _) => (some false)
theorem Wd {t0 : (List Int)} {clause0 : (List Int)} {v : Bool} (h : F3 t0 clause0 = some v) : Ret Try.prog Kj [(slr false 1 Ae) t0, (slr false 1 Ae) clause0] (V.bool v) := by
 refine A7 Af6 (Nat.le_of_ble_eq_true rfl) ?_
 unfold F3 at h
 refine LoopQ.o [5, 0, 1] (Kp t0 clause0) (Q1 t0 clause0) h (fun s o h => Aa1 s o h) (by rfl) (by rintro (_ | _) <;> rfl) ?_
 rintro (⟨⟩ | ⟨⟩) h
 ·try dsimp only at h
  cases h; exact (by rfl)
 try dsimp only at h
 cases h; exact (by rfl)
end Go.Proofs.Ytjcekpmojnnmbaa.Ax
