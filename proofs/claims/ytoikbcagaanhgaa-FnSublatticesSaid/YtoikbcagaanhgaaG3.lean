/-
 What the functions compute, as functions on plain data, and that the program does compute it; written by program.
-/
import Derived.Test.YtoikbcagaanhgaaCode
namespace Go.Proofs.Ytoikbcagaanhgaa.Ax
open Go
set_option maxRecDepth 100000
set_option maxHeartbeats 4000000
noncomputable def E6 (table0 : List (List Int)) : (Int × SOp) → Option ((Int × SOp) ⊕ SOp) := fun (x9, x3) =>
 if x9 < (↑table0.length : Int) then
 ask ((0 : Int) ≤ x9 ∧ x9 < (↑table0.length : Int)) <|
 ask ((x3.Table).length + (nth table0 x9.toNat).length ≤ LIM) <|
 ask (InI (x9 + (1 : Int))) <|
 some (.inl (x9 + (1 : Int), { Arity := x3.Arity, Table := x3.Table ++ nth table0 x9.toNat }))
 else
 some (.inr x3)
def P0 (table0 : List (List Int)) : (Int × SOp) → St := fun s => [(9, A.val (Ab s.1)), (8, A.val (Ab ((↑table0.length : Int)))), (7, A.val ((slr false 1 (slr false 1 Ab)) (table0))), (3, A.val ((rP true (Dh true)) s.2)), (2, A.val ((rP true (Dh true)) ({ Arity := (0 : Int), Table := Ao Int })))]
def Y2 (_table0 : List (List Int)) : SOp → Tgt
 | s => ((Ex.exit 0), [3, 2], [(3, A.val ((rP true (Dh true)) s)), (2, A.val ((rP true (Dh true)) ({ Arity := (0 : Int), Table := Ao Int })))])
theorem Akw {table0 : List (List Int)} (s : (Int × SOp)) (o : (Int × SOp) ⊕ SOp) (h : E6 table0 s = some o) : vc Try.prog X1 (Bp [9, 8, 7, 3, 2] (P0 table0) (Y2 table0) o) (P0 table0 s) := by
 obtain ⟨x9, x3⟩ := s
 unfold E6 at h
 try dsimp only at h
 refine Br.od h (fun p1 h => ?_) (fun p1 h => ?_)
 ·refine Len.map ?_
  refine Ask.o h fun p2 h => ?_
  refine Elem.o (by first | omega | (simp [Am] at *; omega)) ?_
  refine Cells.lit rfl rfl ?_
  iterate 2 refine Kid.lit rfl rfl ?_
  refine SetKids.lit rfl ?_
  refine AppQ.o (m := 1) Ab (by exact fun _ => ⟨rfl, rfl⟩) (x3.Table) (nth table0 x9.toNat) (by rfl) (by rfl) h fun h => ?_
  refine SetKids.lit rfl ?_
  refine Ask.o h fun p3 h => ?_
  cases h; exact ⟨rfl, rfl⟩
 cases h; exact ⟨rfl, rfl⟩
noncomputable def Jl (table0 : (List (List Int))) : Option SOp :=
 (Ai (E6 table0) ((0 : Int), { Arity := (2 : Int), Table := Ao Int })).bind fun q4_3 =>
 some q4_3
theorem Aey {table0 : (List (List Int))} {v : SOp} (h : Jl table0 = some v) : Ret Try.prog Qm [(slr false 1 (slr false 1 Ab)) table0] ((Dh true) v) := by
 refine Av Ap8 (Nat.le_of_ble_eq_true rfl) ?_
 unfold Jl at h
 refine SetKids.lit rfl ?_
 refine Len.map ?_
 refine LoopQ.o [9, 8, 7, 3, 2] (P0 table0) (Y2 table0) h (fun s o h => Akw s o h) (by first | rfl | simp [restrict, look, Ad, V.fz, fzL, V.up, upL, Ae, Af, Ah, slr]) (fun _ => rfl) ?_
 rintro q4_3 h
 try dsimp only at h
 refine Cells.lit rfl rfl ?_
 refine SetKids.lit rfl ?_
 cases h; exact (by rfl)
noncomputable def Df (list0 : List Int) : Int → Option (Int ⊕ (Unit ⊕ Unit)) := fun x3 =>
 if x3 < (↑list0.length : Int) then
 ask (InI (x3 - (1 : Int))) <|
 ask ((0 : Int) ≤ x3 - (1 : Int) ∧ x3 - (1 : Int) < (↑list0.length : Int)) <|
 ask ((0 : Int) ≤ x3 ∧ x3 < (↑list0.length : Int)) <|
 if nth list0 (x3 - (1 : Int)).toNat ≥ nth list0 x3.toNat then
 some (.inr (.inl ()))
 else
 ask (InI (x3 + (1 : Int))) <|
 some (.inl (x3 + (1 : Int)))
 else
 some (.inr (.inr ()))
def Sh (list0 : List Int) : Int → St := fun s => [(3, A.val (Ab s)), (0, A.val ((slr false 1 Ab) (list0)))]
def Aao (_list0 : List Int) : (Unit ⊕ Unit) → Tgt
 | (.inl _s) => (Ex.ret, [2], [(2, A.val (V.bool (false)))])
 | (.inr _s) => ((Ex.exit 0), [], [])
theorem Alx {list0 : List Int} (x3 : Int) (o : Int ⊕ (Unit ⊕ Unit)) (h : Df list0 x3 = some o) : vc Try.prog Aaq (Bp [3, 0] (Sh list0) (Aao list0) o) (Sh list0 x3) := by
 unfold Df at h
 try dsimp only at h
 refine Len.map ?_
 refine Br.od h (fun p1 h => ?_) (fun p1 h => ?_)
 ·refine Ask.o h fun p2 h => ?_
  refine Len.map ?_
  refine Ask.o h fun p3 h => ?_
  refine Elem.o (by first | omega | (simp [Am] at *; omega)) ?_
  refine Len.map ?_
  refine Ask.o h fun p4 h => ?_
  refine Elem.o (by first | omega | (simp [Am] at *; omega)) ?_
  refine Br.od h (fun p5 h => ?_) (fun p5 h => ?_)
  ·cases h; exact ⟨rfl, rfl⟩
  refine Ask.o h fun p6 h => ?_
  cases h; exact ⟨rfl, rfl⟩
 cases h; exact ⟨rfl, rfl⟩
noncomputable def I5 (list0 : (List Int)) : Option Bool :=
 (Ai (Df list0) (1 : Int)).bind fun t => match t with
 | (.inl _) => (some false)
 | (.inr _) => (some true)
theorem Zs {list0 : (List Int)} {v : Bool} (h : I5 list0 = some v) : Ret Try.prog On [(slr false 1 Ab) list0] (V.bool v) := by
 refine Av Au0 (Nat.le_of_ble_eq_true rfl) ?_
 unfold I5 at h
 refine LoopQ.o [3, 0] (Sh list0) (Aao list0) h (fun s o h => Alx s o h) (by first | rfl | simp [restrict, look, Ad, V.fz, fzL, V.up, upL, Ae, Af, Ah, slr]) (by rintro (_ | _) <;> rfl) ?_
 rintro (⟨⟩ | ⟨⟩) h
 ·try dsimp only at h
  cases h; exact (by rfl)
 try dsimp only at h
 cases h; exact (by rfl)
noncomputable def Bi (o0 : List (List Bool)) (x8 : Int) (x21 : Int) : Int → Option (Int ⊕ (Unit ⊕ Unit)) := fun x47 =>
 if x47 < (↑o0.length : Int) then
 ask ((0 : Int) ≤ x8 ∧ x8 < (↑o0.length : Int)) <|
 ask ((0 : Int) ≤ x21 ∧ x21 < (↑(nth o0 x8.toNat).length : Int)) <|
 if (nth (nth o0 x8.toNat) x21.toNat) = true then
 ask ((0 : Int) ≤ x21 ∧ x21 < (↑o0.length : Int)) <|
 ask ((0 : Int) ≤ x47 ∧ x47 < (↑(nth o0 x21.toNat).length : Int)) <|
 if (nth (nth o0 x21.toNat) x47.toNat) = true then
 ask ((0 : Int) ≤ x8 ∧ x8 < (↑o0.length : Int)) <|
 ask ((0 : Int) ≤ x47 ∧ x47 < (↑(nth o0 x8.toNat).length : Int)) <|
 if (nth (nth o0 x8.toNat) x47.toNat) = true then
 ask (InI (x47 + (1 : Int))) <|
 some (.inl (x47 + (1 : Int)))
 else
 some (.inr (.inl ()))
 else
 ask (InI (x47 + (1 : Int))) <|
 some (.inl (x47 + (1 : Int)))
 else
 ask (InI (x47 + (1 : Int))) <|
 some (.inl (x47 + (1 : Int)))
 else
 some (.inr (.inr ()))
def Il (o0 : List (List Bool)) (x8 : Int) (x21 : Int) : Int → St := fun s => [(47, A.val (Ab s)), (46, A.val (Ab ((↑o0.length : Int)))), (4, A.val (Ab (x21))), (21, A.val (Ab (x21))), (20, A.val (Ab ((↑o0.length : Int)))), (3, A.val (Ab (x8))), (8, A.val (Ab (x8))), (7, A.val (Ab ((↑o0.length : Int)))), (0, A.val ((slr false 1 (slr false 1 V.bool)) (o0)))]
def Na (o0 : List (List Bool)) (x8 : Int) (x21 : Int) : (Unit ⊕ Unit) → Tgt
 | (.inl _s) => (Ex.ret, [2], [(2, A.val (V.bool (false)))])
 | (.inr _s) => ((Ex.exit 4), [21, 20, 3, 8, 7, 0], [(21, A.val (Ab (x21))), (20, A.val (Ab ((↑o0.length : Int)))), (3, A.val (Ab (x8))), (8, A.val (Ab (x8))), (7, A.val (Ab ((↑o0.length : Int)))), (0, A.val ((slr false 1 (slr false 1 V.bool)) (o0)))])
theorem Yq {o0 : List (List Bool)} {x8 : Int} {x21 : Int} (x47 : Int) (o : Int ⊕ (Unit ⊕ Unit)) (h : Bi o0 x8 x21 x47 = some o) : vc Try.prog Nc (Bp [47, 46, 4, 21, 20, 3, 8, 7, 0] (Il o0 x8 x21) (Na o0 x8 x21) o) (Il o0 x8 x21 x47) := by
 unfold Bi at h
 try dsimp only at h
 refine Br.od h (fun p14 h => ?_) (fun p14 h => ?_)
 ·refine Len.map ?_
  refine Ask.o h fun p15 h => ?_
  refine Elem.o (by first | omega | (simp [Am] at *; omega)) ?_
  refine Len.map ?_
  refine Ask.o h fun p16 h => ?_
  refine Elem.o (by first | omega | (simp [Am] at *; omega)) ?_
  refine Br.ob h (fun p17 h => ?_) (fun p17 h => ?_)
  ·refine Br.yes ?_
   refine Br.yes ?_
   refine Len.map ?_
   refine Ask.o h fun p18 h => ?_
   refine Elem.o (by first | omega | (simp [Am] at *; omega)) ?_
   iterate 3 refine Br.yes ?_
   refine Len.map ?_
   refine Ask.o h fun p19 h => ?_
   refine Elem.o (by first | omega | (simp [Am] at *; omega)) ?_
   iterate 2 refine Br.yes ?_
   refine Br.ob h (fun p20 h => ?_) (fun p20 h => ?_)
   ·refine Br.yes ?_
    refine Br.yes ?_
    refine Len.map ?_
    refine Ask.o h fun p21 h => ?_
    refine Elem.o (by first | omega | (simp [Am] at *; omega)) ?_
    iterate 3 refine Br.yes ?_
    refine Len.map ?_
    refine Ask.o h fun p22 h => ?_
    refine Elem.o (by first | omega | (simp [Am] at *; omega)) ?_
    iterate 3 refine Br.yes ?_
    refine Br.flip ?_
    refine Br.ob h (fun p23 h => ?_) (fun p23 h => ?_)
    ·refine Ask.o h fun p24 h => ?_
     cases h; exact ⟨rfl, rfl⟩
    cases h; exact ⟨rfl, rfl⟩
   iterate 9 refine Br.no ?_
   refine Ask.o h fun p25 h => ?_
   cases h; exact ⟨rfl, rfl⟩
  iterate 17 refine Br.no ?_
  refine Ask.o h fun p26 h => ?_
  cases h; exact ⟨rfl, rfl⟩
 cases h; exact ⟨rfl, rfl⟩
noncomputable def Bt (o0 : List (List Bool)) (x8 : Int) : Int → Option (Int ⊕ (Unit ⊕ Unit)) := fun x21 =>
 if x21 < (↑o0.length : Int) then
 ((if x8 ≠ x21 then
 ask ((0 : Int) ≤ x8 ∧ x8 < (↑o0.length : Int)) <|
 ask ((0 : Int) ≤ x21 ∧ x21 < (↑(nth o0 x8.toNat).length : Int)) <|
 if (nth (nth o0 x8.toNat) x21.toNat) = true then
 ask ((0 : Int) ≤ x21 ∧ x21 < (↑o0.length : Int)) <|
 ask ((0 : Int) ≤ x8 ∧ x8 < (↑(nth o0 x21.toNat).length : Int)) <|
 if (nth (nth o0 x21.toNat) x8.toNat) = true then
 some (.inl ())
 else
 some (.inr ())
 else
 some (.inr ())
 else
 some (.inr ()) : Option (Unit ⊕ Unit))).bind fun t => match t with
 | (.inl _) => (some (.inr (.inl ())))
 | (.inr _) => ((Ai (Bi o0 x8 x21) (0 : Int)).bind fun t => match t with
 | (.inl _) => (some (.inr (.inl ())))
 | (.inr _) => (ask (InI (x21 + (1 : Int))) <|
 some (.inl (x21 + (1 : Int)))))
 else
 some (.inr (.inr ()))
def Io (o0 : List (List Bool)) (x8 : Int) : Int → St := fun s => [(21, A.val (Ab s)), (20, A.val (Ab ((↑o0.length : Int)))), (3, A.val (Ab (x8))), (8, A.val (Ab (x8))), (7, A.val (Ab ((↑o0.length : Int)))), (0, A.val ((slr false 1 (slr false 1 V.bool)) (o0)))]
def Nl (o0 : List (List Bool)) (x8 : Int) : (Unit ⊕ Unit) → Tgt
 | (.inl _s) => (Ex.ret, [2], [(2, A.val (V.bool (false)))])
 | (.inr _s) => ((Ex.exit 2), [8, 7, 0], [(8, A.val (Ab (x8))), (7, A.val (Ab ((↑o0.length : Int)))), (0, A.val ((slr false 1 (slr false 1 V.bool)) (o0)))])
theorem Yw {o0 : List (List Bool)} {x8 : Int} (x21 : Int) (o : Int ⊕ (Unit ⊕ Unit)) (h : Bt o0 x8 x21 = some o) : vc Try.prog Nj (Bp [21, 20, 3, 8, 7, 0] (Io o0 x8) (Nl o0 x8) o) (Io o0 x8 x21) := by
 unfold Bt at h
 try dsimp only at h
 refine Br.od h (fun p5 h => ?_) (fun p5 h => ?_)
 ·refine CutQ.o (fun t : (Unit ⊕ Unit) => match t with | (.inl s) => (Ex.ret, [2], [(2, A.val (V.bool (false)))]) | (.inr s) => (Ex.normal, [4, 21, 20, 3, 8, 7, 0], [(4, A.val (Ab (x21))), (21, A.val (Ab (x21))), (20, A.val (Ab ((↑o0.length : Int)))), (3, A.val (Ab (x8))), (8, A.val (Ab (x8))), (7, A.val (Ab ((↑o0.length : Int)))), (0, A.val ((slr false 1 (slr false 1 V.bool)) (o0)))])) h ?_ ?_
  ·intro t h
   refine Br.on h (fun p6 h => ?_) (fun p6 h => ?_)
   ·refine Br.yes ?_
    refine Br.yes ?_
    refine Len.map ?_
    refine Ask.o h fun p7 h => ?_
    refine Elem.o (by first | omega | (simp [Am] at *; omega)) ?_
    iterate 3 refine Br.yes ?_
    refine Len.map ?_
    refine Ask.o h fun p8 h => ?_
    refine Elem.o (by first | omega | (simp [Am] at *; omega)) ?_
    iterate 2 refine Br.yes ?_
    refine Br.ob h (fun p9 h => ?_) (fun p9 h => ?_)
    ·refine Br.yes ?_
     refine Br.yes ?_
     refine Len.map ?_
     refine Ask.o h fun p10 h => ?_
     refine Elem.o (by first | omega | (simp [Am] at *; omega)) ?_
     iterate 3 refine Br.yes ?_
     refine Len.map ?_
     refine Ask.o h fun p11 h => ?_
     refine Elem.o (by first | omega | (simp [Am] at *; omega)) ?_
     iterate 2 refine Br.yes ?_
     refine Br.ob h (fun p12 h => ?_) (fun p12 h => ?_)
     ·cases h; exact ⟨rfl, rfl⟩
     cases h; exact ⟨rfl, rfl⟩
    iterate 8 refine Br.no ?_
    cases h; exact ⟨rfl, rfl⟩
   iterate 16 refine Br.no ?_
   cases h; exact ⟨rfl, rfl⟩
  rintro (⟨⟩ | ⟨⟩) h
  ·try dsimp only at h
   cases h; exact ⟨rfl, rfl⟩
  try dsimp only at h
  refine Len.map ?_
  refine LoopQ.o [47, 46, 4, 21, 20, 3, 8, 7, 0] (Il o0 x8 x21) (Na o0 x8 x21) h (fun s o h => Yq s o h) (by first | rfl | simp [restrict, look, Ad, V.fz, fzL, V.up, upL, Ae, Af, Ah, slr]) (by rintro (_ | _) <;> rfl) ?_
  rintro (⟨⟩ | ⟨⟩) h
  ·try dsimp only at h
   cases h; exact ⟨rfl, rfl⟩
  try dsimp only at h
  refine Ask.o h fun p28 h => ?_
  cases h; exact ⟨rfl, rfl⟩
 cases h; exact ⟨rfl, rfl⟩
noncomputable def B8 (o0 : List (List Bool)) : Int → Option (Int ⊕ (Unit ⊕ Unit)) := fun x8 =>
 if x8 < (↑o0.length : Int) then
 ask ((0 : Int) ≤ x8 ∧ x8 < (↑o0.length : Int)) <|
 ask ((0 : Int) ≤ x8 ∧ x8 < (↑(nth o0 x8.toNat).length : Int)) <|
 if (nth (nth o0 x8.toNat) x8.toNat) = true then
 (Ai (Bt o0 x8) (0 : Int)).bind fun t => match t with
 | (.inl _) => (some (.inr (.inl ())))
 | (.inr _) => (ask (InI (x8 + (1 : Int))) <|
 some (.inl (x8 + (1 : Int))))
 else
 some (.inr (.inl ()))
 else
 some (.inr (.inr ()))
def Iy (o0 : List (List Bool)) : Int → St := fun s => [(8, A.val (Ab s)), (7, A.val (Ab ((↑o0.length : Int)))), (0, A.val ((slr false 1 (slr false 1 V.bool)) (o0)))]
def Nd (_o0 : List (List Bool)) : (Unit ⊕ Unit) → Tgt
 | (.inl _s) => (Ex.ret, [2], [(2, A.val (V.bool (false)))])
 | (.inr _s) => ((Ex.exit 0), [], [])
theorem Xn {o0 : List (List Bool)} (x8 : Int) (o : Int ⊕ (Unit ⊕ Unit)) (h : B8 o0 x8 = some o) : vc Try.prog Nk (Bp [8, 7, 0] (Iy o0) (Nd o0) o) (Iy o0 x8) := by
 unfold B8 at h
 try dsimp only at h
 refine Br.od h (fun p1 h => ?_) (fun p1 h => ?_)
 ·refine Len.map ?_
  refine Ask.o h fun p2 h => ?_
  refine Elem.o (by first | omega | (simp [Am] at *; omega)) ?_
  refine Len.map ?_
  refine Ask.o h fun p3 h => ?_
  refine Elem.o (by first | omega | (simp [Am] at *; omega)) ?_
  refine Br.flip ?_
  refine Br.ob h (fun p4 h => ?_) (fun p4 h => ?_)
  ·refine Len.map ?_
   refine LoopQ.o [21, 20, 3, 8, 7, 0] (Io o0 x8) (Nl o0 x8) h (fun s o h => Yw s o h) (by first | rfl | simp [restrict, look, Ad, V.fz, fzL, V.up, upL, Ae, Af, Ah, slr]) (by rintro (_ | _) <;> rfl) ?_
   rintro (⟨⟩ | ⟨⟩) h
   ·try dsimp only at h
    cases h; exact ⟨rfl, rfl⟩
   try dsimp only at h
   refine Ask.o h fun p30 h => ?_
   cases h; exact ⟨rfl, rfl⟩
  cases h; exact ⟨rfl, rfl⟩
 cases h; exact ⟨rfl, rfl⟩
noncomputable def Fi (o0 : (List (List Bool))) : Option Bool :=
 (Ai (B8 o0) (0 : Int)).bind fun t => match t with
 | (.inl _) => (some false)
 | (.inr _) => (some true)
theorem Abz {o0 : (List (List Bool))} {v : Bool} (h : Fi o0 = some v) : Ret Try.prog K6 [(slr false 1 (slr false 1 V.bool)) o0] (V.bool v) := by
 refine Av Adb (Nat.le_of_ble_eq_true rfl) ?_
 unfold Fi at h
 refine Len.map ?_
 refine LoopQ.o [8, 7, 0] (Iy o0) (Nd o0) h (fun s o h => Xn s o h) (by first | rfl | simp [restrict, look, Ad, V.fz, fzL, V.up, upL, Ae, Af, Ah, slr]) (by rintro (_ | _) <;> rfl) ?_
 rintro (⟨⟩ | ⟨⟩) h
 ·try dsimp only at h
  cases h; exact (by rfl)
 try dsimp only at h
 cases h; exact (by rfl)
noncomputable def Fb (a0 : List Int) (b0 : List Int) : Int → Option (Int ⊕ (Unit ⊕ Unit)) := fun x5 =>
 if x5 < (↑a0.length : Int) then
 ask ((0 : Int) ≤ x5 ∧ x5 < (↑a0.length : Int)) <|
 ask ((0 : Int) ≤ x5 ∧ x5 < (↑b0.length : Int)) <|
 if nth a0 x5.toNat ≠ nth b0 x5.toNat then
 some (.inr (.inl ()))
 else
 ask (InI (x5 + (1 : Int))) <|
 some (.inl (x5 + (1 : Int)))
 else
 some (.inr (.inr ()))
def P9 (a0 : List Int) (b0 : List Int) : Int → St := fun s => [(5, A.val (Ab s)), (0, A.val ((slr false 1 Ab) (a0))), (1, A.val ((slr false 1 Ab) (b0)))]
def X3 (_a0 : List Int) (_b0 : List Int) : (Unit ⊕ Unit) → Tgt
 | (.inl _s) => (Ex.ret, [4], [(4, A.val (V.bool (false)))])
 | (.inr _s) => ((Ex.exit 0), [], [])
theorem Aje {a0 : List Int} {b0 : List Int} (x5 : Int) (o : Int ⊕ (Unit ⊕ Unit)) (h : Fb a0 b0 x5 = some o) : vc Try.prog Yy (Bp [5, 0, 1] (P9 a0 b0) (X3 a0 b0) o) (P9 a0 b0 x5) := by
 unfold Fb at h
 try dsimp only at h
 refine Len.map ?_
 refine Br.od h (fun p2 h => ?_) (fun p2 h => ?_)
 ·refine Len.map ?_
  refine Ask.o h fun p3 h => ?_
  refine Elem.o (by first | omega | (simp [Am] at *; omega)) ?_
  refine Len.map ?_
  refine Ask.o h fun p4 h => ?_
  refine Elem.o (by first | omega | (simp [Am] at *; omega)) ?_
  refine Br.on h (fun p5 h => ?_) (fun p5 h => ?_)
  ·cases h; exact ⟨rfl, rfl⟩
  refine Ask.o h fun p6 h => ?_
  cases h; exact ⟨rfl, rfl⟩
 cases h; exact ⟨rfl, rfl⟩
noncomputable def Ji (a0 : (List Int)) (b0 : (List Int)) : Option Bool :=
 if (↑a0.length : Int) ≠ (↑b0.length : Int) then
 some false
 else
 (Ai (Fb a0 b0) (0 : Int)).bind fun t => match t with
 | (.inl _) => (some false)
 | (.inr _) => (some true)
theorem Ae5 {a0 : (List Int)} {b0 : (List Int)} {v : Bool} (h : Ji a0 b0 = some v) : Ret Try.prog Qk [(slr false 1 Ab) a0, (slr false 1 Ab) b0] (V.bool v) := by
 refine Av Aqi (Nat.le_of_ble_eq_true rfl) ?_
 unfold Ji at h
 iterate 2 refine Len.map ?_
 refine Br.on h (fun p1 h => ?_) (fun p1 h => ?_)
 ·cases h; exact (by rfl)
 refine LoopQ.o [5, 0, 1] (P9 a0 b0) (X3 a0 b0) h (fun s o h => Aje s o h) (by first | rfl | simp [restrict, look, Ad, V.fz, fzL, V.up, upL, Ae, Af, Ah, slr]) (by rintro (_ | _) <;> rfl) ?_
 rintro (⟨⟩ | ⟨⟩) h
 ·try dsimp only at h
  cases h; exact (by rfl)
 try dsimp only at h
 cases h; exact (by rfl)
noncomputable def F1 (l0 : List Int) (n0 : Int) : Int → Option (Int ⊕ (Unit ⊕ Unit)) := fun x5 =>
 if x5 < (↑l0.length : Int) then
 ask ((0 : Int) ≤ x5 ∧ x5 < (↑l0.length : Int)) <|
 if nth l0 x5.toNat = n0 then
 some (.inr (.inl ()))
 else
 ask (InI (x5 + (1 : Int))) <|
 some (.inl (x5 + (1 : Int)))
 else
 some (.inr (.inr ()))
def R2 (l0 : List Int) (n0 : Int) : Int → St := fun s => [(5, A.val (Ab s)), (0, A.val ((slr false 1 Ab) (l0))), (1, A.val (Ab (n0)))]
def Aak (_l0 : List Int) (_n0 : Int) : (Unit ⊕ Unit) → Tgt
 | (.inl _s) => (Ex.ret, [4], [(4, A.val (V.bool (true)))])
 | (.inr _s) => ((Ex.exit 0), [], [])
theorem Aml {l0 : List Int} {n0 : Int} (x5 : Int) (o : Int ⊕ (Unit ⊕ Unit)) (h : F1 l0 n0 x5 = some o) : vc Try.prog Aav (Bp [5, 0, 1] (R2 l0 n0) (Aak l0 n0) o) (R2 l0 n0 x5) := by
 unfold F1 at h
 try dsimp only at h
 refine Len.map ?_
 refine Br.od h (fun p1 h => ?_) (fun p1 h => ?_)
 ·refine Len.map ?_
  refine Ask.o h fun p2 h => ?_
  refine Elem.o (by first | omega | (simp [Am] at *; omega)) ?_
  refine Br.oe h (fun p3 h => ?_) (fun p3 h => ?_)
  ·cases h; exact ⟨rfl, rfl⟩
  refine Ask.o h fun p4 h => ?_
  cases h; exact ⟨rfl, rfl⟩
 cases h; exact ⟨rfl, rfl⟩
noncomputable def Hp (l0 : (List Int)) (n0 : Int) : Option Bool :=
 (Ai (F1 l0 n0) (0 : Int)).bind fun t => match t with
 | (.inl _) => (some true)
 | (.inr _) => (some false)
theorem S0 {l0 : (List Int)} {n0 : Int} {v : Bool} (h : Hp l0 n0 = some v) : Ret Try.prog Lh [(slr false 1 Ab) l0, Ab n0] (V.bool v) := by
 refine Av Auf (Nat.le_of_ble_eq_true rfl) ?_
 unfold Hp at h
 refine LoopQ.o [5, 0, 1] (R2 l0 n0) (Aak l0 n0) h (fun s o h => Aml s o h) (by first | rfl | simp [restrict, look, Ad, V.fz, fzL, V.up, upL, Ae, Af, Ah, slr]) (by rintro (_ | _) <;> rfl) ?_
 rintro (⟨⟩ | ⟨⟩) h
 ·try dsimp only at h
  cases h; exact (by rfl)
 try dsimp only at h
 cases h; exact (by rfl)
noncomputable def Hl (list0 : List Int) : (Int × (List Bool)) → Option ((Int × (List Bool)) ⊕ (List Bool)) := fun (x12, x5) =>
 if x12 < (↑list0.length : Int) then
 ask ((0 : Int) ≤ x12 ∧ x12 < (↑list0.length : Int)) <|
 ask ((0 : Int) ≤ nth list0 x12.toNat ∧ nth list0 x12.toNat < (↑x5.length : Int)) <|
 ask (InI (x12 + (1 : Int))) <|
 some (.inl (x12 + (1 : Int), x5.set (nth list0 x12.toNat).toNat true))
 else
 some (.inr x5)
def Sc (list0 : List Int) : (Int × (List Bool)) → St := fun s => [(12, A.val (Ab s.1)), (11, A.val (Ab ((↑list0.length : Int)))), (10, A.val ((slr false 1 Ab) (list0))), (5, A.val ((slr true 1 V.bool) s.2))]
def Aaj (_list0 : List Int) : (List Bool) → Tgt
 | s => ((Ex.exit 0), [5], [(5, A.val ((slr true 1 V.bool) s))])
theorem Ama {list0 : List Int} (s : (Int × (List Bool))) (o : (Int × (List Bool)) ⊕ (List Bool)) (h : Hl list0 s = some o) : vc Try.prog Aai (Bp [12, 11, 10, 5] (Sc list0) (Aaj list0) o) (Sc list0 s) := by
 obtain ⟨x12, x5⟩ := s
 unfold Hl at h
 try dsimp only at h
 refine Br.od h (fun p2 h => ?_) (fun p2 h => ?_)
 ·refine Len.map ?_
  refine Ask.o h fun p3 h => ?_
  refine Elem.o (by first | omega | (simp [Am] at *; omega)) ?_
  refine Len.map ?_
  refine Ask.o h fun p4 h => ?_
  refine SetKids.one (fun _ => ⟨rfl, rfl⟩) (true) (by rfl) (by first | omega | (simp [Am] at *; omega)) ?_
  refine Ask.o h fun p5 h => ?_
  cases h; exact ⟨rfl, rfl⟩
 cases h; exact ⟨rfl, rfl⟩
noncomputable def I1 (list0 : (List Int)) (n0 : Int) : Option (List Bool) :=
 ask ((0 : Int) ≤ n0 ∧ n0 ≤ (↑LIM : Int)) <|
 (Ai (Hl list0) ((0 : Int), List.replicate n0.toNat false)).bind fun q6_5 =>
 some q6_5
theorem Ahw {list0 : (List Int)} {n0 : Int} {v : (List Bool)} (h : I1 list0 n0 = some v) : Ret Try.prog Sw [(slr false 1 Ab) list0, Ab n0] ((slr true 1 V.bool) v) := by
 refine Av Atc (Nat.le_of_ble_eq_true rfl) ?_
 unfold I1 at h
 refine Ask.o h fun p1 h => ?_
 refine MkQ.o V.bool (false) rfl ?_
 refine Len.map ?_
 refine LoopQ.o [12, 11, 10, 5] (Sc list0) (Aaj list0) h (fun s o h => Ama s o h) (by first | rfl | simp [restrict, look, Ad, V.fz, fzL, V.up, upL, Ae, Af, Ah, slr]) (fun _ => rfl) ?_
 rintro q6_5 h
 try dsimp only at h
 cases h; exact (by rfl)
noncomputable def Ip (have0 : List Bool) : (Int × (List Int)) → Option ((Int × (List Int)) ⊕ (List Int)) := fun (x9, x3) =>
 if x9 < (↑have0.length : Int) then
 ask ((0 : Int) ≤ x9 ∧ x9 < (↑have0.length : Int)) <|
 if (nth have0 x9.toNat) = true then
 ask ((x3).length + ([x9]).length ≤ LIM) <|
 ask (InI (x9 + (1 : Int))) <|
 some (.inl (x9 + (1 : Int), x3 ++ [x9]))
 else
 ask (InI (x9 + (1 : Int))) <|
 some (.inl (x9 + (1 : Int), x3))
 else
 some (.inr x3)
def Qb (have0 : List Bool) : (Int × (List Int)) → St := fun s => [(9, A.val (Ab s.1)), (8, A.val (Ab ((↑have0.length : Int)))), (7, A.val ((slr false 1 V.bool) (have0))), (3, A.val ((slr true 1 Ab) s.2))]
def Yo (_have0 : List Bool) : (List Int) → Tgt
 | s => ((Ex.exit 0), [3], [(3, A.val ((slr true 1 Ab) s))])
theorem Ajw {have0 : List Bool} (s : (Int × (List Int))) (o : (Int × (List Int)) ⊕ (List Int)) (h : Ip have0 s = some o) : vc Try.prog X0 (Bp [9, 8, 7, 3] (Qb have0) (Yo have0) o) (Qb have0 s) := by
 obtain ⟨x9, x3⟩ := s
 unfold Ip at h
 try dsimp only at h
 refine Br.od h (fun p1 h => ?_) (fun p1 h => ?_)
 ·refine Len.map ?_
  refine Ask.o h fun p2 h => ?_
  refine Elem.o (by first | omega | (simp [Am] at *; omega)) ?_
  refine Br.ob h (fun p3 h => ?_) (fun p3 h => ?_)
  ·refine BslQ.o Ab [x9] (by exact fun _ => ⟨rfl, rfl⟩) (by rfl) ?_
   refine NoOwn.o (fun _ => rfl) ?_
   refine AppQ.o (m := 1) Ab (by exact fun _ => ⟨rfl, rfl⟩) (x3) ([x9]) (by rfl) (by rfl) h fun h => ?_
   refine Ask.o h fun p4 h => ?_
   cases h; exact ⟨rfl, rfl⟩
  refine Ask.o h fun p5 h => ?_
  cases h; exact ⟨rfl, rfl⟩
 cases h; exact ⟨rfl, rfl⟩
noncomputable def Gm (have0 : (List Bool)) : Option (List Int) :=
 (Ai (Ip have0) ((0 : Int), Ao Int)).bind fun q6_3 =>
 some q6_3
theorem Xb {have0 : (List Bool)} {v : (List Int)} (h : Gm have0 = some v) : Ret Try.prog Mk [(slr false 1 V.bool) have0] ((slr true 1 Ab) v) := by
 refine Av Aqj (Nat.le_of_ble_eq_true rfl) ?_
 unfold Gm at h
 refine BslQ.o Ab (Ao Int) (by exact fun _ => ⟨rfl, rfl⟩) (by rfl) ?_
 refine Len.map ?_
 refine LoopQ.o [9, 8, 7, 3] (Qb have0) (Yo have0) h (fun s o h => Ajw s o h) (by first | rfl | simp [restrict, look, Ad, V.fz, fzL, V.up, upL, Ae, Af, Ah, slr]) (fun _ => rfl) ?_
 rintro q6_3 h
 try dsimp only at h
 cases h; exact (by rfl)
end Go.Proofs.Ytoikbcagaanhgaa.Ax
