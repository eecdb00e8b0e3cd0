/-
 What the functions compute, as functions on plain data, and that the program does compute it; written by program.
-/
import Derived.Test.YthagmdhmgailfaaGreatCode
import Derived.Test.YthagmdhmgailfaaGreatG1
namespace Go.Proofs.YthagmdhmgailfaaGreat.Ax
open Go
set_option maxRecDepth 100000
set_option maxHeartbeats 4000000
noncomputable def Ew (a0 : List Int) (b0 : List Int) : Int → Option (Int ⊕ (Bool ⊕ Unit)) := fun x5 =>
 if x5 < (↑a0.length : Int) then
 ask ((0 : Int) ≤ x5 ∧ x5 < (↑a0.length : Int)) <|
 ask ((0 : Int) ≤ x5 ∧ x5 < (↑b0.length : Int)) <|
 if nth a0 x5.toNat ≠ nth b0 x5.toNat then
 ask ((0 : Int) ≤ x5 ∧ x5 < (↑a0.length : Int)) <|
 ask ((0 : Int) ≤ x5 ∧ x5 < (↑b0.length : Int)) <|
 some (.inr (.inl (decide (nth a0 x5.toNat < nth b0 x5.toNat))))
 else
 ask (InI (x5 + (1 : Int))) <|
 some (.inl (x5 + (1 : Int)))
 else
 some (.inr (.inr ()))
def Nj (a0 : List Int) (b0 : List Int) : Int → St := fun s => [(5, A.val (Af s)), (0, A.val ((slr false 1 Af) (a0))), (1, A.val ((slr false 1 Af) (b0)))]
def V8 (_a0 : List Int) (_b0 : List Int) : (Bool ⊕ Unit) → Tgt
 | (.inl s) => (Ex.ret, [4], [(4, A.val (V.bool s))])
 | (.inr _s) => ((Ex.exit 0), [], [])
theorem Afq {a0 : List Int} {b0 : List Int} (x5 : Int) (o : Int ⊕ (Bool ⊕ Unit)) (h : Ew a0 b0 x5 = some o) : vc Tryz.prog Vp (Da [5, 0, 1] (Nj a0 b0) (V8 a0 b0) o) (Nj a0 b0 x5) := by
 unfold Ew at h
 try dsimp only at h
 refine Len.map <| Br.od h (fun p1 h => ?_) (fun p1 h => ?_)
 ·refine Len.map <| Ask.o h fun p2 h => Elem.o (by first | omega | (simp [Ar] at * <;> omega)) <| Len.map <| Ask.o h fun p3 h => Elem.o (by first | omega | (simp [Ar] at * <;> omega)) <| Br.on h (fun p4 h => ?_) (fun p4 h => ?_)
  ·refine Len.map <| Ask.o h fun p5 h => Elem.o (by first | omega | (simp [Ar] at * <;> omega)) <| Len.map <| Ask.o h fun p6 h => Elem.o (by first | omega | (simp [Ar] at * <;> omega)) ?_
   cases h; exact ⟨rfl, rfl⟩
  refine Ask.o h fun p7 h => ?_
  cases h; exact ⟨rfl, rfl⟩
 cases h; exact ⟨rfl, rfl⟩
noncomputable def Kj (a0 : (List Int)) (b0 : (List Int)) : Option Bool :=
 (Al (Ew a0 b0) (0 : Int)).bind fun t => match t with
 | (.inl q8_4) => (some q8_4)
 | (.inr _) => (some false)
theorem Al0 {a0 : (List Int)} {b0 : (List Int)} {v : Bool} (h : Kj a0 b0 = some v) : Ret Tryz.prog Tw [(slr false 1 Af) a0, (slr false 1 Af) b0] (V.bool v) := by
 refine Ay Aly (Nat.le_of_ble_eq_true rfl) ?_
 unfold Kj at h
 refine LoopQ.o [5, 0, 1] (Nj a0 b0) (V8 a0 b0) h (fun s o h => Afq s o h) (by rfl) (by rintro (_ | _) <;> rfl) ?_
 rintro (q8_4 | ⟨⟩) h
 ·try dsimp only at h
  cases h; exact (by rfl)
 try dsimp only at h
 cases h; exact (by rfl)
noncomputable def Et (a0 : List (List Int)) (b0 : List (List Int)) : Int → Option (Int ⊕ (Unit ⊕ Unit)) := fun x5 =>
 if x5 < (↑a0.length : Int) then
 ask ((0 : Int) ≤ x5 ∧ x5 < (↑a0.length : Int)) <|
 ask ((0 : Int) ≤ x5 ∧ x5 < (↑b0.length : Int)) <|
 (Dj (nth a0 x5.toNat) (nth b0 x5.toNat)).bind fun r5 =>
 if (r5) = true then
 ask (InI (x5 + (1 : Int))) <|
 some (.inl (x5 + (1 : Int)))
 else
 some (.inr (.inl ()))
 else
 some (.inr (.inr ()))
def Nv (a0 : List (List Int)) (b0 : List (List Int)) : Int → St := fun s => [(5, A.val (Af s)), (0, A.val ((slr false 1 (slr false 1 Af)) (a0))), (1, A.val ((slr false 1 (slr false 1 Af)) (b0)))]
def Ut (_a0 : List (List Int)) (_b0 : List (List Int)) : (Unit ⊕ Unit) → Tgt
 | (.inl _s) => (Ex.ret, [4], [(4, A.val (V.bool (false)))])
 | (.inr _s) => ((Ex.exit 0), [], [])
theorem Afi {a0 : List (List Int)} {b0 : List (List Int)} (x5 : Int) (o : Int ⊕ (Unit ⊕ Unit)) (h : Et a0 b0 x5 = some o) : vc Tryz.prog Vc (Da [5, 0, 1] (Nv a0 b0) (Ut a0 b0) o) (Nv a0 b0 x5) := by
 unfold Et at h
 try dsimp only at h
 refine Len.map <| Br.od h (fun p2 h => ?_) (fun p2 h => ?_)
 ·refine Len.map <| Ask.o h fun p3 h => Elem.o (by first | omega | (simp [Ar] at * <;> omega)) <| Len.map <| Ask.o h fun p4 h => Elem.o (by first | omega | (simp [Ar] at * <;> omega)) <| CallQ.o V.bool (by rfl) h (fun r h => L6 h) (fun r5 h => ?_)
  refine Br.flip <| Br.ob h (fun p6 h => ?_) (fun p6 h => ?_)
  ·refine Ask.o h fun p7 h => ?_
   cases h; exact ⟨rfl, rfl⟩
  cases h; exact ⟨rfl, rfl⟩
 cases h; exact ⟨rfl, rfl⟩
noncomputable def Fy (a0 : (List (List Int))) (b0 : (List (List Int))) : Option Bool :=
 if (↑a0.length : Int) ≠ (↑b0.length : Int) then
 some false
 else
 (Al (Et a0 b0) (0 : Int)).bind fun t => match t with
 | (.inl _) => (some false)
 | (.inr _) => (some true)
theorem N7 {a0 : (List (List Int))} {b0 : (List (List Int))} {v : Bool} (h : Fy a0 b0 = some v) : Ret Tryz.prog Ip [(slr false 1 (slr false 1 Af)) a0, (slr false 1 (slr false 1 Af)) b0] (V.bool v) := by
 refine Ay Alb (Nat.le_of_ble_eq_true rfl) ?_
 unfold Fy at h
 refine Len.map <| Len.map <| Br.on h (fun p1 h => ?_) (fun p1 h => ?_)
 ·cases h; exact (by rfl)
 refine LoopQ.o [5, 0, 1] (Nv a0 b0) (Ut a0 b0) h (fun s o h => Afi s o h) (by rfl) (by rintro (_ | _) <;> rfl) ?_
 rintro (⟨⟩ | ⟨⟩) h
 ·try dsimp only at h
  cases h; exact (by rfl)
 try dsimp only at h
 cases h; exact (by rfl)
noncomputable def Cy (tables0 : List (List Int)) (t0 : List Int) : Int → Option (Int ⊕ (Int ⊕ Unit)) := fun x5 =>
 if x5 < (↑tables0.length : Int) then
 ask ((0 : Int) ≤ x5 ∧ x5 < (↑tables0.length : Int)) <|
 (Dj (nth tables0 x5.toNat) (t0)).bind fun r3 =>
 if (r3) = true then
 some (.inr (.inl x5))
 else
 ask (InI (x5 + (1 : Int))) <|
 some (.inl (x5 + (1 : Int)))
 else
 some (.inr (.inr ()))
def M5 (tables0 : List (List Int)) (t0 : List Int) : Int → St := fun s => [(5, A.val (Af s)), (0, A.val ((slr false 1 (slr false 1 Af)) (tables0))), (1, A.val ((slr false 1 Af) (t0)))]
def U6 (_tables0 : List (List Int)) (_t0 : List Int) : (Int ⊕ Unit) → Tgt
 | (.inl s) => (Ex.ret, [4], [(4, A.val (Af s))])
 | (.inr _s) => ((Ex.exit 0), [], [])
theorem Ae9 {tables0 : List (List Int)} {t0 : List Int} (x5 : Int) (o : Int ⊕ (Int ⊕ Unit)) (h : Cy tables0 t0 x5 = some o) : vc Tryz.prog V5 (Da [5, 0, 1] (M5 tables0 t0) (U6 tables0 t0) o) (M5 tables0 t0 x5) := by
 unfold Cy at h
 try dsimp only at h
 refine Len.map <| Br.od h (fun p1 h => ?_) (fun p1 h => ?_)
 ·refine Len.map <| Ask.o h fun p2 h => Elem.o (by first | omega | (simp [Ar] at * <;> omega)) <| CallQ.o V.bool (by rfl) h (fun r h => L6 h) (fun r3 h => ?_)
  refine Br.ob h (fun p4 h => ?_) (fun p4 h => ?_)
  ·cases h; exact ⟨rfl, rfl⟩
  refine Ask.o h fun p5 h => ?_
  cases h; exact ⟨rfl, rfl⟩
 cases h; exact ⟨rfl, rfl⟩
noncomputable def Kx (tables0 : (List (List Int))) (t0 : (List Int)) : Option Int :=
 (Al (Cy tables0 t0) (0 : Int)).bind fun t => match t with
 | (.inl q6_4) => (some q6_4)
 | (.inr _) => (some (-1 : Int))
theorem Al9 {tables0 : (List (List Int))} {t0 : (List Int)} {v : Int} (h : Kx tables0 t0 = some v) : Ret Tryz.prog Ud [(slr false 1 (slr false 1 Af)) tables0, (slr false 1 Af) t0] (Af v) := by
 refine Ay Ak7 (Nat.le_of_ble_eq_true rfl) ?_
 unfold Kx at h
 refine LoopQ.o [5, 0, 1] (M5 tables0 t0) (U6 tables0 t0) h (fun s o h => Ae9 s o h) (by rfl) (by rintro (_ | _) <;> rfl) ?_
 rintro (q6_4 | ⟨⟩) h
 ·try dsimp only at h
  cases h; exact (by rfl)
 try dsimp only at h
 cases h; exact (by rfl)
noncomputable def Es (rows0 : List (List Int)) (beyond0 : List Int → List Int → Option Bool) (x14 : Int) (_x5 : List (List Int)) : (Int × Bool) → Option ((Int × Bool) ⊕ Bool) := fun (x21, x8) =>
 if x21 < (↑rows0.length : Int) then
 ask ((0 : Int) ≤ x21 ∧ x21 < (↑rows0.length : Int)) <|
 if x21 ≠ x14 then
 (beyond0 (nth rows0 x14.toNat) (nth rows0 x21.toNat)).bind fun r6 =>
 if (r6) = true then
 ask (InI (x21 + (1 : Int))) <|
 some (.inl (x21 + (1 : Int), false))
 else
 ask (InI (x21 + (1 : Int))) <|
 some (.inl (x21 + (1 : Int), x8))
 else
 ask (InI (x21 + (1 : Int))) <|
 some (.inl (x21 + (1 : Int), x8))
 else
 some (.inr x8)
def Lg (rows0 : List (List Int)) (f_beyond0 : Nat) (c_beyond0 : List V) (x14 : Int) (x5 : List (List Int)) : (Int × Bool) → St := fun s => [(21, A.val (Af s.1)), (20, A.val (Af ((↑rows0.length : Int)))), (19, A.val ((slr false 1 (slr false 1 Af)) (rows0))), (8, A.val (V.bool s.2)), (7, A.val ((slr false 1 Af) (nth rows0 x14.toNat))), (6, A.val (Af (x14))), (14, A.val (Af (x14))), (13, A.val (Af ((↑rows0.length : Int)))), (12, A.val ((slr false 1 (slr false 1 Af)) (rows0))), (5, A.val ((slr true 1 (slr true 1 Af)) (x5))), (0, A.val ((slr false 1 (slr false 1 Af)) (rows0))), (1, A.val (V.fclo f_beyond0 c_beyond0))]
def Q4 (rows0 : List (List Int)) (f_beyond0 : Nat) (c_beyond0 : List V) (x14 : Int) (x5 : List (List Int)) : Bool → Tgt
 | s => ((Ex.exit 2), [8, 7, 14, 13, 12, 5, 0, 1], [(8, A.val (V.bool s)), (7, A.val ((slr false 1 Af) (nth rows0 x14.toNat))), (14, A.val (Af (x14))), (13, A.val (Af ((↑rows0.length : Int)))), (12, A.val ((slr false 1 (slr false 1 Af)) (rows0))), (5, A.val ((slr true 1 (slr true 1 Af)) (x5))), (0, A.val ((slr false 1 (slr false 1 Af)) (rows0))), (1, A.val (V.fclo f_beyond0 c_beyond0))])
theorem Ab8 {rows0 : List (List Int)} {beyond0 : List Int → List Int → Option Bool} {x14 : Int} {x5 : List (List Int)} {f_beyond0 : Nat} {c_beyond0 : List V} (h_beyond0 : ∀ w_0 w_1 v, beyond0 w_0 w_1 = some v → Ret Tryz.prog f_beyond0 ([(slr false 1 Af) w_0, (slr false 1 Af) w_1] ++ fzL c_beyond0) (V.bool v)) (s : (Int × Bool)) (o : (Int × Bool) ⊕ Bool) (h : Es rows0 beyond0 x14 x5 s = some o) : vc Tryz.prog Rl (Da [21, 20, 19, 8, 7, 6, 14, 13, 12, 5, 0, 1] (Lg rows0 f_beyond0 c_beyond0 x14 x5) (Q4 rows0 f_beyond0 c_beyond0 x14 x5) o) (Lg rows0 f_beyond0 c_beyond0 x14 x5 s) := by
 obtain ⟨x21, x8⟩ := s
 unfold Es at h
 try dsimp only at h
 refine Br.od h (fun p3 h => ?_) (fun p3 h => ?_)
 ·refine Len.map <| Ask.o h fun p4 h => Elem.o (by first | omega | (simp [Ar] at * <;> omega)) <| Br.on h (fun p5 h => ?_) (fun p5 h => ?_)
  ·refine Br.yes <| Br.yes <| Br.yes <| CloQ.o V.bool (by rfl) (fun _ => by first | rfl | simp [H5, V.noFz, Ca, B6, NoFz.eq]) h (fun r h => h_beyond0 _ _ _ h) (fun r6 h => ?_)
   refine Br.yes <| Br.ob h (fun p7 h => ?_) (fun p7 h => ?_)
   ·refine Ask.o h fun p8 h => ?_
    cases h; exact ⟨rfl, rfl⟩
   refine Ask.o h fun p9 h => ?_
   cases h; exact ⟨rfl, rfl⟩
  refine Br.no <| Br.no <| Br.no <| Br.no <| Br.no <| Ask.o h fun p10 h => ?_
  cases h; exact ⟨rfl, rfl⟩
 cases h; exact ⟨rfl, rfl⟩
noncomputable def Er (rows0 : List (List Int)) (beyond0 : List Int → List Int → Option Bool) : (Int × (List (List Int))) → Option ((Int × (List (List Int))) ⊕ (List (List Int))) := fun (x14, x5) =>
 if x14 < (↑rows0.length : Int) then
 ask ((0 : Int) ≤ x14 ∧ x14 < (↑rows0.length : Int)) <|
 (Al (Es rows0 beyond0 x14 x5) ((0 : Int), true)).bind fun q11_8 =>
 if (q11_8) = true then
 (G1 (nth rows0 x14.toNat)).bind fun r13 =>
 ask ((x5).length + ([r13]).length ≤ LIM) <|
 ask (InI (x14 + (1 : Int))) <|
 some (.inl (x14 + (1 : Int), x5 ++ [r13]))
 else
 ask (InI (x14 + (1 : Int))) <|
 some (.inl (x14 + (1 : Int), x5))
 else
 some (.inr x5)
def Li (rows0 : List (List Int)) (f_beyond0 : Nat) (c_beyond0 : List V) : (Int × (List (List Int))) → St := fun s => [(14, A.val (Af s.1)), (13, A.val (Af ((↑rows0.length : Int)))), (12, A.val ((slr false 1 (slr false 1 Af)) (rows0))), (5, A.val ((slr true 1 (slr true 1 Af)) s.2)), (0, A.val ((slr false 1 (slr false 1 Af)) (rows0))), (1, A.val (V.fclo f_beyond0 c_beyond0))]
def Rn (_rows0 : List (List Int)) (_f_beyond0 : Nat) (_c_beyond0 : List V) : (List (List Int)) → Tgt
 | s => ((Ex.exit 0), [5], [(5, A.val ((slr true 1 (slr true 1 Af)) s))])
theorem Abo {rows0 : List (List Int)} {beyond0 : List Int → List Int → Option Bool} {f_beyond0 : Nat} {c_beyond0 : List V} (h_beyond0 : ∀ w_0 w_1 v, beyond0 w_0 w_1 = some v → Ret Tryz.prog f_beyond0 ([(slr false 1 Af) w_0, (slr false 1 Af) w_1] ++ fzL c_beyond0) (V.bool v)) (s : (Int × (List (List Int)))) (o : (Int × (List (List Int))) ⊕ (List (List Int))) (h : Er rows0 beyond0 s = some o) : vc Tryz.prog Q8 (Da [14, 13, 12, 5, 0, 1] (Li rows0 f_beyond0 c_beyond0) (Rn rows0 f_beyond0 c_beyond0) o) (Li rows0 f_beyond0 c_beyond0 s) := by
 obtain ⟨x14, x5⟩ := s
 unfold Er at h
 try dsimp only at h
 refine Br.od h (fun p1 h => ?_) (fun p1 h => ?_)
 ·refine Len.map <| Ask.o h fun p2 h => Elem.o (by first | omega | (simp [Ar] at * <;> omega)) <| Len.map <| LoopQ.o [21, 20, 19, 8, 7, 6, 14, 13, 12, 5, 0, 1] (Lg rows0 f_beyond0 c_beyond0 x14 x5) (Q4 rows0 f_beyond0 c_beyond0 x14 x5) h (fun s o h => Ab8 h_beyond0 s o h) (by rfl) (fun _ => rfl) ?_
  rintro q11_8 h
  try dsimp only at h
  refine Br.ob h (fun p12 h => ?_) (fun p12 h => ?_)
  ·refine CallQ.o (slr true 1 Af) (by rfl) h (fun r h => Wu h) (fun r13 h => ?_)
   refine BslQ.o (slr true 1 Af) [r13] (by exact fun _ => ⟨rfl, rfl⟩) (by rfl) <| NoOwn.own rfl <| AppQ.o (m := 1) (slr true 1 Af) (by exact fun _ => ⟨rfl, rfl⟩) (x5) ([r13]) (by rfl) (by rfl) h fun h => Ask.o h fun p14 h => ?_
   cases h; exact ⟨rfl, rfl⟩
  refine Ask.o h fun p15 h => ?_
  cases h; exact ⟨rfl, rfl⟩
 cases h; exact ⟨rfl, rfl⟩
noncomputable def Eb (rows0 : (List (List Int))) (beyond0 : ((List Int) → (List Int) → Option Bool)) : Option (List (List Int)) :=
 (Al (Er rows0 beyond0) ((0 : Int), Aq (List Int))).bind fun q16_5 =>
 some q16_5
theorem O9 {rows0 : (List (List Int))} {beyond0 : ((List Int) → (List Int) → Option Bool)} {f_beyond0 : Nat} {c_beyond0 : List V} (h_beyond0 : ∀ w_0 w_1 v, beyond0 w_0 w_1 = some v → Ret Tryz.prog f_beyond0 ([(slr false 1 Af) w_0, (slr false 1 Af) w_1] ++ fzL c_beyond0) (V.bool v)) {v : (List (List Int))} (h : Eb rows0 beyond0 = some v) : Ret Tryz.prog Il [(slr false 1 (slr false 1 Af)) rows0, V.fclo f_beyond0 c_beyond0] ((slr true 1 (slr true 1 Af)) v) := by
 refine Ay Ahi (Nat.le_of_ble_eq_true rfl) ?_
 unfold Eb at h
 refine BslQ.o (slr true 1 Af) (Aq (List Int)) (by exact fun _ => ⟨rfl, rfl⟩) (by rfl) <| Len.map <| LoopQ.o [14, 13, 12, 5, 0, 1] (Li rows0 f_beyond0 c_beyond0) (Rn rows0 f_beyond0 c_beyond0) h (fun s o h => Abo h_beyond0 s o h) (by rfl) (fun _ => rfl) ?_
 rintro q16_5 h
 try dsimp only at h
 cases h; exact (by rfl)
noncomputable def Cj (row0 : (List Int)) (other0 : (List Int)) : Option Bool :=
 (Gv (other0) (row0)).bind fun r1 =>
 some r1
theorem P5 {row0 : (List Int)} {other0 : (List Int)} {v : Bool} (h : Cj row0 other0 = some v) : Ret Tryz.prog Dz [(slr false 1 Af) row0, (slr false 1 Af) other0] (V.bool v) := by
 refine Ay P7 (Nat.le_of_ble_eq_true rfl) ?_
 unfold Cj at h
 refine CallQ.o V.bool (by rfl) h (fun r h => Qh h) (fun r1 h => ?_)
 cases h; exact (by rfl)
noncomputable def F9 (all0 : List (List Int)) (p0 : List Int) (x6 : Int) (_x5 : List (List Int)) : (Int × Bool) → Option ((Int × Bool) ⊕ Bool) := fun (x8, x7) =>
 ((if x8 < (↑all0.length : Int) then
 if (x7) = true then
 some (.inl ())
 else
 some (.inr ())
 else
 some (.inr ()) : Option (Unit ⊕ Unit))).bind fun t => match t with
 | (.inl _) => (ask ((0 : Int) ≤ x8 ∧ x8 < (↑all0.length : Int)) <|
 (Gg (p0) (nth all0 x8.toNat)).bind fun r12 =>
 if (r12) = true then
 ask ((0 : Int) ≤ x8 ∧ x8 < (↑all0.length : Int)) <|
 ask ((0 : Int) ≤ x6 ∧ x6 < (↑all0.length : Int)) <|
 (Gg (nth all0 x8.toNat) (nth all0 x6.toNat)).bind fun r16 =>
 if (r16) = true then
 ask ((0 : Int) ≤ x8 ∧ x8 < (↑all0.length : Int)) <|
 (Dc (nth all0 x8.toNat) (p0)).bind fun r19 =>
 if (r19) = true then
 ask (InI (x8 + (1 : Int))) <|
 some (.inl (x8 + (1 : Int), x7))
 else
 ask ((0 : Int) ≤ x8 ∧ x8 < (↑all0.length : Int)) <|
 ask ((0 : Int) ≤ x6 ∧ x6 < (↑all0.length : Int)) <|
 (Dc (nth all0 x8.toNat) (nth all0 x6.toNat)).bind fun r24 =>
 if (r24) = true then
 ask (InI (x8 + (1 : Int))) <|
 some (.inl (x8 + (1 : Int), x7))
 else
 ask (InI (x8 + (1 : Int))) <|
 some (.inl (x8 + (1 : Int), false))
 else
 ask (InI (x8 + (1 : Int))) <|
 some (.inl (x8 + (1 : Int), x7))
 else
 ask (InI (x8 + (1 : Int))) <|
 some (.inl (x8 + (1 : Int), x7)))
 | (.inr _) => (some (.inr x7))
def K7 (all0 : List (List Int)) (p0 : List Int) (x6 : Int) (x5 : List (List Int)) : (Int × Bool) → St := fun s => [(8, A.val (Af s.1)), (7, A.val (V.bool s.2)), (6, A.val (Af (x6))), (5, A.val ((slr true 1 (slr false 1 Af)) (x5))), (0, A.val ((slr false 1 (slr false 1 Af)) (all0))), (1, A.val ((slr false 1 Af) (p0)))]
def Q3 (all0 : List (List Int)) (p0 : List Int) (x6 : Int) (x5 : List (List Int)) : Bool → Tgt
 | s => ((Ex.exit 2), [7, 6, 5, 0, 1], [(7, A.val (V.bool s)), (6, A.val (Af (x6))), (5, A.val ((slr true 1 (slr false 1 Af)) (x5))), (0, A.val ((slr false 1 (slr false 1 Af)) (all0))), (1, A.val ((slr false 1 Af) (p0)))])
theorem Aco {all0 : List (List Int)} {p0 : List Int} {x6 : Int} {x5 : List (List Int)} (s : (Int × Bool)) (o : (Int × Bool) ⊕ Bool) (h : F9 all0 p0 x6 x5 s = some o) : vc Tryz.prog Qv (Da [8, 7, 6, 5, 0, 1] (K7 all0 p0 x6 x5) (Q3 all0 p0 x6 x5) o) (K7 all0 p0 x6 x5 s) := by
 obtain ⟨x8, x7⟩ := s
 unfold F9 at h
 try dsimp only at h
 refine CutQ.o (fun t : (Unit ⊕ Unit) => match t with | (.inl s) => (Ex.normal, [8, 7, 6, 5, 0, 1], [(8, A.val (Af (x8))), (7, A.val (V.bool (x7))), (6, A.val (Af (x6))), (5, A.val ((slr true 1 (slr false 1 Af)) (x5))), (0, A.val ((slr false 1 (slr false 1 Af)) (all0))), (1, A.val ((slr false 1 Af) (p0)))]) | (.inr s) => ((Ex.exit 2), [7, 6, 5, 0, 1], [(7, A.val (V.bool (x7))), (6, A.val (Af (x6))), (5, A.val ((slr true 1 (slr false 1 Af)) (x5))), (0, A.val ((slr false 1 (slr false 1 Af)) (all0))), (1, A.val ((slr false 1 Af) (p0)))])) h ?_ ?_
 ·intro t h
  refine Len.map <| Br.od h (fun p8 h => ?_) (fun p8 h => ?_)
  ·refine Br.yes <| Br.ob h (fun p9 h => ?_) (fun p9 h => ?_)
   ·cases h; exact ⟨rfl, rfl⟩
   cases h; exact ⟨rfl, rfl⟩
  refine Br.no <| Br.no ?_
  cases h; exact ⟨rfl, rfl⟩
 rintro (⟨⟩ | ⟨⟩) h
 ·try dsimp only at h
  refine Len.map <| Ask.o h fun p11 h => Elem.o (by first | omega | (simp [Ar] at * <;> omega)) <| CallP.o V.bool (by rfl) h (fun r h => Re h) (fun r12 h => ?_)
  refine Br.ob h (fun p13 h => ?_) (fun p13 h => ?_)
  ·refine Br.yes <| Br.yes <| Len.map <| Ask.o h fun p14 h => Elem.o (by first | omega | (simp [Ar] at * <;> omega)) <| Br.yes <| Br.yes <| Br.yes <| Br.yes <| Len.map <| Ask.o h fun p15 h => Elem.o (by first | omega | (simp [Ar] at * <;> omega)) <| Br.yes <| Br.yes <| CallP.o V.bool (by rfl) h (fun r h => Re h) (fun r16 h => ?_)
   refine Br.yes <| Br.ob h (fun p17 h => ?_) (fun p17 h => ?_)
   ·refine Br.yes <| Br.yes <| Len.map <| Ask.o h fun p18 h => Elem.o (by first | omega | (simp [Ar] at * <;> omega)) <| Br.yes <| Br.yes <| Br.yes <| CallP.o V.bool (by rfl) h (fun r h => Iq h) (fun r19 h => ?_)
    refine Br.yes <| Br.yes <| Br.flip <| Br.ob h (fun p20 h => ?_) (fun p20 h => ?_)
    ·refine Br.no <| Br.no <| Br.no <| Br.no <| Br.no <| Br.no <| Br.no <| Br.no <| Br.no <| Br.no <| Br.no <| Ask.o h fun p21 h => ?_
     cases h; exact ⟨rfl, rfl⟩
    refine Br.yes <| Br.yes <| Len.map <| Ask.o h fun p22 h => Elem.o (by first | omega | (simp [Ar] at * <;> omega)) <| Br.yes <| Br.yes <| Br.yes <| Br.yes <| Len.map <| Ask.o h fun p23 h => Elem.o (by first | omega | (simp [Ar] at * <;> omega)) <| Br.yes <| Br.yes <| CallQ.o V.bool (by rfl) h (fun r h => Iq h) (fun r24 h => ?_)
    refine Br.yes <| Br.yes <| Br.flip <| Br.ob h (fun p25 h => ?_) (fun p25 h => ?_)
    ·refine Ask.o h fun p26 h => ?_
     cases h; exact ⟨rfl, rfl⟩
    refine Ask.o h fun p27 h => ?_
    cases h; exact ⟨rfl, rfl⟩
   refine Br.no <| Br.no <| Br.no <| Br.no <| Br.no <| Br.no <| Br.no <| Br.no <| Br.no <| Br.no <| Br.no <| Br.no <| Br.no <| Br.no <| Br.no <| Br.no <| Br.no <| Br.no <| Br.no <| Ask.o h fun p28 h => ?_
   cases h; exact ⟨rfl, rfl⟩
  refine Br.no <| Br.no <| Br.no <| Br.no <| Br.no <| Br.no <| Br.no <| Br.no <| Br.no <| Br.no <| Br.no <| Br.no <| Br.no <| Br.no <| Br.no <| Br.no <| Br.no <| Br.no <| Br.no <| Br.no <| Br.no <| Br.no <| Br.no <| Br.no <| Br.no <| Br.no <| Br.no <| Br.no <| Br.no <| Ask.o h fun p29 h => ?_
  cases h; exact ⟨rfl, rfl⟩
 try dsimp only at h
 cases h; exact ⟨rfl, rfl⟩
noncomputable def E0 (all0 : List (List Int)) (p0 : List Int) : (Int × (List (List Int))) → Option ((Int × (List (List Int))) ⊕ (List (List Int))) := fun (x6, x5) =>
 if x6 < (↑all0.length : Int) then
 ((ask ((0 : Int) ≤ x6 ∧ x6 < (↑all0.length : Int)) <|
 (Gg (p0) (nth all0 x6.toNat)).bind fun r3 =>
 if (r3) = true then
 ask ((0 : Int) ≤ x6 ∧ x6 < (↑all0.length : Int)) <|
 (Dc (p0) (nth all0 x6.toNat)).bind fun r6 =>
 some !r6
 else
 some false : Option Bool)).bind fun q7_7 =>
 (Al (F9 all0 p0 x6 x5) ((0 : Int), q7_7)).bind fun q30_7 =>
 if (q30_7) = true then
 ask ((0 : Int) ≤ x6 ∧ x6 < (↑all0.length : Int)) <|
 ask ((x5).length + ([nth all0 x6.toNat]).length ≤ LIM) <|
 ask (InI (x6 + (1 : Int))) <|
 some (.inl (x6 + (1 : Int), x5 ++ [nth all0 x6.toNat]))
 else
 ask (InI (x6 + (1 : Int))) <|
 some (.inl (x6 + (1 : Int), x5))
 else
 some (.inr x5)
def Lk (all0 : List (List Int)) (p0 : List Int) : (Int × (List (List Int))) → St := fun s => [(6, A.val (Af s.1)), (5, A.val ((slr true 1 (slr false 1 Af)) s.2)), (0, A.val ((slr false 1 (slr false 1 Af)) (all0))), (1, A.val ((slr false 1 Af) (p0)))]
def Ri (_all0 : List (List Int)) (_p0 : List Int) : (List (List Int)) → Tgt
 | s => ((Ex.exit 0), [5], [(5, A.val ((slr true 1 (slr false 1 Af)) s))])
theorem Abx {all0 : List (List Int)} {p0 : List Int} (s : (Int × (List (List Int)))) (o : (Int × (List (List Int))) ⊕ (List (List Int))) (h : E0 all0 p0 s = some o) : vc Tryz.prog Qu (Da [6, 5, 0, 1] (Lk all0 p0) (Ri all0 p0) o) (Lk all0 p0 s) := by
 obtain ⟨x6, x5⟩ := s
 unfold E0 at h
 try dsimp only at h
 refine Len.map <| Br.od h (fun p1 h => ?_) (fun p1 h => ?_)
 ·refine CutQ.o (fun t : Bool => match t with | s => (Ex.normal, [7, 6, 5, 0, 1], [(7, A.val (V.bool s)), (6, A.val (Af (x6))), (5, A.val ((slr true 1 (slr false 1 Af)) (x5))), (0, A.val ((slr false 1 (slr false 1 Af)) (all0))), (1, A.val ((slr false 1 Af) (p0)))])) h ?_ ?_
  ·intro t h
   refine Len.map <| Ask.o h fun p2 h => Elem.o (by first | omega | (simp [Ar] at * <;> omega)) <| CallQ.o V.bool (by rfl) h (fun r h => Re h) (fun r3 h => ?_)
   refine Br.ob h (fun p4 h => ?_) (fun p4 h => ?_)
   ·refine Br.yes <| Br.yes <| Br.yes <| Len.map <| Ask.o h fun p5 h => Elem.o (by first | omega | (simp [Ar] at * <;> omega)) <| Br.yes <| Br.yes <| CallQ.o V.bool (by rfl) h (fun r h => Iq h) (fun r6 h => ?_)
    refine Br.yes <| Br.yes ?_
    cases h; exact ⟨rfl, rfl⟩
   refine Br.no <| Br.no <| Br.no <| Br.no <| Br.no <| Br.no <| Br.no ?_
   cases h; exact ⟨rfl, rfl⟩
  rintro q7_7 h
  try dsimp only at h
  refine LoopQ.o [8, 7, 6, 5, 0, 1] (K7 all0 p0 x6 x5) (Q3 all0 p0 x6 x5) h (fun s o h => Aco s o h) (by rfl) (fun _ => rfl) ?_
  rintro q30_7 h
  try dsimp only at h
  refine Br.ob h (fun p31 h => ?_) (fun p31 h => ?_)
  ·refine Len.map <| Ask.o h fun p32 h => Elem.o (by first | omega | (simp [Ar] at * <;> omega)) <| BslQ.o (slr false 1 Af) ([nth all0 x6.toNat]) (by exact fun _ => ⟨rfl, rfl⟩) (by rfl) <| NoOwn.o (fun _ => rfl) <| AppQ.o (m := 1) (slr false 1 Af) (by exact fun _ => ⟨rfl, rfl⟩) (x5) ([nth all0 x6.toNat]) (by rfl) (by rfl) h fun h => Ask.o h fun p33 h => ?_
   cases h; exact ⟨rfl, rfl⟩
  refine Ask.o h fun p34 h => ?_
  cases h; exact ⟨rfl, rfl⟩
 cases h; exact ⟨rfl, rfl⟩
noncomputable def Fj (all0 : (List (List Int))) (p0 : (List Int)) : Option (List (List Int)) :=
 (Al (E0 all0 p0) ((0 : Int), Aq (List Int))).bind fun q35_5 =>
 some q35_5
theorem Pc {all0 : (List (List Int))} {p0 : (List Int)} {v : (List (List Int))} (h : Fj all0 p0 = some v) : Ret Tryz.prog Im [(slr false 1 (slr false 1 Af)) all0, (slr false 1 Af) p0] ((slr true 1 (slr false 1 Af)) v) := by
 refine Ay Ag7 (Nat.le_of_ble_eq_true rfl) ?_
 unfold Fj at h
 refine BslQ.o (slr true 1 Af) (Aq (List Int)) (by exact fun _ => ⟨rfl, rfl⟩) (by rfl) <| LoopQ.o [6, 5, 0, 1] (Lk all0 p0) (Ri all0 p0) h (fun s o h => Abx s o h) (by rfl) (fun _ => rfl) ?_
 rintro q35_5 h
 try dsimp only at h
 cases h; exact (by rfl)
noncomputable def G0 (n0 : Int) (p0 : (List Int)) (q0 : (List Int)) : Option Bool :=
 (N0 (n0)).bind fun r1 =>
 if (r1) = true then
 (Dn (n0) (p0)).bind fun r3 =>
 if (r3) = true then
 (Dn (n0) (q0)).bind fun r5 =>
 some r5
 else
 some false
 else
 some false
theorem Zg {n0 : Int} {p0 : (List Int)} {q0 : (List Int)} {v : Bool} (h : G0 n0 p0 q0 = some v) : Ret Tryz.prog Jj [Af n0, (slr false 1 Af) p0, (slr false 1 Af) q0] (V.bool v) := by
 refine Ay Zk (Nat.le_of_ble_eq_true rfl) ?_
 unfold G0 at h
 refine CallQ.o V.bool (by rfl) h (fun r h => Alw h) (fun r1 h => ?_)
 refine Br.ob h (fun p2 h => ?_) (fun p2 h => ?_)
 ·refine Br.yes <| Br.yes <| CallQ.o V.bool (by rfl) h (fun r h => K8 h) (fun r3 h => ?_)
  refine Br.yes <| Br.ob h (fun p4 h => ?_) (fun p4 h => ?_)
  ·refine Br.yes <| Br.yes <| CallQ.o V.bool (by rfl) h (fun r h => K8 h) (fun r5 h => ?_)
   refine Br.yes ?_
   cases h; exact (by rfl)
  refine Br.no <| Br.no <| Br.no ?_
  cases h; exact (by rfl)
 refine Br.no <| Br.no <| Br.no <| Br.no <| Br.no <| Br.no <| Br.no ?_
 cases h; exact (by rfl)
end Go.Proofs.YthagmdhmgailfaaGreat.Ax
