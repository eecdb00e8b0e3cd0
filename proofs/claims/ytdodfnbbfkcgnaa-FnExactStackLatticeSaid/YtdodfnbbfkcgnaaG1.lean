/-
  What the functions compute, as functions on plain data, and that the program does compute it; written by program.
-/
import Derived.Test.YtdodfnbbfkcgnaaCode
namespace Go.Proofs.Ytdodfnbbfkcgnaa.Ax
open Go
set_option maxRecDepth 100000
set_option maxHeartbeats 4000000

noncomputable def F_laws_toIntS_l1 (a0 : List Int) : (Int × (List Int)) → Option ((Int × (List Int)) ⊕ (List Int)) := fun (x4, x3) =>
   if x4 < (↑a0.length : Int) then
    ask ((0 : Int) ≤ x4 ∧ x4 < (↑a0.length : Int)) <|
    ask ((0 : Int) ≤ x4 ∧ x4 < (↑x3.length : Int)) <|
    ask (InI (x4 + (1 : Int))) <|
    some (.inl (x4 + (1 : Int), x3.set x4.toNat (nth a0 x4.toNat)))
   else
    some (.inr x3)
def S_laws_toIntS_l1 (a0 : List Int) : (Int × (List Int)) → St := fun s => [(4, A.val (vint s.1)), (3, A.val ((slr true 1 vint) s.2)), (0, A.val ((slr false 1 vint) (a0)))]
def T_laws_toIntS_l1 (_a0 : List Int) : (List Int) → Tgt
  | s => ((Ex.exit 0), [3], [(3, A.val ((slr true 1 vint) s))])
theorem b_laws_toIntS_l1 {a0 : List Int} (s : (Int × (List Int))) (o : (Int × (List Int)) ⊕ (List Int)) (h : F_laws_toIntS_l1 a0 s = some o) : vc Try.prog c_laws_toIntS_l1 (outQ [4, 3, 0] (S_laws_toIntS_l1 a0) (T_laws_toIntS_l1 a0) o) (S_laws_toIntS_l1 a0 s) := by
  obtain ⟨x4, x3⟩ := s
  unfold F_laws_toIntS_l1 at h
  try dsimp only at h
  conv => whnf
  refine Len.map ?_
  conv => whnf
  refine Br.od h (fun p2 h => ?_) (fun p2 h => ?_)
  · conv => whnf
    refine Len.map ?_
    conv => whnf
    refine Ask.o h fun p3 h => ?_
    conv => whnf
    refine Elem.o (by first | omega | (simp only [mulN] at *; omega) | (simp [mulN] at *; omega)) ?_
    conv => whnf
    refine Len.map ?_
    conv => whnf
    refine Ask.o h fun p4 h => ?_
    conv => whnf
    refine SetKids.one (fun _ => ⟨rfl, rfl⟩) (nth a0 x4.toNat) (by first | rfl | simp only [mulN_one, V.fz, fzL, V.up, upL, fzL_map, fz_slr, fz_at, slr, List.cons_append, List.nil_append] | simp [mulN_one, V.fz, fzL, V.up, upL, fzL_map, fz_slr, fz_at, slr]) (by first | omega | (simp only [mulN] at *; omega) | (simp [mulN] at *; omega)) ?_
    conv => whnf
    refine Ask.o h fun p5 h => ?_
    conv => whnf
    cases h; exact ⟨rfl, rfl⟩
  · conv => whnf
    cases h; exact ⟨rfl, rfl⟩

noncomputable def F_laws_toIntS (a0 : (List Int)) : Option (List Int) :=
  ask ((0 : Int) ≤ (↑a0.length : Int) ∧ (↑a0.length : Int) ≤ (↑LIM : Int)) <|
  (loopO (F_laws_toIntS_l1 a0) ((0 : Int), List.replicate (↑a0.length : Int).toNat (0 : Int))).bind fun q6_3 =>
  some q6_3
theorem t_laws_toIntS {a0 : (List Int)} {v : (List Int)} (h : F_laws_toIntS a0 = some v) : Ret Try.prog f_laws_toIntS [(slr false 1 vint) a0] ((slr true 1 vint) v) := by
  refine ret_vc k_laws_toIntS (Nat.le_of_ble_eq_true rfl) ?_
  unfold F_laws_toIntS at h
  conv => whnf
  refine Len.map ?_
  conv => whnf
  refine Ask.o h fun p1 h => ?_
  conv => whnf
  refine MkQ.o vint ((0 : Int)) rfl ?_
  conv => whnf
  refine LoopQ.o [4, 3, 0] (S_laws_toIntS_l1 a0) (T_laws_toIntS_l1 a0) h (fun s o h => b_laws_toIntS_l1 s o h) (by first | rfl | simp [restrict, look, mulN_one, V.fz, fzL, V.up, upL, fzL_map, fz_slr, fz_at, slr]) (fun _ => rfl) ?_
  rintro q6_3 h
  try dsimp only at h
  conv => whnf
  cases h; exact (by first | rfl | simp only [resV, mulN_one, V.fz, fzL, V.up, upL, fzL_map, fz_slr, fz_at, slr] | simp [resV, mulN_one, V.fz, fzL, V.up, upL, fzL_map, fz_slr, fz_at, slr])

noncomputable def F_laws_eqIntS_l1 (a0 : List Int) (b0 : List Int) : Int → Option (Int ⊕ (Unit ⊕ Unit)) := fun x5 =>
   if x5 < (↑a0.length : Int) then
    ask ((0 : Int) ≤ x5 ∧ x5 < (↑a0.length : Int)) <|
    ask ((0 : Int) ≤ x5 ∧ x5 < (↑b0.length : Int)) <|
    if nth a0 x5.toNat ≠ nth b0 x5.toNat then
     some (.inr (.inl ()))
    else
     ask (InI (x5 + (1 : Int))) <|
     some (.inl (x5 + (1 : Int)))
   else
    some (.inr (.inr ()))
def S_laws_eqIntS_l1 (a0 : List Int) (b0 : List Int) : Int → St := fun s => [(5, A.val (vint s)), (0, A.val ((slr false 1 vint) (a0))), (1, A.val ((slr false 1 vint) (b0)))]
def T_laws_eqIntS_l1 (_a0 : List Int) (_b0 : List Int) : (Unit ⊕ Unit) → Tgt
  | (.inl _s) => (Ex.ret, [4], [(4, A.val (V.bool (false)))])
  | (.inr _s) => ((Ex.exit 0), [], [])
theorem b_laws_eqIntS_l1 {a0 : List Int} {b0 : List Int} (x5 : Int) (o : Int ⊕ (Unit ⊕ Unit)) (h : F_laws_eqIntS_l1 a0 b0 x5 = some o) : vc Try.prog c_laws_eqIntS_l1 (outQ [5, 0, 1] (S_laws_eqIntS_l1 a0 b0) (T_laws_eqIntS_l1 a0 b0) o) (S_laws_eqIntS_l1 a0 b0 x5) := by
  unfold F_laws_eqIntS_l1 at h
  try dsimp only at h
  conv => whnf
  refine Len.map ?_
  conv => whnf
  refine Br.od h (fun p2 h => ?_) (fun p2 h => ?_)
  · conv => whnf
    refine Len.map ?_
    conv => whnf
    refine Ask.o h fun p3 h => ?_
    conv => whnf
    refine Elem.o (by first | omega | (simp only [mulN] at *; omega) | (simp [mulN] at *; omega)) ?_
    conv => whnf
    refine Len.map ?_
    conv => whnf
    refine Ask.o h fun p4 h => ?_
    conv => whnf
    refine Elem.o (by first | omega | (simp only [mulN] at *; omega) | (simp [mulN] at *; omega)) ?_
    conv => whnf
    refine Br.on h (fun p5 h => ?_) (fun p5 h => ?_)
    · conv => whnf
      cases h; exact ⟨rfl, rfl⟩
    · conv => whnf
      refine Ask.o h fun p6 h => ?_
      conv => whnf
      cases h; exact ⟨rfl, rfl⟩
  · conv => whnf
    cases h; exact ⟨rfl, rfl⟩

noncomputable def F_laws_eqIntS (a0 : (List Int)) (b0 : (List Int)) : Option Bool :=
  if (↑a0.length : Int) ≠ (↑b0.length : Int) then
   some false
  else
   (loopO (F_laws_eqIntS_l1 a0 b0) (0 : Int)).bind fun t => match t with
   | (.inl _) => (some false)
   | (.inr _) => (some true)
theorem t_laws_eqIntS {a0 : (List Int)} {b0 : (List Int)} {v : Bool} (h : F_laws_eqIntS a0 b0 = some v) : Ret Try.prog f_laws_eqIntS [(slr false 1 vint) a0, (slr false 1 vint) b0] (V.bool v) := by
  refine ret_vc k_laws_eqIntS (Nat.le_of_ble_eq_true rfl) ?_
  unfold F_laws_eqIntS at h
  conv => whnf
  refine Len.map ?_
  conv => whnf
  refine Len.map ?_
  conv => whnf
  refine Br.on h (fun p1 h => ?_) (fun p1 h => ?_)
  · conv => whnf
    cases h; exact (by first | rfl | simp only [resV, mulN_one, V.fz, fzL, V.up, upL, fzL_map, fz_slr, fz_at, slr] | simp [resV, mulN_one, V.fz, fzL, V.up, upL, fzL_map, fz_slr, fz_at, slr])
  · conv => whnf
    refine LoopQ.o [5, 0, 1] (S_laws_eqIntS_l1 a0 b0) (T_laws_eqIntS_l1 a0 b0) h (fun s o h => b_laws_eqIntS_l1 s o h) (by first | rfl | simp [restrict, look, mulN_one, V.fz, fzL, V.up, upL, fzL_map, fz_slr, fz_at, slr]) (by rintro (_ | _) <;> rfl) ?_
    rintro (⟨⟩ | ⟨⟩) h
    · try dsimp only at h
      conv => whnf
      cases h; exact (by first | rfl | simp only [resV, mulN_one, V.fz, fzL, V.up, upL, fzL_map, fz_slr, fz_at, slr] | simp [resV, mulN_one, V.fz, fzL, V.up, upL, fzL_map, fz_slr, fz_at, slr])
    · try dsimp only at h
      conv => whnf
      cases h; exact (by first | rfl | simp only [resV, mulN_one, V.fz, fzL, V.up, upL, fzL_map, fz_slr, fz_at, slr] | simp [resV, mulN_one, V.fz, fzL, V.up, upL, fzL_map, fz_slr, fz_at, slr])

noncomputable def F_laws_markIntS_l1 : (Int × (List Int) × Int) → Option ((Int × (List Int) × Int) ⊕ ((List Int) × Int)) := fun (x5, x19, x1) =>
   if x5 < (↑x19.length : Int) then
    ask ((0 : Int) ≤ x5 ∧ x5 < (↑x19.length : Int)) <|
    ask (InI (x1 + (1 : Int))) <|
    ask (InI (x5 + (1 : Int))) <|
    some (.inl (x5 + (1 : Int), x19.set x5.toNat x1, x1 + (1 : Int)))
   else
    some (.inr (x19, x1))
def S_laws_markIntS_l1 : (Int × (List Int) × Int) → St := fun s => [(5, A.val (vint s.1)), (0, A.ref ((19 : Nat) + (0 : Nat)) []), (19, A.val ((slr true 1 vint) s.2.1)), (1, A.val (vint s.2.2))]
def T_laws_markIntS_l1 : ((List Int) × Int) → Tgt
  | s => ((Ex.exit 0), [19, 1], [(19, A.val ((slr true 1 vint) s.1)), (1, A.val (vint s.2))])
theorem b_laws_markIntS_l1 (s : (Int × (List Int) × Int)) (o : (Int × (List Int) × Int) ⊕ ((List Int) × Int)) (h : F_laws_markIntS_l1 s = some o) : vc Try.prog c_laws_markIntS_l1 (outQ [5, 0, 19, 1] (S_laws_markIntS_l1) (T_laws_markIntS_l1) o) (S_laws_markIntS_l1 s) := by
  obtain ⟨x5, x19, x1⟩ := s
  unfold F_laws_markIntS_l1 at h
  try dsimp only at h
  conv => whnf
  refine Len.map ?_
  conv => whnf
  refine Br.od h (fun p1 h => ?_) (fun p1 h => ?_)
  · conv => whnf
    refine Len.map ?_
    conv => whnf
    refine Ask.o h fun p2 h => ?_
    conv => whnf
    refine SetKids.one (fun _ => ⟨rfl, rfl⟩) (x1) (by first | rfl | simp only [mulN_one, V.fz, fzL, V.up, upL, fzL_map, fz_slr, fz_at, slr, List.cons_append, List.nil_append] | simp [mulN_one, V.fz, fzL, V.up, upL, fzL_map, fz_slr, fz_at, slr]) (by first | omega | (simp only [mulN] at *; omega) | (simp [mulN] at *; omega)) ?_
    conv => whnf
    refine Ask.o h fun p3 h => ?_
    conv => whnf
    refine Ask.o h fun p4 h => ?_
    conv => whnf
    cases h; exact ⟨rfl, rfl⟩
  · conv => whnf
    cases h; exact ⟨rfl, rfl⟩

noncomputable def F_laws_markIntS (a0 : (List Int)) (k0 : Int) : Option (Int × (List Int)) :=
  (loopO (F_laws_markIntS_l1) ((0 : Int), a0, k0)).bind fun (q5_19, q5_1) =>
  some (q5_1, q5_19)
theorem t_laws_markIntS {a0 : (List Int)} {k0 : Int} {v : (Int × (List Int))} (h : F_laws_markIntS a0 k0 = some v) : RetO Try.prog f_laws_markIntS [(slr true 1 vint) a0, vint k0] (vint v.1) 0 ((slr true 1 vint) v.2) := by
  refine reto_vc k_laws_markIntS (Nat.le_of_ble_eq_true rfl) ?_
  unfold F_laws_markIntS at h
  conv => whnf
  refine LoopQ.o [5, 0, 19, 1] (S_laws_markIntS_l1) (T_laws_markIntS_l1) h (fun s o h => b_laws_markIntS_l1 s o h) (by first | rfl | simp [restrict, look, mulN_one, V.fz, fzL, V.up, upL, fzL_map, fz_slr, fz_at, slr]) (fun _ => rfl) ?_
  rintro ⟨q5_19, q5_1⟩ h
  try dsimp only at h
  conv => whnf
  cases h; exact ⟨(by first | rfl | simp only [resV, mulN_one, V.fz, fzL, V.up, upL, fzL_map, fz_slr, fz_at, slr] | simp [resV, mulN_one, V.fz, fzL, V.up, upL, fzL_map, fz_slr, fz_at, slr]), (by first | rfl | simp only [resV, mulN_one, V.fz, fzL, V.up, upL, fzL_map, fz_slr, fz_at, slr] | simp [resV, mulN_one, V.fz, fzL, V.up, upL, fzL_map, fz_slr, fz_at, slr])⟩

noncomputable def F_laws_heldIntS_l1 (a0 : List Int) : (Int × Int) → Option ((Int × Int) ⊕ (Unit ⊕ Int)) := fun (x5, x1) =>
   if x5 < (↑a0.length : Int) then
    ask ((0 : Int) ≤ x5 ∧ x5 < (↑a0.length : Int)) <|
    if nth a0 x5.toNat ≠ x1 then
     some (.inr (.inl ()))
    else
     ask (InI (x1 + (1 : Int))) <|
     ask (InI (x5 + (1 : Int))) <|
     some (.inl (x5 + (1 : Int), x1 + (1 : Int)))
   else
    some (.inr (.inr x1))
def S_laws_heldIntS_l1 (a0 : List Int) : (Int × Int) → St := fun s => [(5, A.val (vint s.1)), (0, A.val ((slr false 1 vint) (a0))), (1, A.val (vint s.2))]
def T_laws_heldIntS_l1 (_a0 : List Int) : (Unit ⊕ Int) → Tgt
  | (.inl _s) => (Ex.ret, [4], [(4, A.val (vint ((-1 : Int))))])
  | (.inr s) => ((Ex.exit 0), [1], [(1, A.val (vint s))])
theorem b_laws_heldIntS_l1 {a0 : List Int} (s : (Int × Int)) (o : (Int × Int) ⊕ (Unit ⊕ Int)) (h : F_laws_heldIntS_l1 a0 s = some o) : vc Try.prog c_laws_heldIntS_l1 (outQ [5, 0, 1] (S_laws_heldIntS_l1 a0) (T_laws_heldIntS_l1 a0) o) (S_laws_heldIntS_l1 a0 s) := by
  obtain ⟨x5, x1⟩ := s
  unfold F_laws_heldIntS_l1 at h
  try dsimp only at h
  conv => whnf
  refine Len.map ?_
  conv => whnf
  refine Br.od h (fun p1 h => ?_) (fun p1 h => ?_)
  · conv => whnf
    refine Len.map ?_
    conv => whnf
    refine Ask.o h fun p2 h => ?_
    conv => whnf
    refine Elem.o (by first | omega | (simp only [mulN] at *; omega) | (simp [mulN] at *; omega)) ?_
    conv => whnf
    refine Br.on h (fun p3 h => ?_) (fun p3 h => ?_)
    · conv => whnf
      cases h; exact ⟨rfl, rfl⟩
    · conv => whnf
      refine Ask.o h fun p4 h => ?_
      conv => whnf
      refine Ask.o h fun p5 h => ?_
      conv => whnf
      cases h; exact ⟨rfl, rfl⟩
  · conv => whnf
    cases h; exact ⟨rfl, rfl⟩

noncomputable def F_laws_heldIntS (a0 : (List Int)) (k0 : Int) : Option Int :=
  (loopO (F_laws_heldIntS_l1 a0) ((0 : Int), k0)).bind fun t => match t with
  | (.inl _) => (some (-1 : Int))
  | (.inr q6_1) => (some q6_1)
theorem t_laws_heldIntS {a0 : (List Int)} {k0 : Int} {v : Int} (h : F_laws_heldIntS a0 k0 = some v) : Ret Try.prog f_laws_heldIntS [(slr false 1 vint) a0, vint k0] (vint v) := by
  refine ret_vc k_laws_heldIntS (Nat.le_of_ble_eq_true rfl) ?_
  unfold F_laws_heldIntS at h
  conv => whnf
  refine LoopQ.o [5, 0, 1] (S_laws_heldIntS_l1 a0) (T_laws_heldIntS_l1 a0) h (fun s o h => b_laws_heldIntS_l1 s o h) (by first | rfl | simp [restrict, look, mulN_one, V.fz, fzL, V.up, upL, fzL_map, fz_slr, fz_at, slr]) (by rintro (_ | _) <;> rfl) ?_
  rintro (⟨⟩ | q6_1) h
  · try dsimp only at h
    conv => whnf
    cases h; exact (by first | rfl | simp only [resV, mulN_one, V.fz, fzL, V.up, upL, fzL_map, fz_slr, fz_at, slr] | simp [resV, mulN_one, V.fz, fzL, V.up, upL, fzL_map, fz_slr, fz_at, slr])
  · try dsimp only at h
    conv => whnf
    cases h; exact (by first | rfl | simp only [resV, mulN_one, V.fz, fzL, V.up, upL, fzL_map, fz_slr, fz_at, slr] | simp [resV, mulN_one, V.fz, fzL, V.up, upL, fzL_map, fz_slr, fz_at, slr])

noncomputable def F_spec_l24Product_l1 (p0 : SPoset) (q0 : SPoset) (x7 : Int) (x8 : Int) (_x5' : SPoset) (x10 : Int) : (Int × (List Int)) → Option ((Int × (List Int)) ⊕ (List Int)) := fun (x11, x9') =>
   ask ((0 : Int) ≤ x8 ∧ x8 < (↑q0.Below.length : Int)) <|
   if x11 < (↑(nth q0.Below x8.toNat).length : Int) then
    ask ((0 : Int) ≤ x7 ∧ x7 < (↑p0.Below.length : Int)) <|
    ask ((0 : Int) ≤ x10 ∧ x10 < (↑(nth p0.Below x7.toNat).length : Int)) <|
    ask (InI (nth (nth p0.Below x7.toNat) x10.toNat * (↑q0.Below.length : Int))) <|
    ask ((0 : Int) ≤ x8 ∧ x8 < (↑q0.Below.length : Int)) <|
    ask ((0 : Int) ≤ x11 ∧ x11 < (↑(nth q0.Below x8.toNat).length : Int)) <|
    ask (InI (nth (nth p0.Below x7.toNat) x10.toNat * (↑q0.Below.length : Int) + nth (nth q0.Below x8.toNat) x11.toNat)) <|
    ask ((x9').length + ([nth (nth p0.Below x7.toNat) x10.toNat * (↑q0.Below.length : Int) + nth (nth q0.Below x8.toNat) x11.toNat]).length ≤ LIM) <|
    ask (InI (x11 + (1 : Int))) <|
    some (.inl (x11 + (1 : Int), x9' ++ [nth (nth p0.Below x7.toNat) x10.toNat * (↑q0.Below.length : Int) + nth (nth q0.Below x8.toNat) x11.toNat]))
   else
    some (.inr x9')
def S_spec_l24Product_l1 (p0 : SPoset) (q0 : SPoset) (x7 : Int) (x8 : Int) (x5' : SPoset) (x10 : Int) : (Int × (List Int)) → St := fun s => [(11, A.val (vint s.1)), (10, A.val (vint (x10))), (9, A.val ((slr true 1 vint) s.2)), (8, A.val (vint (x8))), (7, A.val (vint (x7))), (6, A.val (vint ((↑q0.Below.length : Int)))), (5, A.val ((rP true (rS_Poset true)) (x5'))), (4, A.val ((rP true (rS_Poset true)) ({ Below := nilL (List Int) }))), (3, A.val ((rP true (rS_Poset false)) (q0))), (2, A.val ((rP true (rS_Poset false)) (p0)))]
def T_spec_l24Product_l1 (p0 : SPoset) (q0 : SPoset) (x7 : Int) (x8 : Int) (x5' : SPoset) (x10 : Int) : (List Int) → Tgt
  | s => ((Ex.exit 6), [10, 9, 8, 7, 6, 5, 4, 3, 2], [(10, A.val (vint (x10))), (9, A.val ((slr true 1 vint) s)), (8, A.val (vint (x8))), (7, A.val (vint (x7))), (6, A.val (vint ((↑q0.Below.length : Int)))), (5, A.val ((rP true (rS_Poset true)) (x5'))), (4, A.val ((rP true (rS_Poset true)) ({ Below := nilL (List Int) }))), (3, A.val ((rP true (rS_Poset false)) (q0))), (2, A.val ((rP true (rS_Poset false)) (p0)))])
theorem b_spec_l24Product_l1 {p0 : SPoset} {q0 : SPoset} {x7 : Int} {x8 : Int} {x5' : SPoset} {x10 : Int} (s : (Int × (List Int))) (o : (Int × (List Int)) ⊕ (List Int)) (h : F_spec_l24Product_l1 p0 q0 x7 x8 x5' x10 s = some o) : vc Try.prog c_spec_l24Product_l1 (outQ [11, 10, 9, 8, 7, 6, 5, 4, 3, 2] (S_spec_l24Product_l1 p0 q0 x7 x8 x5' x10) (T_spec_l24Product_l1 p0 q0 x7 x8 x5' x10) o) (S_spec_l24Product_l1 p0 q0 x7 x8 x5' x10 s) := by
  obtain ⟨x11, x9'⟩ := s
  unfold F_spec_l24Product_l1 at h
  try dsimp only at h
  conv => whnf
  refine Cells.lit rfl rfl ?_
  conv => whnf
  refine Len.map ?_
  conv => whnf
  refine Ask.o h fun p5 h => ?_
  conv => whnf
  refine Elem.o (by first | omega | (simp only [mulN] at *; omega) | (simp [mulN] at *; omega)) ?_
  conv => whnf
  refine Len.map ?_
  conv => whnf
  refine Br.od h (fun p6 h => ?_) (fun p6 h => ?_)
  · conv => whnf
    refine Cells.lit rfl rfl ?_
    conv => whnf
    refine Len.map ?_
    conv => whnf
    refine Ask.o h fun p7 h => ?_
    conv => whnf
    refine Elem.o (by first | omega | (simp only [mulN] at *; omega) | (simp [mulN] at *; omega)) ?_
    conv => whnf
    refine Len.map ?_
    conv => whnf
    refine Ask.o h fun p8 h => ?_
    conv => whnf
    refine Elem.o (by first | omega | (simp only [mulN] at *; omega) | (simp [mulN] at *; omega)) ?_
    conv => whnf
    refine Ask.o h fun p9 h => ?_
    conv => whnf
    refine Cells.lit rfl rfl ?_
    conv => whnf
    refine Len.map ?_
    conv => whnf
    refine Ask.o h fun p10 h => ?_
    conv => whnf
    refine Elem.o (by first | omega | (simp only [mulN] at *; omega) | (simp [mulN] at *; omega)) ?_
    conv => whnf
    refine Len.map ?_
    conv => whnf
    refine Ask.o h fun p11 h => ?_
    conv => whnf
    refine Elem.o (by first | omega | (simp only [mulN] at *; omega) | (simp [mulN] at *; omega)) ?_
    conv => whnf
    refine Ask.o h fun p12 h => ?_
    conv => whnf
    refine BslQ.o vint ([nth (nth p0.Below x7.toNat) x10.toNat * (↑q0.Below.length : Int) + nth (nth q0.Below x8.toNat) x11.toNat]) (by exact fun _ => ⟨rfl, rfl⟩) (by first | rfl | simp only [mulN_one, V.fz, fzL, V.up, upL, fzL_map, fz_slr, fz_at, slr, List.cons_append, List.nil_append] | simp [mulN_one, V.fz, fzL, V.up, upL, fzL_map, fz_slr, fz_at, slr]) ?_
    conv => whnf
    refine NoOwn.o (fun _ => rfl) ?_
    conv => whnf
    refine AppQ.o (m := 1) vint (by exact fun _ => ⟨rfl, rfl⟩) (x9') ([nth (nth p0.Below x7.toNat) x10.toNat * (↑q0.Below.length : Int) + nth (nth q0.Below x8.toNat) x11.toNat]) (by first | rfl | simp only [mulN_one, V.fz, fzL, V.up, upL, fzL_map, fz_slr, fz_at, slr, List.cons_append, List.nil_append] | simp [mulN_one, V.fz, fzL, V.up, upL, fzL_map, fz_slr, fz_at, slr]) (by first | rfl | simp only [mulN_one, V.fz, fzL, V.up, upL, fzL_map, fz_slr, fz_at, slr, List.cons_append, List.nil_append] | simp [mulN_one, V.fz, fzL, V.up, upL, fzL_map, fz_slr, fz_at, slr]) h fun h => ?_
    conv => whnf
    refine Ask.o h fun p13 h => ?_
    conv => whnf
    cases h; exact ⟨rfl, rfl⟩
  · conv => whnf
    cases h; exact ⟨rfl, rfl⟩

noncomputable def F_spec_l24Product_l2 (p0 : SPoset) (q0 : SPoset) (x7 : Int) (x8 : Int) (x5' : SPoset) : (Int × (List Int)) → Option ((Int × (List Int)) ⊕ (List Int)) := fun (x10, x9) =>
   ask ((0 : Int) ≤ x7 ∧ x7 < (↑p0.Below.length : Int)) <|
   if x10 < (↑(nth p0.Below x7.toNat).length : Int) then
    (loopO (F_spec_l24Product_l1 p0 q0 x7 x8 x5' x10) ((0 : Int), x9)).bind fun q14_9 =>
    ask (InI (x10 + (1 : Int))) <|
    some (.inl (x10 + (1 : Int), q14_9))
   else
    some (.inr x9)
def S_spec_l24Product_l2 (p0 : SPoset) (q0 : SPoset) (x7 : Int) (x8 : Int) (x5' : SPoset) : (Int × (List Int)) → St := fun s => [(10, A.val (vint s.1)), (9, A.val ((slr true 1 vint) s.2)), (8, A.val (vint (x8))), (7, A.val (vint (x7))), (6, A.val (vint ((↑q0.Below.length : Int)))), (5, A.val ((rP true (rS_Poset true)) (x5'))), (4, A.val ((rP true (rS_Poset true)) ({ Below := nilL (List Int) }))), (3, A.val ((rP true (rS_Poset false)) (q0))), (2, A.val ((rP true (rS_Poset false)) (p0)))]
def T_spec_l24Product_l2 (p0 : SPoset) (q0 : SPoset) (x7 : Int) (x8 : Int) (x5' : SPoset) : (List Int) → Tgt
  | s => ((Ex.exit 4), [9, 8, 7, 6, 5, 4, 3, 2], [(9, A.val ((slr true 1 vint) s)), (8, A.val (vint (x8))), (7, A.val (vint (x7))), (6, A.val (vint ((↑q0.Below.length : Int)))), (5, A.val ((rP true (rS_Poset true)) (x5'))), (4, A.val ((rP true (rS_Poset true)) ({ Below := nilL (List Int) }))), (3, A.val ((rP true (rS_Poset false)) (q0))), (2, A.val ((rP true (rS_Poset false)) (p0)))])
theorem b_spec_l24Product_l2 {p0 : SPoset} {q0 : SPoset} {x7 : Int} {x8 : Int} {x5' : SPoset} (s : (Int × (List Int))) (o : (Int × (List Int)) ⊕ (List Int)) (h : F_spec_l24Product_l2 p0 q0 x7 x8 x5' s = some o) : vc Try.prog c_spec_l24Product_l2 (outQ [10, 9, 8, 7, 6, 5, 4, 3, 2] (S_spec_l24Product_l2 p0 q0 x7 x8 x5') (T_spec_l24Product_l2 p0 q0 x7 x8 x5') o) (S_spec_l24Product_l2 p0 q0 x7 x8 x5' s) := by
  obtain ⟨x10, x9⟩ := s
  unfold F_spec_l24Product_l2 at h
  try dsimp only at h
  conv => whnf
  refine Cells.lit rfl rfl ?_
  conv => whnf
  refine Len.map ?_
  conv => whnf
  refine Ask.o h fun p3 h => ?_
  conv => whnf
  refine Elem.o (by first | omega | (simp only [mulN] at *; omega) | (simp [mulN] at *; omega)) ?_
  conv => whnf
  refine Len.map ?_
  conv => whnf
  refine Br.od h (fun p4 h => ?_) (fun p4 h => ?_)
  · conv => whnf
    refine LoopQ.o [11, 10, 9, 8, 7, 6, 5, 4, 3, 2] (S_spec_l24Product_l1 p0 q0 x7 x8 x5' x10) (T_spec_l24Product_l1 p0 q0 x7 x8 x5' x10) h (fun s o h => b_spec_l24Product_l1 s o h) (by first | rfl | simp [restrict, look, mulN_one, V.fz, fzL, V.up, upL, fzL_map, fz_slr, fz_at, slr]) (fun _ => rfl) ?_
    rintro q14_9 h
    try dsimp only at h
    conv => whnf
    refine Ask.o h fun p15 h => ?_
    conv => whnf
    cases h; exact ⟨rfl, rfl⟩
  · conv => whnf
    cases h; exact ⟨rfl, rfl⟩

noncomputable def F_spec_l24Product_l3 (p0 : SPoset) (q0 : SPoset) (x7 : Int) : (Int × SPoset) → Option ((Int × SPoset) ⊕ SPoset) := fun (x8, x5') =>
   if x8 < (↑q0.Below.length : Int) then
    (loopO (F_spec_l24Product_l2 p0 q0 x7 x8 x5') ((0 : Int), nilL Int)).bind fun q16_9 =>
    ask ((x5'.Below).length + ([q16_9]).length ≤ LIM) <|
    ask (InI (x8 + (1 : Int))) <|
    some (.inl (x8 + (1 : Int), { Below := x5'.Below ++ [q16_9] }))
   else
    some (.inr x5')
def S_spec_l24Product_l3 (p0 : SPoset) (q0 : SPoset) (x7 : Int) : (Int × SPoset) → St := fun s => [(8, A.val (vint s.1)), (7, A.val (vint (x7))), (6, A.val (vint ((↑q0.Below.length : Int)))), (5, A.val ((rP true (rS_Poset true)) s.2)), (4, A.val ((rP true (rS_Poset true)) ({ Below := nilL (List Int) }))), (3, A.val ((rP true (rS_Poset false)) (q0))), (2, A.val ((rP true (rS_Poset false)) (p0)))]
def T_spec_l24Product_l3 (p0 : SPoset) (q0 : SPoset) (x7 : Int) : SPoset → Tgt
  | s => ((Ex.exit 2), [7, 6, 5, 4, 3, 2], [(7, A.val (vint (x7))), (6, A.val (vint ((↑q0.Below.length : Int)))), (5, A.val ((rP true (rS_Poset true)) s)), (4, A.val ((rP true (rS_Poset true)) ({ Below := nilL (List Int) }))), (3, A.val ((rP true (rS_Poset false)) (q0))), (2, A.val ((rP true (rS_Poset false)) (p0)))])
theorem b_spec_l24Product_l3 {p0 : SPoset} {q0 : SPoset} {x7 : Int} (s : (Int × SPoset)) (o : (Int × SPoset) ⊕ SPoset) (h : F_spec_l24Product_l3 p0 q0 x7 s = some o) : vc Try.prog c_spec_l24Product_l3 (outQ [8, 7, 6, 5, 4, 3, 2] (S_spec_l24Product_l3 p0 q0 x7) (T_spec_l24Product_l3 p0 q0 x7) o) (S_spec_l24Product_l3 p0 q0 x7 s) := by
  obtain ⟨x8, x5'⟩ := s
  unfold F_spec_l24Product_l3 at h
  try dsimp only at h
  conv => whnf
  refine Br.od h (fun p2 h => ?_) (fun p2 h => ?_)
  · conv => whnf
    refine BslQ.o vint (nilL Int) (by exact fun _ => ⟨rfl, rfl⟩) (by first | rfl | simp only [mulN_one, V.fz, fzL, V.up, upL, fzL_map, fz_slr, fz_at, slr, List.cons_append, List.nil_append] | simp [mulN_one, V.fz, fzL, V.up, upL, fzL_map, fz_slr, fz_at, slr]) ?_
    conv => whnf
    refine LoopQ.o [10, 9, 8, 7, 6, 5, 4, 3, 2] (S_spec_l24Product_l2 p0 q0 x7 x8 x5') (T_spec_l24Product_l2 p0 q0 x7 x8 x5') h (fun s o h => b_spec_l24Product_l2 s o h) (by first | rfl | simp [restrict, look, mulN_one, V.fz, fzL, V.up, upL, fzL_map, fz_slr, fz_at, slr]) (fun _ => rfl) ?_
    rintro q16_9 h
    try dsimp only at h
    conv => whnf
    refine Cells.lit rfl rfl ?_
    conv => whnf
    refine BslQ.o (slr true 1 vint) [q16_9] (by exact fun _ => ⟨rfl, rfl⟩) (by first | rfl | simp only [mulN_one, V.fz, fzL, V.up, upL, fzL_map, fz_slr, fz_at, slr, List.cons_append, List.nil_append] | simp [mulN_one, V.fz, fzL, V.up, upL, fzL_map, fz_slr, fz_at, slr]) ?_
    conv => whnf
    refine NoOwn.own rfl ?_
    conv => whnf
    refine AppQ.o (m := 1) (slr true 1 vint) (by exact fun _ => ⟨rfl, rfl⟩) (x5'.Below) ([q16_9]) (by first | rfl | simp only [mulN_one, V.fz, fzL, V.up, upL, fzL_map, fz_slr, fz_at, slr, List.cons_append, List.nil_append] | simp [mulN_one, V.fz, fzL, V.up, upL, fzL_map, fz_slr, fz_at, slr]) (by first | rfl | simp only [mulN_one, V.fz, fzL, V.up, upL, fzL_map, fz_slr, fz_at, slr, List.cons_append, List.nil_append] | simp [mulN_one, V.fz, fzL, V.up, upL, fzL_map, fz_slr, fz_at, slr]) h fun h => ?_
    conv => whnf
    refine SetKids.lit rfl ?_
    conv => whnf
    refine Ask.o h fun p17 h => ?_
    conv => whnf
    cases h; exact ⟨rfl, rfl⟩
  · conv => whnf
    cases h; exact ⟨rfl, rfl⟩

noncomputable def F_spec_l24Product_l4 (p0 : SPoset) (q0 : SPoset) : (Int × SPoset) → Option ((Int × SPoset) ⊕ SPoset) := fun (x7, x5) =>
   if x7 < (↑p0.Below.length : Int) then
    (loopO (F_spec_l24Product_l3 p0 q0 x7) ((0 : Int), x5)).bind fun q18_5 =>
    ask (InI (x7 + (1 : Int))) <|
    some (.inl (x7 + (1 : Int), q18_5))
   else
    some (.inr x5)
def S_spec_l24Product_l4 (p0 : SPoset) (q0 : SPoset) : (Int × SPoset) → St := fun s => [(7, A.val (vint s.1)), (6, A.val (vint ((↑q0.Below.length : Int)))), (5, A.val ((rP true (rS_Poset true)) s.2)), (4, A.val ((rP true (rS_Poset true)) ({ Below := nilL (List Int) }))), (3, A.val ((rP true (rS_Poset false)) (q0))), (2, A.val ((rP true (rS_Poset false)) (p0)))]
def T_spec_l24Product_l4 (_p0 : SPoset) (_q0 : SPoset) : SPoset → Tgt
  | s => ((Ex.exit 0), [5, 4], [(5, A.val ((rP true (rS_Poset true)) s)), (4, A.val ((rP true (rS_Poset true)) ({ Below := nilL (List Int) })))])
theorem b_spec_l24Product_l4 {p0 : SPoset} {q0 : SPoset} (s : (Int × SPoset)) (o : (Int × SPoset) ⊕ SPoset) (h : F_spec_l24Product_l4 p0 q0 s = some o) : vc Try.prog c_spec_l24Product_l4 (outQ [7, 6, 5, 4, 3, 2] (S_spec_l24Product_l4 p0 q0) (T_spec_l24Product_l4 p0 q0) o) (S_spec_l24Product_l4 p0 q0 s) := by
  obtain ⟨x7, x5⟩ := s
  unfold F_spec_l24Product_l4 at h
  try dsimp only at h
  conv => whnf
  refine Cells.lit rfl rfl ?_
  conv => whnf
  refine Len.map ?_
  conv => whnf
  refine Br.od h (fun p1 h => ?_) (fun p1 h => ?_)
  · conv => whnf
    refine LoopQ.o [8, 7, 6, 5, 4, 3, 2] (S_spec_l24Product_l3 p0 q0 x7) (T_spec_l24Product_l3 p0 q0 x7) h (fun s o h => b_spec_l24Product_l3 s o h) (by first | rfl | simp [restrict, look, mulN_one, V.fz, fzL, V.up, upL, fzL_map, fz_slr, fz_at, slr]) (fun _ => rfl) ?_
    rintro q18_5 h
    try dsimp only at h
    conv => whnf
    refine Ask.o h fun p19 h => ?_
    conv => whnf
    cases h; exact ⟨rfl, rfl⟩
  · conv => whnf
    cases h; exact ⟨rfl, rfl⟩

noncomputable def F_spec_l24Product (p0 : SPoset) (q0 : SPoset) : Option SPoset :=
  (loopO (F_spec_l24Product_l4 p0 q0) ((0 : Int), { Below := nilL (List Int) })).bind fun q20_5 =>
  some q20_5
theorem t_spec_l24Product {p0 : SPoset} {q0 : SPoset} {v : SPoset} (h : F_spec_l24Product p0 q0 = some v) : Ret Try.prog f_spec_l24Product [(rS_Poset false) p0, (rS_Poset false) q0] ((rS_Poset true) v) := by
  refine ret_vc k_spec_l24Product (Nat.le_of_ble_eq_true rfl) ?_
  unfold F_spec_l24Product at h
  conv => whnf
  refine BslQ.o (slr true 1 vint) (nilL (List Int)) (by exact fun _ => ⟨rfl, rfl⟩) (by first | rfl | simp only [mulN_one, V.fz, fzL, V.up, upL, fzL_map, fz_slr, fz_at, slr, List.cons_append, List.nil_append] | simp [mulN_one, V.fz, fzL, V.up, upL, fzL_map, fz_slr, fz_at, slr]) ?_
  conv => whnf
  refine SetKids.lit rfl ?_
  conv => whnf
  refine Cells.lit rfl rfl ?_
  conv => whnf
  refine Len.map ?_
  conv => whnf
  refine LoopQ.o [7, 6, 5, 4, 3, 2] (S_spec_l24Product_l4 p0 q0) (T_spec_l24Product_l4 p0 q0) h (fun s o h => b_spec_l24Product_l4 s o h) (by first | rfl | simp [restrict, look, mulN_one, V.fz, fzL, V.up, upL, fzL_map, fz_slr, fz_at, slr]) (fun _ => rfl) ?_
  rintro q20_5 h
  try dsimp only at h
  conv => whnf
  refine Cells.lit rfl rfl ?_
  conv => whnf
  refine SetKids.lit rfl ?_
  conv => whnf
  cases h; exact (by first | rfl | simp only [resV, mulN_one, V.fz, fzL, V.up, upL, fzL_map, fz_slr, fz_at, slr] | simp [resV, mulN_one, V.fz, fzL, V.up, upL, fzL_map, fz_slr, fz_at, slr])

noncomputable def F_impl_newOrder_l1 (n0 : Int) : (Int × (List (List Bool))) → Option ((Int × (List (List Bool))) ⊕ (List (List Bool))) := fun (x9, x3) =>
   if x9 < (↑n0.toNat : Int) then
    ask ((0 : Int) ≤ n0 ∧ n0 ≤ (↑LIM : Int)) <|
    ask ((0 : Int) ≤ x9 ∧ x9 < (↑x3.length : Int)) <|
    ask (InI (x9 + (1 : Int))) <|
    some (.inl (x9 + (1 : Int), x3.set x9.toNat (List.replicate n0.toNat false)))
   else
    some (.inr x3)
def S_impl_newOrder_l1 (n0 : Int) : (Int × (List (List Bool))) → St := fun s => [(9, A.val (vint s.1)), (8, A.val (vint ((↑n0.toNat : Int)))), (3, A.val ((slr true 1 (slr true 1 V.bool)) s.2)), (0, A.val (vint (n0)))]
def T_impl_newOrder_l1 (_n0 : Int) : (List (List Bool)) → Tgt
  | s => ((Ex.exit 0), [3], [(3, A.val ((slr true 1 (slr true 1 V.bool)) s))])
theorem b_impl_newOrder_l1 {n0 : Int} (s : (Int × (List (List Bool)))) (o : (Int × (List (List Bool))) ⊕ (List (List Bool))) (h : F_impl_newOrder_l1 n0 s = some o) : vc Try.prog c_impl_newOrder_l1 (outQ [9, 8, 3, 0] (S_impl_newOrder_l1 n0) (T_impl_newOrder_l1 n0) o) (S_impl_newOrder_l1 n0 s) := by
  obtain ⟨x9, x3⟩ := s
  unfold F_impl_newOrder_l1 at h
  try dsimp only at h
  conv => whnf
  refine Br.od h (fun p2 h => ?_) (fun p2 h => ?_)
  · conv => whnf
    refine Ask.o h fun p3 h => ?_
    conv => whnf
    refine MkQ.o V.bool (false) rfl ?_
    conv => whnf
    refine Len.map ?_
    conv => whnf
    refine Ask.o h fun p4 h => ?_
    conv => whnf
    refine SetKids.one (fun _ => ⟨rfl, rfl⟩) (List.replicate n0.toNat false) (by first | rfl | simp only [mulN_one, V.fz, fzL, V.up, upL, fzL_map, fz_slr, fz_at, slr, List.cons_append, List.nil_append] | simp [mulN_one, V.fz, fzL, V.up, upL, fzL_map, fz_slr, fz_at, slr]) (by first | omega | (simp only [mulN] at *; omega) | (simp [mulN] at *; omega)) ?_
    conv => whnf
    refine Ask.o h fun p5 h => ?_
    conv => whnf
    cases h; exact ⟨rfl, rfl⟩
  · conv => whnf
    cases h; exact ⟨rfl, rfl⟩

noncomputable def F_impl_newOrder (n0 : Int) : Option (List (List Bool)) :=
  ask ((0 : Int) ≤ n0 ∧ n0 ≤ (↑LIM : Int)) <|
  (loopO (F_impl_newOrder_l1 n0) ((0 : Int), List.replicate n0.toNat (nilL Bool))).bind fun q6_3 =>
  some q6_3
theorem t_impl_newOrder {n0 : Int} {v : (List (List Bool))} (h : F_impl_newOrder n0 = some v) : Ret Try.prog f_impl_newOrder [vint n0] ((slr true 1 (slr true 1 V.bool)) v) := by
  refine ret_vc k_impl_newOrder (Nat.le_of_ble_eq_true rfl) ?_
  unfold F_impl_newOrder at h
  conv => whnf
  refine Ask.o h fun p1 h => ?_
  conv => whnf
  refine MkQ.o (slr true 1 V.bool) (nilL Bool) rfl ?_
  conv => whnf
  refine Len.mrep ?_
  conv => whnf
  refine LoopQ.o [9, 8, 3, 0] (S_impl_newOrder_l1 n0) (T_impl_newOrder_l1 n0) h (fun s o h => b_impl_newOrder_l1 s o h) (by first | rfl | simp [restrict, look, mulN_one, V.fz, fzL, V.up, upL, fzL_map, fz_slr, fz_at, slr]) (fun _ => rfl) ?_
  rintro q6_3 h
  try dsimp only at h
  conv => whnf
  cases h; exact (by first | rfl | simp only [resV, mulN_one, V.fz, fzL, V.up, upL, fzL_map, fz_slr, fz_at, slr] | simp [resV, mulN_one, V.fz, fzL, V.up, upL, fzL_map, fz_slr, fz_at, slr])

noncomputable def F_impl_order_poset_l1 (o0 : List (List Bool)) (x11 : Int) (_x3 : SPoset) : (Int × (List Int)) → Option ((Int × (List Int)) ⊕ (List Int)) := fun (x17, x5) =>
   if x17 < (↑o0.length : Int) then
    ask ((0 : Int) ≤ x17 ∧ x17 < (↑o0.length : Int)) <|
    ask ((0 : Int) ≤ x11 ∧ x11 < (↑(nth o0 x17.toNat).length : Int)) <|
    if (nth (nth o0 x17.toNat) x11.toNat) = true then
     ask ((x5).length + ([x17]).length ≤ LIM) <|
     ask (InI (x17 + (1 : Int))) <|
     some (.inl (x17 + (1 : Int), x5 ++ [x17]))
    else
     ask (InI (x17 + (1 : Int))) <|
     some (.inl (x17 + (1 : Int), x5))
   else
    some (.inr x5)
def S_impl_order_poset_l1 (o0 : List (List Bool)) (x11 : Int) (x3 : SPoset) : (Int × (List Int)) → St := fun s => [(17, A.val (vint s.1)), (16, A.val (vint ((↑o0.length : Int)))), (5, A.val ((slr true 1 vint) s.2)), (4, A.val (vint (x11))), (11, A.val (vint (x11))), (10, A.val (vint ((↑o0.length : Int)))), (3, A.val ((rP true (rS_Poset true)) (x3))), (2, A.val ((rP true (rS_Poset true)) ({ Below := nilL (List Int) }))), (0, A.val ((slr false 1 (slr false 1 V.bool)) (o0)))]
def T_impl_order_poset_l1 (o0 : List (List Bool)) (x11 : Int) (x3 : SPoset) : (List Int) → Tgt
  | s => ((Ex.exit 2), [5, 11, 10, 3, 2, 0], [(5, A.val ((slr true 1 vint) s)), (11, A.val (vint (x11))), (10, A.val (vint ((↑o0.length : Int)))), (3, A.val ((rP true (rS_Poset true)) (x3))), (2, A.val ((rP true (rS_Poset true)) ({ Below := nilL (List Int) }))), (0, A.val ((slr false 1 (slr false 1 V.bool)) (o0)))])
theorem b_impl_order_poset_l1 {o0 : List (List Bool)} {x11 : Int} {x3 : SPoset} (s : (Int × (List Int))) (o : (Int × (List Int)) ⊕ (List Int)) (h : F_impl_order_poset_l1 o0 x11 x3 s = some o) : vc Try.prog c_impl_order_poset_l1 (outQ [17, 16, 5, 4, 11, 10, 3, 2, 0] (S_impl_order_poset_l1 o0 x11 x3) (T_impl_order_poset_l1 o0 x11 x3) o) (S_impl_order_poset_l1 o0 x11 x3 s) := by
  obtain ⟨x17, x5⟩ := s
  unfold F_impl_order_poset_l1 at h
  try dsimp only at h
  conv => whnf
  refine Br.od h (fun p2 h => ?_) (fun p2 h => ?_)
  · conv => whnf
    refine Len.map ?_
    conv => whnf
    refine Ask.o h fun p3 h => ?_
    conv => whnf
    refine Elem.o (by first | omega | (simp only [mulN] at *; omega) | (simp [mulN] at *; omega)) ?_
    conv => whnf
    refine Len.map ?_
    conv => whnf
    refine Ask.o h fun p4 h => ?_
    conv => whnf
    refine Elem.o (by first | omega | (simp only [mulN] at *; omega) | (simp [mulN] at *; omega)) ?_
    conv => whnf
    refine Br.ob h (fun p5 h => ?_) (fun p5 h => ?_)
    · conv => whnf
      refine BslQ.o vint [x17] (by exact fun _ => ⟨rfl, rfl⟩) (by first | rfl | simp only [mulN_one, V.fz, fzL, V.up, upL, fzL_map, fz_slr, fz_at, slr, List.cons_append, List.nil_append] | simp [mulN_one, V.fz, fzL, V.up, upL, fzL_map, fz_slr, fz_at, slr]) ?_
      conv => whnf
      refine NoOwn.o (fun _ => rfl) ?_
      conv => whnf
      refine AppQ.o (m := 1) vint (by exact fun _ => ⟨rfl, rfl⟩) (x5) ([x17]) (by first | rfl | simp only [mulN_one, V.fz, fzL, V.up, upL, fzL_map, fz_slr, fz_at, slr, List.cons_append, List.nil_append] | simp [mulN_one, V.fz, fzL, V.up, upL, fzL_map, fz_slr, fz_at, slr]) (by first | rfl | simp only [mulN_one, V.fz, fzL, V.up, upL, fzL_map, fz_slr, fz_at, slr, List.cons_append, List.nil_append] | simp [mulN_one, V.fz, fzL, V.up, upL, fzL_map, fz_slr, fz_at, slr]) h fun h => ?_
      conv => whnf
      refine Ask.o h fun p6 h => ?_
      conv => whnf
      cases h; exact ⟨rfl, rfl⟩
    · conv => whnf
      refine Ask.o h fun p7 h => ?_
      conv => whnf
      cases h; exact ⟨rfl, rfl⟩
  · conv => whnf
    cases h; exact ⟨rfl, rfl⟩

noncomputable def F_impl_order_poset_l2 (o0 : List (List Bool)) : (Int × SPoset) → Option ((Int × SPoset) ⊕ SPoset) := fun (x11, x3) =>
   if x11 < (↑o0.length : Int) then
    (loopO (F_impl_order_poset_l1 o0 x11 x3) ((0 : Int), nilL Int)).bind fun q8_5 =>
    ask ((x3.Below).length + ([q8_5]).length ≤ LIM) <|
    ask (InI (x11 + (1 : Int))) <|
    some (.inl (x11 + (1 : Int), { Below := x3.Below ++ [q8_5] }))
   else
    some (.inr x3)
def S_impl_order_poset_l2 (o0 : List (List Bool)) : (Int × SPoset) → St := fun s => [(11, A.val (vint s.1)), (10, A.val (vint ((↑o0.length : Int)))), (3, A.val ((rP true (rS_Poset true)) s.2)), (2, A.val ((rP true (rS_Poset true)) ({ Below := nilL (List Int) }))), (0, A.val ((slr false 1 (slr false 1 V.bool)) (o0)))]
def T_impl_order_poset_l2 (_o0 : List (List Bool)) : SPoset → Tgt
  | s => ((Ex.exit 0), [3, 2], [(3, A.val ((rP true (rS_Poset true)) s)), (2, A.val ((rP true (rS_Poset true)) ({ Below := nilL (List Int) })))])
theorem b_impl_order_poset_l2 {o0 : List (List Bool)} (s : (Int × SPoset)) (o : (Int × SPoset) ⊕ SPoset) (h : F_impl_order_poset_l2 o0 s = some o) : vc Try.prog c_impl_order_poset_l2 (outQ [11, 10, 3, 2, 0] (S_impl_order_poset_l2 o0) (T_impl_order_poset_l2 o0) o) (S_impl_order_poset_l2 o0 s) := by
  obtain ⟨x11, x3⟩ := s
  unfold F_impl_order_poset_l2 at h
  try dsimp only at h
  conv => whnf
  refine Br.od h (fun p1 h => ?_) (fun p1 h => ?_)
  · conv => whnf
    refine BslQ.o vint (nilL Int) (by exact fun _ => ⟨rfl, rfl⟩) (by first | rfl | simp only [mulN_one, V.fz, fzL, V.up, upL, fzL_map, fz_slr, fz_at, slr, List.cons_append, List.nil_append] | simp [mulN_one, V.fz, fzL, V.up, upL, fzL_map, fz_slr, fz_at, slr]) ?_
    conv => whnf
    refine Len.map ?_
    conv => whnf
    refine LoopQ.o [17, 16, 5, 4, 11, 10, 3, 2, 0] (S_impl_order_poset_l1 o0 x11 x3) (T_impl_order_poset_l1 o0 x11 x3) h (fun s o h => b_impl_order_poset_l1 s o h) (by first | rfl | simp [restrict, look, mulN_one, V.fz, fzL, V.up, upL, fzL_map, fz_slr, fz_at, slr]) (fun _ => rfl) ?_
    rintro q8_5 h
    try dsimp only at h
    conv => whnf
    refine Cells.lit rfl rfl ?_
    conv => whnf
    refine BslQ.o (slr true 1 vint) [q8_5] (by exact fun _ => ⟨rfl, rfl⟩) (by first | rfl | simp only [mulN_one, V.fz, fzL, V.up, upL, fzL_map, fz_slr, fz_at, slr, List.cons_append, List.nil_append] | simp [mulN_one, V.fz, fzL, V.up, upL, fzL_map, fz_slr, fz_at, slr]) ?_
    conv => whnf
    refine NoOwn.own rfl ?_
    conv => whnf
    refine AppQ.o (m := 1) (slr true 1 vint) (by exact fun _ => ⟨rfl, rfl⟩) (x3.Below) ([q8_5]) (by first | rfl | simp only [mulN_one, V.fz, fzL, V.up, upL, fzL_map, fz_slr, fz_at, slr, List.cons_append, List.nil_append] | simp [mulN_one, V.fz, fzL, V.up, upL, fzL_map, fz_slr, fz_at, slr]) (by first | rfl | simp only [mulN_one, V.fz, fzL, V.up, upL, fzL_map, fz_slr, fz_at, slr, List.cons_append, List.nil_append] | simp [mulN_one, V.fz, fzL, V.up, upL, fzL_map, fz_slr, fz_at, slr]) h fun h => ?_
    conv => whnf
    refine SetKids.lit rfl ?_
    conv => whnf
    refine Ask.o h fun p9 h => ?_
    conv => whnf
    cases h; exact ⟨rfl, rfl⟩
  · conv => whnf
    cases h; exact ⟨rfl, rfl⟩

noncomputable def F_impl_order_poset (o0 : (List (List Bool))) : Option SPoset :=
  (loopO (F_impl_order_poset_l2 o0) ((0 : Int), { Below := nilL (List Int) })).bind fun q10_3 =>
  some q10_3
theorem t_impl_order_poset {o0 : (List (List Bool))} {v : SPoset} (h : F_impl_order_poset o0 = some v) : Ret Try.prog f_impl_order_poset [(slr false 1 (slr false 1 V.bool)) o0] ((rS_Poset true) v) := by
  refine ret_vc k_impl_order_poset (Nat.le_of_ble_eq_true rfl) ?_
  unfold F_impl_order_poset at h
  conv => whnf
  refine BslQ.o (slr true 1 vint) (nilL (List Int)) (by exact fun _ => ⟨rfl, rfl⟩) (by first | rfl | simp only [mulN_one, V.fz, fzL, V.up, upL, fzL_map, fz_slr, fz_at, slr, List.cons_append, List.nil_append] | simp [mulN_one, V.fz, fzL, V.up, upL, fzL_map, fz_slr, fz_at, slr]) ?_
  conv => whnf
  refine SetKids.lit rfl ?_
  conv => whnf
  refine Len.map ?_
  conv => whnf
  refine LoopQ.o [11, 10, 3, 2, 0] (S_impl_order_poset_l2 o0) (T_impl_order_poset_l2 o0) h (fun s o h => b_impl_order_poset_l2 s o h) (by first | rfl | simp [restrict, look, mulN_one, V.fz, fzL, V.up, upL, fzL_map, fz_slr, fz_at, slr]) (fun _ => rfl) ?_
  rintro q10_3 h
  try dsimp only at h
  conv => whnf
  refine Cells.lit rfl rfl ?_
  conv => whnf
  refine SetKids.lit rfl ?_
  conv => whnf
  cases h; exact (by first | rfl | simp only [resV, mulN_one, V.fz, fzL, V.up, upL, fzL_map, fz_slr, fz_at, slr] | simp [resV, mulN_one, V.fz, fzL, V.up, upL, fzL_map, fz_slr, fz_at, slr])

noncomputable def F_spec_l1Own (l0 : (List Int)) : Option (List Int) :=
  ask ((nilL Int).length + (l0).length ≤ LIM) <|
  some (nilL Int ++ l0)
theorem t_spec_l1Own {l0 : (List Int)} {v : (List Int)} (h : F_spec_l1Own l0 = some v) : Ret Try.prog f_spec_l1Own [(slr false 1 vint) l0] ((slr true 1 vint) v) := by
  refine ret_vc k_spec_l1Own (Nat.le_of_ble_eq_true rfl) ?_
  unfold F_spec_l1Own at h
  conv => whnf
  refine BslQ.o vint (nilL Int) (by exact fun _ => ⟨rfl, rfl⟩) (by first | rfl | simp only [mulN_one, V.fz, fzL, V.up, upL, fzL_map, fz_slr, fz_at, slr, List.cons_append, List.nil_append] | simp [mulN_one, V.fz, fzL, V.up, upL, fzL_map, fz_slr, fz_at, slr]) ?_
  conv => whnf
  refine AppQ.o (m := 1) vint (by exact fun _ => ⟨rfl, rfl⟩) (nilL Int) (l0) (by first | rfl | simp only [mulN_one, V.fz, fzL, V.up, upL, fzL_map, fz_slr, fz_at, slr, List.cons_append, List.nil_append] | simp [mulN_one, V.fz, fzL, V.up, upL, fzL_map, fz_slr, fz_at, slr]) (by first | rfl | simp only [mulN_one, V.fz, fzL, V.up, upL, fzL_map, fz_slr, fz_at, slr, List.cons_append, List.nil_append] | simp [mulN_one, V.fz, fzL, V.up, upL, fzL_map, fz_slr, fz_at, slr]) h fun h => ?_
  conv => whnf
  cases h; exact (by first | rfl | simp only [resV, mulN_one, V.fz, fzL, V.up, upL, fzL_map, fz_slr, fz_at, slr] | simp [resV, mulN_one, V.fz, fzL, V.up, upL, fzL_map, fz_slr, fz_at, slr])

noncomputable def F_spec_l6Identity_l1 (n0 : Int) : (Int × (List Int)) → Option ((Int × (List Int)) ⊕ (List Int)) := fun (x4, x3) =>
   if x4 < n0 then
    ask ((x3).length + ([x4]).length ≤ LIM) <|
    ask (InI (x4 + (1 : Int))) <|
    some (.inl (x4 + (1 : Int), x3 ++ [x4]))
   else
    some (.inr x3)
def S_spec_l6Identity_l1 (n0 : Int) : (Int × (List Int)) → St := fun s => [(4, A.val (vint s.1)), (3, A.val ((slr true 1 vint) s.2)), (0, A.val (vint (n0)))]
def T_spec_l6Identity_l1 (_n0 : Int) : (List Int) → Tgt
  | s => ((Ex.exit 0), [3], [(3, A.val ((slr true 1 vint) s))])
theorem b_spec_l6Identity_l1 {n0 : Int} (s : (Int × (List Int))) (o : (Int × (List Int)) ⊕ (List Int)) (h : F_spec_l6Identity_l1 n0 s = some o) : vc Try.prog c_spec_l6Identity_l1 (outQ [4, 3, 0] (S_spec_l6Identity_l1 n0) (T_spec_l6Identity_l1 n0) o) (S_spec_l6Identity_l1 n0 s) := by
  obtain ⟨x4, x3⟩ := s
  unfold F_spec_l6Identity_l1 at h
  try dsimp only at h
  conv => whnf
  refine Br.od h (fun p1 h => ?_) (fun p1 h => ?_)
  · conv => whnf
    refine BslQ.o vint [x4] (by exact fun _ => ⟨rfl, rfl⟩) (by first | rfl | simp only [mulN_one, V.fz, fzL, V.up, upL, fzL_map, fz_slr, fz_at, slr, List.cons_append, List.nil_append] | simp [mulN_one, V.fz, fzL, V.up, upL, fzL_map, fz_slr, fz_at, slr]) ?_
    conv => whnf
    refine NoOwn.o (fun _ => rfl) ?_
    conv => whnf
    refine AppQ.o (m := 1) vint (by exact fun _ => ⟨rfl, rfl⟩) (x3) ([x4]) (by first | rfl | simp only [mulN_one, V.fz, fzL, V.up, upL, fzL_map, fz_slr, fz_at, slr, List.cons_append, List.nil_append] | simp [mulN_one, V.fz, fzL, V.up, upL, fzL_map, fz_slr, fz_at, slr]) (by first | rfl | simp only [mulN_one, V.fz, fzL, V.up, upL, fzL_map, fz_slr, fz_at, slr, List.cons_append, List.nil_append] | simp [mulN_one, V.fz, fzL, V.up, upL, fzL_map, fz_slr, fz_at, slr]) h fun h => ?_
    conv => whnf
    refine Ask.o h fun p2 h => ?_
    conv => whnf
    cases h; exact ⟨rfl, rfl⟩
  · conv => whnf
    cases h; exact ⟨rfl, rfl⟩

noncomputable def F_spec_l6Identity (n0 : Int) : Option (List Int) :=
  (loopO (F_spec_l6Identity_l1 n0) ((0 : Int), nilL Int)).bind fun q3_3 =>
  some q3_3
theorem t_spec_l6Identity {n0 : Int} {v : (List Int)} (h : F_spec_l6Identity n0 = some v) : Ret Try.prog f_spec_l6Identity [vint n0] ((slr true 1 vint) v) := by
  refine ret_vc k_spec_l6Identity (Nat.le_of_ble_eq_true rfl) ?_
  unfold F_spec_l6Identity at h
  conv => whnf
  refine BslQ.o vint (nilL Int) (by exact fun _ => ⟨rfl, rfl⟩) (by first | rfl | simp only [mulN_one, V.fz, fzL, V.up, upL, fzL_map, fz_slr, fz_at, slr, List.cons_append, List.nil_append] | simp [mulN_one, V.fz, fzL, V.up, upL, fzL_map, fz_slr, fz_at, slr]) ?_
  conv => whnf
  refine LoopQ.o [4, 3, 0] (S_spec_l6Identity_l1 n0) (T_spec_l6Identity_l1 n0) h (fun s o h => b_spec_l6Identity_l1 s o h) (by first | rfl | simp [restrict, look, mulN_one, V.fz, fzL, V.up, upL, fzL_map, fz_slr, fz_at, slr]) (fun _ => rfl) ?_
  rintro q3_3 h
  try dsimp only at h
  conv => whnf
  cases h; exact (by first | rfl | simp only [resV, mulN_one, V.fz, fzL, V.up, upL, fzL_map, fz_slr, fz_at, slr] | simp [resV, mulN_one, V.fz, fzL, V.up, upL, fzL_map, fz_slr, fz_at, slr])

noncomputable def F_laws_szIntS (a0 : (List Int)) (left0 : Int) : Option Int :=
  ask (InI (left0 - (↑a0.length : Int))) <|
  if left0 - (↑a0.length : Int) < (0 : Int) then
   some (-1 : Int)
  else
   some (left0 - (↑a0.length : Int))
theorem t_laws_szIntS {a0 : (List Int)} {left0 : Int} {v : Int} (h : F_laws_szIntS a0 left0 = some v) : Ret Try.prog f_laws_szIntS [(slr false 1 vint) a0, vint left0] (vint v) := by
  refine ret_vc k_laws_szIntS (Nat.le_of_ble_eq_true rfl) ?_
  unfold F_laws_szIntS at h
  conv => whnf
  refine Len.map ?_
  conv => whnf
  refine Ask.o h fun p1 h => ?_
  conv => whnf
  refine Br.od h (fun p2 h => ?_) (fun p2 h => ?_)
  · conv => whnf
    cases h; exact (by first | rfl | simp only [resV, mulN_one, V.fz, fzL, V.up, upL, fzL_map, fz_slr, fz_at, slr] | simp [resV, mulN_one, V.fz, fzL, V.up, upL, fzL_map, fz_slr, fz_at, slr])
  · conv => whnf
    cases h; exact (by first | rfl | simp only [resV, mulN_one, V.fz, fzL, V.up, upL, fzL_map, fz_slr, fz_at, slr] | simp [resV, mulN_one, V.fz, fzL, V.up, upL, fzL_map, fz_slr, fz_at, slr])

end Go.Proofs.Ytdodfnbbfkcgnaa.Ax
