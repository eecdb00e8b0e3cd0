/-
  What the functions compute, as functions on plain data, and that the program does compute it; written by program.
-/
import Derived.Test.YtdodfnbbfkcgnaaCode
namespace Go.Proofs.Ytdodfnbbfkcgnaa.Ax
open Go
set_option maxRecDepth 100000
set_option maxHeartbeats 4000000

noncomputable def F_impl_inSize_l1 (list0 : List Int) (n0 : Int) : Int → Option (Int ⊕ (Unit ⊕ Unit)) := fun x9 =>
   if x9 < (↑list0.length : Int) then
    ask ((0 : Int) ≤ x9 ∧ x9 < (↑list0.length : Int)) <|
    if nth list0 x9.toNat < (0 : Int) then
     some (.inr (.inl ()))
    else
     if nth list0 x9.toNat ≥ n0 then
      some (.inr (.inl ()))
     else
      ask (InI (x9 + (1 : Int))) <|
      some (.inl (x9 + (1 : Int)))
   else
    some (.inr (.inr ()))
def S_impl_inSize_l1 (list0 : List Int) (n0 : Int) : Int → St := fun s => [(9, A.val (vint s)), (8, A.val (vint ((↑list0.length : Int)))), (7, A.val ((slr false 1 vint) (list0))), (1, A.val (vint (n0)))]
def T_impl_inSize_l1 (_list0 : List Int) (_n0 : Int) : (Unit ⊕ Unit) → Tgt
  | (.inl _s) => (Ex.ret, [4], [(4, A.val (V.bool (false)))])
  | (.inr _s) => ((Ex.exit 0), [], [])
theorem b_impl_inSize_l1 {list0 : List Int} {n0 : Int} (x9 : Int) (o : Int ⊕ (Unit ⊕ Unit)) (h : F_impl_inSize_l1 list0 n0 x9 = some o) : vc Try.prog c_impl_inSize_l1 (outQ [9, 8, 7, 1] (S_impl_inSize_l1 list0 n0) (T_impl_inSize_l1 list0 n0) o) (S_impl_inSize_l1 list0 n0 x9) := by
  unfold F_impl_inSize_l1 at h
  try dsimp only at h
  conv => whnf
  refine Br.od h (fun p1 h => ?_) (fun p1 h => ?_)
  · conv => whnf
    refine Len.map ?_
    conv => whnf
    refine Ask.o h fun p2 h => ?_
    conv => whnf
    refine Elem.o (by first | omega | (simp only [mulN] at *; omega) | (simp [mulN] at *; omega)) ?_
    conv => whnf
    refine Br.od h (fun p3 h => ?_) (fun p3 h => ?_)
    · conv => whnf
      refine Br.yes ?_
      conv => whnf
      refine Br.yes ?_
      conv => whnf
      refine Br.yes ?_
      conv => whnf
      refine Br.yes ?_
      conv => whnf
      cases h; exact ⟨rfl, rfl⟩
    · conv => whnf
      refine Br.no ?_
      conv => whnf
      refine Br.no ?_
      conv => whnf
      refine Br.no ?_
      conv => whnf
      refine Br.od h (fun p4 h => ?_) (fun p4 h => ?_)
      · conv => whnf
        cases h; exact ⟨rfl, rfl⟩
      · conv => whnf
        refine Ask.o h fun p5 h => ?_
        conv => whnf
        cases h; exact ⟨rfl, rfl⟩
  · conv => whnf
    cases h; exact ⟨rfl, rfl⟩

noncomputable def F_impl_inSize (list0 : (List Int)) (n0 : Int) : Option Bool :=
  (loopO (F_impl_inSize_l1 list0 n0) (0 : Int)).bind fun t => match t with
  | (.inl _) => (some false)
  | (.inr _) => (some true)
theorem t_impl_inSize {list0 : (List Int)} {n0 : Int} {v : Bool} (h : F_impl_inSize list0 n0 = some v) : Ret Try.prog f_impl_inSize [(slr false 1 vint) list0, vint n0] (V.bool v) := by
  refine ret_vc k_impl_inSize (Nat.le_of_ble_eq_true rfl) ?_
  unfold F_impl_inSize at h
  conv => whnf
  refine Len.map ?_
  conv => whnf
  refine LoopQ.o [9, 8, 7, 1] (S_impl_inSize_l1 list0 n0) (T_impl_inSize_l1 list0 n0) h (fun s o h => b_impl_inSize_l1 s o h) (by first | rfl | simp [restrict, look, mulN_one, V.fz, fzL, V.up, upL, fzL_map, fz_slr, fz_at, slr]) (by rintro (_ | _) <;> rfl) ?_
  rintro (⟨⟩ | ⟨⟩) h
  · try dsimp only at h
    conv => whnf
    cases h; exact (by first | rfl | simp only [resV, mulN_one, V.fz, fzL, V.up, upL, fzL_map, fz_slr, fz_at, slr] | simp [resV, mulN_one, V.fz, fzL, V.up, upL, fzL_map, fz_slr, fz_at, slr])
  · try dsimp only at h
    conv => whnf
    cases h; exact (by first | rfl | simp only [resV, mulN_one, V.fz, fzL, V.up, upL, fzL_map, fz_slr, fz_at, slr] | simp [resV, mulN_one, V.fz, fzL, V.up, upL, fzL_map, fz_slr, fz_at, slr])

noncomputable def F_spec_l1Has_l1 (l0 : List Int) (n0 : Int) : Int → Option (Int ⊕ (Unit ⊕ Unit)) := fun x5 =>
   if x5 < (↑l0.length : Int) then
    ask ((0 : Int) ≤ x5 ∧ x5 < (↑l0.length : Int)) <|
    if nth l0 x5.toNat = n0 then
     some (.inr (.inl ()))
    else
     ask (InI (x5 + (1 : Int))) <|
     some (.inl (x5 + (1 : Int)))
   else
    some (.inr (.inr ()))
def S_spec_l1Has_l1 (l0 : List Int) (n0 : Int) : Int → St := fun s => [(5, A.val (vint s)), (0, A.val ((slr false 1 vint) (l0))), (1, A.val (vint (n0)))]
def T_spec_l1Has_l1 (_l0 : List Int) (_n0 : Int) : (Unit ⊕ Unit) → Tgt
  | (.inl _s) => (Ex.ret, [4], [(4, A.val (V.bool (true)))])
  | (.inr _s) => ((Ex.exit 0), [], [])
theorem b_spec_l1Has_l1 {l0 : List Int} {n0 : Int} (x5 : Int) (o : Int ⊕ (Unit ⊕ Unit)) (h : F_spec_l1Has_l1 l0 n0 x5 = some o) : vc Try.prog c_spec_l1Has_l1 (outQ [5, 0, 1] (S_spec_l1Has_l1 l0 n0) (T_spec_l1Has_l1 l0 n0) o) (S_spec_l1Has_l1 l0 n0 x5) := by
  unfold F_spec_l1Has_l1 at h
  try dsimp only at h
  conv => whnf
  refine Len.map ?_
  conv => whnf
  refine Br.od h (fun p1 h => ?_) (fun p1 h => ?_)
  · conv => whnf
    refine Len.map ?_
    conv => whnf
    refine Ask.o h fun p2 h => ?_
    conv => whnf
    refine Elem.o (by first | omega | (simp only [mulN] at *; omega) | (simp [mulN] at *; omega)) ?_
    conv => whnf
    refine Br.oe h (fun p3 h => ?_) (fun p3 h => ?_)
    · conv => whnf
      cases h; exact ⟨rfl, rfl⟩
    · conv => whnf
      refine Ask.o h fun p4 h => ?_
      conv => whnf
      cases h; exact ⟨rfl, rfl⟩
  · conv => whnf
    cases h; exact ⟨rfl, rfl⟩

noncomputable def F_spec_l1Has (l0 : (List Int)) (n0 : Int) : Option Bool :=
  (loopO (F_spec_l1Has_l1 l0 n0) (0 : Int)).bind fun t => match t with
  | (.inl _) => (some true)
  | (.inr _) => (some false)
theorem t_spec_l1Has {l0 : (List Int)} {n0 : Int} {v : Bool} (h : F_spec_l1Has l0 n0 = some v) : Ret Try.prog f_spec_l1Has [(slr false 1 vint) l0, vint n0] (V.bool v) := by
  refine ret_vc k_spec_l1Has (Nat.le_of_ble_eq_true rfl) ?_
  unfold F_spec_l1Has at h
  conv => whnf
  refine LoopQ.o [5, 0, 1] (S_spec_l1Has_l1 l0 n0) (T_spec_l1Has_l1 l0 n0) h (fun s o h => b_spec_l1Has_l1 s o h) (by first | rfl | simp [restrict, look, mulN_one, V.fz, fzL, V.up, upL, fzL_map, fz_slr, fz_at, slr]) (by rintro (_ | _) <;> rfl) ?_
  rintro (⟨⟩ | ⟨⟩) h
  · try dsimp only at h
    conv => whnf
    cases h; exact (by first | rfl | simp only [resV, mulN_one, V.fz, fzL, V.up, upL, fzL_map, fz_slr, fz_at, slr] | simp [resV, mulN_one, V.fz, fzL, V.up, upL, fzL_map, fz_slr, fz_at, slr])
  · try dsimp only at h
    conv => whnf
    cases h; exact (by first | rfl | simp only [resV, mulN_one, V.fz, fzL, V.up, upL, fzL_map, fz_slr, fz_at, slr] | simp [resV, mulN_one, V.fz, fzL, V.up, upL, fzL_map, fz_slr, fz_at, slr])

noncomputable def F_impl_rises_l1 (list0 : List Int) : Int → Option (Int ⊕ (Unit ⊕ Unit)) := fun x3 =>
   if x3 < (↑list0.length : Int) then
    ask (InI (x3 - (1 : Int))) <|
    ask ((0 : Int) ≤ x3 - (1 : Int) ∧ x3 - (1 : Int) < (↑list0.length : Int)) <|
    ask ((0 : Int) ≤ x3 ∧ x3 < (↑list0.length : Int)) <|
    if nth list0 (x3 - (1 : Int)).toNat ≥ nth list0 x3.toNat then
     some (.inr (.inl ()))
    else
     ask (InI (x3 + (1 : Int))) <|
     some (.inl (x3 + (1 : Int)))
   else
    some (.inr (.inr ()))
def S_impl_rises_l1 (list0 : List Int) : Int → St := fun s => [(3, A.val (vint s)), (0, A.val ((slr false 1 vint) (list0)))]
def T_impl_rises_l1 (_list0 : List Int) : (Unit ⊕ Unit) → Tgt
  | (.inl _s) => (Ex.ret, [2], [(2, A.val (V.bool (false)))])
  | (.inr _s) => ((Ex.exit 0), [], [])
theorem b_impl_rises_l1 {list0 : List Int} (x3 : Int) (o : Int ⊕ (Unit ⊕ Unit)) (h : F_impl_rises_l1 list0 x3 = some o) : vc Try.prog c_impl_rises_l1 (outQ [3, 0] (S_impl_rises_l1 list0) (T_impl_rises_l1 list0) o) (S_impl_rises_l1 list0 x3) := by
  unfold F_impl_rises_l1 at h
  try dsimp only at h
  conv => whnf
  refine Len.map ?_
  conv => whnf
  refine Br.od h (fun p1 h => ?_) (fun p1 h => ?_)
  · conv => whnf
    refine Ask.o h fun p2 h => ?_
    conv => whnf
    refine Len.map ?_
    conv => whnf
    refine Ask.o h fun p3 h => ?_
    conv => whnf
    refine Elem.o (by first | omega | (simp only [mulN] at *; omega) | (simp [mulN] at *; omega)) ?_
    conv => whnf
    refine Len.map ?_
    conv => whnf
    refine Ask.o h fun p4 h => ?_
    conv => whnf
    refine Elem.o (by first | omega | (simp only [mulN] at *; omega) | (simp [mulN] at *; omega)) ?_
    conv => whnf
    refine Br.od h (fun p5 h => ?_) (fun p5 h => ?_)
    · conv => whnf
      cases h; exact ⟨rfl, rfl⟩
    · conv => whnf
      refine Ask.o h fun p6 h => ?_
      conv => whnf
      cases h; exact ⟨rfl, rfl⟩
  · conv => whnf
    cases h; exact ⟨rfl, rfl⟩

noncomputable def F_impl_rises (list0 : (List Int)) : Option Bool :=
  (loopO (F_impl_rises_l1 list0) (1 : Int)).bind fun t => match t with
  | (.inl _) => (some false)
  | (.inr _) => (some true)
theorem t_impl_rises {list0 : (List Int)} {v : Bool} (h : F_impl_rises list0 = some v) : Ret Try.prog f_impl_rises [(slr false 1 vint) list0] (V.bool v) := by
  refine ret_vc k_impl_rises (Nat.le_of_ble_eq_true rfl) ?_
  unfold F_impl_rises at h
  conv => whnf
  refine LoopQ.o [3, 0] (S_impl_rises_l1 list0) (T_impl_rises_l1 list0) h (fun s o h => b_impl_rises_l1 s o h) (by first | rfl | simp [restrict, look, mulN_one, V.fz, fzL, V.up, upL, fzL_map, fz_slr, fz_at, slr]) (by rintro (_ | _) <;> rfl) ?_
  rintro (⟨⟩ | ⟨⟩) h
  · try dsimp only at h
    conv => whnf
    cases h; exact (by first | rfl | simp only [resV, mulN_one, V.fz, fzL, V.up, upL, fzL_map, fz_slr, fz_at, slr] | simp [resV, mulN_one, V.fz, fzL, V.up, upL, fzL_map, fz_slr, fz_at, slr])
  · try dsimp only at h
    conv => whnf
    cases h; exact (by first | rfl | simp only [resV, mulN_one, V.fz, fzL, V.up, upL, fzL_map, fz_slr, fz_at, slr] | simp [resV, mulN_one, V.fz, fzL, V.up, upL, fzL_map, fz_slr, fz_at, slr])

noncomputable def F_impl_order_isOrder_l1 (o0 : List (List Bool)) (x8 : Int) (x21 : Int) : Int → Option (Int ⊕ (Unit ⊕ Unit)) := fun x47 =>
   if x47 < (↑o0.length : Int) then
    ask ((0 : Int) ≤ x8 ∧ x8 < (↑o0.length : Int)) <|
    ask ((0 : Int) ≤ x21 ∧ x21 < (↑(nth o0 x8.toNat).length : Int)) <|
    if (nth (nth o0 x8.toNat) x21.toNat) = true then
     ask ((0 : Int) ≤ x21 ∧ x21 < (↑o0.length : Int)) <|
     ask ((0 : Int) ≤ x47 ∧ x47 < (↑(nth o0 x21.toNat).length : Int)) <|
     if (nth (nth o0 x21.toNat) x47.toNat) = true then
      ask ((0 : Int) ≤ x8 ∧ x8 < (↑o0.length : Int)) <|
      ask ((0 : Int) ≤ x47 ∧ x47 < (↑(nth o0 x8.toNat).length : Int)) <|
      if (nth (nth o0 x8.toNat) x47.toNat) = true then
       ask (InI (x47 + (1 : Int))) <|
       some (.inl (x47 + (1 : Int)))
      else
       some (.inr (.inl ()))
     else
      ask (InI (x47 + (1 : Int))) <|
      some (.inl (x47 + (1 : Int)))
    else
     ask (InI (x47 + (1 : Int))) <|
     some (.inl (x47 + (1 : Int)))
   else
    some (.inr (.inr ()))
def S_impl_order_isOrder_l1 (o0 : List (List Bool)) (x8 : Int) (x21 : Int) : Int → St := fun s => [(47, A.val (vint s)), (46, A.val (vint ((↑o0.length : Int)))), (4, A.val (vint (x21))), (21, A.val (vint (x21))), (20, A.val (vint ((↑o0.length : Int)))), (3, A.val (vint (x8))), (8, A.val (vint (x8))), (7, A.val (vint ((↑o0.length : Int)))), (0, A.val ((slr false 1 (slr false 1 V.bool)) (o0)))]
def T_impl_order_isOrder_l1 (o0 : List (List Bool)) (x8 : Int) (x21 : Int) : (Unit ⊕ Unit) → Tgt
  | (.inl _s) => (Ex.ret, [2], [(2, A.val (V.bool (false)))])
  | (.inr _s) => ((Ex.exit 4), [21, 20, 3, 8, 7, 0], [(21, A.val (vint (x21))), (20, A.val (vint ((↑o0.length : Int)))), (3, A.val (vint (x8))), (8, A.val (vint (x8))), (7, A.val (vint ((↑o0.length : Int)))), (0, A.val ((slr false 1 (slr false 1 V.bool)) (o0)))])
theorem b_impl_order_isOrder_l1 {o0 : List (List Bool)} {x8 : Int} {x21 : Int} (x47 : Int) (o : Int ⊕ (Unit ⊕ Unit)) (h : F_impl_order_isOrder_l1 o0 x8 x21 x47 = some o) : vc Try.prog c_impl_order_isOrder_l1 (outQ [47, 46, 4, 21, 20, 3, 8, 7, 0] (S_impl_order_isOrder_l1 o0 x8 x21) (T_impl_order_isOrder_l1 o0 x8 x21) o) (S_impl_order_isOrder_l1 o0 x8 x21 x47) := by
  unfold F_impl_order_isOrder_l1 at h
  try dsimp only at h
  conv => whnf
  refine Br.od h (fun p14 h => ?_) (fun p14 h => ?_)
  · conv => whnf
    refine Len.map ?_
    conv => whnf
    refine Ask.o h fun p15 h => ?_
    conv => whnf
    refine Elem.o (by first | omega | (simp only [mulN] at *; omega) | (simp [mulN] at *; omega)) ?_
    conv => whnf
    refine Len.map ?_
    conv => whnf
    refine Ask.o h fun p16 h => ?_
    conv => whnf
    refine Elem.o (by first | omega | (simp only [mulN] at *; omega) | (simp [mulN] at *; omega)) ?_
    conv => whnf
    refine Br.ob h (fun p17 h => ?_) (fun p17 h => ?_)
    · conv => whnf
      refine Br.yes ?_
      conv => whnf
      refine Br.yes ?_
      conv => whnf
      refine Len.map ?_
      conv => whnf
      refine Ask.o h fun p18 h => ?_
      conv => whnf
      refine Elem.o (by first | omega | (simp only [mulN] at *; omega) | (simp [mulN] at *; omega)) ?_
      conv => whnf
      refine Br.yes ?_
      conv => whnf
      refine Br.yes ?_
      conv => whnf
      refine Br.yes ?_
      conv => whnf
      refine Len.map ?_
      conv => whnf
      refine Ask.o h fun p19 h => ?_
      conv => whnf
      refine Elem.o (by first | omega | (simp only [mulN] at *; omega) | (simp [mulN] at *; omega)) ?_
      conv => whnf
      refine Br.yes ?_
      conv => whnf
      refine Br.yes ?_
      conv => whnf
      refine Br.ob h (fun p20 h => ?_) (fun p20 h => ?_)
      · conv => whnf
        refine Br.yes ?_
        conv => whnf
        refine Br.yes ?_
        conv => whnf
        refine Len.map ?_
        conv => whnf
        refine Ask.o h fun p21 h => ?_
        conv => whnf
        refine Elem.o (by first | omega | (simp only [mulN] at *; omega) | (simp [mulN] at *; omega)) ?_
        conv => whnf
        refine Br.yes ?_
        conv => whnf
        refine Br.yes ?_
        conv => whnf
        refine Br.yes ?_
        conv => whnf
        refine Len.map ?_
        conv => whnf
        refine Ask.o h fun p22 h => ?_
        conv => whnf
        refine Elem.o (by first | omega | (simp only [mulN] at *; omega) | (simp [mulN] at *; omega)) ?_
        conv => whnf
        refine Br.yes ?_
        conv => whnf
        refine Br.yes ?_
        conv => whnf
        refine Br.yes ?_
        conv => whnf
        refine Br.flip ?_
        conv => whnf
        refine Br.ob h (fun p23 h => ?_) (fun p23 h => ?_)
        · conv => whnf
          refine Ask.o h fun p24 h => ?_
          conv => whnf
          cases h; exact ⟨rfl, rfl⟩
        · conv => whnf
          cases h; exact ⟨rfl, rfl⟩
      · conv => whnf
        refine Br.no ?_
        conv => whnf
        refine Br.no ?_
        conv => whnf
        refine Br.no ?_
        conv => whnf
        refine Br.no ?_
        conv => whnf
        refine Br.no ?_
        conv => whnf
        refine Br.no ?_
        conv => whnf
        refine Br.no ?_
        conv => whnf
        refine Br.no ?_
        conv => whnf
        refine Br.no ?_
        conv => whnf
        refine Ask.o h fun p25 h => ?_
        conv => whnf
        cases h; exact ⟨rfl, rfl⟩
    · conv => whnf
      refine Br.no ?_
      conv => whnf
      refine Br.no ?_
      conv => whnf
      refine Br.no ?_
      conv => whnf
      refine Br.no ?_
      conv => whnf
      refine Br.no ?_
      conv => whnf
      refine Br.no ?_
      conv => whnf
      refine Br.no ?_
      conv => whnf
      refine Br.no ?_
      conv => whnf
      refine Br.no ?_
      conv => whnf
      refine Br.no ?_
      conv => whnf
      refine Br.no ?_
      conv => whnf
      refine Br.no ?_
      conv => whnf
      refine Br.no ?_
      conv => whnf
      refine Br.no ?_
      conv => whnf
      refine Br.no ?_
      conv => whnf
      refine Br.no ?_
      conv => whnf
      refine Br.no ?_
      conv => whnf
      refine Ask.o h fun p26 h => ?_
      conv => whnf
      cases h; exact ⟨rfl, rfl⟩
  · conv => whnf
    cases h; exact ⟨rfl, rfl⟩

noncomputable def F_impl_order_isOrder_l2 (o0 : List (List Bool)) (x8 : Int) : Int → Option (Int ⊕ (Unit ⊕ Unit)) := fun x21 =>
   if x21 < (↑o0.length : Int) then
    ((if x8 ≠ x21 then
        ask ((0 : Int) ≤ x8 ∧ x8 < (↑o0.length : Int)) <|
        ask ((0 : Int) ≤ x21 ∧ x21 < (↑(nth o0 x8.toNat).length : Int)) <|
        if (nth (nth o0 x8.toNat) x21.toNat) = true then
         ask ((0 : Int) ≤ x21 ∧ x21 < (↑o0.length : Int)) <|
         ask ((0 : Int) ≤ x8 ∧ x8 < (↑(nth o0 x21.toNat).length : Int)) <|
         if (nth (nth o0 x21.toNat) x8.toNat) = true then
          some (.inl ())
         else
          some (.inr ())
        else
         some (.inr ())
       else
        some (.inr ()) : Option (Unit ⊕ Unit))).bind fun t => match t with
    | (.inl _) => (some (.inr (.inl ())))
    | (.inr _) => ((loopO (F_impl_order_isOrder_l1 o0 x8 x21) (0 : Int)).bind fun t => match t with
      | (.inl _) => (some (.inr (.inl ())))
      | (.inr _) => (ask (InI (x21 + (1 : Int))) <|
        some (.inl (x21 + (1 : Int)))))
   else
    some (.inr (.inr ()))
def S_impl_order_isOrder_l2 (o0 : List (List Bool)) (x8 : Int) : Int → St := fun s => [(21, A.val (vint s)), (20, A.val (vint ((↑o0.length : Int)))), (3, A.val (vint (x8))), (8, A.val (vint (x8))), (7, A.val (vint ((↑o0.length : Int)))), (0, A.val ((slr false 1 (slr false 1 V.bool)) (o0)))]
def T_impl_order_isOrder_l2 (o0 : List (List Bool)) (x8 : Int) : (Unit ⊕ Unit) → Tgt
  | (.inl _s) => (Ex.ret, [2], [(2, A.val (V.bool (false)))])
  | (.inr _s) => ((Ex.exit 2), [8, 7, 0], [(8, A.val (vint (x8))), (7, A.val (vint ((↑o0.length : Int)))), (0, A.val ((slr false 1 (slr false 1 V.bool)) (o0)))])
theorem b_impl_order_isOrder_l2 {o0 : List (List Bool)} {x8 : Int} (x21 : Int) (o : Int ⊕ (Unit ⊕ Unit)) (h : F_impl_order_isOrder_l2 o0 x8 x21 = some o) : vc Try.prog c_impl_order_isOrder_l2 (outQ [21, 20, 3, 8, 7, 0] (S_impl_order_isOrder_l2 o0 x8) (T_impl_order_isOrder_l2 o0 x8) o) (S_impl_order_isOrder_l2 o0 x8 x21) := by
  unfold F_impl_order_isOrder_l2 at h
  try dsimp only at h
  conv => whnf
  refine Br.od h (fun p5 h => ?_) (fun p5 h => ?_)
  · conv => whnf
    refine CutQ.o (fun t : (Unit ⊕ Unit) => match t with | (.inl s) => (Ex.ret, [2], [(2, A.val (V.bool (false)))]) | (.inr s) => (Ex.normal, [4, 21, 20, 3, 8, 7, 0], [(4, A.val (vint (x21))), (21, A.val (vint (x21))), (20, A.val (vint ((↑o0.length : Int)))), (3, A.val (vint (x8))), (8, A.val (vint (x8))), (7, A.val (vint ((↑o0.length : Int)))), (0, A.val ((slr false 1 (slr false 1 V.bool)) (o0)))])) h ?_ ?_
    · intro t h
      conv => whnf
      refine Br.on h (fun p6 h => ?_) (fun p6 h => ?_)
      · conv => whnf
        refine Br.yes ?_
        conv => whnf
        refine Br.yes ?_
        conv => whnf
        refine Len.map ?_
        conv => whnf
        refine Ask.o h fun p7 h => ?_
        conv => whnf
        refine Elem.o (by first | omega | (simp only [mulN] at *; omega) | (simp [mulN] at *; omega)) ?_
        conv => whnf
        refine Br.yes ?_
        conv => whnf
        refine Br.yes ?_
        conv => whnf
        refine Br.yes ?_
        conv => whnf
        refine Len.map ?_
        conv => whnf
        refine Ask.o h fun p8 h => ?_
        conv => whnf
        refine Elem.o (by first | omega | (simp only [mulN] at *; omega) | (simp [mulN] at *; omega)) ?_
        conv => whnf
        refine Br.yes ?_
        conv => whnf
        refine Br.yes ?_
        conv => whnf
        refine Br.ob h (fun p9 h => ?_) (fun p9 h => ?_)
        · conv => whnf
          refine Br.yes ?_
          conv => whnf
          refine Br.yes ?_
          conv => whnf
          refine Len.map ?_
          conv => whnf
          refine Ask.o h fun p10 h => ?_
          conv => whnf
          refine Elem.o (by first | omega | (simp only [mulN] at *; omega) | (simp [mulN] at *; omega)) ?_
          conv => whnf
          refine Br.yes ?_
          conv => whnf
          refine Br.yes ?_
          conv => whnf
          refine Br.yes ?_
          conv => whnf
          refine Len.map ?_
          conv => whnf
          refine Ask.o h fun p11 h => ?_
          conv => whnf
          refine Elem.o (by first | omega | (simp only [mulN] at *; omega) | (simp [mulN] at *; omega)) ?_
          conv => whnf
          refine Br.yes ?_
          conv => whnf
          refine Br.yes ?_
          conv => whnf
          refine Br.ob h (fun p12 h => ?_) (fun p12 h => ?_)
          · conv => whnf
            cases h; exact ⟨rfl, rfl⟩
          · conv => whnf
            cases h; exact ⟨rfl, rfl⟩
        · conv => whnf
          refine Br.no ?_
          conv => whnf
          refine Br.no ?_
          conv => whnf
          refine Br.no ?_
          conv => whnf
          refine Br.no ?_
          conv => whnf
          refine Br.no ?_
          conv => whnf
          refine Br.no ?_
          conv => whnf
          refine Br.no ?_
          conv => whnf
          refine Br.no ?_
          conv => whnf
          cases h; exact ⟨rfl, rfl⟩
      · conv => whnf
        refine Br.no ?_
        conv => whnf
        refine Br.no ?_
        conv => whnf
        refine Br.no ?_
        conv => whnf
        refine Br.no ?_
        conv => whnf
        refine Br.no ?_
        conv => whnf
        refine Br.no ?_
        conv => whnf
        refine Br.no ?_
        conv => whnf
        refine Br.no ?_
        conv => whnf
        refine Br.no ?_
        conv => whnf
        refine Br.no ?_
        conv => whnf
        refine Br.no ?_
        conv => whnf
        refine Br.no ?_
        conv => whnf
        refine Br.no ?_
        conv => whnf
        refine Br.no ?_
        conv => whnf
        refine Br.no ?_
        conv => whnf
        refine Br.no ?_
        conv => whnf
        cases h; exact ⟨rfl, rfl⟩
    · rintro (⟨⟩ | ⟨⟩) h
      · try dsimp only at h
        conv => whnf
        cases h; exact ⟨rfl, rfl⟩
      · try dsimp only at h
        conv => whnf
        refine Len.map ?_
        conv => whnf
        refine LoopQ.o [47, 46, 4, 21, 20, 3, 8, 7, 0] (S_impl_order_isOrder_l1 o0 x8 x21) (T_impl_order_isOrder_l1 o0 x8 x21) h (fun s o h => b_impl_order_isOrder_l1 s o h) (by first | rfl | simp [restrict, look, mulN_one, V.fz, fzL, V.up, upL, fzL_map, fz_slr, fz_at, slr]) (by rintro (_ | _) <;> rfl) ?_
        rintro (⟨⟩ | ⟨⟩) h
        · try dsimp only at h
          conv => whnf
          cases h; exact ⟨rfl, rfl⟩
        · try dsimp only at h
          conv => whnf
          refine Ask.o h fun p28 h => ?_
          conv => whnf
          cases h; exact ⟨rfl, rfl⟩
  · conv => whnf
    cases h; exact ⟨rfl, rfl⟩

noncomputable def F_impl_order_isOrder_l3 (o0 : List (List Bool)) : Int → Option (Int ⊕ (Unit ⊕ Unit)) := fun x8 =>
   if x8 < (↑o0.length : Int) then
    ask ((0 : Int) ≤ x8 ∧ x8 < (↑o0.length : Int)) <|
    ask ((0 : Int) ≤ x8 ∧ x8 < (↑(nth o0 x8.toNat).length : Int)) <|
    if (nth (nth o0 x8.toNat) x8.toNat) = true then
     (loopO (F_impl_order_isOrder_l2 o0 x8) (0 : Int)).bind fun t => match t with
     | (.inl _) => (some (.inr (.inl ())))
     | (.inr _) => (ask (InI (x8 + (1 : Int))) <|
       some (.inl (x8 + (1 : Int))))
    else
     some (.inr (.inl ()))
   else
    some (.inr (.inr ()))
def S_impl_order_isOrder_l3 (o0 : List (List Bool)) : Int → St := fun s => [(8, A.val (vint s)), (7, A.val (vint ((↑o0.length : Int)))), (0, A.val ((slr false 1 (slr false 1 V.bool)) (o0)))]
def T_impl_order_isOrder_l3 (_o0 : List (List Bool)) : (Unit ⊕ Unit) → Tgt
  | (.inl _s) => (Ex.ret, [2], [(2, A.val (V.bool (false)))])
  | (.inr _s) => ((Ex.exit 0), [], [])
theorem b_impl_order_isOrder_l3 {o0 : List (List Bool)} (x8 : Int) (o : Int ⊕ (Unit ⊕ Unit)) (h : F_impl_order_isOrder_l3 o0 x8 = some o) : vc Try.prog c_impl_order_isOrder_l3 (outQ [8, 7, 0] (S_impl_order_isOrder_l3 o0) (T_impl_order_isOrder_l3 o0) o) (S_impl_order_isOrder_l3 o0 x8) := by
  unfold F_impl_order_isOrder_l3 at h
  try dsimp only at h
  conv => whnf
  refine Br.od h (fun p1 h => ?_) (fun p1 h => ?_)
  · conv => whnf
    refine Len.map ?_
    conv => whnf
    refine Ask.o h fun p2 h => ?_
    conv => whnf
    refine Elem.o (by first | omega | (simp only [mulN] at *; omega) | (simp [mulN] at *; omega)) ?_
    conv => whnf
    refine Len.map ?_
    conv => whnf
    refine Ask.o h fun p3 h => ?_
    conv => whnf
    refine Elem.o (by first | omega | (simp only [mulN] at *; omega) | (simp [mulN] at *; omega)) ?_
    conv => whnf
    refine Br.flip ?_
    conv => whnf
    refine Br.ob h (fun p4 h => ?_) (fun p4 h => ?_)
    · conv => whnf
      refine Len.map ?_
      conv => whnf
      refine LoopQ.o [21, 20, 3, 8, 7, 0] (S_impl_order_isOrder_l2 o0 x8) (T_impl_order_isOrder_l2 o0 x8) h (fun s o h => b_impl_order_isOrder_l2 s o h) (by first | rfl | simp [restrict, look, mulN_one, V.fz, fzL, V.up, upL, fzL_map, fz_slr, fz_at, slr]) (by rintro (_ | _) <;> rfl) ?_
      rintro (⟨⟩ | ⟨⟩) h
      · try dsimp only at h
        conv => whnf
        cases h; exact ⟨rfl, rfl⟩
      · try dsimp only at h
        conv => whnf
        refine Ask.o h fun p30 h => ?_
        conv => whnf
        cases h; exact ⟨rfl, rfl⟩
    · conv => whnf
      cases h; exact ⟨rfl, rfl⟩
  · conv => whnf
    cases h; exact ⟨rfl, rfl⟩

noncomputable def F_impl_order_isOrder (o0 : (List (List Bool))) : Option Bool :=
  (loopO (F_impl_order_isOrder_l3 o0) (0 : Int)).bind fun t => match t with
  | (.inl _) => (some false)
  | (.inr _) => (some true)
theorem t_impl_order_isOrder {o0 : (List (List Bool))} {v : Bool} (h : F_impl_order_isOrder o0 = some v) : Ret Try.prog f_impl_order_isOrder [(slr false 1 (slr false 1 V.bool)) o0] (V.bool v) := by
  refine ret_vc k_impl_order_isOrder (Nat.le_of_ble_eq_true rfl) ?_
  unfold F_impl_order_isOrder at h
  conv => whnf
  refine Len.map ?_
  conv => whnf
  refine LoopQ.o [8, 7, 0] (S_impl_order_isOrder_l3 o0) (T_impl_order_isOrder_l3 o0) h (fun s o h => b_impl_order_isOrder_l3 s o h) (by first | rfl | simp [restrict, look, mulN_one, V.fz, fzL, V.up, upL, fzL_map, fz_slr, fz_at, slr]) (by rintro (_ | _) <;> rfl) ?_
  rintro (⟨⟩ | ⟨⟩) h
  · try dsimp only at h
    conv => whnf
    cases h; exact (by first | rfl | simp only [resV, mulN_one, V.fz, fzL, V.up, upL, fzL_map, fz_slr, fz_at, slr] | simp [resV, mulN_one, V.fz, fzL, V.up, upL, fzL_map, fz_slr, fz_at, slr])
  · try dsimp only at h
    conv => whnf
    cases h; exact (by first | rfl | simp only [resV, mulN_one, V.fz, fzL, V.up, upL, fzL_map, fz_slr, fz_at, slr] | simp [resV, mulN_one, V.fz, fzL, V.up, upL, fzL_map, fz_slr, fz_at, slr])

noncomputable def F_impl_flatOp_l1 (table0 : List (List Int)) : (Int × SOp) → Option ((Int × SOp) ⊕ SOp) := fun (x9, x3) =>
   if x9 < (↑table0.length : Int) then
    ask ((0 : Int) ≤ x9 ∧ x9 < (↑table0.length : Int)) <|
    ask ((x3.Table).length + (nth table0 x9.toNat).length ≤ LIM) <|
    ask (InI (x9 + (1 : Int))) <|
    some (.inl (x9 + (1 : Int), { Arity := x3.Arity, Table := x3.Table ++ nth table0 x9.toNat }))
   else
    some (.inr x3)
def S_impl_flatOp_l1 (table0 : List (List Int)) : (Int × SOp) → St := fun s => [(9, A.val (vint s.1)), (8, A.val (vint ((↑table0.length : Int)))), (7, A.val ((slr false 1 (slr false 1 vint)) (table0))), (3, A.val ((rP true (rS_Op true)) s.2)), (2, A.val ((rP true (rS_Op true)) ({ Arity := (0 : Int), Table := nilL Int })))]
def T_impl_flatOp_l1 (_table0 : List (List Int)) : SOp → Tgt
  | s => ((Ex.exit 0), [3, 2], [(3, A.val ((rP true (rS_Op true)) s)), (2, A.val ((rP true (rS_Op true)) ({ Arity := (0 : Int), Table := nilL Int })))])
theorem b_impl_flatOp_l1 {table0 : List (List Int)} (s : (Int × SOp)) (o : (Int × SOp) ⊕ SOp) (h : F_impl_flatOp_l1 table0 s = some o) : vc Try.prog c_impl_flatOp_l1 (outQ [9, 8, 7, 3, 2] (S_impl_flatOp_l1 table0) (T_impl_flatOp_l1 table0) o) (S_impl_flatOp_l1 table0 s) := by
  obtain ⟨x9, x3⟩ := s
  unfold F_impl_flatOp_l1 at h
  try dsimp only at h
  conv => whnf
  refine Br.od h (fun p1 h => ?_) (fun p1 h => ?_)
  · conv => whnf
    refine Len.map ?_
    conv => whnf
    refine Ask.o h fun p2 h => ?_
    conv => whnf
    refine Elem.o (by first | omega | (simp only [mulN] at *; omega) | (simp [mulN] at *; omega)) ?_
    conv => whnf
    refine Cells.lit rfl rfl ?_
    conv => whnf
    refine AppQ.o (m := 1) vint (by exact fun _ => ⟨rfl, rfl⟩) (x3.Table) (nth table0 x9.toNat) (by first | rfl | simp only [mulN_one, V.fz, fzL, V.up, upL, fzL_map, fz_slr, fz_at, slr, List.cons_append, List.nil_append] | simp [mulN_one, V.fz, fzL, V.up, upL, fzL_map, fz_slr, fz_at, slr]) (by first | rfl | simp only [mulN_one, V.fz, fzL, V.up, upL, fzL_map, fz_slr, fz_at, slr, List.cons_append, List.nil_append] | simp [mulN_one, V.fz, fzL, V.up, upL, fzL_map, fz_slr, fz_at, slr]) h fun h => ?_
    conv => whnf
    refine SetKids.lit rfl ?_
    conv => whnf
    refine Ask.o h fun p3 h => ?_
    conv => whnf
    cases h; exact ⟨rfl, rfl⟩
  · conv => whnf
    cases h; exact ⟨rfl, rfl⟩

noncomputable def F_impl_flatOp (table0 : (List (List Int))) : Option SOp :=
  (loopO (F_impl_flatOp_l1 table0) ((0 : Int), { Arity := (2 : Int), Table := nilL Int })).bind fun q4_3 =>
  some q4_3
theorem t_impl_flatOp {table0 : (List (List Int))} {v : SOp} (h : F_impl_flatOp table0 = some v) : Ret Try.prog f_impl_flatOp [(slr false 1 (slr false 1 vint)) table0] ((rS_Op true) v) := by
  refine ret_vc k_impl_flatOp (Nat.le_of_ble_eq_true rfl) ?_
  unfold F_impl_flatOp at h
  conv => whnf
  refine SetKids.lit rfl ?_
  conv => whnf
  refine Len.map ?_
  conv => whnf
  refine LoopQ.o [9, 8, 7, 3, 2] (S_impl_flatOp_l1 table0) (T_impl_flatOp_l1 table0) h (fun s o h => b_impl_flatOp_l1 s o h) (by first | rfl | simp [restrict, look, mulN_one, V.fz, fzL, V.up, upL, fzL_map, fz_slr, fz_at, slr]) (fun _ => rfl) ?_
  rintro q4_3 h
  try dsimp only at h
  conv => whnf
  refine Cells.lit rfl rfl ?_
  conv => whnf
  refine SetKids.lit rfl ?_
  conv => whnf
  cases h; exact (by first | rfl | simp only [resV, mulN_one, V.fz, fzL, V.up, upL, fzL_map, fz_slr, fz_at, slr] | simp [resV, mulN_one, V.fz, fzL, V.up, upL, fzL_map, fz_slr, fz_at, slr])

noncomputable def F_spec_l2Pow_l1 (n0 : Int) : (Int × Int) → Option ((Int × Int) ⊕ Int) := fun (x5, x1) =>
   if x1 > (0 : Int) then
    ask (InI (x5 * n0)) <|
    ask (InI (x1 - (1 : Int))) <|
    some (.inl (x5 * n0, x1 - (1 : Int)))
   else
    some (.inr x5)
def S_spec_l2Pow_l1 (n0 : Int) : (Int × Int) → St := fun s => [(5, A.val (vint s.1)), (0, A.val (vint (n0))), (1, A.val (vint s.2))]
def T_spec_l2Pow_l1 (_n0 : Int) : Int → Tgt
  | s => ((Ex.exit 0), [5], [(5, A.val (vint s))])
theorem b_spec_l2Pow_l1 {n0 : Int} (s : (Int × Int)) (o : (Int × Int) ⊕ Int) (h : F_spec_l2Pow_l1 n0 s = some o) : vc Try.prog c_spec_l2Pow_l1 (outQ [5, 0, 1] (S_spec_l2Pow_l1 n0) (T_spec_l2Pow_l1 n0) o) (S_spec_l2Pow_l1 n0 s) := by
  obtain ⟨x5, x1⟩ := s
  unfold F_spec_l2Pow_l1 at h
  try dsimp only at h
  conv => whnf
  refine Br.od h (fun p1 h => ?_) (fun p1 h => ?_)
  · conv => whnf
    refine Ask.o h fun p2 h => ?_
    conv => whnf
    refine Ask.o h fun p3 h => ?_
    conv => whnf
    cases h; exact ⟨rfl, rfl⟩
  · conv => whnf
    cases h; exact ⟨rfl, rfl⟩

noncomputable def F_spec_l2Pow (n0 : Int) (k0 : Int) : Option Int :=
  (loopO (F_spec_l2Pow_l1 n0) ((1 : Int), k0)).bind fun q4_5 =>
  some q4_5
theorem t_spec_l2Pow {n0 : Int} {k0 : Int} {v : Int} (h : F_spec_l2Pow n0 k0 = some v) : Ret Try.prog f_spec_l2Pow [vint n0, vint k0] (vint v) := by
  refine ret_vc k_spec_l2Pow (Nat.le_of_ble_eq_true rfl) ?_
  unfold F_spec_l2Pow at h
  conv => whnf
  refine LoopQ.o [5, 0, 1] (S_spec_l2Pow_l1 n0) (T_spec_l2Pow_l1 n0) h (fun s o h => b_spec_l2Pow_l1 s o h) (by first | rfl | simp [restrict, look, mulN_one, V.fz, fzL, V.up, upL, fzL_map, fz_slr, fz_at, slr]) (fun _ => rfl) ?_
  rintro q4_5 h
  try dsimp only at h
  conv => whnf
  cases h; exact (by first | rfl | simp only [resV, mulN_one, V.fz, fzL, V.up, upL, fzL_map, fz_slr, fz_at, slr] | simp [resV, mulN_one, V.fz, fzL, V.up, upL, fzL_map, fz_slr, fz_at, slr])

noncomputable def F_impl_power_l1 (n0 : Int) : (Int × Int) → Option ((Int × Int) ⊕ Int) := fun (x5, x1) =>
   if x1 > (0 : Int) then
    ask (InI (x5 * n0)) <|
    ask (InI (x1 - (1 : Int))) <|
    some (.inl (x5 * n0, x1 - (1 : Int)))
   else
    some (.inr x5)
def S_impl_power_l1 (n0 : Int) : (Int × Int) → St := fun s => [(5, A.val (vint s.1)), (0, A.val (vint (n0))), (1, A.val (vint s.2))]
def T_impl_power_l1 (_n0 : Int) : Int → Tgt
  | s => ((Ex.exit 0), [5], [(5, A.val (vint s))])
theorem b_impl_power_l1 {n0 : Int} (s : (Int × Int)) (o : (Int × Int) ⊕ Int) (h : F_impl_power_l1 n0 s = some o) : vc Try.prog c_impl_power_l1 (outQ [5, 0, 1] (S_impl_power_l1 n0) (T_impl_power_l1 n0) o) (S_impl_power_l1 n0 s) := by
  obtain ⟨x5, x1⟩ := s
  unfold F_impl_power_l1 at h
  try dsimp only at h
  conv => whnf
  refine Br.od h (fun p1 h => ?_) (fun p1 h => ?_)
  · conv => whnf
    refine Ask.o h fun p2 h => ?_
    conv => whnf
    refine Ask.o h fun p3 h => ?_
    conv => whnf
    cases h; exact ⟨rfl, rfl⟩
  · conv => whnf
    cases h; exact ⟨rfl, rfl⟩

noncomputable def F_impl_power (n0 : Int) (k0 : Int) : Option Int :=
  (loopO (F_impl_power_l1 n0) ((1 : Int), k0)).bind fun q4_5 =>
  some q4_5
theorem t_impl_power {n0 : Int} {k0 : Int} {v : Int} (h : F_impl_power n0 k0 = some v) : Ret Try.prog f_impl_power [vint n0, vint k0] (vint v) := by
  refine ret_vc k_impl_power (Nat.le_of_ble_eq_true rfl) ?_
  unfold F_impl_power at h
  conv => whnf
  refine LoopQ.o [5, 0, 1] (S_impl_power_l1 n0) (T_impl_power_l1 n0) h (fun s o h => b_impl_power_l1 s o h) (by first | rfl | simp [restrict, look, mulN_one, V.fz, fzL, V.up, upL, fzL_map, fz_slr, fz_at, slr]) (fun _ => rfl) ?_
  rintro q4_5 h
  try dsimp only at h
  conv => whnf
  cases h; exact (by first | rfl | simp only [resV, mulN_one, V.fz, fzL, V.up, upL, fzL_map, fz_slr, fz_at, slr] | simp [resV, mulN_one, V.fz, fzL, V.up, upL, fzL_map, fz_slr, fz_at, slr])

noncomputable def F_impl_order_greatest_l1 (o0 : List (List Bool)) (list0 : List Int) (x12 : Int) : (Int × Bool) → Option ((Int × Bool) ⊕ Bool) := fun (x18, x7) =>
   if x18 < (↑list0.length : Int) then
    ask ((0 : Int) ≤ x18 ∧ x18 < (↑list0.length : Int)) <|
    if (x7) = true then
     ask ((0 : Int) ≤ nth list0 x18.toNat ∧ nth list0 x18.toNat < (↑o0.length : Int)) <|
     ask ((0 : Int) ≤ nth list0 x12.toNat ∧ nth list0 x12.toNat < (↑(nth o0 (nth list0 x18.toNat).toNat).length : Int)) <|
     ask (InI (x18 + (1 : Int))) <|
     some (.inl (x18 + (1 : Int), nth (nth o0 (nth list0 x18.toNat).toNat) (nth list0 x12.toNat).toNat))
    else
     ask (InI (x18 + (1 : Int))) <|
     some (.inl (x18 + (1 : Int), false))
   else
    some (.inr x7)
def S_impl_order_greatest_l1 (o0 : List (List Bool)) (list0 : List Int) (x12 : Int) : (Int × Bool) → St := fun s => [(18, A.val (vint s.1)), (17, A.val (vint ((↑list0.length : Int)))), (16, A.val ((slr false 1 vint) (list0))), (7, A.val (V.bool s.2)), (6, A.val (vint (nth list0 x12.toNat))), (12, A.val (vint (x12))), (11, A.val (vint ((↑list0.length : Int)))), (10, A.val ((slr false 1 vint) (list0))), (0, A.val ((slr false 1 (slr false 1 V.bool)) (o0))), (1, A.val ((slr false 1 vint) (list0)))]
def T_impl_order_greatest_l1 (o0 : List (List Bool)) (list0 : List Int) (x12 : Int) : Bool → Tgt
  | s => ((Ex.exit 2), [7, 6, 12, 11, 10, 0, 1], [(7, A.val (V.bool s)), (6, A.val (vint (nth list0 x12.toNat))), (12, A.val (vint (x12))), (11, A.val (vint ((↑list0.length : Int)))), (10, A.val ((slr false 1 vint) (list0))), (0, A.val ((slr false 1 (slr false 1 V.bool)) (o0))), (1, A.val ((slr false 1 vint) (list0)))])
theorem b_impl_order_greatest_l1 {o0 : List (List Bool)} {list0 : List Int} {x12 : Int} (s : (Int × Bool)) (o : (Int × Bool) ⊕ Bool) (h : F_impl_order_greatest_l1 o0 list0 x12 s = some o) : vc Try.prog c_impl_order_greatest_l1 (outQ [18, 17, 16, 7, 6, 12, 11, 10, 0, 1] (S_impl_order_greatest_l1 o0 list0 x12) (T_impl_order_greatest_l1 o0 list0 x12) o) (S_impl_order_greatest_l1 o0 list0 x12 s) := by
  obtain ⟨x18, x7⟩ := s
  unfold F_impl_order_greatest_l1 at h
  try dsimp only at h
  conv => whnf
  refine Br.od h (fun p3 h => ?_) (fun p3 h => ?_)
  · conv => whnf
    refine Len.map ?_
    conv => whnf
    refine Ask.o h fun p4 h => ?_
    conv => whnf
    refine Elem.o (by first | omega | (simp only [mulN] at *; omega) | (simp [mulN] at *; omega)) ?_
    conv => whnf
    refine Br.ob h (fun p5 h => ?_) (fun p5 h => ?_)
    · conv => whnf
      refine Br.yes ?_
      conv => whnf
      refine Br.yes ?_
      conv => whnf
      refine Len.map ?_
      conv => whnf
      refine Ask.o h fun p6 h => ?_
      conv => whnf
      refine Elem.o (by first | omega | (simp only [mulN] at *; omega) | (simp [mulN] at *; omega)) ?_
      conv => whnf
      refine Br.yes ?_
      conv => whnf
      refine Br.yes ?_
      conv => whnf
      refine Br.yes ?_
      conv => whnf
      refine Len.map ?_
      conv => whnf
      refine Ask.o h fun p7 h => ?_
      conv => whnf
      refine Elem.o (by first | omega | (simp only [mulN] at *; omega) | (simp [mulN] at *; omega)) ?_
      conv => whnf
      refine Br.yes ?_
      conv => whnf
      refine Br.yes ?_
      conv => whnf
      refine Ask.o h fun p8 h => ?_
      conv => whnf
      cases h; exact ⟨rfl, rfl⟩
    · conv => whnf
      refine Br.no ?_
      conv => whnf
      refine Br.no ?_
      conv => whnf
      refine Br.no ?_
      conv => whnf
      refine Br.no ?_
      conv => whnf
      refine Br.no ?_
      conv => whnf
      refine Br.no ?_
      conv => whnf
      refine Br.no ?_
      conv => whnf
      refine Ask.o h fun p9 h => ?_
      conv => whnf
      cases h; exact ⟨rfl, rfl⟩
  · conv => whnf
    cases h; exact ⟨rfl, rfl⟩

noncomputable def F_impl_order_greatest_l2 (o0 : List (List Bool)) (list0 : List Int) : Int → Option (Int ⊕ (Int ⊕ Unit)) := fun x12 =>
   if x12 < (↑list0.length : Int) then
    ask ((0 : Int) ≤ x12 ∧ x12 < (↑list0.length : Int)) <|
    (loopO (F_impl_order_greatest_l1 o0 list0 x12) ((0 : Int), true)).bind fun q10_7 =>
    if (q10_7) = true then
     some (.inr (.inl (nth list0 x12.toNat)))
    else
     ask (InI (x12 + (1 : Int))) <|
     some (.inl (x12 + (1 : Int)))
   else
    some (.inr (.inr ()))
def S_impl_order_greatest_l2 (o0 : List (List Bool)) (list0 : List Int) : Int → St := fun s => [(12, A.val (vint s)), (11, A.val (vint ((↑list0.length : Int)))), (10, A.val ((slr false 1 vint) (list0))), (0, A.val ((slr false 1 (slr false 1 V.bool)) (o0))), (1, A.val ((slr false 1 vint) (list0)))]
def T_impl_order_greatest_l2 (_o0 : List (List Bool)) (_list0 : List Int) : (Int ⊕ Unit) → Tgt
  | (.inl s) => (Ex.ret, [4], [(4, A.val (vint s))])
  | (.inr _s) => ((Ex.exit 0), [], [])
theorem b_impl_order_greatest_l2 {o0 : List (List Bool)} {list0 : List Int} (x12 : Int) (o : Int ⊕ (Int ⊕ Unit)) (h : F_impl_order_greatest_l2 o0 list0 x12 = some o) : vc Try.prog c_impl_order_greatest_l2 (outQ [12, 11, 10, 0, 1] (S_impl_order_greatest_l2 o0 list0) (T_impl_order_greatest_l2 o0 list0) o) (S_impl_order_greatest_l2 o0 list0 x12) := by
  unfold F_impl_order_greatest_l2 at h
  try dsimp only at h
  conv => whnf
  refine Br.od h (fun p1 h => ?_) (fun p1 h => ?_)
  · conv => whnf
    refine Len.map ?_
    conv => whnf
    refine Ask.o h fun p2 h => ?_
    conv => whnf
    refine Elem.o (by first | omega | (simp only [mulN] at *; omega) | (simp [mulN] at *; omega)) ?_
    conv => whnf
    refine Len.map ?_
    conv => whnf
    refine LoopQ.o [18, 17, 16, 7, 6, 12, 11, 10, 0, 1] (S_impl_order_greatest_l1 o0 list0 x12) (T_impl_order_greatest_l1 o0 list0 x12) h (fun s o h => b_impl_order_greatest_l1 s o h) (by first | rfl | simp [restrict, look, mulN_one, V.fz, fzL, V.up, upL, fzL_map, fz_slr, fz_at, slr]) (fun _ => rfl) ?_
    rintro q10_7 h
    try dsimp only at h
    conv => whnf
    refine Br.ob h (fun p11 h => ?_) (fun p11 h => ?_)
    · conv => whnf
      cases h; exact ⟨rfl, rfl⟩
    · conv => whnf
      refine Ask.o h fun p12 h => ?_
      conv => whnf
      cases h; exact ⟨rfl, rfl⟩
  · conv => whnf
    cases h; exact ⟨rfl, rfl⟩

noncomputable def F_impl_order_greatest (o0 : (List (List Bool))) (list0 : (List Int)) : Option Int :=
  (loopO (F_impl_order_greatest_l2 o0 list0) (0 : Int)).bind fun t => match t with
  | (.inl q13_4) => (some q13_4)
  | (.inr _) => (some (-1 : Int))
theorem t_impl_order_greatest {o0 : (List (List Bool))} {list0 : (List Int)} {v : Int} (h : F_impl_order_greatest o0 list0 = some v) : Ret Try.prog f_impl_order_greatest [(slr false 1 (slr false 1 V.bool)) o0, (slr false 1 vint) list0] (vint v) := by
  refine ret_vc k_impl_order_greatest (Nat.le_of_ble_eq_true rfl) ?_
  unfold F_impl_order_greatest at h
  conv => whnf
  refine Len.map ?_
  conv => whnf
  refine LoopQ.o [12, 11, 10, 0, 1] (S_impl_order_greatest_l2 o0 list0) (T_impl_order_greatest_l2 o0 list0) h (fun s o h => b_impl_order_greatest_l2 s o h) (by first | rfl | simp [restrict, look, mulN_one, V.fz, fzL, V.up, upL, fzL_map, fz_slr, fz_at, slr]) (by rintro (_ | _) <;> rfl) ?_
  rintro (q13_4 | ⟨⟩) h
  · try dsimp only at h
    conv => whnf
    cases h; exact (by first | rfl | simp only [resV, mulN_one, V.fz, fzL, V.up, upL, fzL_map, fz_slr, fz_at, slr] | simp [resV, mulN_one, V.fz, fzL, V.up, upL, fzL_map, fz_slr, fz_at, slr])
  · try dsimp only at h
    conv => whnf
    cases h; exact (by first | rfl | simp only [resV, mulN_one, V.fz, fzL, V.up, upL, fzL_map, fz_slr, fz_at, slr] | simp [resV, mulN_one, V.fz, fzL, V.up, upL, fzL_map, fz_slr, fz_at, slr])

end Go.Proofs.Ytdodfnbbfkcgnaa.Ax
