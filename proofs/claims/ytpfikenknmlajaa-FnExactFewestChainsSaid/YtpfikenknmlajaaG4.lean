/-
  What the functions compute, as functions on plain data, and that the program does compute it; written by program.
-/
import Derived.Test.YtpfikenknmlajaaCode
import Derived.Test.YtpfikenknmlajaaG1
import Derived.Test.YtpfikenknmlajaaG3
namespace Go.Proofs.Ytpfikenknmlajaa.Ax
open Go
set_option maxRecDepth 100000
set_option maxHeartbeats 4000000

noncomputable def F_spec_l23Good_l1 (p0 : SPoset) : Int → Option (Int ⊕ (Unit ⊕ Unit)) := fun x4 =>
   if x4 < (↑p0.Below.length : Int) then
    ask ((0 : Int) ≤ x4 ∧ x4 < (↑p0.Below.length : Int)) <|
    ask (InI ((↑p0.Below.length : Int) - (1 : Int))) <|
    (F_spec_l1Rising (nth p0.Below x4.toNat) ((0 : Int)) ((↑p0.Below.length : Int) - (1 : Int))).bind fun r5 =>
    if (r5) = true then
     ask ((0 : Int) ≤ x4 ∧ x4 < (↑p0.Below.length : Int)) <|
     (F_spec_l1Has (nth p0.Below x4.toNat) (x4)).bind fun r8 =>
     if (r8) = true then
      ask (InI (x4 + (1 : Int))) <|
      some (.inl (x4 + (1 : Int)))
     else
      some (.inr (.inl ()))
    else
     some (.inr (.inl ()))
   else
    some (.inr (.inr ()))
def S_spec_l23Good_l1 (p0 : SPoset) : Int → St := fun s => [(4, A.val (vint s)), (3, A.val (vint ((↑p0.Below.length : Int)))), (1, A.val ((rP true (rS_Poset false)) (p0)))]
def T_spec_l23Good_l1 (p0 : SPoset) : (Unit ⊕ Unit) → Tgt
  | (.inl _s) => (Ex.ret, [2], [(2, A.val (V.bool (false)))])
  | (.inr _s) => ((Ex.exit 0), [3, 1], [(3, A.val (vint ((↑p0.Below.length : Int)))), (1, A.val ((rP true (rS_Poset false)) (p0)))])
theorem b_spec_l23Good_l1 {p0 : SPoset} (x4 : Int) (o : Int ⊕ (Unit ⊕ Unit)) (h : F_spec_l23Good_l1 p0 x4 = some o) : vc Try.prog c_spec_l23Good_l1 (outQ [4, 3, 1] (S_spec_l23Good_l1 p0) (T_spec_l23Good_l1 p0) o) (S_spec_l23Good_l1 p0 x4) := by
  unfold F_spec_l23Good_l1 at h
  try dsimp only at h
  conv => whnf
  refine Br.od h (fun p2 h => ?_) (fun p2 h => ?_)
  · conv => whnf
    refine Cells.lit rfl rfl ?_
    conv => whnf
    refine Len.map ?_
    conv => whnf
    refine Ask.o h fun p3 h => ?_
    conv => whnf
    refine Elem.o (by first | omega | (simp only [mulN] at *; omega) | (simp [mulN] at *; omega)) ?_
    conv => whnf
    refine Ask.o h fun p4 h => ?_
    conv => whnf
    refine CallQ.o V.bool (by first | rfl | simp only [mulN_one, V.fz, fzL, V.up, upL, fzL_map, fz_slr, fz_at, slr, List.cons_append, List.nil_append] | simp [mulN_one, V.fz, fzL, V.up, upL, fzL_map, fz_slr, fz_at, slr]) h (fun r h => t_spec_l1Rising h) (fun r5 h => ?_)
    conv => whnf
    refine Br.flip ?_
    conv => whnf
    refine Br.ob h (fun p6 h => ?_) (fun p6 h => ?_)
    · conv => whnf
      refine Br.no ?_
      conv => whnf
      refine Cells.lit rfl rfl ?_
      conv => whnf
      refine Br.no ?_
      conv => whnf
      refine Br.no ?_
      conv => whnf
      refine Len.map ?_
      conv => whnf
      refine Ask.o h fun p7 h => ?_
      conv => whnf
      refine Elem.o (by first | omega | (simp only [mulN] at *; omega) | (simp [mulN] at *; omega)) ?_
      conv => whnf
      refine Br.no ?_
      conv => whnf
      refine Br.no ?_
      conv => whnf
      refine Br.no ?_
      conv => whnf
      refine CallQ.o V.bool (by first | rfl | simp only [mulN_one, V.fz, fzL, V.up, upL, fzL_map, fz_slr, fz_at, slr, List.cons_append, List.nil_append] | simp [mulN_one, V.fz, fzL, V.up, upL, fzL_map, fz_slr, fz_at, slr]) h (fun r h => t_spec_l1Has h) (fun r8 h => ?_)
      conv => whnf
      refine Br.no ?_
      conv => whnf
      refine Br.no ?_
      conv => whnf
      refine Br.flip ?_
      conv => whnf
      refine Br.ob h (fun p9 h => ?_) (fun p9 h => ?_)
      · conv => whnf
        refine Ask.o h fun p10 h => ?_
        conv => whnf
        cases h; exact ⟨rfl, rfl⟩
      · conv => whnf
        cases h; exact ⟨rfl, rfl⟩
    · conv => whnf
      refine Br.yes ?_
      conv => whnf
      refine Br.yes ?_
      conv => whnf
      refine Br.yes ?_
      conv => whnf
      refine Br.yes ?_
      conv => whnf
      refine Br.yes ?_
      conv => whnf
      refine Br.yes ?_
      conv => whnf
      refine Br.yes ?_
      conv => whnf
      refine Br.yes ?_
      conv => whnf
      refine Br.yes ?_
      conv => whnf
      cases h; exact ⟨rfl, rfl⟩
  · conv => whnf
    cases h; exact ⟨rfl, rfl⟩

noncomputable def F_spec_l23Good_l2 (p0 : SPoset) (x5 : Int) : Int → Option (Int ⊕ (Unit ⊕ Unit)) := fun x6 =>
   ask ((0 : Int) ≤ x5 ∧ x5 < (↑p0.Below.length : Int)) <|
   if x6 < (↑(nth p0.Below x5.toNat).length : Int) then
    ask ((0 : Int) ≤ x5 ∧ x5 < (↑p0.Below.length : Int)) <|
    ask ((0 : Int) ≤ x6 ∧ x6 < (↑(nth p0.Below x5.toNat).length : Int)) <|
    if nth (nth p0.Below x5.toNat) x6.toNat ≠ x5 then
     ask ((0 : Int) ≤ nth (nth p0.Below x5.toNat) x6.toNat ∧ nth (nth p0.Below x5.toNat) x6.toNat < (↑p0.Below.length : Int)) <|
     (F_spec_l1Has (nth p0.Below (nth (nth p0.Below x5.toNat) x6.toNat).toNat) (x5)).bind fun r19 =>
     if (r19) = true then
      some (.inr (.inl ()))
     else
      ask ((0 : Int) ≤ nth (nth p0.Below x5.toNat) x6.toNat ∧ nth (nth p0.Below x5.toNat) x6.toNat < (↑p0.Below.length : Int)) <|
      ask ((0 : Int) ≤ x5 ∧ x5 < (↑p0.Below.length : Int)) <|
      (F_spec_l5Within (nth p0.Below (nth (nth p0.Below x5.toNat) x6.toNat).toNat) (nth p0.Below x5.toNat)).bind fun r23 =>
      if (r23) = true then
       ask (InI (x6 + (1 : Int))) <|
       some (.inl (x6 + (1 : Int)))
      else
       some (.inr (.inl ()))
    else
     ask ((0 : Int) ≤ nth (nth p0.Below x5.toNat) x6.toNat ∧ nth (nth p0.Below x5.toNat) x6.toNat < (↑p0.Below.length : Int)) <|
     ask ((0 : Int) ≤ x5 ∧ x5 < (↑p0.Below.length : Int)) <|
     (F_spec_l5Within (nth p0.Below (nth (nth p0.Below x5.toNat) x6.toNat).toNat) (nth p0.Below x5.toNat)).bind fun r28 =>
     if (r28) = true then
      ask (InI (x6 + (1 : Int))) <|
      some (.inl (x6 + (1 : Int)))
     else
      some (.inr (.inl ()))
   else
    some (.inr (.inr ()))
def S_spec_l23Good_l2 (p0 : SPoset) (x5 : Int) : Int → St := fun s => [(6, A.val (vint s)), (5, A.val (vint (x5))), (3, A.val (vint ((↑p0.Below.length : Int)))), (1, A.val ((rP true (rS_Poset false)) (p0)))]
def T_spec_l23Good_l2 (p0 : SPoset) (x5 : Int) : (Unit ⊕ Unit) → Tgt
  | (.inl _s) => (Ex.ret, [2], [(2, A.val (V.bool (false)))])
  | (.inr _s) => ((Ex.exit 4), [5, 3, 1], [(5, A.val (vint (x5))), (3, A.val (vint ((↑p0.Below.length : Int)))), (1, A.val ((rP true (rS_Poset false)) (p0)))])
theorem b_spec_l23Good_l2 {p0 : SPoset} {x5 : Int} (x6 : Int) (o : Int ⊕ (Unit ⊕ Unit)) (h : F_spec_l23Good_l2 p0 x5 x6 = some o) : vc Try.prog c_spec_l23Good_l2 (outQ [6, 5, 3, 1] (S_spec_l23Good_l2 p0 x5) (T_spec_l23Good_l2 p0 x5) o) (S_spec_l23Good_l2 p0 x5 x6) := by
  unfold F_spec_l23Good_l2 at h
  try dsimp only at h
  conv => whnf
  refine Cells.lit rfl rfl ?_
  conv => whnf
  refine Len.map ?_
  conv => whnf
  refine Ask.o h fun p13 h => ?_
  conv => whnf
  refine Elem.o (by first | omega | (simp only [mulN] at *; omega) | (simp [mulN] at *; omega)) ?_
  conv => whnf
  refine Len.map ?_
  conv => whnf
  refine Br.od h (fun p14 h => ?_) (fun p14 h => ?_)
  · conv => whnf
    refine Cells.lit rfl rfl ?_
    conv => whnf
    refine Len.map ?_
    conv => whnf
    refine Ask.o h fun p15 h => ?_
    conv => whnf
    refine Elem.o (by first | omega | (simp only [mulN] at *; omega) | (simp [mulN] at *; omega)) ?_
    conv => whnf
    refine Len.map ?_
    conv => whnf
    refine Ask.o h fun p16 h => ?_
    conv => whnf
    refine Elem.o (by first | omega | (simp only [mulN] at *; omega) | (simp [mulN] at *; omega)) ?_
    conv => whnf
    refine Br.on h (fun p17 h => ?_) (fun p17 h => ?_)
    · conv => whnf
      refine Br.yes ?_
      conv => whnf
      refine Cells.lit rfl rfl ?_
      conv => whnf
      refine Br.yes ?_
      conv => whnf
      refine Br.yes ?_
      conv => whnf
      refine Len.map ?_
      conv => whnf
      refine Ask.o h fun p18 h => ?_
      conv => whnf
      refine Elem.o (by first | omega | (simp only [mulN] at *; omega) | (simp [mulN] at *; omega)) ?_
      conv => whnf
      refine Br.yes ?_
      conv => whnf
      refine Br.yes ?_
      conv => whnf
      refine Br.yes ?_
      conv => whnf
      refine CallP.o V.bool (by first | rfl | simp only [mulN_one, V.fz, fzL, V.up, upL, fzL_map, fz_slr, fz_at, slr, List.cons_append, List.nil_append] | simp [mulN_one, V.fz, fzL, V.up, upL, fzL_map, fz_slr, fz_at, slr]) h (fun r h => t_spec_l1Has h) (fun r19 h => ?_)
      conv => whnf
      refine Br.yes ?_
      conv => whnf
      refine Br.ob h (fun p20 h => ?_) (fun p20 h => ?_)
      · conv => whnf
        refine Br.yes ?_
        conv => whnf
        refine Br.yes ?_
        conv => whnf
        refine Br.yes ?_
        conv => whnf
        refine Br.yes ?_
        conv => whnf
        refine Br.yes ?_
        conv => whnf
        refine Br.yes ?_
        conv => whnf
        refine Br.yes ?_
        conv => whnf
        refine Br.yes ?_
        conv => whnf
        refine Br.yes ?_
        conv => whnf
        refine Br.yes ?_
        conv => whnf
        refine Br.yes ?_
        conv => whnf
        refine Br.yes ?_
        conv => whnf
        refine Br.yes ?_
        conv => whnf
        cases h; exact ⟨rfl, rfl⟩
      · conv => whnf
        refine Br.no ?_
        conv => whnf
        refine Cells.lit rfl rfl ?_
        conv => whnf
        refine Br.no ?_
        conv => whnf
        refine Br.no ?_
        conv => whnf
        refine Len.map ?_
        conv => whnf
        refine Ask.o h fun p21 h => ?_
        conv => whnf
        refine Elem.o (by first | omega | (simp only [mulN] at *; omega) | (simp [mulN] at *; omega)) ?_
        conv => whnf
        refine Br.no ?_
        conv => whnf
        refine Br.no ?_
        conv => whnf
        refine Br.no ?_
        conv => whnf
        refine Cells.lit rfl rfl ?_
        conv => whnf
        refine Br.no ?_
        conv => whnf
        refine Br.no ?_
        conv => whnf
        refine Len.map ?_
        conv => whnf
        refine Ask.o h fun p22 h => ?_
        conv => whnf
        refine Elem.o (by first | omega | (simp only [mulN] at *; omega) | (simp [mulN] at *; omega)) ?_
        conv => whnf
        refine Br.no ?_
        conv => whnf
        refine Br.no ?_
        conv => whnf
        refine CallQ.o V.bool (by first | rfl | simp only [mulN_one, V.fz, fzL, V.up, upL, fzL_map, fz_slr, fz_at, slr, List.cons_append, List.nil_append] | simp [mulN_one, V.fz, fzL, V.up, upL, fzL_map, fz_slr, fz_at, slr]) h (fun r h => t_spec_l5Within h) (fun r23 h => ?_)
        conv => whnf
        refine Br.no ?_
        conv => whnf
        refine Br.no ?_
        conv => whnf
        refine Br.flip ?_
        conv => whnf
        refine Br.ob h (fun p24 h => ?_) (fun p24 h => ?_)
        · conv => whnf
          refine Ask.o h fun p25 h => ?_
          conv => whnf
          cases h; exact ⟨rfl, rfl⟩
        · conv => whnf
          cases h; exact ⟨rfl, rfl⟩
    · conv => whnf
      refine Br.no ?_
      conv => whnf
      refine Br.no ?_
      conv => whnf
      refine Br.no ?_
      conv => whnf
      refine Br.no ?_
      conv => whnf
      refine Br.no ?_
      conv => whnf
      refine Br.no ?_
      conv => whnf
      refine Br.no ?_
      conv => whnf
      refine Br.no ?_
      conv => whnf
      refine Br.no ?_
      conv => whnf
      refine Cells.lit rfl rfl ?_
      conv => whnf
      refine Br.no ?_
      conv => whnf
      refine Br.no ?_
      conv => whnf
      refine Len.map ?_
      conv => whnf
      refine Ask.o h fun p26 h => ?_
      conv => whnf
      refine Elem.o (by first | omega | (simp only [mulN] at *; omega) | (simp [mulN] at *; omega)) ?_
      conv => whnf
      refine Br.no ?_
      conv => whnf
      refine Br.no ?_
      conv => whnf
      refine Br.no ?_
      conv => whnf
      refine Cells.lit rfl rfl ?_
      conv => whnf
      refine Br.no ?_
      conv => whnf
      refine Br.no ?_
      conv => whnf
      refine Len.map ?_
      conv => whnf
      refine Ask.o h fun p27 h => ?_
      conv => whnf
      refine Elem.o (by first | omega | (simp only [mulN] at *; omega) | (simp [mulN] at *; omega)) ?_
      conv => whnf
      refine Br.no ?_
      conv => whnf
      refine Br.no ?_
      conv => whnf
      refine CallQ.o V.bool (by first | rfl | simp only [mulN_one, V.fz, fzL, V.up, upL, fzL_map, fz_slr, fz_at, slr, List.cons_append, List.nil_append] | simp [mulN_one, V.fz, fzL, V.up, upL, fzL_map, fz_slr, fz_at, slr]) h (fun r h => t_spec_l5Within h) (fun r28 h => ?_)
      conv => whnf
      refine Br.no ?_
      conv => whnf
      refine Br.no ?_
      conv => whnf
      refine Br.flip ?_
      conv => whnf
      refine Br.ob h (fun p29 h => ?_) (fun p29 h => ?_)
      · conv => whnf
        refine Ask.o h fun p30 h => ?_
        conv => whnf
        cases h; exact ⟨rfl, rfl⟩
      · conv => whnf
        cases h; exact ⟨rfl, rfl⟩
  · conv => whnf
    cases h; exact ⟨rfl, rfl⟩

noncomputable def F_spec_l23Good_l3 (p0 : SPoset) : Int → Option (Int ⊕ (Unit ⊕ Unit)) := fun x5 =>
   if x5 < (↑p0.Below.length : Int) then
    (loopO (F_spec_l23Good_l2 p0 x5) (0 : Int)).bind fun t => match t with
    | (.inl _) => (some (.inr (.inl ())))
    | (.inr _) => (ask (InI (x5 + (1 : Int))) <|
      some (.inl (x5 + (1 : Int))))
   else
    some (.inr (.inr ()))
def S_spec_l23Good_l3 (p0 : SPoset) : Int → St := fun s => [(5, A.val (vint s)), (3, A.val (vint ((↑p0.Below.length : Int)))), (1, A.val ((rP true (rS_Poset false)) (p0)))]
def T_spec_l23Good_l3 (_p0 : SPoset) : (Unit ⊕ Unit) → Tgt
  | (.inl _s) => (Ex.ret, [2], [(2, A.val (V.bool (false)))])
  | (.inr _s) => ((Ex.exit 2), [], [])
theorem b_spec_l23Good_l3 {p0 : SPoset} (x5 : Int) (o : Int ⊕ (Unit ⊕ Unit)) (h : F_spec_l23Good_l3 p0 x5 = some o) : vc Try.prog c_spec_l23Good_l3 (outQ [5, 3, 1] (S_spec_l23Good_l3 p0) (T_spec_l23Good_l3 p0) o) (S_spec_l23Good_l3 p0 x5) := by
  unfold F_spec_l23Good_l3 at h
  try dsimp only at h
  conv => whnf
  refine Br.od h (fun p12 h => ?_) (fun p12 h => ?_)
  · conv => whnf
    refine LoopQ.o [6, 5, 3, 1] (S_spec_l23Good_l2 p0 x5) (T_spec_l23Good_l2 p0 x5) h (fun s o h => b_spec_l23Good_l2 s o h) (by first | rfl | simp [restrict, look, mulN_one, V.fz, fzL, V.up, upL, fzL_map, fz_slr, fz_at, slr]) (by rintro (_ | _) <;> rfl) ?_
    rintro (⟨⟩ | ⟨⟩) h
    · try dsimp only at h
      conv => whnf
      cases h; exact ⟨rfl, rfl⟩
    · try dsimp only at h
      conv => whnf
      refine Ask.o h fun p32 h => ?_
      conv => whnf
      cases h; exact ⟨rfl, rfl⟩
  · conv => whnf
    cases h; exact ⟨rfl, rfl⟩

noncomputable def F_spec_l23Good (p0 : SPoset) : Option Bool :=
  if (↑p0.Below.length : Int) > (10 : Int) then
   some false
  else
   (loopO (F_spec_l23Good_l1 p0) (0 : Int)).bind fun t => match t with
   | (.inl _) => (some false)
   | (.inr _) => ((loopO (F_spec_l23Good_l3 p0) (0 : Int)).bind fun t => match t with
     | (.inl _) => (some false)
     | (.inr _) => (some true))
theorem t_spec_l23Good {p0 : SPoset} {v : Bool} (h : F_spec_l23Good p0 = some v) : Ret Try.prog f_spec_l23Good [(rS_Poset false) p0] (V.bool v) := by
  refine ret_vc k_spec_l23Good (Nat.le_of_ble_eq_true rfl) ?_
  unfold F_spec_l23Good at h
  conv => whnf
  refine Cells.lit rfl rfl ?_
  conv => whnf
  refine Len.map ?_
  conv => whnf
  refine Br.od h (fun p1 h => ?_) (fun p1 h => ?_)
  · conv => whnf
    cases h; exact (by first | rfl | simp only [resV, mulN_one, V.fz, fzL, V.up, upL, fzL_map, fz_slr, fz_at, slr] | simp [resV, mulN_one, V.fz, fzL, V.up, upL, fzL_map, fz_slr, fz_at, slr])
  · conv => whnf
    refine LoopQ.o [4, 3, 1] (S_spec_l23Good_l1 p0) (T_spec_l23Good_l1 p0) h (fun s o h => b_spec_l23Good_l1 s o h) (by first | rfl | simp [restrict, look, mulN_one, V.fz, fzL, V.up, upL, fzL_map, fz_slr, fz_at, slr]) (by rintro (_ | _) <;> rfl) ?_
    rintro (⟨⟩ | ⟨⟩) h
    · try dsimp only at h
      conv => whnf
      cases h; exact (by first | rfl | simp only [resV, mulN_one, V.fz, fzL, V.up, upL, fzL_map, fz_slr, fz_at, slr] | simp [resV, mulN_one, V.fz, fzL, V.up, upL, fzL_map, fz_slr, fz_at, slr])
    · try dsimp only at h
      conv => whnf
      refine LoopQ.o [5, 3, 1] (S_spec_l23Good_l3 p0) (T_spec_l23Good_l3 p0) h (fun s o h => b_spec_l23Good_l3 s o h) (by first | rfl | simp [restrict, look, mulN_one, V.fz, fzL, V.up, upL, fzL_map, fz_slr, fz_at, slr]) (by rintro (_ | _) <;> rfl) ?_
      rintro (⟨⟩ | ⟨⟩) h
      · try dsimp only at h
        conv => whnf
        cases h; exact (by first | rfl | simp only [resV, mulN_one, V.fz, fzL, V.up, upL, fzL_map, fz_slr, fz_at, slr] | simp [resV, mulN_one, V.fz, fzL, V.up, upL, fzL_map, fz_slr, fz_at, slr])
      · try dsimp only at h
        conv => whnf
        cases h; exact (by first | rfl | simp only [resV, mulN_one, V.fz, fzL, V.up, upL, fzL_map, fz_slr, fz_at, slr] | simp [resV, mulN_one, V.fz, fzL, V.up, upL, fzL_map, fz_slr, fz_at, slr])

noncomputable def F_spec_l23Less (p0 : SPoset) (x0 : Int) (y0 : Int) : Option Bool :=
  if x0 ≠ y0 then
   (F_spec_l23Leq (p0) (x0) (y0)).bind fun r2 =>
   some r2
  else
   some false
theorem t_spec_l23Less {p0 : SPoset} {x0 : Int} {y0 : Int} {v : Bool} (h : F_spec_l23Less p0 x0 y0 = some v) : Ret Try.prog f_spec_l23Less [(rS_Poset false) p0, vint x0, vint y0] (V.bool v) := by
  refine ret_vc k_spec_l23Less (Nat.le_of_ble_eq_true rfl) ?_
  unfold F_spec_l23Less at h
  conv => whnf
  refine Br.on h (fun p1 h => ?_) (fun p1 h => ?_)
  · conv => whnf
    refine Cells.lit rfl rfl ?_
    conv => whnf
    refine Br.yes ?_
    conv => whnf
    refine Br.yes ?_
    conv => whnf
    refine Br.yes ?_
    conv => whnf
    refine CallQ.o V.bool (by first | rfl | simp only [mulN_one, V.fz, fzL, V.up, upL, fzL_map, fz_slr, fz_at, slr, List.cons_append, List.nil_append] | simp [mulN_one, V.fz, fzL, V.up, upL, fzL_map, fz_slr, fz_at, slr]) h (fun r h => t_spec_l23Leq h) (fun r2 h => ?_)
    conv => whnf
    refine Br.yes ?_
    conv => whnf
    cases h; exact (by first | rfl | simp only [resV, mulN_one, V.fz, fzL, V.up, upL, fzL_map, fz_slr, fz_at, slr] | simp [resV, mulN_one, V.fz, fzL, V.up, upL, fzL_map, fz_slr, fz_at, slr])
  · conv => whnf
    refine Br.no ?_
    conv => whnf
    refine Br.no ?_
    conv => whnf
    refine Br.no ?_
    conv => whnf
    refine Br.no ?_
    conv => whnf
    cases h; exact (by first | rfl | simp only [resV, mulN_one, V.fz, fzL, V.up, upL, fzL_map, fz_slr, fz_at, slr] | simp [resV, mulN_one, V.fz, fzL, V.up, upL, fzL_map, fz_slr, fz_at, slr])

noncomputable def F_impl_order_fewest (o0 : (List (List Bool))) (next0 : (List Int)) : Option Int :=
  (F_impl_widthOf ((↑o0.length : Int)) (fun w_0 w_1 => F_impl_order_fewest_1 w_0 w_1 (next0) (o0))).bind fun r1 =>
  some r1
theorem t_impl_order_fewest {o0 : (List (List Bool))} {next0 : (List Int)} {v : Int} (h : F_impl_order_fewest o0 next0 = some v) : Ret Try.prog f_impl_order_fewest [(slr false 1 (slr false 1 V.bool)) o0, (slr false 1 vint) next0] (vint v) := by
  refine ret_vc k_impl_order_fewest (Nat.le_of_ble_eq_true rfl) ?_
  unfold F_impl_order_fewest at h
  conv => whnf
  refine Cells.lit rfl rfl ?_
  conv => whnf
  refine Len.map ?_
  conv => whnf
  refine CallQ.rd vint (by first | rfl | simp only [mulN_one, V.fz, fzL, V.up, upL, fzL_map, fz_slr, fz_at, slr, List.cons_append, List.nil_append] | simp [mulN_one, V.fz, fzL, V.up, upL, fzL_map, fz_slr, fz_at, slr]) (fun _ => rfl) h (fun r h => t_impl_widthOf (f_less0 := f_impl_order_fewest_1) (c_less0 := [(rP false (slr false 1 vint)) (next0), (rP false (slr false 1 (slr false 1 V.bool))) (o0)]) (fun w_0 w_1 v h => Ret.cast (by first | rfl | simp only [mulN_one, V.fz, fzL, V.up, upL, fzL_map, fz_slr, fz_at, slr, List.cons_append, List.nil_append] | simp [mulN_one, V.fz, fzL, V.up, upL, fzL_map, fz_slr, fz_at, slr]) (t_impl_order_fewest_1 h)) h) (fun r1 h => ?_)
  conv => whnf
  cases h; exact (by first | rfl | simp only [resV, mulN_one, V.fz, fzL, V.up, upL, fzL_map, fz_slr, fz_at, slr] | simp [resV, mulN_one, V.fz, fzL, V.up, upL, fzL_map, fz_slr, fz_at, slr])

noncomputable def F_impl_FewestChains_l1 (r1 : List (List Bool) × Bool) : (Int × (List Int)) → Option ((Int × (List Int)) ⊕ (List Int)) := fun (x30, x6) =>
   if x30 < (↑(↑r1.fst.length : Int).toNat : Int) then
    ask ((0 : Int) ≤ x30 ∧ x30 < (↑x6.length : Int)) <|
    ask (InI (x30 + (1 : Int))) <|
    some (.inl (x30 + (1 : Int), x6.set x30.toNat (-2 : Int)))
   else
    some (.inr x6)
def S_impl_FewestChains_l1 (r1 : List (List Bool) × Bool) : (Int × (List Int)) → St := fun s => [(30, A.val (vint s.1)), (29, A.val (vint ((↑(↑r1.fst.length : Int).toNat : Int)))), (6, A.val ((slr true 1 vint) s.2)), (4, A.val ((slr true 1 (slr true 1 V.bool)) (r1.fst)))]
def T_impl_FewestChains_l1 (r1 : List (List Bool) × Bool) : (List Int) → Tgt
  | s => ((Ex.exit 0), [6, 4], [(6, A.val ((slr true 1 vint) s)), (4, A.val ((slr true 1 (slr true 1 V.bool)) (r1.fst)))])
theorem b_impl_FewestChains_l1 {r1 : List (List Bool) × Bool} (s : (Int × (List Int))) (o : (Int × (List Int)) ⊕ (List Int)) (h : F_impl_FewestChains_l1 r1 s = some o) : vc Try.prog c_impl_FewestChains_l1 (outQ [30, 29, 6, 4] (S_impl_FewestChains_l1 r1) (T_impl_FewestChains_l1 r1) o) (S_impl_FewestChains_l1 r1 s) := by
  obtain ⟨x30, x6⟩ := s
  unfold F_impl_FewestChains_l1 at h
  try dsimp only at h
  conv => whnf
  refine Br.od h (fun p4 h => ?_) (fun p4 h => ?_)
  · conv => whnf
    refine Len.map ?_
    conv => whnf
    refine Ask.o h fun p5 h => ?_
    conv => whnf
    refine SetKids.one (fun _ => ⟨rfl, rfl⟩) ((-2 : Int)) (by first | rfl | simp only [mulN_one, V.fz, fzL, V.up, upL, fzL_map, fz_slr, fz_at, slr, List.cons_append, List.nil_append] | simp [mulN_one, V.fz, fzL, V.up, upL, fzL_map, fz_slr, fz_at, slr]) (by first | omega | (simp only [mulN] at *; omega) | (simp [mulN] at *; omega)) ?_
    conv => whnf
    refine Ask.o h fun p6 h => ?_
    conv => whnf
    cases h; exact ⟨rfl, rfl⟩
  · conv => whnf
    cases h; exact ⟨rfl, rfl⟩

noncomputable def F_impl_FewestChains_l2 (r1 : List (List Bool) × Bool) (r8 : Int) (x45 : Int) : (Int × Int × (List Bool) × (List Int)) → Option ((Int × Int × (List Bool) × (List Int)) ⊕ (Int × (List Bool) × (List Int))) := fun (x12, x11, x9', x6') =>
   ((if x12 < (↑r1.fst.length : Int) then
      if x11 < (0 : Int) then
       some (.inl ())
      else
       some (.inr ())
     else
      some (.inr ()) : Option (Unit ⊕ Unit))).bind fun t => match t with
   | (.inl _) => ((((F_impl_order_less (r1.fst) (x45) (x12)).bind fun r14 =>
         if (r14) = true then
          ask ((0 : Int) ≤ x12 ∧ x12 < (↑x9'.length : Int)) <|
          if (nth x9' x12.toNat) = true then
           some (.inl ())
          else
           some (.inr ())
         else
          some (.inl ()) : Option (Unit ⊕ Unit))).bind fun t => match t with
     | (.inl _) => (ask (InI (x12 + (1 : Int))) <|
       some (.inl (x12 + (1 : Int), x11, x9', x6')))
     | (.inr _) => (ask ((0 : Int) ≤ x45 ∧ x45 < (↑x6'.length : Int)) <|
       (F_impl_order_fewest (r1.fst) (x6'.set x45.toNat x12)).bind fun r21 =>
       if r21 = r8 then
        ask ((0 : Int) ≤ x12 ∧ x12 < (↑x9'.length : Int)) <|
        ask (InI (x12 + (1 : Int))) <|
        some (.inl (x12 + (1 : Int), x12, x9'.set x12.toNat true, x6'.set x45.toNat x12))
       else
        ask (InI (x12 + (1 : Int))) <|
        some (.inl (x12 + (1 : Int), x11, x9', x6'.set x45.toNat x12))))
   | (.inr _) => (some (.inr (x11, x9', x6')))
def S_impl_FewestChains_l2 (r1 : List (List Bool) × Bool) (r8 : Int) (x45 : Int) : (Int × Int × (List Bool) × (List Int)) → St := fun s => [(12, A.val (vint s.1)), (11, A.val (vint s.2.1)), (10, A.val (vint (x45))), (45, A.val (vint (x45))), (44, A.val (vint ((↑r1.fst.length : Int)))), (9, A.val ((slr true 1 V.bool) s.2.2.1)), (8, A.val (vint (r8))), (6, A.val ((slr true 1 vint) s.2.2.2)), (4, A.val ((slr true 1 (slr true 1 V.bool)) (r1.fst)))]
def T_impl_FewestChains_l2 (r1 : List (List Bool) × Bool) (r8 : Int) (x45 : Int) : (Int × (List Bool) × (List Int)) → Tgt
  | s => ((Ex.exit 4), [11, 10, 45, 44, 9, 8, 6, 4], [(11, A.val (vint s.1)), (10, A.val (vint (x45))), (45, A.val (vint (x45))), (44, A.val (vint ((↑r1.fst.length : Int)))), (9, A.val ((slr true 1 V.bool) s.2.1)), (8, A.val (vint (r8))), (6, A.val ((slr true 1 vint) s.2.2)), (4, A.val ((slr true 1 (slr true 1 V.bool)) (r1.fst)))])
theorem b_impl_FewestChains_l2 {r1 : List (List Bool) × Bool} {r8 : Int} {x45 : Int} (s : (Int × Int × (List Bool) × (List Int))) (o : (Int × Int × (List Bool) × (List Int)) ⊕ (Int × (List Bool) × (List Int))) (h : F_impl_FewestChains_l2 r1 r8 x45 s = some o) : vc Try.prog c_impl_FewestChains_l2 (outQ [12, 11, 10, 45, 44, 9, 8, 6, 4] (S_impl_FewestChains_l2 r1 r8 x45) (T_impl_FewestChains_l2 r1 r8 x45) o) (S_impl_FewestChains_l2 r1 r8 x45 s) := by
  obtain ⟨x12, x11, x9', x6'⟩ := s
  unfold F_impl_FewestChains_l2 at h
  try dsimp only at h
  conv => whnf
  refine CutQ.o (fun t : (Unit ⊕ Unit) => match t with | (.inl s) => (Ex.normal, [12, 11, 10, 45, 44, 9, 8, 6, 4], [(12, A.val (vint (x12))), (11, A.val (vint (x11))), (10, A.val (vint (x45))), (45, A.val (vint (x45))), (44, A.val (vint ((↑r1.fst.length : Int)))), (9, A.val ((slr true 1 V.bool) (x9'))), (8, A.val (vint (r8))), (6, A.val ((slr true 1 vint) (x6'))), (4, A.val ((slr true 1 (slr true 1 V.bool)) (r1.fst)))]) | (.inr s) => ((Ex.exit 4), [11, 10, 45, 44, 9, 8, 6, 4], [(11, A.val (vint (x11))), (10, A.val (vint (x45))), (45, A.val (vint (x45))), (44, A.val (vint ((↑r1.fst.length : Int)))), (9, A.val ((slr true 1 V.bool) (x9'))), (8, A.val (vint (r8))), (6, A.val ((slr true 1 vint) (x6'))), (4, A.val ((slr true 1 (slr true 1 V.bool)) (r1.fst)))])) h ?_ ?_
  · intro t h
    conv => whnf
    refine Len.map ?_
    conv => whnf
    refine Br.od h (fun p11 h => ?_) (fun p11 h => ?_)
    · conv => whnf
      refine Br.yes ?_
      conv => whnf
      refine Br.yes ?_
      conv => whnf
      refine Br.od h (fun p12 h => ?_) (fun p12 h => ?_)
      · conv => whnf
        cases h; exact ⟨rfl, rfl⟩
      · conv => whnf
        cases h; exact ⟨rfl, rfl⟩
    · conv => whnf
      refine Br.no ?_
      conv => whnf
      refine Br.no ?_
      conv => whnf
      refine Br.no ?_
      conv => whnf
      cases h; exact ⟨rfl, rfl⟩
  · rintro (⟨⟩ | ⟨⟩) h
    · try dsimp only at h
      conv => whnf
      refine CutQ.o (fun t : (Unit ⊕ Unit) => match t with | (.inl s) => ((Ex.exit 5), [12, 11, 10, 45, 44, 9, 8, 6, 4], [(12, A.val (vint (x12))), (11, A.val (vint (x11))), (10, A.val (vint (x45))), (45, A.val (vint (x45))), (44, A.val (vint ((↑r1.fst.length : Int)))), (9, A.val ((slr true 1 V.bool) (x9'))), (8, A.val (vint (r8))), (6, A.val ((slr true 1 vint) (x6'))), (4, A.val ((slr true 1 (slr true 1 V.bool)) (r1.fst)))]) | (.inr s) => (Ex.normal, [12, 11, 10, 45, 44, 9, 8, 6, 4], [(12, A.val (vint (x12))), (11, A.val (vint (x11))), (10, A.val (vint (x45))), (45, A.val (vint (x45))), (44, A.val (vint ((↑r1.fst.length : Int)))), (9, A.val ((slr true 1 V.bool) (x9'))), (8, A.val (vint (r8))), (6, A.val ((slr true 1 vint) (x6'))), (4, A.val ((slr true 1 (slr true 1 V.bool)) (r1.fst)))])) h ?_ ?_
      · intro t h
        conv => whnf
        refine CallQ.rd V.bool (by first | rfl | simp only [V.fz, V.up, fzL_map, fz_at, slr] | simp [mulN_one, V.fz, fzL, V.up, upL, fzL_map, fz_slr, fz_at, slr]) (fun _ => rfl) h (fun r h => t_impl_order_less h) (fun r14 h => ?_)
        conv => whnf
        refine Br.flip ?_
        conv => whnf
        refine Br.ob h (fun p15 h => ?_) (fun p15 h => ?_)
        · conv => whnf
          refine Br.no ?_
          conv => whnf
          refine Br.no ?_
          conv => whnf
          refine Len.map ?_
          conv => whnf
          refine Ask.o h fun p16 h => ?_
          conv => whnf
          refine Br.no ?_
          conv => whnf
          refine Cells.one (fun _ => ⟨rfl, rfl⟩) (by first | omega | (simp only [mulN] at *; omega) | (simp [mulN] at *; omega)) ?_
          conv => whnf
          refine Br.no ?_
          conv => whnf
          refine Br.ob h (fun p17 h => ?_) (fun p17 h => ?_)
          · conv => whnf
            cases h; exact ⟨rfl, rfl⟩
          · conv => whnf
            cases h; exact ⟨rfl, rfl⟩
        · conv => whnf
          refine Br.yes ?_
          conv => whnf
          refine Br.yes ?_
          conv => whnf
          refine Br.yes ?_
          conv => whnf
          refine Br.yes ?_
          conv => whnf
          refine Br.yes ?_
          conv => whnf
          cases h; exact ⟨rfl, rfl⟩
      · rintro (⟨⟩ | ⟨⟩) h
        · try dsimp only at h
          conv => whnf
          refine Ask.o h fun p19 h => ?_
          conv => whnf
          cases h; exact ⟨rfl, rfl⟩
        · try dsimp only at h
          conv => whnf
          refine Len.map ?_
          conv => whnf
          refine Ask.o h fun p20 h => ?_
          conv => whnf
          refine SetKids.one (fun _ => ⟨rfl, rfl⟩) (x12) (by first | rfl | simp only [mulN_one, V.fz, fzL, V.up, upL, fzL_map, fz_slr, fz_at, slr, List.cons_append, List.nil_append] | simp [mulN_one, V.fz, fzL, V.up, upL, fzL_map, fz_slr, fz_at, slr]) (by first | omega | (simp only [mulN] at *; omega) | (simp [mulN] at *; omega)) ?_
          conv => whnf
          refine CallQ.rd vint (by first | rfl | simp only [mulN_one, V.fz, fzL_map, slr] | simp [mulN_one, V.fz, fzL, V.up, upL, fzL_map, fz_slr, fz_at, slr]) (fun _ => rfl) h (fun r h => t_impl_order_fewest h) (fun r21 h => ?_)
          conv => whnf
          refine Br.oe h (fun p22 h => ?_) (fun p22 h => ?_)
          · conv => whnf
            refine Len.map ?_
            conv => whnf
            refine Ask.o h fun p23 h => ?_
            conv => whnf
            refine SetKids.one (fun _ => ⟨rfl, rfl⟩) (true) (by first | rfl | simp only [mulN_one, V.fz, fzL, V.up, upL, fzL_map, fz_slr, fz_at, slr, List.cons_append, List.nil_append] | simp [mulN_one, V.fz, fzL, V.up, upL, fzL_map, fz_slr, fz_at, slr]) (by first | omega | (simp only [mulN] at *; omega) | (simp [mulN] at *; omega)) ?_
            conv => whnf
            refine Ask.o h fun p24 h => ?_
            conv => whnf
            cases h; exact ⟨rfl, rfl⟩
          · conv => whnf
            refine Ask.o h fun p25 h => ?_
            conv => whnf
            cases h; exact ⟨rfl, rfl⟩
    · try dsimp only at h
      conv => whnf
      cases h; exact ⟨rfl, rfl⟩

noncomputable def F_impl_FewestChains_l3 (r1 : List (List Bool) × Bool) (r8 : Int) : (Int × (List Bool) × (List Int)) → Option ((Int × (List Bool) × (List Int)) ⊕ ((List Bool) × (List Int))) := fun (x45, x9, x6) =>
   if x45 < (↑r1.fst.length : Int) then
    (loopO (F_impl_FewestChains_l2 r1 r8 x45) ((0 : Int), (-1 : Int), x9, x6)).bind fun (q26_11, q26_9, q26_6) =>
    ask ((0 : Int) ≤ x45 ∧ x45 < (↑q26_6.length : Int)) <|
    ask (InI (x45 + (1 : Int))) <|
    some (.inl (x45 + (1 : Int), q26_9, q26_6.set x45.toNat q26_11))
   else
    some (.inr (x9, x6))
def S_impl_FewestChains_l3 (r1 : List (List Bool) × Bool) (r8 : Int) : (Int × (List Bool) × (List Int)) → St := fun s => [(45, A.val (vint s.1)), (44, A.val (vint ((↑r1.fst.length : Int)))), (9, A.val ((slr true 1 V.bool) s.2.1)), (8, A.val (vint (r8))), (6, A.val ((slr true 1 vint) s.2.2)), (4, A.val ((slr true 1 (slr true 1 V.bool)) (r1.fst)))]
def T_impl_FewestChains_l3 (r1 : List (List Bool) × Bool) (_r8 : Int) : ((List Bool) × (List Int)) → Tgt
  | s => ((Ex.exit 2), [9, 6, 4], [(9, A.val ((slr true 1 V.bool) s.1)), (6, A.val ((slr true 1 vint) s.2)), (4, A.val ((slr true 1 (slr true 1 V.bool)) (r1.fst)))])
theorem b_impl_FewestChains_l3 {r1 : List (List Bool) × Bool} {r8 : Int} (s : (Int × (List Bool) × (List Int))) (o : (Int × (List Bool) × (List Int)) ⊕ ((List Bool) × (List Int))) (h : F_impl_FewestChains_l3 r1 r8 s = some o) : vc Try.prog c_impl_FewestChains_l3 (outQ [45, 44, 9, 8, 6, 4] (S_impl_FewestChains_l3 r1 r8) (T_impl_FewestChains_l3 r1 r8) o) (S_impl_FewestChains_l3 r1 r8 s) := by
  obtain ⟨x45, x9, x6⟩ := s
  unfold F_impl_FewestChains_l3 at h
  try dsimp only at h
  conv => whnf
  refine Br.od h (fun p10 h => ?_) (fun p10 h => ?_)
  · conv => whnf
    refine LoopQ.o [12, 11, 10, 45, 44, 9, 8, 6, 4] (S_impl_FewestChains_l2 r1 r8 x45) (T_impl_FewestChains_l2 r1 r8 x45) h (fun s o h => b_impl_FewestChains_l2 s o h) (by first | rfl | simp [restrict, look, mulN_one, V.fz, fzL, V.up, upL, fzL_map, fz_slr, fz_at, slr]) (fun _ => rfl) ?_
    rintro ⟨q26_11, q26_9, q26_6⟩ h
    try dsimp only at h
    conv => whnf
    refine Len.map ?_
    conv => whnf
    refine Ask.o h fun p27 h => ?_
    conv => whnf
    refine SetKids.one (fun _ => ⟨rfl, rfl⟩) (q26_11) (by first | rfl | simp only [mulN_one, V.fz, fzL, V.up, upL, fzL_map, fz_slr, fz_at, slr, List.cons_append, List.nil_append] | simp [mulN_one, V.fz, fzL, V.up, upL, fzL_map, fz_slr, fz_at, slr]) (by first | omega | (simp only [mulN] at *; omega) | (simp [mulN] at *; omega)) ?_
    conv => whnf
    refine Ask.o h fun p28 h => ?_
    conv => whnf
    cases h; exact ⟨rfl, rfl⟩
  · conv => whnf
    cases h; exact ⟨rfl, rfl⟩

noncomputable def F_impl_FewestChains_l4 (_r1 : List (List Bool) × Bool) (_q29_9 : List Bool) (q29_6 : List Int) (_x90 : Int) (_x13 : List (List Int)) : (Int × (List Int)) → Option ((Int × (List Int)) ⊕ (List Int)) := fun (x16, x15) =>
   if x16 ≥ (0 : Int) then
    ask ((x15).length + ([x16]).length ≤ LIM) <|
    ask ((0 : Int) ≤ x16 ∧ x16 < (↑q29_6.length : Int)) <|
    some (.inl (nth q29_6 x16.toNat, x15 ++ [x16]))
   else
    some (.inr x15)
def S_impl_FewestChains_l4 (r1 : List (List Bool) × Bool) (q29_9 : List Bool) (q29_6 : List Int) (x90 : Int) (x13 : List (List Int)) : (Int × (List Int)) → St := fun s => [(16, A.val (vint s.1)), (15, A.val ((slr true 1 vint) s.2)), (90, A.val (vint (x90))), (89, A.val (vint ((↑r1.fst.length : Int)))), (13, A.val ((slr true 1 (slr true 1 vint)) (x13))), (9, A.val ((slr true 1 V.bool) (q29_9))), (6, A.val ((slr true 1 vint) (q29_6)))]
def T_impl_FewestChains_l4 (r1 : List (List Bool) × Bool) (q29_9 : List Bool) (q29_6 : List Int) (x90 : Int) (x13 : List (List Int)) : (List Int) → Tgt
  | s => ((Ex.exit 8), [15, 90, 89, 13, 9, 6], [(15, A.val ((slr true 1 vint) s)), (90, A.val (vint (x90))), (89, A.val (vint ((↑r1.fst.length : Int)))), (13, A.val ((slr true 1 (slr true 1 vint)) (x13))), (9, A.val ((slr true 1 V.bool) (q29_9))), (6, A.val ((slr true 1 vint) (q29_6)))])
theorem b_impl_FewestChains_l4 {r1 : List (List Bool) × Bool} {q29_9 : List Bool} {q29_6 : List Int} {x90 : Int} {x13 : List (List Int)} (s : (Int × (List Int))) (o : (Int × (List Int)) ⊕ (List Int)) (h : F_impl_FewestChains_l4 r1 q29_9 q29_6 x90 x13 s = some o) : vc Try.prog c_impl_FewestChains_l4 (outQ [16, 15, 90, 89, 13, 9, 6] (S_impl_FewestChains_l4 r1 q29_9 q29_6 x90 x13) (T_impl_FewestChains_l4 r1 q29_9 q29_6 x90 x13) o) (S_impl_FewestChains_l4 r1 q29_9 q29_6 x90 x13 s) := by
  obtain ⟨x16, x15⟩ := s
  unfold F_impl_FewestChains_l4 at h
  try dsimp only at h
  conv => whnf
  refine Br.od h (fun p34 h => ?_) (fun p34 h => ?_)
  · conv => whnf
    refine BslQ.o vint [x16] (by exact fun _ => ⟨rfl, rfl⟩) (by first | rfl | (simp only [mulN_one, V.fz, fzL, V.up, upL, fzL_map, fz_slr, fz_at, slr, List.cons_append, List.nil_append]; done) | simp [mulN_one, V.fz, fzL, V.up, upL, fzL_map, fz_slr, fz_at, slr]) ?_
    conv => whnf
    refine NoOwn.o (fun _ => rfl) ?_
    conv => whnf
    refine AppQ.o (m := 1) vint (by exact fun _ => ⟨rfl, rfl⟩) (x15) ([x16]) (by first | rfl | simp only [mulN_one, V.fz, fzL, V.up, upL, fzL_map, fz_slr, fz_at, slr, List.cons_append, List.nil_append] | simp [mulN_one, V.fz, fzL, V.up, upL, fzL_map, fz_slr, fz_at, slr]) (by first | rfl | simp only [mulN_one, V.fz, fzL, V.up, upL, fzL_map, fz_slr, fz_at, slr, List.cons_append, List.nil_append] | simp [mulN_one, V.fz, fzL, V.up, upL, fzL_map, fz_slr, fz_at, slr]) h fun h => ?_
    conv => whnf
    refine Len.map ?_
    conv => whnf
    refine Ask.o h fun p35 h => ?_
    conv => whnf
    refine Cells.one (fun _ => ⟨rfl, rfl⟩) (by first | omega | (simp only [mulN] at *; omega) | (simp [mulN] at *; omega)) ?_
    conv => whnf
    cases h; exact ⟨rfl, rfl⟩
  · conv => whnf
    cases h; exact ⟨rfl, rfl⟩

noncomputable def F_impl_FewestChains_l5 (r1 : List (List Bool) × Bool) (q29_9 : List Bool) (q29_6 : List Int) : (Int × (List (List Int))) → Option ((Int × (List (List Int))) ⊕ (List (List Int))) := fun (x90, x13) =>
   if x90 < (↑r1.fst.length : Int) then
    ask ((0 : Int) ≤ x90 ∧ x90 < (↑q29_9.length : Int)) <|
    if (nth q29_9 x90.toNat) = true then
     ask (InI (x90 + (1 : Int))) <|
     some (.inl (x90 + (1 : Int), x13))
    else
     (loopO (F_impl_FewestChains_l4 r1 q29_9 q29_6 x90 x13) (x90, nilL Int)).bind fun q36_15 =>
     ask ((x13).length + ([q36_15]).length ≤ LIM) <|
     ask (InI (x90 + (1 : Int))) <|
     some (.inl (x90 + (1 : Int), x13 ++ [q36_15]))
   else
    some (.inr x13)
def S_impl_FewestChains_l5 (r1 : List (List Bool) × Bool) (q29_9 : List Bool) (q29_6 : List Int) : (Int × (List (List Int))) → St := fun s => [(90, A.val (vint s.1)), (89, A.val (vint ((↑r1.fst.length : Int)))), (13, A.val ((slr true 1 (slr true 1 vint)) s.2)), (9, A.val ((slr true 1 V.bool) (q29_9))), (6, A.val ((slr true 1 vint) (q29_6)))]
def T_impl_FewestChains_l5 (_r1 : List (List Bool) × Bool) (_q29_9 : List Bool) (_q29_6 : List Int) : (List (List Int)) → Tgt
  | s => ((Ex.exit 6), [13], [(13, A.val ((slr true 1 (slr true 1 vint)) s))])
theorem b_impl_FewestChains_l5 {r1 : List (List Bool) × Bool} {q29_9 : List Bool} {q29_6 : List Int} (s : (Int × (List (List Int)))) (o : (Int × (List (List Int))) ⊕ (List (List Int))) (h : F_impl_FewestChains_l5 r1 q29_9 q29_6 s = some o) : vc Try.prog c_impl_FewestChains_l5 (outQ [90, 89, 13, 9, 6] (S_impl_FewestChains_l5 r1 q29_9 q29_6) (T_impl_FewestChains_l5 r1 q29_9 q29_6) o) (S_impl_FewestChains_l5 r1 q29_9 q29_6 s) := by
  obtain ⟨x90, x13⟩ := s
  unfold F_impl_FewestChains_l5 at h
  try dsimp only at h
  conv => whnf
  refine Br.od h (fun p30 h => ?_) (fun p30 h => ?_)
  · conv => whnf
    refine Len.map ?_
    conv => whnf
    refine Ask.o h fun p31 h => ?_
    conv => whnf
    refine Cells.one (fun _ => ⟨rfl, rfl⟩) (by first | omega | (simp only [mulN] at *; omega) | (simp [mulN] at *; omega)) ?_
    conv => whnf
    refine Br.ob h (fun p32 h => ?_) (fun p32 h => ?_)
    · conv => whnf
      refine Ask.o h fun p33 h => ?_
      conv => whnf
      cases h; exact ⟨rfl, rfl⟩
    · conv => whnf
      refine BslQ.o vint (nilL Int) (by exact fun _ => ⟨rfl, rfl⟩) (by first | rfl | (simp only [mulN_one, V.fz, fzL, V.up, upL, fzL_map, fz_slr, fz_at, slr, List.cons_append, List.nil_append]; done) | simp [mulN_one, V.fz, fzL, V.up, upL, fzL_map, fz_slr, fz_at, slr]) ?_
      conv => whnf
      refine LoopQ.o [16, 15, 90, 89, 13, 9, 6] (S_impl_FewestChains_l4 r1 q29_9 q29_6 x90 x13) (T_impl_FewestChains_l4 r1 q29_9 q29_6 x90 x13) h (fun s o h => b_impl_FewestChains_l4 s o h) (by first | rfl | simp [restrict, look, mulN_one, V.fz, fzL, V.up, upL, fzL_map, fz_slr, fz_at, slr]) (fun _ => rfl) ?_
      rintro q36_15 h
      try dsimp only at h
      conv => whnf
      refine BslQ.o (slr true 1 vint) [q36_15] (by exact fun _ => ⟨rfl, rfl⟩) (by first | rfl | (simp only [mulN_one, V.fz, fzL, V.up, upL, fzL_map, fz_slr, fz_at, slr, List.cons_append, List.nil_append]; done) | simp [mulN_one, V.fz, fzL, V.up, upL, fzL_map, fz_slr, fz_at, slr]) ?_
      conv => whnf
      refine NoOwn.own rfl ?_
      conv => whnf
      refine AppQ.o (m := 1) (slr true 1 vint) (by exact fun _ => ⟨rfl, rfl⟩) (x13) ([q36_15]) (by first | rfl | simp only [mulN_one, V.fz, fzL, V.up, upL, fzL_map, fz_slr, fz_at, slr, List.cons_append, List.nil_append] | simp [mulN_one, V.fz, fzL, V.up, upL, fzL_map, fz_slr, fz_at, slr]) (by first | rfl | simp only [mulN_one, V.fz, fzL, V.up, upL, fzL_map, fz_slr, fz_at, slr, List.cons_append, List.nil_append] | simp [mulN_one, V.fz, fzL, V.up, upL, fzL_map, fz_slr, fz_at, slr]) h fun h => ?_
      conv => whnf
      refine Ask.o h fun p37 h => ?_
      conv => whnf
      cases h; exact ⟨rfl, rfl⟩
  · conv => whnf
    cases h; exact ⟨rfl, rfl⟩

noncomputable def F_impl_FewestChains (p0 : SPoset) : Option ((List (List Int)) × Bool) :=
  (F_impl_orderOf (p0)).bind fun r1 =>
  if (r1.snd) = true then
   ask ((0 : Int) ≤ (↑r1.fst.length : Int) ∧ (↑r1.fst.length : Int) ≤ (↑LIM : Int)) <|
   (loopO (F_impl_FewestChains_l1 r1) ((0 : Int), List.replicate (↑r1.fst.length : Int).toNat (0 : Int))).bind fun q7_6 =>
   (F_impl_order_fewest (r1.fst) (q7_6)).bind fun r8 =>
   ask ((0 : Int) ≤ (↑r1.fst.length : Int) ∧ (↑r1.fst.length : Int) ≤ (↑LIM : Int)) <|
   (loopO (F_impl_FewestChains_l3 r1 r8) ((0 : Int), List.replicate (↑r1.fst.length : Int).toNat false, q7_6)).bind fun (q29_9, q29_6) =>
   (loopO (F_impl_FewestChains_l5 r1 q29_9 q29_6) ((0 : Int), nilL (List Int))).bind fun q38_13 =>
   some (q38_13, true)
  else
   some (nilL (List Int), false)
theorem t_impl_FewestChains {p0 : SPoset} {v : ((List (List Int)) × Bool)} (h : F_impl_FewestChains p0 = some v) : Ret Try.prog f_impl_FewestChains [(rS_Poset false) p0] ((fun r => V.tup [(slr true 1 (slr true 1 vint)) r.1, V.bool r.2]) v) := by
  refine ret_vc k_impl_FewestChains (Nat.le_of_ble_eq_true rfl) ?_
  unfold F_impl_FewestChains at h
  conv => whnf
  refine Cells.lit rfl rfl ?_
  conv => whnf
  refine CallQ.o (fun r => V.tup [(slr true 1 (slr true 1 V.bool)) r.1, V.bool r.2]) (by first | rfl | simp only [mulN_one, V.fz, fzL, V.up, upL, fzL_map, fz_slr, fz_at, slr, List.cons_append, List.nil_append] | simp [mulN_one, V.fz, fzL, V.up, upL, fzL_map, fz_slr, fz_at, slr]) h (fun r h => t_impl_orderOf h) (fun r1 h => ?_)
  conv => whnf
  refine Br.flip ?_
  conv => whnf
  refine Br.ob h (fun p2 h => ?_) (fun p2 h => ?_)
  · conv => whnf
    refine Len.map ?_
    conv => whnf
    refine Ask.o h fun p3 h => ?_
    conv => whnf
    refine MkQ.o vint ((0 : Int)) rfl ?_
    conv => whnf
    refine Len.mrep ?_
    conv => whnf
    refine LoopQ.o [30, 29, 6, 4] (S_impl_FewestChains_l1 r1) (T_impl_FewestChains_l1 r1) h (fun s o h => b_impl_FewestChains_l1 s o h) (by first | rfl | simp [restrict, look, mulN_one, V.fz, fzL, V.up, upL, fzL_map, fz_slr, fz_at, slr]) (fun _ => rfl) ?_
    rintro q7_6 h
    try dsimp only at h
    conv => whnf
    refine CallQ.rd vint (by first | rfl | simp only [V.fz, fzL_map, slr] | simp [mulN_one, V.fz, fzL, V.up, upL, fzL_map, fz_slr, fz_at, slr]) (fun _ => rfl) h (fun r h => t_impl_order_fewest h) (fun r8 h => ?_)
    conv => whnf
    refine Len.map ?_
    conv => whnf
    refine Ask.o h fun p9 h => ?_
    conv => whnf
    refine MkQ.o V.bool (false) rfl ?_
    conv => whnf
    refine Len.map ?_
    conv => whnf
    refine LoopQ.o [45, 44, 9, 8, 6, 4] (S_impl_FewestChains_l3 r1 r8) (T_impl_FewestChains_l3 r1 r8) h (fun s o h => b_impl_FewestChains_l3 s o h) (by first | rfl | simp [restrict, look, mulN_one, V.fz, fzL, V.up, upL, fzL_map, fz_slr, fz_at, slr]) (fun _ => rfl) ?_
    rintro ⟨q29_9, q29_6⟩ h
    try dsimp only at h
    conv => whnf
    refine BslQ.o (slr true 1 vint) (nilL (List Int)) (by exact fun _ => ⟨rfl, rfl⟩) (by first | rfl | (simp only [mulN_one, V.fz, fzL, V.up, upL, fzL_map, fz_slr, fz_at, slr, List.cons_append, List.nil_append]; done) | simp [mulN_one, V.fz, fzL, V.up, upL, fzL_map, fz_slr, fz_at, slr]) ?_
    conv => whnf
    refine Len.map ?_
    conv => whnf
    refine LoopQ.o [90, 89, 13, 9, 6] (S_impl_FewestChains_l5 r1 q29_9 q29_6) (T_impl_FewestChains_l5 r1 q29_9 q29_6) h (fun s o h => b_impl_FewestChains_l5 s o h) (by first | rfl | simp [restrict, look, mulN_one, V.fz, fzL, V.up, upL, fzL_map, fz_slr, fz_at, slr]) (fun _ => rfl) ?_
    rintro q38_13 h
    try dsimp only at h
    conv => whnf
    cases h; exact (by first | rfl | simp only [resV, mulN_one, V.fz, fzL, V.up, upL, fzL_map, fz_slr, fz_at, slr] | simp [resV, mulN_one, V.fz, fzL, V.up, upL, fzL_map, fz_slr, fz_at, slr])
  · conv => whnf
    refine BslQ.o (slr true 1 vint) (nilL (List Int)) (by exact fun _ => ⟨rfl, rfl⟩) (by first | rfl | (simp only [mulN_one, V.fz, fzL, V.up, upL, fzL_map, fz_slr, fz_at, slr, List.cons_append, List.nil_append]; done) | simp [mulN_one, V.fz, fzL, V.up, upL, fzL_map, fz_slr, fz_at, slr]) ?_
    conv => whnf
    cases h; exact (by first | rfl | simp only [resV, mulN_one, V.fz, fzL, V.up, upL, fzL_map, fz_slr, fz_at, slr] | simp [resV, mulN_one, V.fz, fzL, V.up, upL, fzL_map, fz_slr, fz_at, slr])

end Go.Proofs.Ytpfikenknmlajaa.Ax
