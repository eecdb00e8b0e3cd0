/-
  What the functions compute, as functions on plain data, and that the program does compute it; written by program.
-/
import Derived.Test.YthcnmahjhahafabCode
import Derived.Test.YthcnmahjhahafabG2
import Derived.Test.YthcnmahjhahafabG3
import Derived.Test.YthcnmahjhahafabG4
import Derived.Test.YthcnmahjhahafabG5
namespace Go.Proofs.Ythcnmahjhahafab.Ax
open Go
set_option maxRecDepth 100000
set_option maxHeartbeats 4000000

noncomputable def F_spec_l23Good_l1 (p0 : SPoset) : Int → Option (Int ⊕ (Unit ⊕ Unit)) := fun x4 =>
   if x4 < (↑p0.Below.length : Int) then
    ask ((0 : Int) ≤ x4 ∧ x4 < (↑p0.Below.length : Int)) <|
    ask (InI ((↑p0.Below.length : Int) - (1 : Int))) <|
    (F_spec_l1Rising (nth p0.Below x4.toNat) ((0 : Int)) ((↑p0.Below.length : Int) - (1 : Int))).bind fun r5 =>
    if (r5) = true then
     ask ((0 : Int) ≤ x4 ∧ x4 < (↑p0.Below.length : Int)) <|
     (F_spec_l1Has (nth p0.Below x4.toNat) (x4)).bind fun r8 =>
     if (r8) = true then
      ask (InI (x4 + (1 : Int))) <|
      some (.inl (x4 + (1 : Int)))
     else
      some (.inr (.inl ()))
    else
     some (.inr (.inl ()))
   else
    some (.inr (.inr ()))
def S_spec_l23Good_l1 (p0 : SPoset) : Int → St := fun s => [(4, A.val (vint s)), (3, A.val (vint ((↑p0.Below.length : Int)))), (1, A.val ((rP true (rS_Poset false)) (p0)))]
def T_spec_l23Good_l1 (p0 : SPoset) : (Unit ⊕ Unit) → Tgt
  | (.inl _s) => (Ex.ret, [2], [(2, A.val (V.bool (false)))])
  | (.inr _s) => ((Ex.exit 0), [3, 1], [(3, A.val (vint ((↑p0.Below.length : Int)))), (1, A.val ((rP true (rS_Poset false)) (p0)))])
theorem b_spec_l23Good_l1 {p0 : SPoset} (x4 : Int) (o : Int ⊕ (Unit ⊕ Unit)) (h : F_spec_l23Good_l1 p0 x4 = some o) : vc Try.prog c_spec_l23Good_l1 (outQ [4, 3, 1] (S_spec_l23Good_l1 p0) (T_spec_l23Good_l1 p0) o) (S_spec_l23Good_l1 p0 x4) := by
  unfold F_spec_l23Good_l1 at h
  try dsimp only at h
  conv => whnf
  refine Br.od h (fun p2 h => ?_) (fun p2 h => ?_)
  · conv => whnf
    refine Cells.lit rfl rfl ?_
    conv => whnf
    refine Len.map ?_
    conv => whnf
    refine Ask.o h fun p3 h => ?_
    conv => whnf
    refine Elem.o (by first | omega | (simp only [mulN] at *; omega) | (simp [mulN] at *; omega)) ?_
    conv => whnf
    refine Ask.o h fun p4 h => ?_
    conv => whnf
    refine CallQ.o V.bool (by first | rfl | simp only [mulN_one, V.fz, fzL, V.up, upL, fzL_map, fz_slr, fz_at, slr, List.cons_append, List.nil_append] | simp [mulN_one, V.fz, fzL, V.up, upL, fzL_map, fz_slr, fz_at, slr]) h (fun r h => t_spec_l1Rising h) (fun r5 h => ?_)
    conv => whnf
    refine Br.flip ?_
    conv => whnf
    refine Br.ob h (fun p6 h => ?_) (fun p6 h => ?_)
    · conv => whnf
      refine Br.no ?_
      conv => whnf
      refine Cells.lit rfl rfl ?_
      conv => whnf
      refine Br.no ?_
      conv => whnf
      refine Br.no ?_
      conv => whnf
      refine Len.map ?_
      conv => whnf
      refine Ask.o h fun p7 h => ?_
      conv => whnf
      refine Elem.o (by first | omega | (simp only [mulN] at *; omega) | (simp [mulN] at *; omega)) ?_
      conv => whnf
      refine Br.no ?_
      conv => whnf
      refine Br.no ?_
      conv => whnf
      refine Br.no ?_
      conv => whnf
      refine CallQ.o V.bool (by first | rfl | simp only [mulN_one, V.fz, fzL, V.up, upL, fzL_map, fz_slr, fz_at, slr, List.cons_append, List.nil_append] | simp [mulN_one, V.fz, fzL, V.up, upL, fzL_map, fz_slr, fz_at, slr]) h (fun r h => t_spec_l1Has h) (fun r8 h => ?_)
      conv => whnf
      refine Br.no ?_
      conv => whnf
      refine Br.no ?_
      conv => whnf
      refine Br.flip ?_
      conv => whnf
      refine Br.ob h (fun p9 h => ?_) (fun p9 h => ?_)
      · conv => whnf
        refine Ask.o h fun p10 h => ?_
        conv => whnf
        cases h; exact ⟨rfl, rfl⟩
      · conv => whnf
        cases h; exact ⟨rfl, rfl⟩
    · conv => whnf
      refine Br.yes ?_
      conv => whnf
      refine Br.yes ?_
      conv => whnf
      refine Br.yes ?_
      conv => whnf
      refine Br.yes ?_
      conv => whnf
      refine Br.yes ?_
      conv => whnf
      refine Br.yes ?_
      conv => whnf
      refine Br.yes ?_
      conv => whnf
      refine Br.yes ?_
      conv => whnf
      refine Br.yes ?_
      conv => whnf
      cases h; exact ⟨rfl, rfl⟩
  · conv => whnf
    cases h; exact ⟨rfl, rfl⟩

noncomputable def F_spec_l23Good_l2 (p0 : SPoset) (x5 : Int) : Int → Option (Int ⊕ (Unit ⊕ Unit)) := fun x6 =>
   ask ((0 : Int) ≤ x5 ∧ x5 < (↑p0.Below.length : Int)) <|
   if x6 < (↑(nth p0.Below x5.toNat).length : Int) then
    ask ((0 : Int) ≤ x5 ∧ x5 < (↑p0.Below.length : Int)) <|
    ask ((0 : Int) ≤ x6 ∧ x6 < (↑(nth p0.Below x5.toNat).length : Int)) <|
    if nth (nth p0.Below x5.toNat) x6.toNat ≠ x5 then
     ask ((0 : Int) ≤ nth (nth p0.Below x5.toNat) x6.toNat ∧ nth (nth p0.Below x5.toNat) x6.toNat < (↑p0.Below.length : Int)) <|
     (F_spec_l1Has (nth p0.Below (nth (nth p0.Below x5.toNat) x6.toNat).toNat) (x5)).bind fun r19 =>
     if (r19) = true then
      some (.inr (.inl ()))
     else
      ask ((0 : Int) ≤ nth (nth p0.Below x5.toNat) x6.toNat ∧ nth (nth p0.Below x5.toNat) x6.toNat < (↑p0.Below.length : Int)) <|
      ask ((0 : Int) ≤ x5 ∧ x5 < (↑p0.Below.length : Int)) <|
      (F_spec_l5Within (nth p0.Below (nth (nth p0.Below x5.toNat) x6.toNat).toNat) (nth p0.Below x5.toNat)).bind fun r23 =>
      if (r23) = true then
       ask (InI (x6 + (1 : Int))) <|
       some (.inl (x6 + (1 : Int)))
      else
       some (.inr (.inl ()))
    else
     ask ((0 : Int) ≤ nth (nth p0.Below x5.toNat) x6.toNat ∧ nth (nth p0.Below x5.toNat) x6.toNat < (↑p0.Below.length : Int)) <|
     ask ((0 : Int) ≤ x5 ∧ x5 < (↑p0.Below.length : Int)) <|
     (F_spec_l5Within (nth p0.Below (nth (nth p0.Below x5.toNat) x6.toNat).toNat) (nth p0.Below x5.toNat)).bind fun r28 =>
     if (r28) = true then
      ask (InI (x6 + (1 : Int))) <|
      some (.inl (x6 + (1 : Int)))
     else
      some (.inr (.inl ()))
   else
    some (.inr (.inr ()))
def S_spec_l23Good_l2 (p0 : SPoset) (x5 : Int) : Int → St := fun s => [(6, A.val (vint s)), (5, A.val (vint (x5))), (3, A.val (vint ((↑p0.Below.length : Int)))), (1, A.val ((rP true (rS_Poset false)) (p0)))]
def T_spec_l23Good_l2 (p0 : SPoset) (x5 : Int) : (Unit ⊕ Unit) → Tgt
  | (.inl _s) => (Ex.ret, [2], [(2, A.val (V.bool (false)))])
  | (.inr _s) => ((Ex.exit 4), [5, 3, 1], [(5, A.val (vint (x5))), (3, A.val (vint ((↑p0.Below.length : Int)))), (1, A.val ((rP true (rS_Poset false)) (p0)))])
theorem b_spec_l23Good_l2 {p0 : SPoset} {x5 : Int} (x6 : Int) (o : Int ⊕ (Unit ⊕ Unit)) (h : F_spec_l23Good_l2 p0 x5 x6 = some o) : vc Try.prog c_spec_l23Good_l2 (outQ [6, 5, 3, 1] (S_spec_l23Good_l2 p0 x5) (T_spec_l23Good_l2 p0 x5) o) (S_spec_l23Good_l2 p0 x5 x6) := by
  unfold F_spec_l23Good_l2 at h
  try dsimp only at h
  conv => whnf
  refine Cells.lit rfl rfl ?_
  conv => whnf
  refine Len.map ?_
  conv => whnf
  refine Ask.o h fun p13 h => ?_
  conv => whnf
  refine Elem.o (by first | omega | (simp only [mulN] at *; omega) | (simp [mulN] at *; omega)) ?_
  conv => whnf
  refine Len.map ?_
  conv => whnf
  refine Br.od h (fun p14 h => ?_) (fun p14 h => ?_)
  · conv => whnf
    refine Cells.lit rfl rfl ?_
    conv => whnf
    refine Len.map ?_
    conv => whnf
    refine Ask.o h fun p15 h => ?_
    conv => whnf
    refine Elem.o (by first | omega | (simp only [mulN] at *; omega) | (simp [mulN] at *; omega)) ?_
    conv => whnf
    refine Len.map ?_
    conv => whnf
    refine Ask.o h fun p16 h => ?_
    conv => whnf
    refine Elem.o (by first | omega | (simp only [mulN] at *; omega) | (simp [mulN] at *; omega)) ?_
    conv => whnf
    refine Br.on h (fun p17 h => ?_) (fun p17 h => ?_)
    · conv => whnf
      refine Br.yes ?_
      conv => whnf
      refine Cells.lit rfl rfl ?_
      conv => whnf
      refine Br.yes ?_
      conv => whnf
      refine Br.yes ?_
      conv => whnf
      refine Len.map ?_
      conv => whnf
      refine Ask.o h fun p18 h => ?_
      conv => whnf
      refine Elem.o (by first | omega | (simp only [mulN] at *; omega) | (simp [mulN] at *; omega)) ?_
      conv => whnf
      refine Br.yes ?_
      conv => whnf
      refine Br.yes ?_
      conv => whnf
      refine Br.yes ?_
      conv => whnf
      refine CallP.o V.bool (by first | rfl | simp only [mulN_one, V.fz, fzL, V.up, upL, fzL_map, fz_slr, fz_at, slr, List.cons_append, List.nil_append] | simp [mulN_one, V.fz, fzL, V.up, upL, fzL_map, fz_slr, fz_at, slr]) h (fun r h => t_spec_l1Has h) (fun r19 h => ?_)
      conv => whnf
      refine Br.yes ?_
      conv => whnf
      refine Br.ob h (fun p20 h => ?_) (fun p20 h => ?_)
      · conv => whnf
        refine Br.yes ?_
        conv => whnf
        refine Br.yes ?_
        conv => whnf
        refine Br.yes ?_
        conv => whnf
        refine Br.yes ?_
        conv => whnf
        refine Br.yes ?_
        conv => whnf
        refine Br.yes ?_
        conv => whnf
        refine Br.yes ?_
        conv => whnf
        refine Br.yes ?_
        conv => whnf
        refine Br.yes ?_
        conv => whnf
        refine Br.yes ?_
        conv => whnf
        refine Br.yes ?_
        conv => whnf
        refine Br.yes ?_
        conv => whnf
        refine Br.yes ?_
        conv => whnf
        cases h; exact ⟨rfl, rfl⟩
      · conv => whnf
        refine Br.no ?_
        conv => whnf
        refine Cells.lit rfl rfl ?_
        conv => whnf
        refine Br.no ?_
        conv => whnf
        refine Br.no ?_
        conv => whnf
        refine Len.map ?_
        conv => whnf
        refine Ask.o h fun p21 h => ?_
        conv => whnf
        refine Elem.o (by first | omega | (simp only [mulN] at *; omega) | (simp [mulN] at *; omega)) ?_
        conv => whnf
        refine Br.no ?_
        conv => whnf
        refine Br.no ?_
        conv => whnf
        refine Br.no ?_
        conv => whnf
        refine Cells.lit rfl rfl ?_
        conv => whnf
        refine Br.no ?_
        conv => whnf
        refine Br.no ?_
        conv => whnf
        refine Len.map ?_
        conv => whnf
        refine Ask.o h fun p22 h => ?_
        conv => whnf
        refine Elem.o (by first | omega | (simp only [mulN] at *; omega) | (simp [mulN] at *; omega)) ?_
        conv => whnf
        refine Br.no ?_
        conv => whnf
        refine Br.no ?_
        conv => whnf
        refine CallQ.o V.bool (by first | rfl | simp only [mulN_one, V.fz, fzL, V.up, upL, fzL_map, fz_slr, fz_at, slr, List.cons_append, List.nil_append] | simp [mulN_one, V.fz, fzL, V.up, upL, fzL_map, fz_slr, fz_at, slr]) h (fun r h => t_spec_l5Within h) (fun r23 h => ?_)
        conv => whnf
        refine Br.no ?_
        conv => whnf
        refine Br.no ?_
        conv => whnf
        refine Br.flip ?_
        conv => whnf
        refine Br.ob h (fun p24 h => ?_) (fun p24 h => ?_)
        · conv => whnf
          refine Ask.o h fun p25 h => ?_
          conv => whnf
          cases h; exact ⟨rfl, rfl⟩
        · conv => whnf
          cases h; exact ⟨rfl, rfl⟩
    · conv => whnf
      refine Br.no ?_
      conv => whnf
      refine Br.no ?_
      conv => whnf
      refine Br.no ?_
      conv => whnf
      refine Br.no ?_
      conv => whnf
      refine Br.no ?_
      conv => whnf
      refine Br.no ?_
      conv => whnf
      refine Br.no ?_
      conv => whnf
      refine Br.no ?_
      conv => whnf
      refine Br.no ?_
      conv => whnf
      refine Cells.lit rfl rfl ?_
      conv => whnf
      refine Br.no ?_
      conv => whnf
      refine Br.no ?_
      conv => whnf
      refine Len.map ?_
      conv => whnf
      refine Ask.o h fun p26 h => ?_
      conv => whnf
      refine Elem.o (by first | omega | (simp only [mulN] at *; omega) | (simp [mulN] at *; omega)) ?_
      conv => whnf
      refine Br.no ?_
      conv => whnf
      refine Br.no ?_
      conv => whnf
      refine Br.no ?_
      conv => whnf
      refine Cells.lit rfl rfl ?_
      conv => whnf
      refine Br.no ?_
      conv => whnf
      refine Br.no ?_
      conv => whnf
      refine Len.map ?_
      conv => whnf
      refine Ask.o h fun p27 h => ?_
      conv => whnf
      refine Elem.o (by first | omega | (simp only [mulN] at *; omega) | (simp [mulN] at *; omega)) ?_
      conv => whnf
      refine Br.no ?_
      conv => whnf
      refine Br.no ?_
      conv => whnf
      refine CallQ.o V.bool (by first | rfl | simp only [mulN_one, V.fz, fzL, V.up, upL, fzL_map, fz_slr, fz_at, slr, List.cons_append, List.nil_append] | simp [mulN_one, V.fz, fzL, V.up, upL, fzL_map, fz_slr, fz_at, slr]) h (fun r h => t_spec_l5Within h) (fun r28 h => ?_)
      conv => whnf
      refine Br.no ?_
      conv => whnf
      refine Br.no ?_
      conv => whnf
      refine Br.flip ?_
      conv => whnf
      refine Br.ob h (fun p29 h => ?_) (fun p29 h => ?_)
      · conv => whnf
        refine Ask.o h fun p30 h => ?_
        conv => whnf
        cases h; exact ⟨rfl, rfl⟩
      · conv => whnf
        cases h; exact ⟨rfl, rfl⟩
  · conv => whnf
    cases h; exact ⟨rfl, rfl⟩

noncomputable def F_spec_l23Good_l3 (p0 : SPoset) : Int → Option (Int ⊕ (Unit ⊕ Unit)) := fun x5 =>
   if x5 < (↑p0.Below.length : Int) then
    (loopO (F_spec_l23Good_l2 p0 x5) (0 : Int)).bind fun t => match t with
    | (.inl _) => (some (.inr (.inl ())))
    | (.inr _) => (ask (InI (x5 + (1 : Int))) <|
      some (.inl (x5 + (1 : Int))))
   else
    some (.inr (.inr ()))
def S_spec_l23Good_l3 (p0 : SPoset) : Int → St := fun s => [(5, A.val (vint s)), (3, A.val (vint ((↑p0.Below.length : Int)))), (1, A.val ((rP true (rS_Poset false)) (p0)))]
def T_spec_l23Good_l3 (_p0 : SPoset) : (Unit ⊕ Unit) → Tgt
  | (.inl _s) => (Ex.ret, [2], [(2, A.val (V.bool (false)))])
  | (.inr _s) => ((Ex.exit 2), [], [])
theorem b_spec_l23Good_l3 {p0 : SPoset} (x5 : Int) (o : Int ⊕ (Unit ⊕ Unit)) (h : F_spec_l23Good_l3 p0 x5 = some o) : vc Try.prog c_spec_l23Good_l3 (outQ [5, 3, 1] (S_spec_l23Good_l3 p0) (T_spec_l23Good_l3 p0) o) (S_spec_l23Good_l3 p0 x5) := by
  unfold F_spec_l23Good_l3 at h
  try dsimp only at h
  conv => whnf
  refine Br.od h (fun p12 h => ?_) (fun p12 h => ?_)
  · conv => whnf
    refine LoopQ.o [6, 5, 3, 1] (S_spec_l23Good_l2 p0 x5) (T_spec_l23Good_l2 p0 x5) h (fun s o h => b_spec_l23Good_l2 s o h) (by first | rfl | simp [restrict, look, mulN_one, V.fz, fzL, V.up, upL, fzL_map, fz_slr, fz_at, slr]) (by rintro (_ | _) <;> rfl) ?_
    rintro (⟨⟩ | ⟨⟩) h
    · try dsimp only at h
      conv => whnf
      cases h; exact ⟨rfl, rfl⟩
    · try dsimp only at h
      conv => whnf
      refine Ask.o h fun p32 h => ?_
      conv => whnf
      cases h; exact ⟨rfl, rfl⟩
  · conv => whnf
    cases h; exact ⟨rfl, rfl⟩

noncomputable def F_spec_l23Good (p0 : SPoset) : Option Bool :=
  if (↑p0.Below.length : Int) > (10 : Int) then
   some false
  else
   (loopO (F_spec_l23Good_l1 p0) (0 : Int)).bind fun t => match t with
   | (.inl _) => (some false)
   | (.inr _) => ((loopO (F_spec_l23Good_l3 p0) (0 : Int)).bind fun t => match t with
     | (.inl _) => (some false)
     | (.inr _) => (some true))
theorem t_spec_l23Good {p0 : SPoset} {v : Bool} (h : F_spec_l23Good p0 = some v) : Ret Try.prog f_spec_l23Good [(rS_Poset false) p0] (V.bool v) := by
  refine ret_vc k_spec_l23Good (Nat.le_of_ble_eq_true rfl) ?_
  unfold F_spec_l23Good at h
  conv => whnf
  refine Cells.lit rfl rfl ?_
  conv => whnf
  refine Len.map ?_
  conv => whnf
  refine Br.od h (fun p1 h => ?_) (fun p1 h => ?_)
  · conv => whnf
    cases h; exact (by first | rfl | simp [resV, mulN_one, V.fz, fzL, V.up, upL, fzL_map, fz_slr, fz_at, slr])
  · conv => whnf
    refine LoopQ.o [4, 3, 1] (S_spec_l23Good_l1 p0) (T_spec_l23Good_l1 p0) h (fun s o h => b_spec_l23Good_l1 s o h) (by first | rfl | simp [restrict, look, mulN_one, V.fz, fzL, V.up, upL, fzL_map, fz_slr, fz_at, slr]) (by rintro (_ | _) <;> rfl) ?_
    rintro (⟨⟩ | ⟨⟩) h
    · try dsimp only at h
      conv => whnf
      cases h; exact (by first | rfl | simp [resV, mulN_one, V.fz, fzL, V.up, upL, fzL_map, fz_slr, fz_at, slr])
    · try dsimp only at h
      conv => whnf
      refine LoopQ.o [5, 3, 1] (S_spec_l23Good_l3 p0) (T_spec_l23Good_l3 p0) h (fun s o h => b_spec_l23Good_l3 s o h) (by first | rfl | simp [restrict, look, mulN_one, V.fz, fzL, V.up, upL, fzL_map, fz_slr, fz_at, slr]) (by rintro (_ | _) <;> rfl) ?_
      rintro (⟨⟩ | ⟨⟩) h
      · try dsimp only at h
        conv => whnf
        cases h; exact (by first | rfl | simp [resV, mulN_one, V.fz, fzL, V.up, upL, fzL_map, fz_slr, fz_at, slr])
      · try dsimp only at h
        conv => whnf
        cases h; exact (by first | rfl | simp [resV, mulN_one, V.fz, fzL, V.up, upL, fzL_map, fz_slr, fz_at, slr])

noncomputable def F_impl_order_coverPairs_l1 (o0 : List (List Bool)) (x9 : Int) : (Int × (List (Int × Int))) → Option ((Int × (List (Int × Int))) ⊕ (List (Int × Int))) := fun (x14, x3') =>
   if x14 < (↑o0.length : Int) then
    (F_impl_order_covers (o0) (x9) (x14)).bind fun r3 =>
    if (r3) = true then
     ask ((x3').length + ([(x9, x14)]).length ≤ LIM) <|
     ask (InI (x14 + (1 : Int))) <|
     some (.inl (x14 + (1 : Int), x3' ++ [(x9, x14)]))
    else
     ask (InI (x14 + (1 : Int))) <|
     some (.inl (x14 + (1 : Int), x3'))
   else
    some (.inr x3')
def S_impl_order_coverPairs_l1 (o0 : List (List Bool)) (x9 : Int) : (Int × (List (Int × Int))) → St := fun s => [(14, A.val (vint s.1)), (13, A.val (vint ((↑o0.length : Int)))), (4, A.val (vint (x9))), (9, A.val (vint (x9))), (8, A.val (vint ((↑o0.length : Int)))), (3, A.val ((slr true 2 (rA2 vint)) s.2)), (0, A.val ((slr false 1 (slr false 1 V.bool)) (o0)))]
def T_impl_order_coverPairs_l1 (o0 : List (List Bool)) (x9 : Int) : (List (Int × Int)) → Tgt
  | s => ((Ex.exit 2), [9, 8, 3, 0], [(9, A.val (vint (x9))), (8, A.val (vint ((↑o0.length : Int)))), (3, A.val ((slr true 2 (rA2 vint)) s)), (0, A.val ((slr false 1 (slr false 1 V.bool)) (o0)))])
theorem b_impl_order_coverPairs_l1 {o0 : List (List Bool)} {x9 : Int} (s : (Int × (List (Int × Int)))) (o : (Int × (List (Int × Int))) ⊕ (List (Int × Int))) (h : F_impl_order_coverPairs_l1 o0 x9 s = some o) : vc Try.prog c_impl_order_coverPairs_l1 (outQ [14, 13, 4, 9, 8, 3, 0] (S_impl_order_coverPairs_l1 o0 x9) (T_impl_order_coverPairs_l1 o0 x9) o) (S_impl_order_coverPairs_l1 o0 x9 s) := by
  obtain ⟨x14, x3'⟩ := s
  unfold F_impl_order_coverPairs_l1 at h
  try dsimp only at h
  conv => whnf
  refine Br.od h (fun p2 h => ?_) (fun p2 h => ?_)
  · conv => whnf
    refine CallQ.o V.bool (by first | rfl | simp only [mulN_one, V.fz, fzL, V.up, upL, fzL_map, fz_slr, fz_at, slr, List.cons_append, List.nil_append] | simp [mulN_one, V.fz, fzL, V.up, upL, fzL_map, fz_slr, fz_at, slr]) h (fun r h => t_impl_order_covers h) (fun r3 h => ?_)
    conv => whnf
    refine Br.ob h (fun p4 h => ?_) (fun p4 h => ?_)
    · conv => whnf
      refine BslQ.o (rA2 vint) ([(x9, x14)]) (by exact fun _ => ⟨rfl, rfl⟩) (by first | rfl | simp only [mulN_one, V.fz, fzL, V.up, upL, fzL_map, fz_slr, fz_at, slr, List.cons_append, List.nil_append] | simp [mulN_one, V.fz, fzL, V.up, upL, fzL_map, fz_slr, fz_at, slr]) ?_
      conv => whnf
      refine NoOwn.o (fun _ => rfl) ?_
      conv => whnf
      refine AppQ.o (m := 2) (rA2 vint) (by exact fun _ => ⟨rfl, rfl⟩) (x3') ([(x9, x14)]) (by first | rfl | simp only [mulN_one, V.fz, fzL, V.up, upL, fzL_map, fz_slr, fz_at, slr, List.cons_append, List.nil_append] | simp [mulN_one, V.fz, fzL, V.up, upL, fzL_map, fz_slr, fz_at, slr]) (by first | rfl | simp only [mulN_one, V.fz, fzL, V.up, upL, fzL_map, fz_slr, fz_at, slr, List.cons_append, List.nil_append] | simp [mulN_one, V.fz, fzL, V.up, upL, fzL_map, fz_slr, fz_at, slr]) h fun h => ?_
      conv => whnf
      refine Ask.o h fun p5 h => ?_
      conv => whnf
      cases h; exact ⟨rfl, rfl⟩
    · conv => whnf
      refine Ask.o h fun p6 h => ?_
      conv => whnf
      cases h; exact ⟨rfl, rfl⟩
  · conv => whnf
    cases h; exact ⟨rfl, rfl⟩

noncomputable def F_impl_order_coverPairs_l2 (o0 : List (List Bool)) : (Int × (List (Int × Int))) → Option ((Int × (List (Int × Int))) ⊕ (List (Int × Int))) := fun (x9, x3) =>
   if x9 < (↑o0.length : Int) then
    (loopO (F_impl_order_coverPairs_l1 o0 x9) ((0 : Int), x3)).bind fun q7_3 =>
    ask (InI (x9 + (1 : Int))) <|
    some (.inl (x9 + (1 : Int), q7_3))
   else
    some (.inr x3)
def S_impl_order_coverPairs_l2 (o0 : List (List Bool)) : (Int × (List (Int × Int))) → St := fun s => [(9, A.val (vint s.1)), (8, A.val (vint ((↑o0.length : Int)))), (3, A.val ((slr true 2 (rA2 vint)) s.2)), (0, A.val ((slr false 1 (slr false 1 V.bool)) (o0)))]
def T_impl_order_coverPairs_l2 (_o0 : List (List Bool)) : (List (Int × Int)) → Tgt
  | s => ((Ex.exit 0), [3], [(3, A.val ((slr true 2 (rA2 vint)) s))])
theorem b_impl_order_coverPairs_l2 {o0 : List (List Bool)} (s : (Int × (List (Int × Int)))) (o : (Int × (List (Int × Int))) ⊕ (List (Int × Int))) (h : F_impl_order_coverPairs_l2 o0 s = some o) : vc Try.prog c_impl_order_coverPairs_l2 (outQ [9, 8, 3, 0] (S_impl_order_coverPairs_l2 o0) (T_impl_order_coverPairs_l2 o0) o) (S_impl_order_coverPairs_l2 o0 s) := by
  obtain ⟨x9, x3⟩ := s
  unfold F_impl_order_coverPairs_l2 at h
  try dsimp only at h
  conv => whnf
  refine Br.od h (fun p1 h => ?_) (fun p1 h => ?_)
  · conv => whnf
    refine Len.map ?_
    conv => whnf
    refine LoopQ.o [14, 13, 4, 9, 8, 3, 0] (S_impl_order_coverPairs_l1 o0 x9) (T_impl_order_coverPairs_l1 o0 x9) h (fun s o h => b_impl_order_coverPairs_l1 s o h) (by first | rfl | simp [restrict, look, mulN_one, V.fz, fzL, V.up, upL, fzL_map, fz_slr, fz_at, slr]) (fun _ => rfl) ?_
    rintro q7_3 h
    try dsimp only at h
    conv => whnf
    refine Ask.o h fun p8 h => ?_
    conv => whnf
    cases h; exact ⟨rfl, rfl⟩
  · conv => whnf
    cases h; exact ⟨rfl, rfl⟩

noncomputable def F_impl_order_coverPairs (o0 : (List (List Bool))) : Option (List (Int × Int)) :=
  (loopO (F_impl_order_coverPairs_l2 o0) ((0 : Int), nilL (Int × Int))).bind fun q9_3 =>
  some q9_3
theorem t_impl_order_coverPairs {o0 : (List (List Bool))} {v : (List (Int × Int))} (h : F_impl_order_coverPairs o0 = some v) : Ret Try.prog f_impl_order_coverPairs [(slr false 1 (slr false 1 V.bool)) o0] ((slr true 2 (rA2 vint)) v) := by
  refine ret_vc k_impl_order_coverPairs (Nat.le_of_ble_eq_true rfl) ?_
  unfold F_impl_order_coverPairs at h
  conv => whnf
  refine BslQ.o (rA2 vint) (nilL (Int × Int)) (by exact fun _ => ⟨rfl, rfl⟩) (by first | rfl | simp only [mulN_one, V.fz, fzL, V.up, upL, fzL_map, fz_slr, fz_at, slr, List.cons_append, List.nil_append] | simp [mulN_one, V.fz, fzL, V.up, upL, fzL_map, fz_slr, fz_at, slr]) ?_
  conv => whnf
  refine Len.map ?_
  conv => whnf
  refine LoopQ.o [9, 8, 3, 0] (S_impl_order_coverPairs_l2 o0) (T_impl_order_coverPairs_l2 o0) h (fun s o h => b_impl_order_coverPairs_l2 s o h) (by first | rfl | simp [restrict, look, mulN_one, V.fz, fzL, V.up, upL, fzL_map, fz_slr, fz_at, slr]) (fun _ => rfl) ?_
  rintro q9_3 h
  try dsimp only at h
  conv => whnf
  cases h; exact (by first | rfl | simp [resV, mulN_one, V.fz, fzL, V.up, upL, fzL_map, fz_slr, fz_at, slr])

noncomputable def F_impl_latticeOf (p0 : SPoset) : Option ((Option Slattice) × Bool) :=
  (F_impl_orderOf (p0)).bind fun r1 =>
  ((if (r1.snd) = true then
      if (↑r1.fst.length : Int) = (0 : Int) then
       some (.inl ())
      else
       some (.inr ())
     else
      some (.inl ()) : Option (Unit ⊕ Unit))).bind fun t => match t with
  | (.inl _) => (some (none, false))
  | (.inr _) => ((F_impl_order_meetTable (r1.fst)).bind fun r5 =>
    (F_impl_order_dual (r1.fst)).bind fun r6 =>
    (F_impl_order_meetTable (r6)).bind fun r7 =>
    if (r5.snd) = true then
     some (some { order := r1.fst, meets := r5.fst, joins := r7.fst }, r7.snd)
    else
     some (some { order := r1.fst, meets := r5.fst, joins := r7.fst }, false))
theorem t_impl_latticeOf {p0 : SPoset} {v : ((Option Slattice) × Bool)} (h : F_impl_latticeOf p0 = some v) : Ret Try.prog f_impl_latticeOf [(rS_Poset false) p0] ((fun r => V.tup [(rO true (rS_lattice true)) r.1, V.bool r.2]) v) := by
  refine ret_vc k_impl_latticeOf (Nat.le_of_ble_eq_true rfl) ?_
  unfold F_impl_latticeOf at h
  conv => whnf
  refine Cells.lit rfl rfl ?_
  conv => whnf
  refine CallQ.o (fun r => V.tup [(slr true 1 (slr true 1 V.bool)) r.1, V.bool r.2]) (by first | rfl | simp only [mulN_one, V.fz, fzL, V.up, upL, fzL_map, fz_slr, fz_at, slr, List.cons_append, List.nil_append] | simp [mulN_one, V.fz, fzL, V.up, upL, fzL_map, fz_slr, fz_at, slr]) h (fun r h => t_impl_orderOf h) (fun r1 h => ?_)
  conv => whnf
  refine CutQ.o (fun t : (Unit ⊕ Unit) => match t with | (.inl s) => (Ex.ret, [3, 2], [(3, A.val (V.bool (false))), (2, A.val V.nilp.up)]) | (.inr s) => (Ex.normal, [4], [(4, A.val ((slr true 1 (slr true 1 V.bool)) (r1.fst)))])) h ?_ ?_
  · intro t h
    conv => whnf
    refine Br.flip ?_
    conv => whnf
    refine Br.ob h (fun p2 h => ?_) (fun p2 h => ?_)
    · conv => whnf
      refine Br.no ?_
      conv => whnf
      refine Len.map ?_
      conv => whnf
      refine Br.no ?_
      conv => whnf
      refine Br.no ?_
      conv => whnf
      refine Br.oe h (fun p3 h => ?_) (fun p3 h => ?_)
      · conv => whnf
        cases h; exact ⟨rfl, rfl⟩
      · conv => whnf
        cases h; exact ⟨rfl, rfl⟩
    · conv => whnf
      refine Br.yes ?_
      conv => whnf
      refine Br.yes ?_
      conv => whnf
      refine Br.yes ?_
      conv => whnf
      refine Br.yes ?_
      conv => whnf
      cases h; exact ⟨rfl, rfl⟩
  · rintro (⟨⟩ | ⟨⟩) h
    · try dsimp only at h
      conv => whnf
      cases h; exact (by first | rfl | simp [resV, mulN_one, V.fz, fzL, V.up, upL, fzL_map, fz_slr, fz_at, slr])
    · try dsimp only at h
      conv => whnf
      refine CallQ.rd (fun r => V.tup [(slr true 1 (slr true 1 vint)) r.1, V.bool r.2]) (by first | rfl | simp only [V.fz, fzL_map, slr] | simp [mulN_one, V.fz, fzL, V.up, upL, fzL_map, fz_slr, fz_at, slr]) (fun _ => by simp [V.noFz, noFzL, noFzL_map]) h (fun r h => t_impl_order_meetTable h) (fun r5 h => ?_)
      conv => whnf
      refine CallQ.rd (slr true 1 (slr true 1 V.bool)) (by first | rfl | simp only [V.fz, fzL_map, slr] | simp [mulN_one, V.fz, fzL, V.up, upL, fzL_map, fz_slr, fz_at, slr]) (fun _ => by simp [V.noFz, noFzL_map]) h (fun r h => t_impl_order_dual h) (fun r6 h => ?_)
      conv => whnf
      refine CallQ.rd (fun r => V.tup [(slr true 1 (slr true 1 vint)) r.1, V.bool r.2]) (by first | rfl | simp only [V.fz, fzL_map, slr] | simp [mulN_one, V.fz, fzL, V.up, upL, fzL_map, fz_slr, fz_at, slr]) (fun _ => by simp [V.noFz, noFzL, noFzL_map]) h (fun r h => t_impl_order_meetTable h) (fun r7 h => ?_)
      conv => whnf
      refine Br.ob h (fun p8 h => ?_) (fun p8 h => ?_)
      · conv => whnf
        refine Br.yes ?_
        conv => whnf
        cases h; exact (by first | rfl | simp [resV, mulN_one, V.fz, fzL, V.up, upL, fzL_map, fz_slr, fz_at, slr])
      · conv => whnf
        refine Br.no ?_
        conv => whnf
        cases h; exact (by first | rfl | simp [resV, mulN_one, V.fz, fzL, V.up, upL, fzL_map, fz_slr, fz_at, slr])

noncomputable def F_laws_szOpS_l1 (a0 : List SOp) : (Int × Int) → Option ((Int × Int) ⊕ (Unit ⊕ Int)) := fun (x5, x1) =>
   if x5 < (↑a0.length : Int) then
    ask ((0 : Int) ≤ x5 ∧ x5 < (↑a0.length : Int)) <|
    (F_laws_szOp (nth a0 x5.toNat) (x1)).bind fun r5 =>
    if r5 < (0 : Int) then
     some (.inr (.inl ()))
    else
     ask (InI (x5 + (1 : Int))) <|
     some (.inl (x5 + (1 : Int), r5))
   else
    some (.inr (.inr x1))
def S_laws_szOpS_l1 (a0 : List SOp) : (Int × Int) → St := fun s => [(5, A.val (vint s.1)), (1, A.val (vint s.2)), (0, A.val ((slr false 2 (rS_Op false)) (a0)))]
def T_laws_szOpS_l1 (_a0 : List SOp) : (Unit ⊕ Int) → Tgt
  | (.inl _s) => (Ex.ret, [4], [(4, A.val (vint ((-1 : Int))))])
  | (.inr s) => ((Ex.exit 0), [1], [(1, A.val (vint s))])
theorem b_laws_szOpS_l1 {a0 : List SOp} (s : (Int × Int)) (o : (Int × Int) ⊕ (Unit ⊕ Int)) (h : F_laws_szOpS_l1 a0 s = some o) : vc Try.prog c_laws_szOpS_l1 (outQ [5, 1, 0] (S_laws_szOpS_l1 a0) (T_laws_szOpS_l1 a0) o) (S_laws_szOpS_l1 a0 s) := by
  obtain ⟨x5, x1⟩ := s
  unfold F_laws_szOpS_l1 at h
  try dsimp only at h
  conv => whnf
  refine Len.map ?_
  conv => whnf
  refine Br.od h (fun p3 h => ?_) (fun p3 h => ?_)
  · conv => whnf
    refine Len.map ?_
    conv => whnf
    refine Ask.o h fun p4 h => ?_
    conv => whnf
    refine Elem.o (by first | omega | (simp only [mulN] at *; omega) | (simp [mulN] at *; omega)) ?_
    conv => whnf
    refine CallQ.o vint (by first | rfl | simp only [mulN_one, V.fz, fzL, V.up, upL, fzL_map, fz_slr, fz_at, slr, List.cons_append, List.nil_append] | simp [mulN_one, V.fz, fzL, V.up, upL, fzL_map, fz_slr, fz_at, slr]) h (fun r h => t_laws_szOp h) (fun r5 h => ?_)
    conv => whnf
    refine Br.od h (fun p6 h => ?_) (fun p6 h => ?_)
    · conv => whnf
      cases h; exact ⟨rfl, rfl⟩
    · conv => whnf
      refine Ask.o h fun p7 h => ?_
      conv => whnf
      cases h; exact ⟨rfl, rfl⟩
  · conv => whnf
    cases h; exact ⟨rfl, rfl⟩

noncomputable def F_laws_szOpS (a0 : (List SOp)) (left0 : Int) : Option Int :=
  ask (InI (left0 - (↑a0.length : Int))) <|
  if left0 - (↑a0.length : Int) < (0 : Int) then
   some (-1 : Int)
  else
   (loopO (F_laws_szOpS_l1 a0) ((0 : Int), left0 - (↑a0.length : Int))).bind fun t => match t with
   | (.inl _) => (some (-1 : Int))
   | (.inr q8_1) => (some q8_1)
theorem t_laws_szOpS {a0 : (List SOp)} {left0 : Int} {v : Int} (h : F_laws_szOpS a0 left0 = some v) : Ret Try.prog f_laws_szOpS [(slr false 2 (rS_Op false)) a0, vint left0] (vint v) := by
  refine ret_vc k_laws_szOpS (Nat.le_of_ble_eq_true rfl) ?_
  unfold F_laws_szOpS at h
  conv => whnf
  refine Len.map ?_
  conv => whnf
  refine Ask.o h fun p1 h => ?_
  conv => whnf
  refine Br.od h (fun p2 h => ?_) (fun p2 h => ?_)
  · conv => whnf
    cases h; exact (by first | rfl | simp [resV, mulN_one, V.fz, fzL, V.up, upL, fzL_map, fz_slr, fz_at, slr])
  · conv => whnf
    refine LoopQ.o [5, 1, 0] (S_laws_szOpS_l1 a0) (T_laws_szOpS_l1 a0) h (fun s o h => b_laws_szOpS_l1 s o h) (by first | rfl | simp [restrict, look, mulN_one, V.fz, fzL, V.up, upL, fzL_map, fz_slr, fz_at, slr]) (by rintro (_ | _) <;> rfl) ?_
    rintro (⟨⟩ | q8_1) h
    · try dsimp only at h
      conv => whnf
      cases h; exact (by first | rfl | simp [resV, mulN_one, V.fz, fzL, V.up, upL, fzL_map, fz_slr, fz_at, slr])
    · try dsimp only at h
      conv => whnf
      cases h; exact (by first | rfl | simp [resV, mulN_one, V.fz, fzL, V.up, upL, fzL_map, fz_slr, fz_at, slr])

noncomputable def F_spec_l2Good_l1 (a0 : SAlgebra) : Int → Option (Int ⊕ (Unit ⊕ Unit)) := fun x3 =>
   if x3 < (↑a0.Ops.length : Int) then
    ask ((0 : Int) ≤ x3 ∧ x3 < (↑a0.Ops.length : Int)) <|
    (F_spec_l2Op (a0.Size) (nth a0.Ops x3.toNat)).bind fun r7 =>
    if (r7) = true then
     ask (InI (x3 + (1 : Int))) <|
     some (.inl (x3 + (1 : Int)))
    else
     some (.inr (.inl ()))
   else
    some (.inr (.inr ()))
def S_spec_l2Good_l1 (a0 : SAlgebra) : Int → St := fun s => [(3, A.val (vint s)), (1, A.val ((rP true (rS_Algebra false)) (a0)))]
def T_spec_l2Good_l1 (_a0 : SAlgebra) : (Unit ⊕ Unit) → Tgt
  | (.inl _s) => (Ex.ret, [2], [(2, A.val (V.bool (false)))])
  | (.inr _s) => ((Ex.exit 0), [], [])
theorem b_spec_l2Good_l1 {a0 : SAlgebra} (x3 : Int) (o : Int ⊕ (Unit ⊕ Unit)) (h : F_spec_l2Good_l1 a0 x3 = some o) : vc Try.prog c_spec_l2Good_l1 (outQ [3, 1] (S_spec_l2Good_l1 a0) (T_spec_l2Good_l1 a0) o) (S_spec_l2Good_l1 a0 x3) := by
  unfold F_spec_l2Good_l1 at h
  try dsimp only at h
  conv => whnf
  refine Cells.lit rfl rfl ?_
  conv => whnf
  refine Len.map ?_
  conv => whnf
  refine Br.od h (fun p5 h => ?_) (fun p5 h => ?_)
  · conv => whnf
    refine Cells.lit rfl rfl ?_
    conv => whnf
    refine Cells.lit rfl rfl ?_
    conv => whnf
    refine Len.map ?_
    conv => whnf
    refine Ask.o h fun p6 h => ?_
    conv => whnf
    refine Elem.o (by first | omega | (simp only [mulN] at *; omega) | (simp [mulN] at *; omega)) ?_
    conv => whnf
    refine CallQ.o V.bool (by first | rfl | simp only [mulN_one, V.fz, fzL, V.up, upL, fzL_map, fz_slr, fz_at, slr, List.cons_append, List.nil_append] | simp [mulN_one, V.fz, fzL, V.up, upL, fzL_map, fz_slr, fz_at, slr]) h (fun r h => t_spec_l2Op h) (fun r7 h => ?_)
    conv => whnf
    refine Br.flip ?_
    conv => whnf
    refine Br.ob h (fun p8 h => ?_) (fun p8 h => ?_)
    · conv => whnf
      refine Ask.o h fun p9 h => ?_
      conv => whnf
      cases h; exact ⟨rfl, rfl⟩
    · conv => whnf
      cases h; exact ⟨rfl, rfl⟩
  · conv => whnf
    cases h; exact ⟨rfl, rfl⟩

noncomputable def F_spec_l2Good (a0 : SAlgebra) : Option Bool :=
  (((F_spec_l1In (a0.Size) ((1 : Int)) ((8 : Int))).bind fun r1 =>
     if (r1) = true then
      if (↑a0.Ops.length : Int) > (4 : Int) then
       some (.inl ())
      else
       some (.inr ())
     else
      some (.inl ()) : Option (Unit ⊕ Unit))).bind fun t => match t with
  | (.inl _) => (some false)
  | (.inr _) => ((loopO (F_spec_l2Good_l1 a0) (0 : Int)).bind fun t => match t with
    | (.inl _) => (some false)
    | (.inr _) => (some true))
theorem t_spec_l2Good {a0 : SAlgebra} {v : Bool} (h : F_spec_l2Good a0 = some v) : Ret Try.prog f_spec_l2Good [(rS_Algebra false) a0] (V.bool v) := by
  refine ret_vc k_spec_l2Good (Nat.le_of_ble_eq_true rfl) ?_
  unfold F_spec_l2Good at h
  conv => whnf
  refine CutQ.o (fun t : (Unit ⊕ Unit) => match t with | (.inl s) => (Ex.ret, [2], [(2, A.val (V.bool (false)))]) | (.inr s) => (Ex.normal, [1], [(1, A.val ((rP true (rS_Algebra false)) (a0)))])) h ?_ ?_
  · intro t h
    conv => whnf
    refine Cells.lit rfl rfl ?_
    conv => whnf
    refine CallQ.o V.bool (by first | rfl | simp only [mulN_one, V.fz, fzL, V.up, upL, fzL_map, fz_slr, fz_at, slr, List.cons_append, List.nil_append] | simp [mulN_one, V.fz, fzL, V.up, upL, fzL_map, fz_slr, fz_at, slr]) h (fun r h => t_spec_l1In h) (fun r1 h => ?_)
    conv => whnf
    refine Br.flip ?_
    conv => whnf
    refine Br.ob h (fun p2 h => ?_) (fun p2 h => ?_)
    · conv => whnf
      refine Br.no ?_
      conv => whnf
      refine Cells.lit rfl rfl ?_
      conv => whnf
      refine Br.no ?_
      conv => whnf
      refine Len.map ?_
      conv => whnf
      refine Br.no ?_
      conv => whnf
      refine Br.no ?_
      conv => whnf
      refine Br.od h (fun p3 h => ?_) (fun p3 h => ?_)
      · conv => whnf
        cases h; exact ⟨rfl, rfl⟩
      · conv => whnf
        cases h; exact ⟨rfl, rfl⟩
    · conv => whnf
      refine Br.yes ?_
      conv => whnf
      refine Br.yes ?_
      conv => whnf
      refine Br.yes ?_
      conv => whnf
      refine Br.yes ?_
      conv => whnf
      refine Br.yes ?_
      conv => whnf
      cases h; exact ⟨rfl, rfl⟩
  · rintro (⟨⟩ | ⟨⟩) h
    · try dsimp only at h
      conv => whnf
      cases h; exact (by first | rfl | simp [resV, mulN_one, V.fz, fzL, V.up, upL, fzL_map, fz_slr, fz_at, slr])
    · try dsimp only at h
      conv => whnf
      refine LoopQ.o [3, 1] (S_spec_l2Good_l1 a0) (T_spec_l2Good_l1 a0) h (fun s o h => b_spec_l2Good_l1 s o h) (by first | rfl | simp [restrict, look, mulN_one, V.fz, fzL, V.up, upL, fzL_map, fz_slr, fz_at, slr]) (by rintro (_ | _) <;> rfl) ?_
      rintro (⟨⟩ | ⟨⟩) h
      · try dsimp only at h
        conv => whnf
        cases h; exact (by first | rfl | simp [resV, mulN_one, V.fz, fzL, V.up, upL, fzL_map, fz_slr, fz_at, slr])
      · try dsimp only at h
        conv => whnf
        cases h; exact (by first | rfl | simp [resV, mulN_one, V.fz, fzL, V.up, upL, fzL_map, fz_slr, fz_at, slr])

noncomputable def F_spec_l2Perm_l1 (l0 : List Int) (n0 : Int) : (Int × (List Bool)) → Option ((Int × (List Bool)) ⊕ (Unit ⊕ Unit)) := fun (x6, x5) =>
   if x6 < n0 then
    ask ((0 : Int) ≤ x6 ∧ x6 < (↑l0.length : Int)) <|
    ask ((0 : Int) ≤ nth l0 x6.toNat ∧ nth l0 x6.toNat < (↑x5.length : Int)) <|
    if (nth x5 (nth l0 x6.toNat).toNat) = true then
     some (.inr (.inl ()))
    else
     ask ((0 : Int) ≤ x6 ∧ x6 < (↑l0.length : Int)) <|
     ask ((0 : Int) ≤ nth l0 x6.toNat ∧ nth l0 x6.toNat < (↑x5.length : Int)) <|
     ask (InI (x6 + (1 : Int))) <|
     some (.inl (x6 + (1 : Int), x5.set (nth l0 x6.toNat).toNat true))
   else
    some (.inr (.inr ()))
def S_spec_l2Perm_l1 (l0 : List Int) (n0 : Int) : (Int × (List Bool)) → St := fun s => [(6, A.val (vint s.1)), (5, A.val ((slr true 1 V.bool) s.2)), (0, A.val ((slr false 1 vint) (l0))), (1, A.val (vint (n0)))]
def T_spec_l2Perm_l1 (_l0 : List Int) (_n0 : Int) : (Unit ⊕ Unit) → Tgt
  | (.inl _s) => (Ex.ret, [4], [(4, A.val (V.bool (false)))])
  | (.inr _s) => ((Ex.exit 0), [], [])
theorem b_spec_l2Perm_l1 {l0 : List Int} {n0 : Int} (s : (Int × (List Bool))) (o : (Int × (List Bool)) ⊕ (Unit ⊕ Unit)) (h : F_spec_l2Perm_l1 l0 n0 s = some o) : vc Try.prog c_spec_l2Perm_l1 (outQ [6, 5, 0, 1] (S_spec_l2Perm_l1 l0 n0) (T_spec_l2Perm_l1 l0 n0) o) (S_spec_l2Perm_l1 l0 n0 s) := by
  obtain ⟨x6, x5⟩ := s
  unfold F_spec_l2Perm_l1 at h
  try dsimp only at h
  conv => whnf
  refine Br.od h (fun p6 h => ?_) (fun p6 h => ?_)
  · conv => whnf
    refine Len.map ?_
    conv => whnf
    refine Ask.o h fun p7 h => ?_
    conv => whnf
    refine Elem.o (by first | omega | (simp only [mulN] at *; omega) | (simp [mulN] at *; omega)) ?_
    conv => whnf
    refine Len.map ?_
    conv => whnf
    refine Ask.o h fun p8 h => ?_
    conv => whnf
    refine Cells.one (fun _ => ⟨rfl, rfl⟩) (by first | omega | (simp only [mulN] at *; omega) | (simp [mulN] at *; omega)) ?_
    conv => whnf
    refine Br.ob h (fun p9 h => ?_) (fun p9 h => ?_)
    · conv => whnf
      cases h; exact ⟨rfl, rfl⟩
    · conv => whnf
      refine Len.map ?_
      conv => whnf
      refine Ask.o h fun p10 h => ?_
      conv => whnf
      refine Elem.o (by first | omega | (simp only [mulN] at *; omega) | (simp [mulN] at *; omega)) ?_
      conv => whnf
      refine Len.map ?_
      conv => whnf
      refine Ask.o h fun p11 h => ?_
      conv => whnf
      refine SetKids.one (fun _ => ⟨rfl, rfl⟩) (true) (by first | rfl | simp only [mulN_one, V.fz, fzL, V.up, upL, fzL_map, fz_slr, fz_at, slr, List.cons_append, List.nil_append] | simp [mulN_one, V.fz, fzL, V.up, upL, fzL_map, fz_slr, fz_at, slr]) (by first | omega | (simp only [mulN] at *; omega) | (simp [mulN] at *; omega)) ?_
      conv => whnf
      refine Ask.o h fun p12 h => ?_
      conv => whnf
      cases h; exact ⟨rfl, rfl⟩
  · conv => whnf
    cases h; exact ⟨rfl, rfl⟩

noncomputable def F_spec_l2Perm (l0 : (List Int)) (n0 : Int) : Option Bool :=
  ((if (↑l0.length : Int) ≠ n0 then
      some (.inl ())
     else
      (F_spec_l2Elements (n0) (l0)).bind fun r2 =>
      if (r2) = true then
       some (.inr ())
      else
       some (.inl ()) : Option (Unit ⊕ Unit))).bind fun t => match t with
  | (.inl _) => (some false)
  | (.inr _) => (ask ((0 : Int) ≤ n0 ∧ n0 ≤ (↑LIM : Int)) <|
    (loopO (F_spec_l2Perm_l1 l0 n0) ((0 : Int), List.replicate n0.toNat false)).bind fun t => match t with
    | (.inl _) => (some false)
    | (.inr _) => (some true))
theorem t_spec_l2Perm {l0 : (List Int)} {n0 : Int} {v : Bool} (h : F_spec_l2Perm l0 n0 = some v) : Ret Try.prog f_spec_l2Perm [(slr false 1 vint) l0, vint n0] (V.bool v) := by
  refine ret_vc k_spec_l2Perm (Nat.le_of_ble_eq_true rfl) ?_
  unfold F_spec_l2Perm at h
  conv => whnf
  refine CutQ.o (fun t : (Unit ⊕ Unit) => match t with | (.inl s) => (Ex.ret, [4], [(4, A.val (V.bool (false)))]) | (.inr s) => (Ex.normal, [0, 1], [(0, A.val ((slr false 1 vint) (l0))), (1, A.val (vint (n0)))])) h ?_ ?_
  · intro t h
    conv => whnf
    refine Len.map ?_
    conv => whnf
    refine Br.on h (fun p1 h => ?_) (fun p1 h => ?_)
    · conv => whnf
      refine Br.yes ?_
      conv => whnf
      refine Br.yes ?_
      conv => whnf
      refine Br.yes ?_
      conv => whnf
      refine Br.yes ?_
      conv => whnf
      refine Br.yes ?_
      conv => whnf
      cases h; exact ⟨rfl, rfl⟩
    · conv => whnf
      refine Br.no ?_
      conv => whnf
      refine Br.no ?_
      conv => whnf
      refine CallQ.o V.bool (by first | rfl | simp only [mulN_one, V.fz, fzL, V.up, upL, fzL_map, fz_slr, fz_at, slr, List.cons_append, List.nil_append] | simp [mulN_one, V.fz, fzL, V.up, upL, fzL_map, fz_slr, fz_at, slr]) h (fun r h => t_spec_l2Elements h) (fun r2 h => ?_)
      conv => whnf
      refine Br.no ?_
      conv => whnf
      refine Br.no ?_
      conv => whnf
      refine Br.flip ?_
      conv => whnf
      refine Br.ob h (fun p3 h => ?_) (fun p3 h => ?_)
      · conv => whnf
        cases h; exact ⟨rfl, rfl⟩
      · conv => whnf
        cases h; exact ⟨rfl, rfl⟩
  · rintro (⟨⟩ | ⟨⟩) h
    · try dsimp only at h
      conv => whnf
      cases h; exact (by first | rfl | simp [resV, mulN_one, V.fz, fzL, V.up, upL, fzL_map, fz_slr, fz_at, slr])
    · try dsimp only at h
      conv => whnf
      refine Ask.o h fun p5 h => ?_
      conv => whnf
      refine MkQ.o V.bool (false) rfl ?_
      conv => whnf
      refine LoopQ.o [6, 5, 0, 1] (S_spec_l2Perm_l1 l0 n0) (T_spec_l2Perm_l1 l0 n0) h (fun s o h => b_spec_l2Perm_l1 s o h) (by first | rfl | simp [restrict, look, mulN_one, V.fz, fzL, V.up, upL, fzL_map, fz_slr, fz_at, slr]) (by rintro (_ | _) <;> rfl) ?_
      rintro (⟨⟩ | ⟨⟩) h
      · try dsimp only at h
        conv => whnf
        cases h; exact (by first | rfl | simp [resV, mulN_one, V.fz, fzL, V.up, upL, fzL_map, fz_slr, fz_at, slr])
      · try dsimp only at h
        conv => whnf
        cases h; exact (by first | rfl | simp [resV, mulN_one, V.fz, fzL, V.up, upL, fzL_map, fz_slr, fz_at, slr])

noncomputable def F_laws_toOpS_l1 (a0 : List SOp) : (Int × (List SOp)) → Option ((Int × (List SOp)) ⊕ (List SOp)) := fun (x4, x3) =>
   if x4 < (↑a0.length : Int) then
    ask ((0 : Int) ≤ x4 ∧ x4 < (↑a0.length : Int)) <|
    (F_laws_toOp (nth a0 x4.toNat)).bind fun r4 =>
    ask ((0 : Int) ≤ x4 ∧ x4 < (↑x3.length : Int)) <|
    ask (InI (x4 + (1 : Int))) <|
    some (.inl (x4 + (1 : Int), x3.set x4.toNat r4))
   else
    some (.inr x3)
def S_laws_toOpS_l1 (a0 : List SOp) : (Int × (List SOp)) → St := fun s => [(4, A.val (vint s.1)), (3, A.val ((slr true 2 (rS_Op true)) s.2)), (0, A.val ((slr false 2 (rS_Op false)) (a0)))]
def T_laws_toOpS_l1 (_a0 : List SOp) : (List SOp) → Tgt
  | s => ((Ex.exit 0), [3], [(3, A.val ((slr true 2 (rS_Op true)) s))])
theorem b_laws_toOpS_l1 {a0 : List SOp} (s : (Int × (List SOp))) (o : (Int × (List SOp)) ⊕ (List SOp)) (h : F_laws_toOpS_l1 a0 s = some o) : vc Try.prog c_laws_toOpS_l1 (outQ [4, 3, 0] (S_laws_toOpS_l1 a0) (T_laws_toOpS_l1 a0) o) (S_laws_toOpS_l1 a0 s) := by
  obtain ⟨x4, x3⟩ := s
  unfold F_laws_toOpS_l1 at h
  try dsimp only at h
  conv => whnf
  refine Len.map ?_
  conv => whnf
  refine Br.od h (fun p2 h => ?_) (fun p2 h => ?_)
  · conv => whnf
    refine Len.map ?_
    conv => whnf
    refine Ask.o h fun p3 h => ?_
    conv => whnf
    refine Elem.o (by first | omega | (simp only [mulN] at *; omega) | (simp [mulN] at *; omega)) ?_
    conv => whnf
    refine CallQ.o (rS_Op true) (by first | rfl | simp only [mulN_one, V.fz, fzL, V.up, upL, fzL_map, fz_slr, fz_at, slr, List.cons_append, List.nil_append] | simp [mulN_one, V.fz, fzL, V.up, upL, fzL_map, fz_slr, fz_at, slr]) h (fun r h => t_laws_toOp h) (fun r4 h => ?_)
    conv => whnf
    refine Len.map ?_
    conv => whnf
    refine Ask.o h fun p5 h => ?_
    conv => whnf
    refine SetKids.wide0 (by exact fun _ => ⟨rfl, rfl⟩) (r4) (by first | omega | (simp only [mulN] at *; omega) | (simp [mulN] at *; omega)) (by rfl) (by decide) ?_
    conv => whnf
    refine Ask.o h fun p6 h => ?_
    conv => whnf
    cases h; exact ⟨rfl, rfl⟩
  · conv => whnf
    cases h; exact ⟨rfl, rfl⟩

noncomputable def F_laws_toOpS (a0 : (List SOp)) : Option (List SOp) :=
  ask ((0 : Int) ≤ (↑a0.length : Int) ∧ (↑a0.length : Int) ≤ (↑LIM : Int)) <|
  (loopO (F_laws_toOpS_l1 a0) ((0 : Int), List.replicate (↑a0.length : Int).toNat { Arity := (0 : Int), Table := nilL Int })).bind fun q7_3 =>
  some q7_3
theorem t_laws_toOpS {a0 : (List SOp)} {v : (List SOp)} (h : F_laws_toOpS a0 = some v) : Ret Try.prog f_laws_toOpS [(slr false 2 (rS_Op false)) a0] ((slr true 2 (rS_Op true)) v) := by
  refine ret_vc k_laws_toOpS (Nat.le_of_ble_eq_true rfl) ?_
  unfold F_laws_toOpS at h
  conv => whnf
  refine Len.map ?_
  conv => whnf
  refine Ask.o h fun p1 h => ?_
  conv => whnf
  refine MkQ.o (rS_Op true) ({ Arity := (0 : Int), Table := nilL Int }) rfl ?_
  conv => whnf
  refine LoopQ.o [4, 3, 0] (S_laws_toOpS_l1 a0) (T_laws_toOpS_l1 a0) h (fun s o h => b_laws_toOpS_l1 s o h) (by first | rfl | simp [restrict, look, mulN_one, V.fz, fzL, V.up, upL, fzL_map, fz_slr, fz_at, slr]) (fun _ => rfl) ?_
  rintro q7_3 h
  try dsimp only at h
  conv => whnf
  cases h; exact (by first | rfl | simp [resV, mulN_one, V.fz, fzL, V.up, upL, fzL_map, fz_slr, fz_at, slr])

end Go.Proofs.Ythcnmahjhahafab.Ax
