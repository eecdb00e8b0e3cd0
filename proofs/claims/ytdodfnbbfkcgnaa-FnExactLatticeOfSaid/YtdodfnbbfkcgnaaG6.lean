/-
  What the functions compute, as functions on plain data, and that the program does compute it; written by program.
-/
import Derived.Test.YtdodfnbbfkcgnaaCode
import Derived.Test.YtdodfnbbfkcgnaaG2
import Derived.Test.YtdodfnbbfkcgnaaG3
import Derived.Test.YtdodfnbbfkcgnaaG4
import Derived.Test.YtdodfnbbfkcgnaaG5
namespace Go.Proofs.Ytdodfnbbfkcgnaa.Ax
open Go
set_option maxRecDepth 100000
set_option maxHeartbeats 4000000

noncomputable def F_spec_l23Good_l1 (p0 : SPoset) : Int → Option (Int ⊕ (Unit ⊕ Unit)) := fun x4 =>
   if x4 < (↑p0.Below.length : Int) then
    ask ((0 : Int) ≤ x4 ∧ x4 < (↑p0.Below.length : Int)) <|
    ask (InI ((↑p0.Below.length : Int) - (1 : Int))) <|
    (F_spec_l1Rising (nth p0.Below x4.toNat) ((0 : Int)) ((↑p0.Below.length : Int) - (1 : Int))).bind fun r5 =>
    if (r5) = true then
     ask ((0 : Int) ≤ x4 ∧ x4 < (↑p0.Below.length : Int)) <|
     (F_spec_l1Has (nth p0.Below x4.toNat) (x4)).bind fun r8 =>
     if (r8) = true then
      ask (InI (x4 + (1 : Int))) <|
      some (.inl (x4 + (1 : Int)))
     else
      some (.inr (.inl ()))
    else
     some (.inr (.inl ()))
   else
    some (.inr (.inr ()))
def S_spec_l23Good_l1 (p0 : SPoset) : Int → St := fun s => [(4, A.val (vint s)), (3, A.val (vint ((↑p0.Below.length : Int)))), (1, A.val ((rP true (rS_Poset false)) (p0)))]
def T_spec_l23Good_l1 (p0 : SPoset) : (Unit ⊕ Unit) → Tgt
  | (.inl _s) => (Ex.ret, [2], [(2, A.val (V.bool (false)))])
  | (.inr _s) => ((Ex.exit 0), [3, 1], [(3, A.val (vint ((↑p0.Below.length : Int)))), (1, A.val ((rP true (rS_Poset false)) (p0)))])
theorem b_spec_l23Good_l1 {p0 : SPoset} (x4 : Int) (o : Int ⊕ (Unit ⊕ Unit)) (h : F_spec_l23Good_l1 p0 x4 = some o) : vc Try.prog c_spec_l23Good_l1 (outQ [4, 3, 1] (S_spec_l23Good_l1 p0) (T_spec_l23Good_l1 p0) o) (S_spec_l23Good_l1 p0 x4) := by
  unfold F_spec_l23Good_l1 at h
  try dsimp only at h
  conv => whnf
  refine Br.od h (fun p2 h => ?_) (fun p2 h => ?_)
  · conv => whnf
    refine Cells.lit rfl rfl ?_
    conv => whnf
    refine Len.map ?_
    conv => whnf
    refine Ask.o h fun p3 h => ?_
    conv => whnf
    refine Elem.o (by first | omega | (simp only [mulN] at *; omega) | (simp [mulN] at *; omega)) ?_
    conv => whnf
    refine Ask.o h fun p4 h => ?_
    conv => whnf
    refine CallQ.o V.bool (by first | rfl | simp only [mulN_one, V.fz, fzL, V.up, upL, fzL_map, fz_slr, fz_at, slr, List.cons_append, List.nil_append] | simp [mulN_one, V.fz, fzL, V.up, upL, fzL_map, fz_slr, fz_at, slr]) h (fun r h => t_spec_l1Rising h) (fun r5 h => ?_)
    conv => whnf
    refine Br.flip ?_
    conv => whnf
    refine Br.ob h (fun p6 h => ?_) (fun p6 h => ?_)
    · conv => whnf
      refine Br.no ?_
      conv => whnf
      refine Cells.lit rfl rfl ?_
      conv => whnf
      refine Br.no ?_
      conv => whnf
      refine Br.no ?_
      conv => whnf
      refine Len.map ?_
      conv => whnf
      refine Ask.o h fun p7 h => ?_
      conv => whnf
      refine Elem.o (by first | omega | (simp only [mulN] at *; omega) | (simp [mulN] at *; omega)) ?_
      conv => whnf
      refine Br.no ?_
      conv => whnf
      refine Br.no ?_
      conv => whnf
      refine Br.no ?_
      conv => whnf
      refine CallQ.o V.bool (by first | rfl | simp only [mulN_one, V.fz, fzL, V.up, upL, fzL_map, fz_slr, fz_at, slr, List.cons_append, List.nil_append] | simp [mulN_one, V.fz, fzL, V.up, upL, fzL_map, fz_slr, fz_at, slr]) h (fun r h => t_spec_l1Has h) (fun r8 h => ?_)
      conv => whnf
      refine Br.no ?_
      conv => whnf
      refine Br.no ?_
      conv => whnf
      refine Br.flip ?_
      conv => whnf
      refine Br.ob h (fun p9 h => ?_) (fun p9 h => ?_)
      · conv => whnf
        refine Ask.o h fun p10 h => ?_
        conv => whnf
        cases h; exact ⟨rfl, rfl⟩
      · conv => whnf
        cases h; exact ⟨rfl, rfl⟩
    · conv => whnf
      refine Br.yes ?_
      conv => whnf
      refine Br.yes ?_
      conv => whnf
      refine Br.yes ?_
      conv => whnf
      refine Br.yes ?_
      conv => whnf
      refine Br.yes ?_
      conv => whnf
      refine Br.yes ?_
      conv => whnf
      refine Br.yes ?_
      conv => whnf
      refine Br.yes ?_
      conv => whnf
      refine Br.yes ?_
      conv => whnf
      cases h; exact ⟨rfl, rfl⟩
  · conv => whnf
    cases h; exact ⟨rfl, rfl⟩

noncomputable def F_spec_l23Good_l2 (p0 : SPoset) (x5 : Int) : Int → Option (Int ⊕ (Unit ⊕ Unit)) := fun x6 =>
   ask ((0 : Int) ≤ x5 ∧ x5 < (↑p0.Below.length : Int)) <|
   if x6 < (↑(nth p0.Below x5.toNat).length : Int) then
    ask ((0 : Int) ≤ x5 ∧ x5 < (↑p0.Below.length : Int)) <|
    ask ((0 : Int) ≤ x6 ∧ x6 < (↑(nth p0.Below x5.toNat).length : Int)) <|
    if nth (nth p0.Below x5.toNat) x6.toNat ≠ x5 then
     ask ((0 : Int) ≤ nth (nth p0.Below x5.toNat) x6.toNat ∧ nth (nth p0.Below x5.toNat) x6.toNat < (↑p0.Below.length : Int)) <|
     (F_spec_l1Has (nth p0.Below (nth (nth p0.Below x5.toNat) x6.toNat).toNat) (x5)).bind fun r19 =>
     if (r19) = true then
      some (.inr (.inl ()))
     else
      ask ((0 : Int) ≤ nth (nth p0.Below x5.toNat) x6.toNat ∧ nth (nth p0.Below x5.toNat) x6.toNat < (↑p0.Below.length : Int)) <|
      ask ((0 : Int) ≤ x5 ∧ x5 < (↑p0.Below.length : Int)) <|
      (F_spec_l5Within (nth p0.Below (nth (nth p0.Below x5.toNat) x6.toNat).toNat) (nth p0.Below x5.toNat)).bind fun r23 =>
      if (r23) = true then
       ask (InI (x6 + (1 : Int))) <|
       some (.inl (x6 + (1 : Int)))
      else
       some (.inr (.inl ()))
    else
     ask ((0 : Int) ≤ nth (nth p0.Below x5.toNat) x6.toNat ∧ nth (nth p0.Below x5.toNat) x6.toNat < (↑p0.Below.length : Int)) <|
     ask ((0 : Int) ≤ x5 ∧ x5 < (↑p0.Below.length : Int)) <|
     (F_spec_l5Within (nth p0.Below (nth (nth p0.Below x5.toNat) x6.toNat).toNat) (nth p0.Below x5.toNat)).bind fun r28 =>
     if (r28) = true then
      ask (InI (x6 + (1 : Int))) <|
      some (.inl (x6 + (1 : Int)))
     else
      some (.inr (.inl ()))
   else
    some (.inr (.inr ()))
def S_spec_l23Good_l2 (p0 : SPoset) (x5 : Int) : Int → St := fun s => [(6, A.val (vint s)), (5, A.val (vint (x5))), (3, A.val (vint ((↑p0.Below.length : Int)))), (1, A.val ((rP true (rS_Poset false)) (p0)))]
def T_spec_l23Good_l2 (p0 : SPoset) (x5 : Int) : (Unit ⊕ Unit) → Tgt
  | (.inl _s) => (Ex.ret, [2], [(2, A.val (V.bool (false)))])
  | (.inr _s) => ((Ex.exit 4), [5, 3, 1], [(5, A.val (vint (x5))), (3, A.val (vint ((↑p0.Below.length : Int)))), (1, A.val ((rP true (rS_Poset false)) (p0)))])
theorem b_spec_l23Good_l2 {p0 : SPoset} {x5 : Int} (x6 : Int) (o : Int ⊕ (Unit ⊕ Unit)) (h : F_spec_l23Good_l2 p0 x5 x6 = some o) : vc Try.prog c_spec_l23Good_l2 (outQ [6, 5, 3, 1] (S_spec_l23Good_l2 p0 x5) (T_spec_l23Good_l2 p0 x5) o) (S_spec_l23Good_l2 p0 x5 x6) := by
  unfold F_spec_l23Good_l2 at h
  try dsimp only at h
  conv => whnf
  refine Cells.lit rfl rfl ?_
  conv => whnf
  refine Len.map ?_
  conv => whnf
  refine Ask.o h fun p13 h => ?_
  conv => whnf
  refine Elem.o (by first | omega | (simp only [mulN] at *; omega) | (simp [mulN] at *; omega)) ?_
  conv => whnf
  refine Len.map ?_
  conv => whnf
  refine Br.od h (fun p14 h => ?_) (fun p14 h => ?_)
  · conv => whnf
    refine Cells.lit rfl rfl ?_
    conv => whnf
    refine Len.map ?_
    conv => whnf
    refine Ask.o h fun p15 h => ?_
    conv => whnf
    refine Elem.o (by first | omega | (simp only [mulN] at *; omega) | (simp [mulN] at *; omega)) ?_
    conv => whnf
    refine Len.map ?_
    conv => whnf
    refine Ask.o h fun p16 h => ?_
    conv => whnf
    refine Elem.o (by first | omega | (simp only [mulN] at *; omega) | (simp [mulN] at *; omega)) ?_
    conv => whnf
    refine Br.on h (fun p17 h => ?_) (fun p17 h => ?_)
    · conv => whnf
      refine Br.yes ?_
      conv => whnf
      refine Cells.lit rfl rfl ?_
      conv => whnf
      refine Br.yes ?_
      conv => whnf
      refine Br.yes ?_
      conv => whnf
      refine Len.map ?_
      conv => whnf
      refine Ask.o h fun p18 h => ?_
      conv => whnf
      refine Elem.o (by first | omega | (simp only [mulN] at *; omega) | (simp [mulN] at *; omega)) ?_
      conv => whnf
      refine Br.yes ?_
      conv => whnf
      refine Br.yes ?_
      conv => whnf
      refine Br.yes ?_
      conv => whnf
      refine CallP.o V.bool (by first | rfl | simp only [mulN_one, V.fz, fzL, V.up, upL, fzL_map, fz_slr, fz_at, slr, List.cons_append, List.nil_append] | simp [mulN_one, V.fz, fzL, V.up, upL, fzL_map, fz_slr, fz_at, slr]) h (fun r h => t_spec_l1Has h) (fun r19 h => ?_)
      conv => whnf
      refine Br.yes ?_
      conv => whnf
      refine Br.ob h (fun p20 h => ?_) (fun p20 h => ?_)
      · conv => whnf
        refine Br.yes ?_
        conv => whnf
        refine Br.yes ?_
        conv => whnf
        refine Br.yes ?_
        conv => whnf
        refine Br.yes ?_
        conv => whnf
        refine Br.yes ?_
        conv => whnf
        refine Br.yes ?_
        conv => whnf
        refine Br.yes ?_
        conv => whnf
        refine Br.yes ?_
        conv => whnf
        refine Br.yes ?_
        conv => whnf
        refine Br.yes ?_
        conv => whnf
        refine Br.yes ?_
        conv => whnf
        refine Br.yes ?_
        conv => whnf
        refine Br.yes ?_
        conv => whnf
        cases h; exact ⟨rfl, rfl⟩
      · conv => whnf
        refine Br.no ?_
        conv => whnf
        refine Cells.lit rfl rfl ?_
        conv => whnf
        refine Br.no ?_
        conv => whnf
        refine Br.no ?_
        conv => whnf
        refine Len.map ?_
        conv => whnf
        refine Ask.o h fun p21 h => ?_
        conv => whnf
        refine Elem.o (by first | omega | (simp only [mulN] at *; omega) | (simp [mulN] at *; omega)) ?_
        conv => whnf
        refine Br.no ?_
        conv => whnf
        refine Br.no ?_
        conv => whnf
        refine Br.no ?_
        conv => whnf
        refine Cells.lit rfl rfl ?_
        conv => whnf
        refine Br.no ?_
        conv => whnf
        refine Br.no ?_
        conv => whnf
        refine Len.map ?_
        conv => whnf
        refine Ask.o h fun p22 h => ?_
        conv => whnf
        refine Elem.o (by first | omega | (simp only [mulN] at *; omega) | (simp [mulN] at *; omega)) ?_
        conv => whnf
        refine Br.no ?_
        conv => whnf
        refine Br.no ?_
        conv => whnf
        refine CallQ.o V.bool (by first | rfl | simp only [mulN_one, V.fz, fzL, V.up, upL, fzL_map, fz_slr, fz_at, slr, List.cons_append, List.nil_append] | simp [mulN_one, V.fz, fzL, V.up, upL, fzL_map, fz_slr, fz_at, slr]) h (fun r h => t_spec_l5Within h) (fun r23 h => ?_)
        conv => whnf
        refine Br.no ?_
        conv => whnf
        refine Br.no ?_
        conv => whnf
        refine Br.flip ?_
        conv => whnf
        refine Br.ob h (fun p24 h => ?_) (fun p24 h => ?_)
        · conv => whnf
          refine Ask.o h fun p25 h => ?_
          conv => whnf
          cases h; exact ⟨rfl, rfl⟩
        · conv => whnf
          cases h; exact ⟨rfl, rfl⟩
    · conv => whnf
      refine Br.no ?_
      conv => whnf
      refine Br.no ?_
      conv => whnf
      refine Br.no ?_
      conv => whnf
      refine Br.no ?_
      conv => whnf
      refine Br.no ?_
      conv => whnf
      refine Br.no ?_
      conv => whnf
      refine Br.no ?_
      conv => whnf
      refine Br.no ?_
      conv => whnf
      refine Br.no ?_
      conv => whnf
      refine Cells.lit rfl rfl ?_
      conv => whnf
      refine Br.no ?_
      conv => whnf
      refine Br.no ?_
      conv => whnf
      refine Len.map ?_
      conv => whnf
      refine Ask.o h fun p26 h => ?_
      conv => whnf
      refine Elem.o (by first | omega | (simp only [mulN] at *; omega) | (simp [mulN] at *; omega)) ?_
      conv => whnf
      refine Br.no ?_
      conv => whnf
      refine Br.no ?_
      conv => whnf
      refine Br.no ?_
      conv => whnf
      refine Cells.lit rfl rfl ?_
      conv => whnf
      refine Br.no ?_
      conv => whnf
      refine Br.no ?_
      conv => whnf
      refine Len.map ?_
      conv => whnf
      refine Ask.o h fun p27 h => ?_
      conv => whnf
      refine Elem.o (by first | omega | (simp only [mulN] at *; omega) | (simp [mulN] at *; omega)) ?_
      conv => whnf
      refine Br.no ?_
      conv => whnf
      refine Br.no ?_
      conv => whnf
      refine CallQ.o V.bool (by first | rfl | simp only [mulN_one, V.fz, fzL, V.up, upL, fzL_map, fz_slr, fz_at, slr, List.cons_append, List.nil_append] | simp [mulN_one, V.fz, fzL, V.up, upL, fzL_map, fz_slr, fz_at, slr]) h (fun r h => t_spec_l5Within h) (fun r28 h => ?_)
      conv => whnf
      refine Br.no ?_
      conv => whnf
      refine Br.no ?_
      conv => whnf
      refine Br.flip ?_
      conv => whnf
      refine Br.ob h (fun p29 h => ?_) (fun p29 h => ?_)
      · conv => whnf
        refine Ask.o h fun p30 h => ?_
        conv => whnf
        cases h; exact ⟨rfl, rfl⟩
      · conv => whnf
        cases h; exact ⟨rfl, rfl⟩
  · conv => whnf
    cases h; exact ⟨rfl, rfl⟩

noncomputable def F_spec_l23Good_l3 (p0 : SPoset) : Int → Option (Int ⊕ (Unit ⊕ Unit)) := fun x5 =>
   if x5 < (↑p0.Below.length : Int) then
    (loopO (F_spec_l23Good_l2 p0 x5) (0 : Int)).bind fun t => match t with
    | (.inl _) => (some (.inr (.inl ())))
    | (.inr _) => (ask (InI (x5 + (1 : Int))) <|
      some (.inl (x5 + (1 : Int))))
   else
    some (.inr (.inr ()))
def S_spec_l23Good_l3 (p0 : SPoset) : Int → St := fun s => [(5, A.val (vint s)), (3, A.val (vint ((↑p0.Below.length : Int)))), (1, A.val ((rP true (rS_Poset false)) (p0)))]
def T_spec_l23Good_l3 (_p0 : SPoset) : (Unit ⊕ Unit) → Tgt
  | (.inl _s) => (Ex.ret, [2], [(2, A.val (V.bool (false)))])
  | (.inr _s) => ((Ex.exit 2), [], [])
theorem b_spec_l23Good_l3 {p0 : SPoset} (x5 : Int) (o : Int ⊕ (Unit ⊕ Unit)) (h : F_spec_l23Good_l3 p0 x5 = some o) : vc Try.prog c_spec_l23Good_l3 (outQ [5, 3, 1] (S_spec_l23Good_l3 p0) (T_spec_l23Good_l3 p0) o) (S_spec_l23Good_l3 p0 x5) := by
  unfold F_spec_l23Good_l3 at h
  try dsimp only at h
  conv => whnf
  refine Br.od h (fun p12 h => ?_) (fun p12 h => ?_)
  · conv => whnf
    refine LoopQ.o [6, 5, 3, 1] (S_spec_l23Good_l2 p0 x5) (T_spec_l23Good_l2 p0 x5) h (fun s o h => b_spec_l23Good_l2 s o h) (by first | rfl | simp [restrict, look, mulN_one, V.fz, fzL, V.up, upL, fzL_map, fz_slr, fz_at, slr]) (by rintro (_ | _) <;> rfl) ?_
    rintro (⟨⟩ | ⟨⟩) h
    · try dsimp only at h
      conv => whnf
      cases h; exact ⟨rfl, rfl⟩
    · try dsimp only at h
      conv => whnf
      refine Ask.o h fun p32 h => ?_
      conv => whnf
      cases h; exact ⟨rfl, rfl⟩
  · conv => whnf
    cases h; exact ⟨rfl, rfl⟩

noncomputable def F_spec_l23Good (p0 : SPoset) : Option Bool :=
  if (↑p0.Below.length : Int) > (10 : Int) then
   some false
  else
   (loopO (F_spec_l23Good_l1 p0) (0 : Int)).bind fun t => match t with
   | (.inl _) => (some false)
   | (.inr _) => ((loopO (F_spec_l23Good_l3 p0) (0 : Int)).bind fun t => match t with
     | (.inl _) => (some false)
     | (.inr _) => (some true))
theorem t_spec_l23Good {p0 : SPoset} {v : Bool} (h : F_spec_l23Good p0 = some v) : Ret Try.prog f_spec_l23Good [(rS_Poset false) p0] (V.bool v) := by
  refine ret_vc k_spec_l23Good (Nat.le_of_ble_eq_true rfl) ?_
  unfold F_spec_l23Good at h
  conv => whnf
  refine Cells.lit rfl rfl ?_
  conv => whnf
  refine Len.map ?_
  conv => whnf
  refine Br.od h (fun p1 h => ?_) (fun p1 h => ?_)
  · conv => whnf
    cases h; exact (by first | rfl | simp only [resV, mulN_one, V.fz, fzL, V.up, upL, fzL_map, fz_slr, fz_at, slr] | simp [resV, mulN_one, V.fz, fzL, V.up, upL, fzL_map, fz_slr, fz_at, slr])
  · conv => whnf
    refine LoopQ.o [4, 3, 1] (S_spec_l23Good_l1 p0) (T_spec_l23Good_l1 p0) h (fun s o h => b_spec_l23Good_l1 s o h) (by first | rfl | simp [restrict, look, mulN_one, V.fz, fzL, V.up, upL, fzL_map, fz_slr, fz_at, slr]) (by rintro (_ | _) <;> rfl) ?_
    rintro (⟨⟩ | ⟨⟩) h
    · try dsimp only at h
      conv => whnf
      cases h; exact (by first | rfl | simp only [resV, mulN_one, V.fz, fzL, V.up, upL, fzL_map, fz_slr, fz_at, slr] | simp [resV, mulN_one, V.fz, fzL, V.up, upL, fzL_map, fz_slr, fz_at, slr])
    · try dsimp only at h
      conv => whnf
      refine LoopQ.o [5, 3, 1] (S_spec_l23Good_l3 p0) (T_spec_l23Good_l3 p0) h (fun s o h => b_spec_l23Good_l3 s o h) (by first | rfl | simp [restrict, look, mulN_one, V.fz, fzL, V.up, upL, fzL_map, fz_slr, fz_at, slr]) (by rintro (_ | _) <;> rfl) ?_
      rintro (⟨⟩ | ⟨⟩) h
      · try dsimp only at h
        conv => whnf
        cases h; exact (by first | rfl | simp only [resV, mulN_one, V.fz, fzL, V.up, upL, fzL_map, fz_slr, fz_at, slr] | simp [resV, mulN_one, V.fz, fzL, V.up, upL, fzL_map, fz_slr, fz_at, slr])
      · try dsimp only at h
        conv => whnf
        cases h; exact (by first | rfl | simp only [resV, mulN_one, V.fz, fzL, V.up, upL, fzL_map, fz_slr, fz_at, slr] | simp [resV, mulN_one, V.fz, fzL, V.up, upL, fzL_map, fz_slr, fz_at, slr])

noncomputable def F_impl_latticeOf (p0 : SPoset) : Option ((Option Slattice) × Bool) :=
  (F_impl_orderOf (p0)).bind fun r1 =>
  ((if (r1.snd) = true then
      if (↑r1.fst.length : Int) = (0 : Int) then
       some (.inl ())
      else
       some (.inr ())
     else
      some (.inl ()) : Option (Unit ⊕ Unit))).bind fun t => match t with
  | (.inl _) => (some (none, false))
  | (.inr _) => ((F_impl_order_meetTable (r1.fst)).bind fun r5 =>
    (F_impl_order_dual (r1.fst)).bind fun r6 =>
    (F_impl_order_meetTable (r6)).bind fun r7 =>
    if (r5.snd) = true then
     some (some { order := r1.fst, meets := r5.fst, joins := r7.fst }, r7.snd)
    else
     some (some { order := r1.fst, meets := r5.fst, joins := r7.fst }, false))
theorem t_impl_latticeOf {p0 : SPoset} {v : ((Option Slattice) × Bool)} (h : F_impl_latticeOf p0 = some v) : Ret Try.prog f_impl_latticeOf [(rS_Poset false) p0] ((fun r => V.tup [(rO true (rS_lattice true)) r.1, V.bool r.2]) v) := by
  refine ret_vc k_impl_latticeOf (Nat.le_of_ble_eq_true rfl) ?_
  unfold F_impl_latticeOf at h
  conv => whnf
  refine Cells.lit rfl rfl ?_
  conv => whnf
  refine CallQ.o (fun r => V.tup [(slr true 1 (slr true 1 V.bool)) r.1, V.bool r.2]) (by first | rfl | simp only [mulN_one, V.fz, fzL, V.up, upL, fzL_map, fz_slr, fz_at, slr, List.cons_append, List.nil_append] | simp [mulN_one, V.fz, fzL, V.up, upL, fzL_map, fz_slr, fz_at, slr]) h (fun r h => t_impl_orderOf h) (fun r1 h => ?_)
  conv => whnf
  refine CutQ.o (fun t : (Unit ⊕ Unit) => match t with | (.inl s) => (Ex.ret, [3, 2], [(3, A.val (V.bool (false))), (2, A.val V.nilp.up)]) | (.inr s) => (Ex.normal, [4], [(4, A.val ((slr true 1 (slr true 1 V.bool)) (r1.fst)))])) h ?_ ?_
  · intro t h
    conv => whnf
    refine Br.flip ?_
    conv => whnf
    refine Br.ob h (fun p2 h => ?_) (fun p2 h => ?_)
    · conv => whnf
      refine Br.no ?_
      conv => whnf
      refine Len.map ?_
      conv => whnf
      refine Br.no ?_
      conv => whnf
      refine Br.no ?_
      conv => whnf
      refine Br.oe h (fun p3 h => ?_) (fun p3 h => ?_)
      · conv => whnf
        cases h; exact ⟨rfl, rfl⟩
      · conv => whnf
        cases h; exact ⟨rfl, rfl⟩
    · conv => whnf
      refine Br.yes ?_
      conv => whnf
      refine Br.yes ?_
      conv => whnf
      refine Br.yes ?_
      conv => whnf
      refine Br.yes ?_
      conv => whnf
      cases h; exact ⟨rfl, rfl⟩
  · rintro (⟨⟩ | ⟨⟩) h
    · try dsimp only at h
      conv => whnf
      cases h; exact (by first | rfl | simp only [resV, mulN_one, V.fz, fzL, V.up, upL, fzL_map, fz_slr, fz_at, slr] | simp [resV, mulN_one, V.fz, fzL, V.up, upL, fzL_map, fz_slr, fz_at, slr])
    · try dsimp only at h
      conv => whnf
      refine CallQ.rd (fun r => V.tup [(slr true 1 (slr true 1 vint)) r.1, V.bool r.2]) (by first | rfl | simp only [V.fz, fzL_map, slr] | simp [mulN_one, V.fz, fzL, V.up, upL, fzL_map, fz_slr, fz_at, slr]) (fun _ => by simp [V.noFz, noFzL, noFzL_map]) h (fun r h => t_impl_order_meetTable h) (fun r5 h => ?_)
      conv => whnf
      refine CallQ.rd (slr true 1 (slr true 1 V.bool)) (by first | rfl | simp only [V.fz, fzL_map, slr] | simp [mulN_one, V.fz, fzL, V.up, upL, fzL_map, fz_slr, fz_at, slr]) (fun _ => by simp [V.noFz, noFzL_map]) h (fun r h => t_impl_order_dual h) (fun r6 h => ?_)
      conv => whnf
      refine CallQ.rd (fun r => V.tup [(slr true 1 (slr true 1 vint)) r.1, V.bool r.2]) (by first | rfl | simp only [V.fz, fzL_map, slr] | simp [mulN_one, V.fz, fzL, V.up, upL, fzL_map, fz_slr, fz_at, slr]) (fun _ => by simp [V.noFz, noFzL, noFzL_map]) h (fun r h => t_impl_order_meetTable h) (fun r7 h => ?_)
      conv => whnf
      refine Br.ob h (fun p8 h => ?_) (fun p8 h => ?_)
      · conv => whnf
        refine Br.yes ?_
        conv => whnf
        cases h; exact (by first | rfl | simp only [resV, mulN_one, V.fz, fzL, V.up, upL, fzL_map, fz_slr, fz_at, slr] | simp [resV, mulN_one, V.fz, fzL, V.up, upL, fzL_map, fz_slr, fz_at, slr])
      · conv => whnf
        refine Br.no ?_
        conv => whnf
        cases h; exact (by first | rfl | simp only [resV, mulN_one, V.fz, fzL, V.up, upL, fzL_map, fz_slr, fz_at, slr] | simp [resV, mulN_one, V.fz, fzL, V.up, upL, fzL_map, fz_slr, fz_at, slr])

noncomputable def F_spec_l23Dual_l1 (p0 : SPoset) (x4 : Int) (_x3 : SPoset) : (Int × (List Int)) → Option ((Int × (List Int)) ⊕ (List Int)) := fun (x6, x5) =>
   if x6 < (↑p0.Below.length : Int) then
    (F_spec_l23Leq (p0) (x4) (x6)).bind fun r3 =>
    if (r3) = true then
     ask ((x5).length + ([x6]).length ≤ LIM) <|
     ask (InI (x6 + (1 : Int))) <|
     some (.inl (x6 + (1 : Int), x5 ++ [x6]))
    else
     ask (InI (x6 + (1 : Int))) <|
     some (.inl (x6 + (1 : Int), x5))
   else
    some (.inr x5)
def S_spec_l23Dual_l1 (p0 : SPoset) (x4 : Int) (x3 : SPoset) : (Int × (List Int)) → St := fun s => [(6, A.val (vint s.1)), (5, A.val ((slr true 1 vint) s.2)), (4, A.val (vint (x4))), (3, A.val ((rP true (rS_Poset true)) (x3))), (2, A.val ((rP true (rS_Poset true)) ({ Below := nilL (List Int) }))), (1, A.val ((rP true (rS_Poset false)) (p0)))]
def T_spec_l23Dual_l1 (p0 : SPoset) (x4 : Int) (x3 : SPoset) : (List Int) → Tgt
  | s => ((Ex.exit 2), [5, 4, 3, 2, 1], [(5, A.val ((slr true 1 vint) s)), (4, A.val (vint (x4))), (3, A.val ((rP true (rS_Poset true)) (x3))), (2, A.val ((rP true (rS_Poset true)) ({ Below := nilL (List Int) }))), (1, A.val ((rP true (rS_Poset false)) (p0)))])
theorem b_spec_l23Dual_l1 {p0 : SPoset} {x4 : Int} {x3 : SPoset} (s : (Int × (List Int))) (o : (Int × (List Int)) ⊕ (List Int)) (h : F_spec_l23Dual_l1 p0 x4 x3 s = some o) : vc Try.prog c_spec_l23Dual_l1 (outQ [6, 5, 4, 3, 2, 1] (S_spec_l23Dual_l1 p0 x4 x3) (T_spec_l23Dual_l1 p0 x4 x3) o) (S_spec_l23Dual_l1 p0 x4 x3 s) := by
  obtain ⟨x6, x5⟩ := s
  unfold F_spec_l23Dual_l1 at h
  try dsimp only at h
  conv => whnf
  refine Cells.lit rfl rfl ?_
  conv => whnf
  refine Len.map ?_
  conv => whnf
  refine Br.od h (fun p2 h => ?_) (fun p2 h => ?_)
  · conv => whnf
    refine Cells.lit rfl rfl ?_
    conv => whnf
    refine CallQ.o V.bool (by first | rfl | simp only [mulN_one, V.fz, fzL, V.up, upL, fzL_map, fz_slr, fz_at, slr, List.cons_append, List.nil_append] | simp [mulN_one, V.fz, fzL, V.up, upL, fzL_map, fz_slr, fz_at, slr]) h (fun r h => t_spec_l23Leq h) (fun r3 h => ?_)
    conv => whnf
    refine Br.ob h (fun p4 h => ?_) (fun p4 h => ?_)
    · conv => whnf
      refine BslQ.o vint [x6] (by exact fun _ => ⟨rfl, rfl⟩) (by first | rfl | simp only [mulN_one, V.fz, fzL, V.up, upL, fzL_map, fz_slr, fz_at, slr, List.cons_append, List.nil_append] | simp [mulN_one, V.fz, fzL, V.up, upL, fzL_map, fz_slr, fz_at, slr]) ?_
      conv => whnf
      refine NoOwn.o (fun _ => rfl) ?_
      conv => whnf
      refine AppQ.o (m := 1) vint (by exact fun _ => ⟨rfl, rfl⟩) (x5) ([x6]) (by first | rfl | simp only [mulN_one, V.fz, fzL, V.up, upL, fzL_map, fz_slr, fz_at, slr, List.cons_append, List.nil_append] | simp [mulN_one, V.fz, fzL, V.up, upL, fzL_map, fz_slr, fz_at, slr]) (by first | rfl | simp only [mulN_one, V.fz, fzL, V.up, upL, fzL_map, fz_slr, fz_at, slr, List.cons_append, List.nil_append] | simp [mulN_one, V.fz, fzL, V.up, upL, fzL_map, fz_slr, fz_at, slr]) h fun h => ?_
      conv => whnf
      refine Ask.o h fun p5 h => ?_
      conv => whnf
      cases h; exact ⟨rfl, rfl⟩
    · conv => whnf
      refine Ask.o h fun p6 h => ?_
      conv => whnf
      cases h; exact ⟨rfl, rfl⟩
  · conv => whnf
    cases h; exact ⟨rfl, rfl⟩

noncomputable def F_spec_l23Dual_l2 (p0 : SPoset) : (Int × SPoset) → Option ((Int × SPoset) ⊕ SPoset) := fun (x4, x3) =>
   if x4 < (↑p0.Below.length : Int) then
    (loopO (F_spec_l23Dual_l1 p0 x4 x3) ((0 : Int), nilL Int)).bind fun q7_5 =>
    ask ((x3.Below).length + ([q7_5]).length ≤ LIM) <|
    ask (InI (x4 + (1 : Int))) <|
    some (.inl (x4 + (1 : Int), { Below := x3.Below ++ [q7_5] }))
   else
    some (.inr x3)
def S_spec_l23Dual_l2 (p0 : SPoset) : (Int × SPoset) → St := fun s => [(4, A.val (vint s.1)), (3, A.val ((rP true (rS_Poset true)) s.2)), (2, A.val ((rP true (rS_Poset true)) ({ Below := nilL (List Int) }))), (1, A.val ((rP true (rS_Poset false)) (p0)))]
def T_spec_l23Dual_l2 (_p0 : SPoset) : SPoset → Tgt
  | s => ((Ex.exit 0), [3, 2], [(3, A.val ((rP true (rS_Poset true)) s)), (2, A.val ((rP true (rS_Poset true)) ({ Below := nilL (List Int) })))])
theorem b_spec_l23Dual_l2 {p0 : SPoset} (s : (Int × SPoset)) (o : (Int × SPoset) ⊕ SPoset) (h : F_spec_l23Dual_l2 p0 s = some o) : vc Try.prog c_spec_l23Dual_l2 (outQ [4, 3, 2, 1] (S_spec_l23Dual_l2 p0) (T_spec_l23Dual_l2 p0) o) (S_spec_l23Dual_l2 p0 s) := by
  obtain ⟨x4, x3⟩ := s
  unfold F_spec_l23Dual_l2 at h
  try dsimp only at h
  conv => whnf
  refine Cells.lit rfl rfl ?_
  conv => whnf
  refine Len.map ?_
  conv => whnf
  refine Br.od h (fun p1 h => ?_) (fun p1 h => ?_)
  · conv => whnf
    refine BslQ.o vint (nilL Int) (by exact fun _ => ⟨rfl, rfl⟩) (by first | rfl | simp only [mulN_one, V.fz, fzL, V.up, upL, fzL_map, fz_slr, fz_at, slr, List.cons_append, List.nil_append] | simp [mulN_one, V.fz, fzL, V.up, upL, fzL_map, fz_slr, fz_at, slr]) ?_
    conv => whnf
    refine LoopQ.o [6, 5, 4, 3, 2, 1] (S_spec_l23Dual_l1 p0 x4 x3) (T_spec_l23Dual_l1 p0 x4 x3) h (fun s o h => b_spec_l23Dual_l1 s o h) (by first | rfl | simp [restrict, look, mulN_one, V.fz, fzL, V.up, upL, fzL_map, fz_slr, fz_at, slr]) (fun _ => rfl) ?_
    rintro q7_5 h
    try dsimp only at h
    conv => whnf
    refine Cells.lit rfl rfl ?_
    conv => whnf
    refine BslQ.o (slr true 1 vint) [q7_5] (by exact fun _ => ⟨rfl, rfl⟩) (by first | rfl | simp only [mulN_one, V.fz, fzL, V.up, upL, fzL_map, fz_slr, fz_at, slr, List.cons_append, List.nil_append] | simp [mulN_one, V.fz, fzL, V.up, upL, fzL_map, fz_slr, fz_at, slr]) ?_
    conv => whnf
    refine NoOwn.own rfl ?_
    conv => whnf
    refine AppQ.o (m := 1) (slr true 1 vint) (by exact fun _ => ⟨rfl, rfl⟩) (x3.Below) ([q7_5]) (by first | rfl | simp only [mulN_one, V.fz, fzL, V.up, upL, fzL_map, fz_slr, fz_at, slr, List.cons_append, List.nil_append] | simp [mulN_one, V.fz, fzL, V.up, upL, fzL_map, fz_slr, fz_at, slr]) (by first | rfl | simp only [mulN_one, V.fz, fzL, V.up, upL, fzL_map, fz_slr, fz_at, slr, List.cons_append, List.nil_append] | simp [mulN_one, V.fz, fzL, V.up, upL, fzL_map, fz_slr, fz_at, slr]) h fun h => ?_
    conv => whnf
    refine SetKids.lit rfl ?_
    conv => whnf
    refine Ask.o h fun p8 h => ?_
    conv => whnf
    cases h; exact ⟨rfl, rfl⟩
  · conv => whnf
    cases h; exact ⟨rfl, rfl⟩

noncomputable def F_spec_l23Dual (p0 : SPoset) : Option SPoset :=
  (loopO (F_spec_l23Dual_l2 p0) ((0 : Int), { Below := nilL (List Int) })).bind fun q9_3 =>
  some q9_3
theorem t_spec_l23Dual {p0 : SPoset} {v : SPoset} (h : F_spec_l23Dual p0 = some v) : Ret Try.prog f_spec_l23Dual [(rS_Poset false) p0] ((rS_Poset true) v) := by
  refine ret_vc k_spec_l23Dual (Nat.le_of_ble_eq_true rfl) ?_
  unfold F_spec_l23Dual at h
  conv => whnf
  refine BslQ.o (slr true 1 vint) (nilL (List Int)) (by exact fun _ => ⟨rfl, rfl⟩) (by first | rfl | simp only [mulN_one, V.fz, fzL, V.up, upL, fzL_map, fz_slr, fz_at, slr, List.cons_append, List.nil_append] | simp [mulN_one, V.fz, fzL, V.up, upL, fzL_map, fz_slr, fz_at, slr]) ?_
  conv => whnf
  refine SetKids.lit rfl ?_
  conv => whnf
  refine LoopQ.o [4, 3, 2, 1] (S_spec_l23Dual_l2 p0) (T_spec_l23Dual_l2 p0) h (fun s o h => b_spec_l23Dual_l2 s o h) (by first | rfl | simp [restrict, look, mulN_one, V.fz, fzL, V.up, upL, fzL_map, fz_slr, fz_at, slr]) (fun _ => rfl) ?_
  rintro q9_3 h
  try dsimp only at h
  conv => whnf
  refine Cells.lit rfl rfl ?_
  conv => whnf
  refine SetKids.lit rfl ?_
  conv => whnf
  cases h; exact (by first | rfl | simp only [resV, mulN_one, V.fz, fzL, V.up, upL, fzL_map, fz_slr, fz_at, slr] | simp [resV, mulN_one, V.fz, fzL, V.up, upL, fzL_map, fz_slr, fz_at, slr])

noncomputable def F_spec_l24Bound_l1 (p0 : SPoset) (some0 : List Int) (x6 : Int) (_x5 : List Int) : (Int × Bool) → Option ((Int × Bool) ⊕ Bool) := fun (x8, x7) =>
   if x8 < (↑some0.length : Int) then
    if (x7) = true then
     ask ((0 : Int) ≤ x8 ∧ x8 < (↑some0.length : Int)) <|
     (F_spec_l23Leq (p0) (x6) (nth some0 x8.toNat)).bind fun r5 =>
     ask (InI (x8 + (1 : Int))) <|
     some (.inl (x8 + (1 : Int), r5))
    else
     ask (InI (x8 + (1 : Int))) <|
     some (.inl (x8 + (1 : Int), false))
   else
    some (.inr x7)
def S_spec_l24Bound_l1 (p0 : SPoset) (some0 : List Int) (x6 : Int) (x5 : List Int) : (Int × Bool) → St := fun s => [(8, A.val (vint s.1)), (7, A.val (V.bool s.2)), (6, A.val (vint (x6))), (5, A.val ((slr true 1 vint) (x5))), (2, A.val ((rP true (rS_Poset false)) (p0))), (1, A.val ((slr false 1 vint) (some0)))]
def T_spec_l24Bound_l1 (p0 : SPoset) (some0 : List Int) (x6 : Int) (x5 : List Int) : Bool → Tgt
  | s => ((Ex.exit 2), [7, 6, 5, 2, 1], [(7, A.val (V.bool s)), (6, A.val (vint (x6))), (5, A.val ((slr true 1 vint) (x5))), (2, A.val ((rP true (rS_Poset false)) (p0))), (1, A.val ((slr false 1 vint) (some0)))])
theorem b_spec_l24Bound_l1 {p0 : SPoset} {some0 : List Int} {x6 : Int} {x5 : List Int} (s : (Int × Bool)) (o : (Int × Bool) ⊕ Bool) (h : F_spec_l24Bound_l1 p0 some0 x6 x5 s = some o) : vc Try.prog c_spec_l24Bound_l1 (outQ [8, 7, 6, 5, 2, 1] (S_spec_l24Bound_l1 p0 some0 x6 x5) (T_spec_l24Bound_l1 p0 some0 x6 x5) o) (S_spec_l24Bound_l1 p0 some0 x6 x5 s) := by
  obtain ⟨x8, x7⟩ := s
  unfold F_spec_l24Bound_l1 at h
  try dsimp only at h
  conv => whnf
  refine Len.map ?_
  conv => whnf
  refine Br.od h (fun p2 h => ?_) (fun p2 h => ?_)
  · conv => whnf
    refine Br.ob h (fun p3 h => ?_) (fun p3 h => ?_)
    · conv => whnf
      refine Cells.lit rfl rfl ?_
      conv => whnf
      refine Br.yes ?_
      conv => whnf
      refine Br.yes ?_
      conv => whnf
      refine Br.yes ?_
      conv => whnf
      refine Br.yes ?_
      conv => whnf
      refine Len.map ?_
      conv => whnf
      refine Ask.o h fun p4 h => ?_
      conv => whnf
      refine Elem.o (by first | omega | (simp only [mulN] at *; omega) | (simp [mulN] at *; omega)) ?_
      conv => whnf
      refine Br.yes ?_
      conv => whnf
      refine Br.yes ?_
      conv => whnf
      refine CallQ.o V.bool (by first | rfl | simp only [mulN_one, V.fz, fzL, V.up, upL, fzL_map, fz_slr, fz_at, slr, List.cons_append, List.nil_append] | simp [mulN_one, V.fz, fzL, V.up, upL, fzL_map, fz_slr, fz_at, slr]) h (fun r h => t_spec_l23Leq h) (fun r5 h => ?_)
      conv => whnf
      refine Br.yes ?_
      conv => whnf
      refine Ask.o h fun p6 h => ?_
      conv => whnf
      cases h; exact ⟨rfl, rfl⟩
    · conv => whnf
      refine Br.no ?_
      conv => whnf
      refine Br.no ?_
      conv => whnf
      refine Br.no ?_
      conv => whnf
      refine Br.no ?_
      conv => whnf
      refine Br.no ?_
      conv => whnf
      refine Br.no ?_
      conv => whnf
      refine Br.no ?_
      conv => whnf
      refine Ask.o h fun p7 h => ?_
      conv => whnf
      cases h; exact ⟨rfl, rfl⟩
  · conv => whnf
    cases h; exact ⟨rfl, rfl⟩

noncomputable def F_spec_l24Bound_l2 (p0 : SPoset) (some0 : List Int) : (Int × (List Int)) → Option ((Int × (List Int)) ⊕ (List Int)) := fun (x6, x5) =>
   if x6 < (↑p0.Below.length : Int) then
    (loopO (F_spec_l24Bound_l1 p0 some0 x6 x5) ((0 : Int), true)).bind fun q8_7 =>
    if (q8_7) = true then
     ask ((x5).length + ([x6]).length ≤ LIM) <|
     ask (InI (x6 + (1 : Int))) <|
     some (.inl (x6 + (1 : Int), x5 ++ [x6]))
    else
     ask (InI (x6 + (1 : Int))) <|
     some (.inl (x6 + (1 : Int), x5))
   else
    some (.inr x5)
def S_spec_l24Bound_l2 (p0 : SPoset) (some0 : List Int) : (Int × (List Int)) → St := fun s => [(6, A.val (vint s.1)), (5, A.val ((slr true 1 vint) s.2)), (2, A.val ((rP true (rS_Poset false)) (p0))), (1, A.val ((slr false 1 vint) (some0)))]
def T_spec_l24Bound_l2 (p0 : SPoset) (_some0 : List Int) : (List Int) → Tgt
  | s => ((Ex.exit 0), [5, 2], [(5, A.val ((slr true 1 vint) s)), (2, A.val ((rP true (rS_Poset false)) (p0)))])
theorem b_spec_l24Bound_l2 {p0 : SPoset} {some0 : List Int} (s : (Int × (List Int))) (o : (Int × (List Int)) ⊕ (List Int)) (h : F_spec_l24Bound_l2 p0 some0 s = some o) : vc Try.prog c_spec_l24Bound_l2 (outQ [6, 5, 2, 1] (S_spec_l24Bound_l2 p0 some0) (T_spec_l24Bound_l2 p0 some0) o) (S_spec_l24Bound_l2 p0 some0 s) := by
  obtain ⟨x6, x5⟩ := s
  unfold F_spec_l24Bound_l2 at h
  try dsimp only at h
  conv => whnf
  refine Cells.lit rfl rfl ?_
  conv => whnf
  refine Len.map ?_
  conv => whnf
  refine Br.od h (fun p1 h => ?_) (fun p1 h => ?_)
  · conv => whnf
    refine LoopQ.o [8, 7, 6, 5, 2, 1] (S_spec_l24Bound_l1 p0 some0 x6 x5) (T_spec_l24Bound_l1 p0 some0 x6 x5) h (fun s o h => b_spec_l24Bound_l1 s o h) (by first | rfl | simp [restrict, look, mulN_one, V.fz, fzL, V.up, upL, fzL_map, fz_slr, fz_at, slr]) (fun _ => rfl) ?_
    rintro q8_7 h
    try dsimp only at h
    conv => whnf
    refine Br.ob h (fun p9 h => ?_) (fun p9 h => ?_)
    · conv => whnf
      refine BslQ.o vint [x6] (by exact fun _ => ⟨rfl, rfl⟩) (by first | rfl | simp only [mulN_one, V.fz, fzL, V.up, upL, fzL_map, fz_slr, fz_at, slr, List.cons_append, List.nil_append] | simp [mulN_one, V.fz, fzL, V.up, upL, fzL_map, fz_slr, fz_at, slr]) ?_
      conv => whnf
      refine NoOwn.o (fun _ => rfl) ?_
      conv => whnf
      refine AppQ.o (m := 1) vint (by exact fun _ => ⟨rfl, rfl⟩) (x5) ([x6]) (by first | rfl | simp only [mulN_one, V.fz, fzL, V.up, upL, fzL_map, fz_slr, fz_at, slr, List.cons_append, List.nil_append] | simp [mulN_one, V.fz, fzL, V.up, upL, fzL_map, fz_slr, fz_at, slr]) (by first | rfl | simp only [mulN_one, V.fz, fzL, V.up, upL, fzL_map, fz_slr, fz_at, slr, List.cons_append, List.nil_append] | simp [mulN_one, V.fz, fzL, V.up, upL, fzL_map, fz_slr, fz_at, slr]) h fun h => ?_
      conv => whnf
      refine Ask.o h fun p10 h => ?_
      conv => whnf
      cases h; exact ⟨rfl, rfl⟩
    · conv => whnf
      refine Ask.o h fun p11 h => ?_
      conv => whnf
      cases h; exact ⟨rfl, rfl⟩
  · conv => whnf
    cases h; exact ⟨rfl, rfl⟩

noncomputable def F_spec_l24Bound_l3 (p0 : SPoset) (q12_5 : List Int) : Int → Option (Int ⊕ (Int ⊕ Unit)) := fun x9 =>
   if x9 < (↑q12_5.length : Int) then
    ask ((0 : Int) ≤ x9 ∧ x9 < (↑q12_5.length : Int)) <|
    ask ((0 : Int) ≤ nth q12_5 x9.toNat ∧ nth q12_5 x9.toNat < (↑p0.Below.length : Int)) <|
    (F_spec_l5Within (q12_5) (nth p0.Below (nth q12_5 x9.toNat).toNat)).bind fun r16 =>
    if (r16) = true then
     ask ((0 : Int) ≤ x9 ∧ x9 < (↑q12_5.length : Int)) <|
     some (.inr (.inl (nth q12_5 x9.toNat)))
    else
     ask (InI (x9 + (1 : Int))) <|
     some (.inl (x9 + (1 : Int)))
   else
    some (.inr (.inr ()))
def S_spec_l24Bound_l3 (p0 : SPoset) (q12_5 : List Int) : Int → St := fun s => [(9, A.val (vint s)), (5, A.val ((slr true 1 vint) (q12_5))), (2, A.val ((rP true (rS_Poset false)) (p0)))]
def T_spec_l24Bound_l3 (_p0 : SPoset) (_q12_5 : List Int) : (Int ⊕ Unit) → Tgt
  | (.inl s) => (Ex.ret, [4], [(4, A.val (vint s))])
  | (.inr _s) => ((Ex.exit 4), [], [])
theorem b_spec_l24Bound_l3 {p0 : SPoset} {q12_5 : List Int} (x9 : Int) (o : Int ⊕ (Int ⊕ Unit)) (h : F_spec_l24Bound_l3 p0 q12_5 x9 = some o) : vc Try.prog c_spec_l24Bound_l3 (outQ [9, 5, 2] (S_spec_l24Bound_l3 p0 q12_5) (T_spec_l24Bound_l3 p0 q12_5) o) (S_spec_l24Bound_l3 p0 q12_5 x9) := by
  unfold F_spec_l24Bound_l3 at h
  try dsimp only at h
  conv => whnf
  refine Len.map ?_
  conv => whnf
  refine Br.od h (fun p13 h => ?_) (fun p13 h => ?_)
  · conv => whnf
    refine Cells.lit rfl rfl ?_
    conv => whnf
    refine Len.map ?_
    conv => whnf
    refine Ask.o h fun p14 h => ?_
    conv => whnf
    refine Cells.one (fun _ => ⟨rfl, rfl⟩) (by first | omega | (simp only [mulN] at *; omega) | (simp [mulN] at *; omega)) ?_
    conv => whnf
    refine Len.map ?_
    conv => whnf
    refine Ask.o h fun p15 h => ?_
    conv => whnf
    refine Elem.o (by first | omega | (simp only [mulN] at *; omega) | (simp [mulN] at *; omega)) ?_
    conv => whnf
    refine CallQ.rd V.bool (by first | rfl | simp only [mulN_one, V.fz, fzL_map, slr] | simp [mulN_one, V.fz, fzL, V.up, upL, fzL_map, fz_slr, fz_at, slr]) (fun _ => rfl) h (fun r h => t_spec_l5Within h) (fun r16 h => ?_)
    conv => whnf
    refine Br.ob h (fun p17 h => ?_) (fun p17 h => ?_)
    · conv => whnf
      refine Len.map ?_
      conv => whnf
      refine Ask.o h fun p18 h => ?_
      conv => whnf
      refine Cells.one (fun _ => ⟨rfl, rfl⟩) (by first | omega | (simp only [mulN] at *; omega) | (simp [mulN] at *; omega)) ?_
      conv => whnf
      cases h; exact ⟨rfl, rfl⟩
    · conv => whnf
      refine Ask.o h fun p19 h => ?_
      conv => whnf
      cases h; exact ⟨rfl, rfl⟩
  · conv => whnf
    cases h; exact ⟨rfl, rfl⟩

noncomputable def F_spec_l24Bound (p0 : SPoset) (some0 : (List Int)) : Option Int :=
  (loopO (F_spec_l24Bound_l2 p0 some0) ((0 : Int), nilL Int)).bind fun q12_5 =>
  (loopO (F_spec_l24Bound_l3 p0 q12_5) (0 : Int)).bind fun t => match t with
  | (.inl q20_4) => (some q20_4)
  | (.inr _) => (some (-1 : Int))
theorem t_spec_l24Bound {p0 : SPoset} {some0 : (List Int)} {v : Int} (h : F_spec_l24Bound p0 some0 = some v) : Ret Try.prog f_spec_l24Bound [(rS_Poset false) p0, (slr false 1 vint) some0] (vint v) := by
  refine ret_vc k_spec_l24Bound (Nat.le_of_ble_eq_true rfl) ?_
  unfold F_spec_l24Bound at h
  conv => whnf
  refine BslQ.o vint (nilL Int) (by exact fun _ => ⟨rfl, rfl⟩) (by first | rfl | simp only [mulN_one, V.fz, fzL, V.up, upL, fzL_map, fz_slr, fz_at, slr, List.cons_append, List.nil_append] | simp [mulN_one, V.fz, fzL, V.up, upL, fzL_map, fz_slr, fz_at, slr]) ?_
  conv => whnf
  refine LoopQ.o [6, 5, 2, 1] (S_spec_l24Bound_l2 p0 some0) (T_spec_l24Bound_l2 p0 some0) h (fun s o h => b_spec_l24Bound_l2 s o h) (by first | rfl | simp [restrict, look, mulN_one, V.fz, fzL, V.up, upL, fzL_map, fz_slr, fz_at, slr]) (fun _ => rfl) ?_
  rintro q12_5 h
  try dsimp only at h
  conv => whnf
  refine LoopQ.o [9, 5, 2] (S_spec_l24Bound_l3 p0 q12_5) (T_spec_l24Bound_l3 p0 q12_5) h (fun s o h => b_spec_l24Bound_l3 s o h) (by first | rfl | simp [restrict, look, mulN_one, V.fz, fzL, V.up, upL, fzL_map, fz_slr, fz_at, slr]) (by rintro (_ | _) <;> rfl) ?_
  rintro (q20_4 | ⟨⟩) h
  · try dsimp only at h
    conv => whnf
    cases h; exact (by first | rfl | simp only [resV, mulN_one, V.fz, fzL, V.up, upL, fzL_map, fz_slr, fz_at, slr] | simp [resV, mulN_one, V.fz, fzL, V.up, upL, fzL_map, fz_slr, fz_at, slr])
  · try dsimp only at h
    conv => whnf
    cases h; exact (by first | rfl | simp only [resV, mulN_one, V.fz, fzL, V.up, upL, fzL_map, fz_slr, fz_at, slr] | simp [resV, mulN_one, V.fz, fzL, V.up, upL, fzL_map, fz_slr, fz_at, slr])

noncomputable def F_laws_szAlgebra (a0 : SAlgebra) (left0 : Int) : Option Int :=
  (F_laws_szOpS (a0.Ops) (left0)).bind fun r1 =>
  if r1 < (0 : Int) then
   some (-1 : Int)
  else
   some r1
theorem t_laws_szAlgebra {a0 : SAlgebra} {left0 : Int} {v : Int} (h : F_laws_szAlgebra a0 left0 = some v) : Ret Try.prog f_laws_szAlgebra [(rS_Algebra false) a0, vint left0] (vint v) := by
  refine ret_vc k_laws_szAlgebra (Nat.le_of_ble_eq_true rfl) ?_
  unfold F_laws_szAlgebra at h
  conv => whnf
  refine Cells.lit rfl rfl ?_
  conv => whnf
  refine CallQ.o vint (by first | rfl | simp only [mulN_one, V.fz, fzL, V.up, upL, fzL_map, fz_slr, fz_at, slr, List.cons_append, List.nil_append] | simp [mulN_one, V.fz, fzL, V.up, upL, fzL_map, fz_slr, fz_at, slr]) h (fun r h => t_laws_szOpS h) (fun r1 h => ?_)
  conv => whnf
  refine Br.od h (fun p2 h => ?_) (fun p2 h => ?_)
  · conv => whnf
    cases h; exact (by first | rfl | simp only [resV, mulN_one, V.fz, fzL, V.up, upL, fzL_map, fz_slr, fz_at, slr] | simp [resV, mulN_one, V.fz, fzL, V.up, upL, fzL_map, fz_slr, fz_at, slr])
  · conv => whnf
    cases h; exact (by first | rfl | simp only [resV, mulN_one, V.fz, fzL, V.up, upL, fzL_map, fz_slr, fz_at, slr] | simp [resV, mulN_one, V.fz, fzL, V.up, upL, fzL_map, fz_slr, fz_at, slr])

noncomputable def F_laws_toAlgebra (a0 : SAlgebra) : Option SAlgebra :=
  (F_laws_toOpS (a0.Ops)).bind fun r1 =>
  some ({ Size := a0.Size, Ops := r1 })
theorem t_laws_toAlgebra {a0 : SAlgebra} {v : SAlgebra} (h : F_laws_toAlgebra a0 = some v) : Ret Try.prog f_laws_toAlgebra [(rS_Algebra false) a0] ((rS_Algebra true) v) := by
  refine ret_vc k_laws_toAlgebra (Nat.le_of_ble_eq_true rfl) ?_
  unfold F_laws_toAlgebra at h
  conv => whnf
  refine Cells.lit rfl rfl ?_
  conv => whnf
  refine SetKids.lit rfl ?_
  conv => whnf
  refine Cells.lit rfl rfl ?_
  conv => whnf
  refine CallQ.o (slr true 2 (rS_Op true)) (by first | rfl | simp only [mulN_one, V.fz, fzL, V.up, upL, fzL_map, fz_slr, fz_at, slr, List.cons_append, List.nil_append] | simp [mulN_one, V.fz, fzL, V.up, upL, fzL_map, fz_slr, fz_at, slr]) h (fun r h => t_laws_toOpS h) (fun r1 h => ?_)
  conv => whnf
  refine SetKids.lit rfl ?_
  conv => whnf
  refine Cells.lit rfl rfl ?_
  conv => whnf
  refine SetKids.lit rfl ?_
  conv => whnf
  cases h; exact (by first | rfl | simp only [resV, mulN_one, V.fz, fzL, V.up, upL, fzL_map, fz_slr, fz_at, slr] | simp [resV, mulN_one, V.fz, fzL, V.up, upL, fzL_map, fz_slr, fz_at, slr])

noncomputable def F_laws_eqAlgebra (a0 : SAlgebra) (b0 : SAlgebra) : Option Bool :=
  if a0.Size ≠ b0.Size then
   some false
  else
   (F_laws_eqOpS (a0.Ops) (b0.Ops)).bind fun r2 =>
   if (r2) = true then
    some true
   else
    some false
theorem t_laws_eqAlgebra {a0 : SAlgebra} {b0 : SAlgebra} {v : Bool} (h : F_laws_eqAlgebra a0 b0 = some v) : Ret Try.prog f_laws_eqAlgebra [(rS_Algebra false) a0, (rS_Algebra false) b0] (V.bool v) := by
  refine ret_vc k_laws_eqAlgebra (Nat.le_of_ble_eq_true rfl) ?_
  unfold F_laws_eqAlgebra at h
  conv => whnf
  refine Cells.lit rfl rfl ?_
  conv => whnf
  refine Cells.lit rfl rfl ?_
  conv => whnf
  refine Br.on h (fun p1 h => ?_) (fun p1 h => ?_)
  · conv => whnf
    cases h; exact (by first | rfl | simp only [resV, mulN_one, V.fz, fzL, V.up, upL, fzL_map, fz_slr, fz_at, slr] | simp [resV, mulN_one, V.fz, fzL, V.up, upL, fzL_map, fz_slr, fz_at, slr])
  · conv => whnf
    refine Cells.lit rfl rfl ?_
    conv => whnf
    refine Cells.lit rfl rfl ?_
    conv => whnf
    refine CallQ.o V.bool (by first | rfl | simp only [mulN_one, V.fz, fzL, V.up, upL, fzL_map, fz_slr, fz_at, slr, List.cons_append, List.nil_append] | simp [mulN_one, V.fz, fzL, V.up, upL, fzL_map, fz_slr, fz_at, slr]) h (fun r h => t_laws_eqOpS h) (fun r2 h => ?_)
    conv => whnf
    refine Br.flip ?_
    conv => whnf
    refine Br.ob h (fun p3 h => ?_) (fun p3 h => ?_)
    · conv => whnf
      cases h; exact (by first | rfl | simp only [resV, mulN_one, V.fz, fzL, V.up, upL, fzL_map, fz_slr, fz_at, slr] | simp [resV, mulN_one, V.fz, fzL, V.up, upL, fzL_map, fz_slr, fz_at, slr])
    · conv => whnf
      cases h; exact (by first | rfl | simp only [resV, mulN_one, V.fz, fzL, V.up, upL, fzL_map, fz_slr, fz_at, slr] | simp [resV, mulN_one, V.fz, fzL, V.up, upL, fzL_map, fz_slr, fz_at, slr])

end Go.Proofs.Ytdodfnbbfkcgnaa.Ax
