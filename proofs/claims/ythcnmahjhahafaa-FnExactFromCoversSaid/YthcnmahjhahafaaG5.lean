/-
  What the functions compute, as functions on plain data, and that the program does compute it; written by program.
-/
import Derived.Test.YthcnmahjhahafaaCode
import Derived.Test.YthcnmahjhahafaaG4
namespace Go.Proofs.Ythcnmahjhahafaa.Ax
open Go
set_option maxRecDepth 100000
set_option maxHeartbeats 4000000

noncomputable def F_impl_CountExtensions_l1 (r1 : List (List Bool) × Bool) (x25 : Int) (x6 : List Int) : (Int × (List Int)) → Option ((Int × (List Int)) ⊕ (List Int)) := fun (x32, x6') =>
   if x32 < (↑r1.fst.length : Int) then
    ((ask ((0 : Int) ≤ x32) <|
       if andI (shrI x25 x32) (1 : Int) = (1 : Int) then
        some (.inl ())
       else
        if nth x6 x25.toNat = (0 : Int) then
         some (.inl ())
        else
         some (.inr ()) : Option (Unit ⊕ Unit))).bind fun t => match t with
    | (.inl _) => (ask (InI (x32 + (1 : Int))) <|
      some (.inl (x32 + (1 : Int), x6')))
    | (.inr _) => ((F_impl_order_none (r1.fst) (fun w_0 => F_impl_CountExtensions_1 w_0 (r1.fst) (x32) (x25))).bind fun r14 =>
      if (r14) = true then
       ask ((0 : Int) ≤ x32) <|
       ask ((0 : Int) ≤ orI x25 (shlI (1 : Int) x32) ∧ orI x25 (shlI (1 : Int) x32) < (↑x6'.length : Int)) <|
       ask ((0 : Int) ≤ x25 ∧ x25 < (↑x6'.length : Int)) <|
       ask (InI (nth x6' (orI x25 (shlI (1 : Int) x32)).toNat + nth x6' x25.toNat)) <|
       ask ((0 : Int) ≤ orI x25 (shlI (1 : Int) x32) ∧ orI x25 (shlI (1 : Int) x32) < (↑x6'.length : Int)) <|
       ask (InI (x32 + (1 : Int))) <|
       some (.inl (x32 + (1 : Int), x6'.set (orI x25 (shlI (1 : Int) x32)).toNat (nth x6' (orI x25 (shlI (1 : Int) x32)).toNat + nth x6' x25.toNat)))
      else
       ask (InI (x32 + (1 : Int))) <|
       some (.inl (x32 + (1 : Int), x6')))
   else
    some (.inr x6')
def S_impl_CountExtensions_l1 (r1 : List (List Bool) × Bool) (x25 : Int) (x6 : List Int) : (Int × (List Int)) → St := fun s => [(32, A.val (vint s.1)), (31, A.val (vint ((↑r1.fst.length : Int)))), (8, A.val (vint (nth x6 x25.toNat))), (7, A.val ((rP true vint) (x25))), (25, A.val (vint (x25))), (24, A.val (vint ((↑((List.replicate (shlI (1 : Int) (↑r1.fst.length : Int)).toNat (0 : Int)).set (Int.toNat (0 : Int)) (1 : Int)).length : Int)))), (23, A.ref (6 : Nat) []), (6, A.val ((slr true 1 vint) s.2)), (4, A.val ((rP true (slr true 1 (slr true 1 V.bool))) (r1.fst)))]
def T_impl_CountExtensions_l1 (r1 : List (List Bool) × Bool) (x25 : Int) (_x6 : List Int) : (List Int) → Tgt
  | s => ((Ex.exit 2), [25, 24, 23, 6, 4], [(25, A.val (vint (x25))), (24, A.val (vint ((↑((List.replicate (shlI (1 : Int) (↑r1.fst.length : Int)).toNat (0 : Int)).set (Int.toNat (0 : Int)) (1 : Int)).length : Int)))), (23, A.ref (6 : Nat) []), (6, A.val ((slr true 1 vint) s)), (4, A.val ((rP true (slr true 1 (slr true 1 V.bool))) (r1.fst)))])
theorem b_impl_CountExtensions_l1 {r1 : List (List Bool) × Bool} {x25 : Int} {x6 : List Int} (s : (Int × (List Int))) (o : (Int × (List Int)) ⊕ (List Int)) (h : F_impl_CountExtensions_l1 r1 x25 x6 s = some o) : vc Try.prog c_impl_CountExtensions_l1 (outQ [32, 31, 8, 7, 25, 24, 23, 6, 4] (S_impl_CountExtensions_l1 r1 x25 x6) (T_impl_CountExtensions_l1 r1 x25 x6) o) (S_impl_CountExtensions_l1 r1 x25 x6 s) := by
  obtain ⟨x32, x6'⟩ := s
  unfold F_impl_CountExtensions_l1 at h
  try dsimp only at h
  conv => whnf
  refine Br.od h (fun p8 h => ?_) (fun p8 h => ?_)
  · conv => whnf
    refine SetKids.lit rfl ?_
    conv => whnf
    refine CutQ.o (fun t : (Unit ⊕ Unit) => match t with | (.inl s) => ((Ex.exit 3), [32, 31, 8, 7, 25, 24, 23, 6, 4], [(32, A.val (vint (x32))), (31, A.val (vint ((↑r1.fst.length : Int)))), (8, A.val (vint (nth x6 x25.toNat))), (7, A.val ((rP true vint) (x25))), (25, A.val (vint (x25))), (24, A.val (vint ((↑((List.replicate (shlI (1 : Int) (↑r1.fst.length : Int)).toNat (0 : Int)).set (Int.toNat (0 : Int)) (1 : Int)).length : Int)))), (23, A.ref (6 : Nat) []), (6, A.val ((slr true 1 vint) (x6'))), (4, A.val ((rP true (slr true 1 (slr true 1 V.bool))) (r1.fst)))]) | (.inr s) => (Ex.normal, [9, 32, 31, 8, 7, 25, 24, 23, 6, 4], [(9, A.val ((rP true vint) (x32))), (32, A.val (vint (x32))), (31, A.val (vint ((↑r1.fst.length : Int)))), (8, A.val (vint (nth x6 x25.toNat))), (7, A.val ((rP true vint) (x25))), (25, A.val (vint (x25))), (24, A.val (vint ((↑((List.replicate (shlI (1 : Int) (↑r1.fst.length : Int)).toNat (0 : Int)).set (Int.toNat (0 : Int)) (1 : Int)).length : Int)))), (23, A.ref (6 : Nat) []), (6, A.val ((slr true 1 vint) (x6'))), (4, A.val ((rP true (slr true 1 (slr true 1 V.bool))) (r1.fst)))])) h ?_ ?_
    · intro t h
      conv => whnf
      refine Cells.lit rfl rfl ?_
      conv => whnf
      refine Cells.lit rfl rfl ?_
      conv => whnf
      refine Ask.o h fun p9 h => ?_
      conv => whnf
      refine Br.oe h (fun p10 h => ?_) (fun p10 h => ?_)
      · conv => whnf
        refine Br.yes ?_
        conv => whnf
        refine Br.yes ?_
        conv => whnf
        refine Br.yes ?_
        conv => whnf
        cases h; exact ⟨rfl, rfl⟩
      · conv => whnf
        refine Br.no ?_
        conv => whnf
        refine Br.no ?_
        conv => whnf
        refine Br.oe h (fun p11 h => ?_) (fun p11 h => ?_)
        · conv => whnf
          cases h; exact ⟨rfl, rfl⟩
        · conv => whnf
          cases h; exact ⟨rfl, rfl⟩
    · rintro (⟨⟩ | ⟨⟩) h
      · try dsimp only at h
        conv => whnf
        refine Ask.o h fun p13 h => ?_
        conv => whnf
        cases h; exact ⟨rfl, rfl⟩
      · try dsimp only at h
        conv => whnf
        refine Cells.lit rfl rfl ?_
        conv => whnf
        refine Kid.lit rfl rfl ?_
        conv => whnf
        refine CallQ.rd V.bool (by first | rfl | simp only [V.fz, fzL_map, slr] | simp [mulN_one, V.fz, fzL, V.up, upL, fzL_map, fz_slr, fz_at, slr]) (fun _ => rfl) h (fun r h => t_impl_order_none (f_so0 := f_impl_CountExtensions_1) (c_so0 := [(rP false (slr false 1 (slr false 1 V.bool))) (r1.fst), (rP false vint) (x32), (rP false vint) (x25)]) (fun w_0 v h => Ret.cast (by first | rfl | simp only [mulN_one, V.fz, fzL, V.up, upL, fzL_map, fz_slr, fz_at, slr, List.cons_append, List.nil_append] | simp [mulN_one, V.fz, fzL, V.up, upL, fzL_map, fz_slr, fz_at, slr]) (t_impl_CountExtensions_1 h)) h) (fun r14 h => ?_)
        conv => whnf
        refine Br.ob h (fun p15 h => ?_) (fun p15 h => ?_)
        · conv => whnf
          refine Cells.lit rfl rfl ?_
          conv => whnf
          refine Cells.lit rfl rfl ?_
          conv => whnf
          refine Ask.o h fun p16 h => ?_
          conv => whnf
          refine Len.map ?_
          conv => whnf
          refine Ask.o h fun p17 h => ?_
          conv => whnf
          refine Cells.one (fun _ => ⟨rfl, rfl⟩) (by first | omega | (simp only [mulN] at *; omega) | (simp [mulN] at *; omega)) ?_
          conv => whnf
          refine Cells.lit rfl rfl ?_
          conv => whnf
          refine Len.map ?_
          conv => whnf
          refine Ask.o h fun p18 h => ?_
          conv => whnf
          refine Cells.one (fun _ => ⟨rfl, rfl⟩) (by first | omega | (simp only [mulN] at *; omega) | (simp [mulN] at *; omega)) ?_
          conv => whnf
          refine Ask.o h fun p19 h => ?_
          conv => whnf
          refine Len.map ?_
          conv => whnf
          refine Ask.o h fun p20 h => ?_
          conv => whnf
          refine SetKids.one (fun _ => ⟨rfl, rfl⟩) (nth x6' (orI x25 (shlI (1 : Int) x32)).toNat + nth x6' x25.toNat) (by first | rfl | simp only [mulN_one, V.fz, fzL, V.up, upL, fzL_map, fz_slr, fz_at, slr, List.cons_append, List.nil_append] | simp [mulN_one, V.fz, fzL, V.up, upL, fzL_map, fz_slr, fz_at, slr]) (by first | omega | (simp only [mulN] at *; omega) | (simp [mulN] at *; omega)) ?_
          conv => whnf
          refine Ask.o h fun p21 h => ?_
          conv => whnf
          cases h; exact ⟨rfl, rfl⟩
        · conv => whnf
          refine Ask.o h fun p22 h => ?_
          conv => whnf
          cases h; exact ⟨rfl, rfl⟩
  · conv => whnf
    cases h; exact ⟨rfl, rfl⟩

noncomputable def F_impl_CountExtensions_l2 (r1 : List (List Bool) × Bool) : (Int × (List Int)) → Option ((Int × (List Int)) ⊕ (List Int)) := fun (x25, x6) =>
   if x25 < (↑((List.replicate (shlI (1 : Int) (↑r1.fst.length : Int)).toNat (0 : Int)).set (Int.toNat (0 : Int)) (1 : Int)).length : Int) then
    ask ((0 : Int) ≤ x25 ∧ x25 < (↑x6.length : Int)) <|
    (loopO (F_impl_CountExtensions_l1 r1 x25 x6) ((0 : Int), x6)).bind fun q23_6 =>
    ask (InI (x25 + (1 : Int))) <|
    some (.inl (x25 + (1 : Int), q23_6))
   else
    some (.inr x6)
def S_impl_CountExtensions_l2 (r1 : List (List Bool) × Bool) : (Int × (List Int)) → St := fun s => [(25, A.val (vint s.1)), (24, A.val (vint ((↑((List.replicate (shlI (1 : Int) (↑r1.fst.length : Int)).toNat (0 : Int)).set (Int.toNat (0 : Int)) (1 : Int)).length : Int)))), (23, A.ref (6 : Nat) []), (6, A.val ((slr true 1 vint) s.2)), (4, A.val ((rP true (slr true 1 (slr true 1 V.bool))) (r1.fst)))]
def T_impl_CountExtensions_l2 (_r1 : List (List Bool) × Bool) : (List Int) → Tgt
  | s => ((Ex.exit 0), [6], [(6, A.val ((slr true 1 vint) s))])
theorem b_impl_CountExtensions_l2 {r1 : List (List Bool) × Bool} (s : (Int × (List Int))) (o : (Int × (List Int)) ⊕ (List Int)) (h : F_impl_CountExtensions_l2 r1 s = some o) : vc Try.prog c_impl_CountExtensions_l2 (outQ [25, 24, 23, 6, 4] (S_impl_CountExtensions_l2 r1) (T_impl_CountExtensions_l2 r1) o) (S_impl_CountExtensions_l2 r1 s) := by
  obtain ⟨x25, x6⟩ := s
  unfold F_impl_CountExtensions_l2 at h
  try dsimp only at h
  conv => whnf
  refine Br.od h (fun p6 h => ?_) (fun p6 h => ?_)
  · conv => whnf
    refine Len.map ?_
    conv => whnf
    refine Ask.o h fun p7 h => ?_
    conv => whnf
    refine Cells.one (fun _ => ⟨rfl, rfl⟩) (by first | omega | (simp only [mulN] at *; omega) | (simp [mulN] at *; omega)) ?_
    conv => whnf
    refine SetKids.lit rfl ?_
    conv => whnf
    refine Cells.lit rfl rfl ?_
    conv => whnf
    refine Kid.lit rfl rfl ?_
    conv => whnf
    refine Len.map ?_
    conv => whnf
    refine LoopQ.o [32, 31, 8, 7, 25, 24, 23, 6, 4] (S_impl_CountExtensions_l1 r1 x25 x6) (T_impl_CountExtensions_l1 r1 x25 x6) h (fun s o h => b_impl_CountExtensions_l1 s o h) (by first | rfl | simp [restrict, look, mulN_one, V.fz, fzL, V.up, upL, fzL_map, fz_slr, fz_at, slr]) (fun _ => rfl) ?_
    rintro q23_6 h
    try dsimp only at h
    conv => whnf
    refine Ask.o h fun p24 h => ?_
    conv => whnf
    cases h; exact ⟨rfl, rfl⟩
  · conv => whnf
    cases h; exact ⟨rfl, rfl⟩

noncomputable def F_impl_CountExtensions (p0 : SPoset) : Option (Int × Bool) :=
  (F_impl_orderOf (p0)).bind fun r1 =>
  if (r1.snd) = true then
   ask ((0 : Int) ≤ (↑r1.fst.length : Int)) <|
   ask ((0 : Int) ≤ shlI (1 : Int) (↑r1.fst.length : Int) ∧ shlI (1 : Int) (↑r1.fst.length : Int) ≤ (↑LIM : Int)) <|
   ask ((0 : Int) ≤ (0 : Int) ∧ (0 : Int) < (↑(shlI (1 : Int) (↑r1.fst.length : Int)).toNat : Int)) <|
   (loopO (F_impl_CountExtensions_l2 r1) ((0 : Int), (List.replicate (shlI (1 : Int) (↑r1.fst.length : Int)).toNat (0 : Int)).set (Int.toNat (0 : Int)) (1 : Int))).bind fun q25_6 =>
   ask (InI ((↑q25_6.length : Int) - (1 : Int))) <|
   ask ((0 : Int) ≤ (↑q25_6.length : Int) - (1 : Int) ∧ (↑q25_6.length : Int) - (1 : Int) < (↑q25_6.length : Int)) <|
   some (nth q25_6 ((↑q25_6.length : Int) - (1 : Int)).toNat, true)
  else
   some ((0 : Int), false)
theorem t_impl_CountExtensions {p0 : SPoset} {v : (Int × Bool)} (h : F_impl_CountExtensions p0 = some v) : Ret Try.prog f_impl_CountExtensions [(rS_Poset false) p0] ((fun r => V.tup [vint r.1, V.bool r.2]) v) := by
  refine ret_vc k_impl_CountExtensions (Nat.le_of_ble_eq_true rfl) ?_
  unfold F_impl_CountExtensions at h
  conv => whnf
  refine Cells.lit rfl rfl ?_
  conv => whnf
  refine CallQ.o (fun r => V.tup [(slr true 1 (slr true 1 V.bool)) r.1, V.bool r.2]) (by first | rfl | simp only [mulN_one, V.fz, fzL, V.up, upL, fzL_map, fz_slr, fz_at, slr, List.cons_append, List.nil_append] | simp [mulN_one, V.fz, fzL, V.up, upL, fzL_map, fz_slr, fz_at, slr]) h (fun r h => t_impl_orderOf h) (fun r1 h => ?_)
  conv => whnf
  refine SetKids.lit rfl ?_
  conv => whnf
  refine Br.flip ?_
  conv => whnf
  refine Br.ob h (fun p2 h => ?_) (fun p2 h => ?_)
  · conv => whnf
    refine Cells.lit rfl rfl ?_
    conv => whnf
    refine Kid.lit rfl rfl ?_
    conv => whnf
    refine Len.map ?_
    conv => whnf
    refine Ask.o h fun p3 h => ?_
    conv => whnf
    refine Ask.o h fun p4 h => ?_
    conv => whnf
    refine MkQ.o vint ((0 : Int)) rfl ?_
    conv => whnf
    refine Len.mrep ?_
    conv => whnf
    refine Ask.o h fun p5 h => ?_
    conv => whnf
    refine SetKids.one (fun _ => ⟨rfl, rfl⟩) ((1 : Int)) (by first | rfl | simp only [mulN_one, V.fz, fzL, V.up, upL, fzL_map, fz_slr, fz_at, slr, List.cons_append, List.nil_append] | simp [mulN_one, V.fz, fzL, V.up, upL, fzL_map, fz_slr, fz_at, slr]) (by first | omega | (simp only [mulN] at *; omega) | (simp [mulN] at *; omega)) ?_
    conv => whnf
    refine Len.map ?_
    conv => whnf
    refine LoopQ.o [25, 24, 23, 6, 4] (S_impl_CountExtensions_l2 r1) (T_impl_CountExtensions_l2 r1) h (fun s o h => b_impl_CountExtensions_l2 s o h) (by first | rfl | simp [restrict, look, mulN_one, V.fz, fzL, V.up, upL, fzL_map, fz_slr, fz_at, slr]) (fun _ => rfl) ?_
    rintro q25_6 h
    try dsimp only at h
    conv => whnf
    refine Len.map ?_
    conv => whnf
    refine Ask.o h fun p26 h => ?_
    conv => whnf
    refine Len.map ?_
    conv => whnf
    refine Ask.o h fun p27 h => ?_
    conv => whnf
    refine Cells.one (fun _ => ⟨rfl, rfl⟩) (by first | omega | (simp only [mulN] at *; omega) | (simp [mulN] at *; omega)) ?_
    conv => whnf
    cases h; exact (by first | rfl | simp [resV, mulN_one, V.fz, fzL, V.up, upL, fzL_map, fz_slr, fz_at, slr])
  · conv => whnf
    cases h; exact (by first | rfl | simp [resV, mulN_one, V.fz, fzL, V.up, upL, fzL_map, fz_slr, fz_at, slr])

noncomputable def F_laws_markPoset (a0 : SPoset) (k0 : Int) : Option (Int × SPoset) :=
  (F_laws_markIntSS (a0.Below) (k0)).bind fun (r1, u2) =>
  some (r1, { Below := u2 })
theorem t_laws_markPoset {a0 : SPoset} {k0 : Int} {v : (Int × SPoset)} (h : F_laws_markPoset a0 k0 = some v) : RetO Try.prog f_laws_markPoset [(rS_Poset true) a0, vint k0] (vint v.1) 0 ((rS_Poset true) v.2) := by
  refine reto_vc k_laws_markPoset (Nat.le_of_ble_eq_true rfl) ?_
  unfold F_laws_markPoset at h
  conv => whnf
  refine Cells.lit rfl rfl ?_
  conv => whnf
  refine Kid.lit rfl rfl ?_
  conv => whnf
  refine CallQ.io vint (slr true 1 (slr true 1 vint)) (by first | rfl | simp only [mulN_one, V.fz, fzL, V.up, upL, fzL_map, fz_slr, fz_at, slr, List.cons_append, List.nil_append] | simp [mulN_one, V.fz, fzL, V.up, upL, fzL_map, fz_slr, fz_at, slr]) rfl (fun _ => rfl) (fun _ => ⟨rfl, rfl⟩) rfl h (fun r h => t_laws_markIntSS h) (fun r1 u2 h => ?_)
  conv => whnf
  refine Kid.lit rfl rfl ?_
  conv => whnf
  refine SetKids.lit rfl ?_
  conv => whnf
  cases h; exact ⟨(by first | rfl | simp [resV, mulN_one, V.fz, fzL, V.up, upL, fzL_map, fz_slr, fz_at, slr]), (by first | rfl | simp [resV, mulN_one, V.fz, fzL, V.up, upL, fzL_map, fz_slr, fz_at, slr])⟩

noncomputable def F_laws_heldPoset (a0 : SPoset) (k0 : Int) : Option Int :=
  (F_laws_heldIntSS (a0.Below) (k0)).bind fun r1 =>
  if r1 < (0 : Int) then
   some (-1 : Int)
  else
   some r1
theorem t_laws_heldPoset {a0 : SPoset} {k0 : Int} {v : Int} (h : F_laws_heldPoset a0 k0 = some v) : Ret Try.prog f_laws_heldPoset [(rS_Poset false) a0, vint k0] (vint v) := by
  refine ret_vc k_laws_heldPoset (Nat.le_of_ble_eq_true rfl) ?_
  unfold F_laws_heldPoset at h
  conv => whnf
  refine Cells.lit rfl rfl ?_
  conv => whnf
  refine CallQ.o vint (by first | rfl | simp only [mulN_one, V.fz, fzL, V.up, upL, fzL_map, fz_slr, fz_at, slr, List.cons_append, List.nil_append] | simp [mulN_one, V.fz, fzL, V.up, upL, fzL_map, fz_slr, fz_at, slr]) h (fun r h => t_laws_heldIntSS h) (fun r1 h => ?_)
  conv => whnf
  refine Br.od h (fun p2 h => ?_) (fun p2 h => ?_)
  · conv => whnf
    cases h; exact (by first | rfl | simp [resV, mulN_one, V.fz, fzL, V.up, upL, fzL_map, fz_slr, fz_at, slr])
  · conv => whnf
    cases h; exact (by first | rfl | simp [resV, mulN_one, V.fz, fzL, V.up, upL, fzL_map, fz_slr, fz_at, slr])

end Go.Proofs.Ythcnmahjhahafaa.Ax
