/-
  What the functions compute, as functions on plain data, and that the program does compute it; written by program.
-/
import Derived.Test.YthcnmahjhahafaaCode
import Derived.Test.YthcnmahjhahafaaG1
import Derived.Test.YthcnmahjhahafaaG2
import Derived.Test.YthcnmahjhahafaaG3
import Derived.Test.YthcnmahjhahafaaG4
namespace Go.Proofs.Ythcnmahjhahafaa.Ax
open Go
set_option maxRecDepth 100000
set_option maxHeartbeats 4000000

noncomputable def F_laws_heldIntSS_l1 (a0 : List (List Int)) : (Int × Int) → Option ((Int × Int) ⊕ (Unit ⊕ Int)) := fun (x5, x1) =>
   if x5 < (↑a0.length : Int) then
    ask ((0 : Int) ≤ x5 ∧ x5 < (↑a0.length : Int)) <|
    (F_laws_heldIntS (nth a0 x5.toNat) (x1)).bind fun r3 =>
    if r3 < (0 : Int) then
     some (.inr (.inl ()))
    else
     ask (InI (x5 + (1 : Int))) <|
     some (.inl (x5 + (1 : Int), r3))
   else
    some (.inr (.inr x1))
def S_laws_heldIntSS_l1 (a0 : List (List Int)) : (Int × Int) → St := fun s => [(5, A.val (vint s.1)), (0, A.val ((slr false 1 (slr false 1 vint)) (a0))), (1, A.val (vint s.2))]
def T_laws_heldIntSS_l1 (_a0 : List (List Int)) : (Unit ⊕ Int) → Tgt
  | (.inl _s) => (Ex.ret, [4], [(4, A.val (vint ((-1 : Int))))])
  | (.inr s) => ((Ex.exit 0), [1], [(1, A.val (vint s))])
theorem b_laws_heldIntSS_l1 {a0 : List (List Int)} (s : (Int × Int)) (o : (Int × Int) ⊕ (Unit ⊕ Int)) (h : F_laws_heldIntSS_l1 a0 s = some o) : vc Try.prog c_laws_heldIntSS_l1 (outQ [5, 0, 1] (S_laws_heldIntSS_l1 a0) (T_laws_heldIntSS_l1 a0) o) (S_laws_heldIntSS_l1 a0 s) := by
  obtain ⟨x5, x1⟩ := s
  unfold F_laws_heldIntSS_l1 at h
  try dsimp only at h
  conv => whnf
  refine Len.map ?_
  conv => whnf
  refine Br.od h (fun p1 h => ?_) (fun p1 h => ?_)
  · conv => whnf
    refine Len.map ?_
    conv => whnf
    refine Ask.o h fun p2 h => ?_
    conv => whnf
    refine Elem.o (by first | omega | (simp only [mulN] at *; omega) | (simp [mulN] at *; omega)) ?_
    conv => whnf
    refine CallQ.o vint (by first | rfl | simp only [mulN_one, V.fz, fzL, V.up, upL, fzL_map, fz_slr, fz_at, slr, List.cons_append, List.nil_append] | simp [mulN_one, V.fz, fzL, V.up, upL, fzL_map, fz_slr, fz_at, slr]) h (fun r h => t_laws_heldIntS h) (fun r3 h => ?_)
    conv => whnf
    refine Br.od h (fun p4 h => ?_) (fun p4 h => ?_)
    · conv => whnf
      cases h; exact ⟨rfl, rfl⟩
    · conv => whnf
      refine Ask.o h fun p5 h => ?_
      conv => whnf
      cases h; exact ⟨rfl, rfl⟩
  · conv => whnf
    cases h; exact ⟨rfl, rfl⟩

noncomputable def F_laws_heldIntSS (a0 : (List (List Int))) (k0 : Int) : Option Int :=
  (loopO (F_laws_heldIntSS_l1 a0) ((0 : Int), k0)).bind fun t => match t with
  | (.inl _) => (some (-1 : Int))
  | (.inr q6_1) => (some q6_1)
theorem t_laws_heldIntSS {a0 : (List (List Int))} {k0 : Int} {v : Int} (h : F_laws_heldIntSS a0 k0 = some v) : Ret Try.prog f_laws_heldIntSS [(slr false 1 (slr false 1 vint)) a0, vint k0] (vint v) := by
  refine ret_vc k_laws_heldIntSS (Nat.le_of_ble_eq_true rfl) ?_
  unfold F_laws_heldIntSS at h
  conv => whnf
  refine LoopQ.o [5, 0, 1] (S_laws_heldIntSS_l1 a0) (T_laws_heldIntSS_l1 a0) h (fun s o h => b_laws_heldIntSS_l1 s o h) (by first | rfl | simp [restrict, look, mulN_one, V.fz, fzL, V.up, upL, fzL_map, fz_slr, fz_at, slr]) (by rintro (_ | _) <;> rfl) ?_
  rintro (⟨⟩ | q6_1) h
  · try dsimp only at h
    conv => whnf
    cases h; exact (by first | rfl | simp [resV, mulN_one, V.fz, fzL, V.up, upL, fzL_map, fz_slr, fz_at, slr])
  · try dsimp only at h
    conv => whnf
    cases h; exact (by first | rfl | simp [resV, mulN_one, V.fz, fzL, V.up, upL, fzL_map, fz_slr, fz_at, slr])

noncomputable def F_spec_l1Rising_l1 (l0 : List Int) (lo0 : Int) (hi0 : Int) : Int → Option (Int ⊕ (Unit ⊕ Unit)) := fun x7 =>
   if x7 < (↑l0.length : Int) then
    ask ((0 : Int) ≤ x7 ∧ x7 < (↑l0.length : Int)) <|
    (F_spec_l1In (nth l0 x7.toNat) (lo0) (hi0)).bind fun r3 =>
    if (r3) = true then
     if x7 > (0 : Int) then
      ask (InI (x7 - (1 : Int))) <|
      ask ((0 : Int) ≤ x7 - (1 : Int) ∧ x7 - (1 : Int) < (↑l0.length : Int)) <|
      ask ((0 : Int) ≤ x7 ∧ x7 < (↑l0.length : Int)) <|
      if nth l0 (x7 - (1 : Int)).toNat ≥ nth l0 x7.toNat then
       some (.inr (.inl ()))
      else
       ask (InI (x7 + (1 : Int))) <|
       some (.inl (x7 + (1 : Int)))
     else
      ask (InI (x7 + (1 : Int))) <|
      some (.inl (x7 + (1 : Int)))
    else
     some (.inr (.inl ()))
   else
    some (.inr (.inr ()))
def S_spec_l1Rising_l1 (l0 : List Int) (lo0 : Int) (hi0 : Int) : Int → St := fun s => [(7, A.val (vint s)), (0, A.val ((slr false 1 vint) (l0))), (1, A.val (vint (lo0))), (2, A.val (vint (hi0)))]
def T_spec_l1Rising_l1 (_l0 : List Int) (_lo0 : Int) (_hi0 : Int) : (Unit ⊕ Unit) → Tgt
  | (.inl _s) => (Ex.ret, [6], [(6, A.val (V.bool (false)))])
  | (.inr _s) => ((Ex.exit 0), [], [])
theorem b_spec_l1Rising_l1 {l0 : List Int} {lo0 : Int} {hi0 : Int} (x7 : Int) (o : Int ⊕ (Unit ⊕ Unit)) (h : F_spec_l1Rising_l1 l0 lo0 hi0 x7 = some o) : vc Try.prog c_spec_l1Rising_l1 (outQ [7, 0, 1, 2] (S_spec_l1Rising_l1 l0 lo0 hi0) (T_spec_l1Rising_l1 l0 lo0 hi0) o) (S_spec_l1Rising_l1 l0 lo0 hi0 x7) := by
  unfold F_spec_l1Rising_l1 at h
  try dsimp only at h
  conv => whnf
  refine Len.map ?_
  conv => whnf
  refine Br.od h (fun p1 h => ?_) (fun p1 h => ?_)
  · conv => whnf
    refine Len.map ?_
    conv => whnf
    refine Ask.o h fun p2 h => ?_
    conv => whnf
    refine Elem.o (by first | omega | (simp only [mulN] at *; omega) | (simp [mulN] at *; omega)) ?_
    conv => whnf
    refine CallP.o V.bool (by first | rfl | simp only [mulN_one, V.fz, fzL, V.up, upL, fzL_map, fz_slr, fz_at, slr, List.cons_append, List.nil_append] | simp [mulN_one, V.fz, fzL, V.up, upL, fzL_map, fz_slr, fz_at, slr]) h (fun r h => t_spec_l1In h) (fun r3 h => ?_)
    conv => whnf
    refine Br.flip ?_
    conv => whnf
    refine Br.ob h (fun p4 h => ?_) (fun p4 h => ?_)
    · conv => whnf
      refine Br.no ?_
      conv => whnf
      refine Br.no ?_
      conv => whnf
      refine Br.od h (fun p5 h => ?_) (fun p5 h => ?_)
      · conv => whnf
        refine Br.yes ?_
        conv => whnf
        refine Br.yes ?_
        conv => whnf
        refine Ask.o h fun p6 h => ?_
        conv => whnf
        refine Br.yes ?_
        conv => whnf
        refine Len.map ?_
        conv => whnf
        refine Ask.o h fun p7 h => ?_
        conv => whnf
        refine Elem.o (by first | omega | (simp only [mulN] at *; omega) | (simp [mulN] at *; omega)) ?_
        conv => whnf
        refine Br.yes ?_
        conv => whnf
        refine Br.yes ?_
        conv => whnf
        refine Br.yes ?_
        conv => whnf
        refine Br.yes ?_
        conv => whnf
        refine Len.map ?_
        conv => whnf
        refine Ask.o h fun p8 h => ?_
        conv => whnf
        refine Elem.o (by first | omega | (simp only [mulN] at *; omega) | (simp [mulN] at *; omega)) ?_
        conv => whnf
        refine Br.yes ?_
        conv => whnf
        refine Br.yes ?_
        conv => whnf
        refine Br.no ?_
        conv => whnf
        refine Br.yes ?_
        conv => whnf
        refine Br.no ?_
        conv => whnf
        refine Br.od h (fun p9 h => ?_) (fun p9 h => ?_)
        · conv => whnf
          cases h; exact ⟨rfl, rfl⟩
        · conv => whnf
          refine Ask.o h fun p10 h => ?_
          conv => whnf
          cases h; exact ⟨rfl, rfl⟩
      · conv => whnf
        refine Br.no ?_
        conv => whnf
        refine Br.no ?_
        conv => whnf
        refine Br.no ?_
        conv => whnf
        refine Br.no ?_
        conv => whnf
        refine Br.no ?_
        conv => whnf
        refine Br.no ?_
        conv => whnf
        refine Br.no ?_
        conv => whnf
        refine Br.no ?_
        conv => whnf
        refine Br.no ?_
        conv => whnf
        refine Br.no ?_
        conv => whnf
        refine Br.no ?_
        conv => whnf
        refine Br.no ?_
        conv => whnf
        refine Br.no ?_
        conv => whnf
        refine Ask.o h fun p11 h => ?_
        conv => whnf
        cases h; exact ⟨rfl, rfl⟩
    · conv => whnf
      refine Br.yes ?_
      conv => whnf
      refine Br.yes ?_
      conv => whnf
      refine Br.yes ?_
      conv => whnf
      refine Br.yes ?_
      conv => whnf
      refine Br.yes ?_
      conv => whnf
      cases h; exact ⟨rfl, rfl⟩
  · conv => whnf
    cases h; exact ⟨rfl, rfl⟩

noncomputable def F_spec_l1Rising (l0 : (List Int)) (lo0 : Int) (hi0 : Int) : Option Bool :=
  (loopO (F_spec_l1Rising_l1 l0 lo0 hi0) (0 : Int)).bind fun t => match t with
  | (.inl _) => (some false)
  | (.inr _) => (some true)
theorem t_spec_l1Rising {l0 : (List Int)} {lo0 : Int} {hi0 : Int} {v : Bool} (h : F_spec_l1Rising l0 lo0 hi0 = some v) : Ret Try.prog f_spec_l1Rising [(slr false 1 vint) l0, vint lo0, vint hi0] (V.bool v) := by
  refine ret_vc k_spec_l1Rising (Nat.le_of_ble_eq_true rfl) ?_
  unfold F_spec_l1Rising at h
  conv => whnf
  refine LoopQ.o [7, 0, 1, 2] (S_spec_l1Rising_l1 l0 lo0 hi0) (T_spec_l1Rising_l1 l0 lo0 hi0) h (fun s o h => b_spec_l1Rising_l1 s o h) (by first | rfl | simp [restrict, look, mulN_one, V.fz, fzL, V.up, upL, fzL_map, fz_slr, fz_at, slr]) (by rintro (_ | _) <;> rfl) ?_
  rintro (⟨⟩ | ⟨⟩) h
  · try dsimp only at h
    conv => whnf
    cases h; exact (by first | rfl | simp [resV, mulN_one, V.fz, fzL, V.up, upL, fzL_map, fz_slr, fz_at, slr])
  · try dsimp only at h
    conv => whnf
    cases h; exact (by first | rfl | simp [resV, mulN_one, V.fz, fzL, V.up, upL, fzL_map, fz_slr, fz_at, slr])

noncomputable def F_spec_l5Within_l1 (x0 : List Int) (y0 : List Int) : Int → Option (Int ⊕ (Unit ⊕ Unit)) := fun x5 =>
   if x5 < (↑x0.length : Int) then
    ask ((0 : Int) ≤ x5 ∧ x5 < (↑x0.length : Int)) <|
    (F_spec_l1Has (y0) (nth x0 x5.toNat)).bind fun r3 =>
    if (r3) = true then
     ask (InI (x5 + (1 : Int))) <|
     some (.inl (x5 + (1 : Int)))
    else
     some (.inr (.inl ()))
   else
    some (.inr (.inr ()))
def S_spec_l5Within_l1 (x0 : List Int) (y0 : List Int) : Int → St := fun s => [(5, A.val (vint s)), (0, A.val ((slr false 1 vint) (x0))), (1, A.val ((slr false 1 vint) (y0)))]
def T_spec_l5Within_l1 (_x0 : List Int) (_y0 : List Int) : (Unit ⊕ Unit) → Tgt
  | (.inl _s) => (Ex.ret, [4], [(4, A.val (V.bool (false)))])
  | (.inr _s) => ((Ex.exit 0), [], [])
theorem b_spec_l5Within_l1 {x0 : List Int} {y0 : List Int} (x5 : Int) (o : Int ⊕ (Unit ⊕ Unit)) (h : F_spec_l5Within_l1 x0 y0 x5 = some o) : vc Try.prog c_spec_l5Within_l1 (outQ [5, 0, 1] (S_spec_l5Within_l1 x0 y0) (T_spec_l5Within_l1 x0 y0) o) (S_spec_l5Within_l1 x0 y0 x5) := by
  unfold F_spec_l5Within_l1 at h
  try dsimp only at h
  conv => whnf
  refine Len.map ?_
  conv => whnf
  refine Br.od h (fun p1 h => ?_) (fun p1 h => ?_)
  · conv => whnf
    refine Len.map ?_
    conv => whnf
    refine Ask.o h fun p2 h => ?_
    conv => whnf
    refine Elem.o (by first | omega | (simp only [mulN] at *; omega) | (simp [mulN] at *; omega)) ?_
    conv => whnf
    refine CallQ.o V.bool (by first | rfl | simp only [mulN_one, V.fz, fzL, V.up, upL, fzL_map, fz_slr, fz_at, slr, List.cons_append, List.nil_append] | simp [mulN_one, V.fz, fzL, V.up, upL, fzL_map, fz_slr, fz_at, slr]) h (fun r h => t_spec_l1Has h) (fun r3 h => ?_)
    conv => whnf
    refine Br.flip ?_
    conv => whnf
    refine Br.ob h (fun p4 h => ?_) (fun p4 h => ?_)
    · conv => whnf
      refine Ask.o h fun p5 h => ?_
      conv => whnf
      cases h; exact ⟨rfl, rfl⟩
    · conv => whnf
      cases h; exact ⟨rfl, rfl⟩
  · conv => whnf
    cases h; exact ⟨rfl, rfl⟩

noncomputable def F_spec_l5Within (x0 : (List Int)) (y0 : (List Int)) : Option Bool :=
  (loopO (F_spec_l5Within_l1 x0 y0) (0 : Int)).bind fun t => match t with
  | (.inl _) => (some false)
  | (.inr _) => (some true)
theorem t_spec_l5Within {x0 : (List Int)} {y0 : (List Int)} {v : Bool} (h : F_spec_l5Within x0 y0 = some v) : Ret Try.prog f_spec_l5Within [(slr false 1 vint) x0, (slr false 1 vint) y0] (V.bool v) := by
  refine ret_vc k_spec_l5Within (Nat.le_of_ble_eq_true rfl) ?_
  unfold F_spec_l5Within at h
  conv => whnf
  refine LoopQ.o [5, 0, 1] (S_spec_l5Within_l1 x0 y0) (T_spec_l5Within_l1 x0 y0) h (fun s o h => b_spec_l5Within_l1 s o h) (by first | rfl | simp [restrict, look, mulN_one, V.fz, fzL, V.up, upL, fzL_map, fz_slr, fz_at, slr]) (by rintro (_ | _) <;> rfl) ?_
  rintro (⟨⟩ | ⟨⟩) h
  · try dsimp only at h
    conv => whnf
    cases h; exact (by first | rfl | simp [resV, mulN_one, V.fz, fzL, V.up, upL, fzL_map, fz_slr, fz_at, slr])
  · try dsimp only at h
    conv => whnf
    cases h; exact (by first | rfl | simp [resV, mulN_one, V.fz, fzL, V.up, upL, fzL_map, fz_slr, fz_at, slr])

noncomputable def F_impl_order_meetTable_l1 (o0 : List (List Bool)) (x12 : Int) (_x4 : List (List Int)) : (Int × (List Int)) → Option ((Int × (List Int)) ⊕ (Unit ⊕ (List Int))) := fun (x18, x6) =>
   if x18 < (↑o0.length : Int) then
    (F_impl_order_those (o0) (fun w_0 => F_impl_order_meetTable_1 w_0 (o0) (x12) (x18))).bind fun r3 =>
    (F_impl_order_greatest (o0) (r3)).bind fun r4 =>
    if r4 < (0 : Int) then
     some (.inr (.inl ()))
    else
     ask ((x6).length + ([r4]).length ≤ LIM) <|
     ask (InI (x18 + (1 : Int))) <|
     some (.inl (x18 + (1 : Int), x6 ++ [r4]))
   else
    some (.inr (.inr x6))
def S_impl_order_meetTable_l1 (o0 : List (List Bool)) (x12 : Int) (x4 : List (List Int)) : (Int × (List Int)) → St := fun s => [(18, A.val (vint s.1)), (17, A.val (vint ((↑o0.length : Int)))), (6, A.val ((slr true 1 vint) s.2)), (5, A.val ((rP true vint) (x12))), (12, A.val (vint (x12))), (11, A.val (vint ((↑o0.length : Int)))), (4, A.val ((slr true 1 (slr true 1 vint)) (x4))), (1, A.val ((rP true (slr false 1 (slr false 1 V.bool))) (o0)))]
def T_impl_order_meetTable_l1 (o0 : List (List Bool)) (x12 : Int) (x4 : List (List Int)) : (Unit ⊕ (List Int)) → Tgt
  | (.inl _s) => (Ex.ret, [3, 2], [(3, A.val (V.bool (false))), (2, A.val ((slr true 1 (slr true 1 vint)) (nilL (List Int))))])
  | (.inr s) => ((Ex.exit 2), [6, 12, 11, 4, 1], [(6, A.val ((slr true 1 vint) s)), (12, A.val (vint (x12))), (11, A.val (vint ((↑o0.length : Int)))), (4, A.val ((slr true 1 (slr true 1 vint)) (x4))), (1, A.val ((rP true (slr false 1 (slr false 1 V.bool))) (o0)))])
theorem b_impl_order_meetTable_l1 {o0 : List (List Bool)} {x12 : Int} {x4 : List (List Int)} (s : (Int × (List Int))) (o : (Int × (List Int)) ⊕ (Unit ⊕ (List Int))) (h : F_impl_order_meetTable_l1 o0 x12 x4 s = some o) : vc Try.prog c_impl_order_meetTable_l1 (outQ [18, 17, 6, 5, 12, 11, 4, 1] (S_impl_order_meetTable_l1 o0 x12 x4) (T_impl_order_meetTable_l1 o0 x12 x4) o) (S_impl_order_meetTable_l1 o0 x12 x4 s) := by
  obtain ⟨x18, x6⟩ := s
  unfold F_impl_order_meetTable_l1 at h
  try dsimp only at h
  conv => whnf
  refine Br.od h (fun p2 h => ?_) (fun p2 h => ?_)
  · conv => whnf
    refine SetKids.lit rfl ?_
    conv => whnf
    refine Cells.lit rfl rfl ?_
    conv => whnf
    refine Cells.lit rfl rfl ?_
    conv => whnf
    refine CallP.rd (slr true 1 vint) (by first | rfl | simp only [mulN_one, V.fz, fzL, V.up, upL, fzL_map, fz_slr, fz_at, slr, List.cons_append, List.nil_append] | simp [mulN_one, V.fz, fzL, V.up, upL, fzL_map, fz_slr, fz_at, slr]) (fun _ => by simp [V.noFz, noFzL_map]) h (fun r h => t_impl_order_those (f_so0 := f_impl_order_meetTable_1) (c_so0 := [(rP false (slr false 1 (slr false 1 V.bool))) (o0), (rP false vint) (x12), (rP false vint) (x18)]) (fun w_0 v h => Ret.cast (by first | rfl | simp only [mulN_one, V.fz, fzL, V.up, upL, fzL_map, fz_slr, fz_at, slr, List.cons_append, List.nil_append] | simp [mulN_one, V.fz, fzL, V.up, upL, fzL_map, fz_slr, fz_at, slr]) (t_impl_order_meetTable_1 h)) h) (fun r3 h => ?_)
    conv => whnf
    refine CallQ.rd vint (by first | rfl | simp only [V.fz, fzL_map, slr] | simp [mulN_one, V.fz, fzL, V.up, upL, fzL_map, fz_slr, fz_at, slr]) (fun _ => rfl) h (fun r h => t_impl_order_greatest h) (fun r4 h => ?_)
    conv => whnf
    refine Br.od h (fun p5 h => ?_) (fun p5 h => ?_)
    · conv => whnf
      cases h; exact ⟨rfl, rfl⟩
    · conv => whnf
      refine BslQ.o vint [r4] (fun _ => ⟨rfl, rfl⟩) (by first | rfl | simp only [mulN_one, V.fz, fzL, V.up, upL, fzL_map, fz_slr, fz_at, slr, List.cons_append, List.nil_append] | simp [mulN_one, V.fz, fzL, V.up, upL, fzL_map, fz_slr, fz_at, slr]) ?_
      conv => whnf
      refine NoOwn.o (fun _ => rfl) ?_
      conv => whnf
      refine AppQ.o vint (fun _ => ⟨rfl, rfl⟩) (x6) ([r4]) (by first | rfl | simp only [mulN_one, V.fz, fzL, V.up, upL, fzL_map, fz_slr, fz_at, slr, List.cons_append, List.nil_append] | simp [mulN_one, V.fz, fzL, V.up, upL, fzL_map, fz_slr, fz_at, slr]) (by first | rfl | simp only [mulN_one, V.fz, fzL, V.up, upL, fzL_map, fz_slr, fz_at, slr, List.cons_append, List.nil_append] | simp [mulN_one, V.fz, fzL, V.up, upL, fzL_map, fz_slr, fz_at, slr]) h fun h => ?_
      conv => whnf
      refine Ask.o h fun p6 h => ?_
      conv => whnf
      cases h; exact ⟨rfl, rfl⟩
  · conv => whnf
    cases h; exact ⟨rfl, rfl⟩

noncomputable def F_impl_order_meetTable_l2 (o0 : List (List Bool)) : (Int × (List (List Int))) → Option ((Int × (List (List Int))) ⊕ (Unit ⊕ (List (List Int)))) := fun (x12, x4) =>
   if x12 < (↑o0.length : Int) then
    (loopO (F_impl_order_meetTable_l1 o0 x12 x4) ((0 : Int), nilL Int)).bind fun t => match t with
    | (.inl _) => (some (.inr (.inl ())))
    | (.inr q7_6) => (ask ((x4).length + ([q7_6]).length ≤ LIM) <|
      ask (InI (x12 + (1 : Int))) <|
      some (.inl (x12 + (1 : Int), x4 ++ [q7_6])))
   else
    some (.inr (.inr x4))
def S_impl_order_meetTable_l2 (o0 : List (List Bool)) : (Int × (List (List Int))) → St := fun s => [(12, A.val (vint s.1)), (11, A.val (vint ((↑o0.length : Int)))), (4, A.val ((slr true 1 (slr true 1 vint)) s.2)), (1, A.val ((rP true (slr false 1 (slr false 1 V.bool))) (o0)))]
def T_impl_order_meetTable_l2 (_o0 : List (List Bool)) : (Unit ⊕ (List (List Int))) → Tgt
  | (.inl _s) => (Ex.ret, [3, 2], [(3, A.val (V.bool (false))), (2, A.val ((slr true 1 (slr true 1 vint)) (nilL (List Int))))])
  | (.inr s) => ((Ex.exit 0), [4], [(4, A.val ((slr true 1 (slr true 1 vint)) s))])
theorem b_impl_order_meetTable_l2 {o0 : List (List Bool)} (s : (Int × (List (List Int)))) (o : (Int × (List (List Int))) ⊕ (Unit ⊕ (List (List Int)))) (h : F_impl_order_meetTable_l2 o0 s = some o) : vc Try.prog c_impl_order_meetTable_l2 (outQ [12, 11, 4, 1] (S_impl_order_meetTable_l2 o0) (T_impl_order_meetTable_l2 o0) o) (S_impl_order_meetTable_l2 o0 s) := by
  obtain ⟨x12, x4⟩ := s
  unfold F_impl_order_meetTable_l2 at h
  try dsimp only at h
  conv => whnf
  refine Br.od h (fun p1 h => ?_) (fun p1 h => ?_)
  · conv => whnf
    refine SetKids.lit rfl ?_
    conv => whnf
    refine BslQ.o vint (nilL Int) (fun _ => ⟨rfl, rfl⟩) (by first | rfl | simp only [mulN_one, V.fz, fzL, V.up, upL, fzL_map, fz_slr, fz_at, slr, List.cons_append, List.nil_append] | simp [mulN_one, V.fz, fzL, V.up, upL, fzL_map, fz_slr, fz_at, slr]) ?_
    conv => whnf
    refine Cells.lit rfl rfl ?_
    conv => whnf
    refine Len.map ?_
    conv => whnf
    refine LoopQ.o [18, 17, 6, 5, 12, 11, 4, 1] (S_impl_order_meetTable_l1 o0 x12 x4) (T_impl_order_meetTable_l1 o0 x12 x4) h (fun s o h => b_impl_order_meetTable_l1 s o h) (by first | rfl | simp [restrict, look, mulN_one, V.fz, fzL, V.up, upL, fzL_map, fz_slr, fz_at, slr]) (by rintro (_ | _) <;> rfl) ?_
    rintro (⟨⟩ | q7_6) h
    · try dsimp only at h
      conv => whnf
      cases h; exact ⟨rfl, rfl⟩
    · try dsimp only at h
      conv => whnf
      refine BslQ.o (slr true 1 vint) [q7_6] (fun _ => ⟨rfl, rfl⟩) (by first | rfl | simp only [mulN_one, V.fz, fzL, V.up, upL, fzL_map, fz_slr, fz_at, slr, List.cons_append, List.nil_append] | simp [mulN_one, V.fz, fzL, V.up, upL, fzL_map, fz_slr, fz_at, slr]) ?_
      conv => whnf
      refine NoOwn.own rfl ?_
      conv => whnf
      refine AppQ.o (slr true 1 vint) (fun _ => ⟨rfl, rfl⟩) (x4) ([q7_6]) (by first | rfl | simp only [mulN_one, V.fz, fzL, V.up, upL, fzL_map, fz_slr, fz_at, slr, List.cons_append, List.nil_append] | simp [mulN_one, V.fz, fzL, V.up, upL, fzL_map, fz_slr, fz_at, slr]) (by first | rfl | simp only [mulN_one, V.fz, fzL, V.up, upL, fzL_map, fz_slr, fz_at, slr, List.cons_append, List.nil_append] | simp [mulN_one, V.fz, fzL, V.up, upL, fzL_map, fz_slr, fz_at, slr]) h fun h => ?_
      conv => whnf
      refine Ask.o h fun p8 h => ?_
      conv => whnf
      cases h; exact ⟨rfl, rfl⟩
  · conv => whnf
    cases h; exact ⟨rfl, rfl⟩

noncomputable def F_impl_order_meetTable (o0 : (List (List Bool))) : Option ((List (List Int)) × Bool) :=
  (loopO (F_impl_order_meetTable_l2 o0) ((0 : Int), nilL (List Int))).bind fun t => match t with
  | (.inl _) => (some (nilL (List Int), false))
  | (.inr q9_4) => (some (q9_4, true))
theorem t_impl_order_meetTable {o0 : (List (List Bool))} {v : ((List (List Int)) × Bool)} (h : F_impl_order_meetTable o0 = some v) : Ret Try.prog f_impl_order_meetTable [(slr false 1 (slr false 1 V.bool)) o0] ((fun r => V.tup [(slr true 1 (slr true 1 vint)) r.1, V.bool r.2]) v) := by
  refine ret_vc k_impl_order_meetTable (Nat.le_of_ble_eq_true rfl) ?_
  unfold F_impl_order_meetTable at h
  conv => whnf
  refine BslQ.o (slr true 1 vint) (nilL (List Int)) (fun _ => ⟨rfl, rfl⟩) (by first | rfl | simp only [mulN_one, V.fz, fzL, V.up, upL, fzL_map, fz_slr, fz_at, slr, List.cons_append, List.nil_append] | simp [mulN_one, V.fz, fzL, V.up, upL, fzL_map, fz_slr, fz_at, slr]) ?_
  conv => whnf
  refine Cells.lit rfl rfl ?_
  conv => whnf
  refine Len.map ?_
  conv => whnf
  refine LoopQ.o [12, 11, 4, 1] (S_impl_order_meetTable_l2 o0) (T_impl_order_meetTable_l2 o0) h (fun s o h => b_impl_order_meetTable_l2 s o h) (by first | rfl | simp [restrict, look, mulN_one, V.fz, fzL, V.up, upL, fzL_map, fz_slr, fz_at, slr]) (by rintro (_ | _) <;> rfl) ?_
  rintro (⟨⟩ | q9_4) h
  · try dsimp only at h
    conv => whnf
    cases h; exact (by first | rfl | simp [resV, mulN_one, V.fz, fzL, V.up, upL, fzL_map, fz_slr, fz_at, slr])
  · try dsimp only at h
    conv => whnf
    cases h; exact (by first | rfl | simp [resV, mulN_one, V.fz, fzL, V.up, upL, fzL_map, fz_slr, fz_at, slr])

noncomputable def F_laws_szPoset (a0 : SPoset) (left0 : Int) : Option Int :=
  (F_laws_szIntSS (a0.Below) (left0)).bind fun r1 =>
  if r1 < (0 : Int) then
   some (-1 : Int)
  else
   some r1
theorem t_laws_szPoset {a0 : SPoset} {left0 : Int} {v : Int} (h : F_laws_szPoset a0 left0 = some v) : Ret Try.prog f_laws_szPoset [(rS_Poset false) a0, vint left0] (vint v) := by
  refine ret_vc k_laws_szPoset (Nat.le_of_ble_eq_true rfl) ?_
  unfold F_laws_szPoset at h
  conv => whnf
  refine Cells.lit rfl rfl ?_
  conv => whnf
  refine CallQ.o vint (by first | rfl | simp only [mulN_one, V.fz, fzL, V.up, upL, fzL_map, fz_slr, fz_at, slr, List.cons_append, List.nil_append] | simp [mulN_one, V.fz, fzL, V.up, upL, fzL_map, fz_slr, fz_at, slr]) h (fun r h => t_laws_szIntSS h) (fun r1 h => ?_)
  conv => whnf
  refine Br.od h (fun p2 h => ?_) (fun p2 h => ?_)
  · conv => whnf
    cases h; exact (by first | rfl | simp [resV, mulN_one, V.fz, fzL, V.up, upL, fzL_map, fz_slr, fz_at, slr])
  · conv => whnf
    cases h; exact (by first | rfl | simp [resV, mulN_one, V.fz, fzL, V.up, upL, fzL_map, fz_slr, fz_at, slr])

noncomputable def F_laws_toPoset (a0 : SPoset) : Option SPoset :=
  (F_laws_toIntSS (a0.Below)).bind fun r1 =>
  some ({ Below := r1 })
theorem t_laws_toPoset {a0 : SPoset} {v : SPoset} (h : F_laws_toPoset a0 = some v) : Ret Try.prog f_laws_toPoset [(rS_Poset false) a0] ((rS_Poset true) v) := by
  refine ret_vc k_laws_toPoset (Nat.le_of_ble_eq_true rfl) ?_
  unfold F_laws_toPoset at h
  conv => whnf
  refine Cells.lit rfl rfl ?_
  conv => whnf
  refine CallQ.o (slr true 1 (slr true 1 vint)) (by first | rfl | simp only [mulN_one, V.fz, fzL, V.up, upL, fzL_map, fz_slr, fz_at, slr, List.cons_append, List.nil_append] | simp [mulN_one, V.fz, fzL, V.up, upL, fzL_map, fz_slr, fz_at, slr]) h (fun r h => t_laws_toIntSS h) (fun r1 h => ?_)
  conv => whnf
  refine SetKids.lit rfl ?_
  conv => whnf
  refine Cells.lit rfl rfl ?_
  conv => whnf
  refine SetKids.lit rfl ?_
  conv => whnf
  cases h; exact (by first | rfl | simp [resV, mulN_one, V.fz, fzL, V.up, upL, fzL_map, fz_slr, fz_at, slr])

noncomputable def F_impl_IsPoset (p0 : SPoset) : Option Bool :=
  (F_impl_orderOf (p0)).bind fun r1 =>
  some r1.snd
theorem t_impl_IsPoset {p0 : SPoset} {v : Bool} (h : F_impl_IsPoset p0 = some v) : Ret Try.prog f_impl_IsPoset [(rS_Poset false) p0] (V.bool v) := by
  refine ret_vc k_impl_IsPoset (Nat.le_of_ble_eq_true rfl) ?_
  unfold F_impl_IsPoset at h
  conv => whnf
  refine Cells.lit rfl rfl ?_
  conv => whnf
  refine CallQ.o (fun r => V.tup [(slr true 1 (slr true 1 V.bool)) r.1, V.bool r.2]) (by first | rfl | simp only [mulN_one, V.fz, fzL, V.up, upL, fzL_map, fz_slr, fz_at, slr, List.cons_append, List.nil_append] | simp [mulN_one, V.fz, fzL, V.up, upL, fzL_map, fz_slr, fz_at, slr]) h (fun r h => t_impl_orderOf h) (fun r1 h => ?_)
  conv => whnf
  cases h; exact (by first | rfl | simp [resV, mulN_one, V.fz, fzL, V.up, upL, fzL_map, fz_slr, fz_at, slr])

noncomputable def F_laws_eqPoset (a0 : SPoset) (b0 : SPoset) : Option Bool :=
  (F_laws_eqIntSS (a0.Below) (b0.Below)).bind fun r1 =>
  if (r1) = true then
   some true
  else
   some false
theorem t_laws_eqPoset {a0 : SPoset} {b0 : SPoset} {v : Bool} (h : F_laws_eqPoset a0 b0 = some v) : Ret Try.prog f_laws_eqPoset [(rS_Poset false) a0, (rS_Poset false) b0] (V.bool v) := by
  refine ret_vc k_laws_eqPoset (Nat.le_of_ble_eq_true rfl) ?_
  unfold F_laws_eqPoset at h
  conv => whnf
  refine Cells.lit rfl rfl ?_
  conv => whnf
  refine Cells.lit rfl rfl ?_
  conv => whnf
  refine CallQ.o V.bool (by first | rfl | simp only [mulN_one, V.fz, fzL, V.up, upL, fzL_map, fz_slr, fz_at, slr, List.cons_append, List.nil_append] | simp [mulN_one, V.fz, fzL, V.up, upL, fzL_map, fz_slr, fz_at, slr]) h (fun r h => t_laws_eqIntSS h) (fun r1 h => ?_)
  conv => whnf
  refine Br.flip ?_
  conv => whnf
  refine Br.ob h (fun p2 h => ?_) (fun p2 h => ?_)
  · conv => whnf
    cases h; exact (by first | rfl | simp [resV, mulN_one, V.fz, fzL, V.up, upL, fzL_map, fz_slr, fz_at, slr])
  · conv => whnf
    cases h; exact (by first | rfl | simp [resV, mulN_one, V.fz, fzL, V.up, upL, fzL_map, fz_slr, fz_at, slr])

noncomputable def F_impl_IsAtMost (p0 : SPoset) (x0 : Int) (y0 : Int) : Option (Bool × Bool) :=
  (F_impl_orderOf (p0)).bind fun r1 =>
  ((if (r1.snd) = true then
      (F_impl_order_has (r1.fst) ([x0, y0])).bind fun r3 =>
      if (r3) = true then
       some (.inl ())
      else
       some (.inr ())
     else
      some (.inr ()) : Option (Unit ⊕ Unit))).bind fun t => match t with
  | (.inl _) => (ask ((0 : Int) ≤ x0 ∧ x0 < (↑r1.fst.length : Int)) <|
    ask ((0 : Int) ≤ y0 ∧ y0 < (↑(nth r1.fst x0.toNat).length : Int)) <|
    some (nth (nth r1.fst x0.toNat) y0.toNat, true))
  | (.inr _) => (some (false, false))
theorem t_impl_IsAtMost {p0 : SPoset} {x0 : Int} {y0 : Int} {v : (Bool × Bool)} (h : F_impl_IsAtMost p0 x0 y0 = some v) : Ret Try.prog f_impl_IsAtMost [(rS_Poset false) p0, vint x0, vint y0] ((fun r => V.tup [V.bool r.1, V.bool r.2]) v) := by
  refine ret_vc k_impl_IsAtMost (Nat.le_of_ble_eq_true rfl) ?_
  unfold F_impl_IsAtMost at h
  conv => whnf
  refine Cells.lit rfl rfl ?_
  conv => whnf
  refine CallQ.o (fun r => V.tup [(slr true 1 (slr true 1 V.bool)) r.1, V.bool r.2]) (by first | rfl | simp only [mulN_one, V.fz, fzL, V.up, upL, fzL_map, fz_slr, fz_at, slr, List.cons_append, List.nil_append] | simp [mulN_one, V.fz, fzL, V.up, upL, fzL_map, fz_slr, fz_at, slr]) h (fun r h => t_impl_orderOf h) (fun r1 h => ?_)
  conv => whnf
  refine CutQ.o (fun t : (Unit ⊕ Unit) => match t with | (.inl s) => (Ex.normal, [8, 1, 2], [(8, A.val ((slr true 1 (slr true 1 V.bool)) (r1.fst))), (1, A.val (vint (x0))), (2, A.val (vint (y0)))]) | (.inr s) => (Ex.ret, [7, 6], [(7, A.val (V.bool (false))), (6, A.val (V.bool (false)))])) h ?_ ?_
  · intro t h
    conv => whnf
    refine Br.flip ?_
    conv => whnf
    refine Br.ob h (fun p2 h => ?_) (fun p2 h => ?_)
    · conv => whnf
      refine Br.no ?_
      conv => whnf
      refine Br.no ?_
      conv => whnf
      refine Br.no ?_
      conv => whnf
      refine BslQ.o vint ([x0, y0]) (fun _ => ⟨rfl, rfl⟩) (by first | rfl | simp only [mulN_one, V.fz, fzL, V.up, upL, fzL_map, fz_slr, fz_at, slr, List.cons_append, List.nil_append] | simp [mulN_one, V.fz, fzL, V.up, upL, fzL_map, fz_slr, fz_at, slr]) ?_
      conv => whnf
      refine Br.no ?_
      conv => whnf
      refine CallQ.rd V.bool (by first | rfl | simp only [V.fz, fzL_map, slr] | simp [mulN_one, V.fz, fzL, V.up, upL, fzL_map, fz_slr, fz_at, slr]) (fun _ => rfl) h (fun r h => t_impl_order_has h) (fun r3 h => ?_)
      conv => whnf
      refine Br.no ?_
      conv => whnf
      refine Br.no ?_
      conv => whnf
      refine Br.flip ?_
      conv => whnf
      refine Br.ob h (fun p4 h => ?_) (fun p4 h => ?_)
      · conv => whnf
        cases h; exact ⟨rfl, rfl⟩
      · conv => whnf
        cases h; exact ⟨rfl, rfl⟩
    · conv => whnf
      refine Br.yes ?_
      conv => whnf
      refine Br.yes ?_
      conv => whnf
      refine Br.yes ?_
      conv => whnf
      refine Br.yes ?_
      conv => whnf
      refine Br.yes ?_
      conv => whnf
      refine Br.yes ?_
      conv => whnf
      refine Br.yes ?_
      conv => whnf
      cases h; exact ⟨rfl, rfl⟩
  · rintro (⟨⟩ | ⟨⟩) h
    · try dsimp only at h
      conv => whnf
      refine Len.map ?_
      conv => whnf
      refine Ask.o h fun p6 h => ?_
      conv => whnf
      refine Cells.one (fun _ => ⟨rfl, rfl⟩) (by first | omega | (simp only [mulN] at *; omega) | (simp [mulN] at *; omega)) ?_
      conv => whnf
      refine Kid.one (fun _ => ⟨rfl, rfl⟩) (by first | omega | (simp only [mulN] at *; omega) | (simp [mulN] at *; omega)) ?_
      conv => whnf
      refine Len.map ?_
      conv => whnf
      refine Ask.o h fun p7 h => ?_
      conv => whnf
      refine Kid.one (fun _ => ⟨rfl, rfl⟩) (by first | omega | (simp only [mulN] at *; omega) | (simp [mulN] at *; omega)) ?_
      conv => whnf
      refine Cells.one (fun _ => ⟨rfl, rfl⟩) (by first | omega | (simp only [mulN] at *; omega) | (simp [mulN] at *; omega)) ?_
      conv => whnf
      cases h; exact (by first | rfl | simp [resV, mulN_one, V.fz, fzL, V.up, upL, fzL_map, fz_slr, fz_at, slr])
    · try dsimp only at h
      conv => whnf
      cases h; exact (by first | rfl | simp [resV, mulN_one, V.fz, fzL, V.up, upL, fzL_map, fz_slr, fz_at, slr])

noncomputable def F_impl_CountExtensions_l1 (r1 : List (List Bool) × Bool) (x25 : Int) (x6 : List Int) : (Int × (List Int)) → Option ((Int × (List Int)) ⊕ (List Int)) := fun (x32, x6') =>
   if x32 < (↑r1.fst.length : Int) then
    ((ask ((0 : Int) ≤ x32) <|
       if andI (shrI x25 x32) (1 : Int) = (1 : Int) then
        some (.inl ())
       else
        if nth x6 x25.toNat = (0 : Int) then
         some (.inl ())
        else
         some (.inr ()) : Option (Unit ⊕ Unit))).bind fun t => match t with
    | (.inl _) => (ask (InI (x32 + (1 : Int))) <|
      some (.inl (x32 + (1 : Int), x6')))
    | (.inr _) => ((F_impl_order_none (r1.fst) (fun w_0 => F_impl_CountExtensions_1 w_0 (r1.fst) (x32) (x25))).bind fun r14 =>
      if (r14) = true then
       ask ((0 : Int) ≤ x32) <|
       ask ((0 : Int) ≤ orI x25 (shlI (1 : Int) x32) ∧ orI x25 (shlI (1 : Int) x32) < (↑x6'.length : Int)) <|
       ask ((0 : Int) ≤ x25 ∧ x25 < (↑x6'.length : Int)) <|
       ask (InI (nth x6' (orI x25 (shlI (1 : Int) x32)).toNat + nth x6' x25.toNat)) <|
       ask ((0 : Int) ≤ orI x25 (shlI (1 : Int) x32) ∧ orI x25 (shlI (1 : Int) x32) < (↑x6'.length : Int)) <|
       ask (InI (x32 + (1 : Int))) <|
       some (.inl (x32 + (1 : Int), x6'.set (orI x25 (shlI (1 : Int) x32)).toNat (nth x6' (orI x25 (shlI (1 : Int) x32)).toNat + nth x6' x25.toNat)))
      else
       ask (InI (x32 + (1 : Int))) <|
       some (.inl (x32 + (1 : Int), x6')))
   else
    some (.inr x6')
def S_impl_CountExtensions_l1 (r1 : List (List Bool) × Bool) (x25 : Int) (x6 : List Int) : (Int × (List Int)) → St := fun s => [(32, A.val (vint s.1)), (31, A.val (vint ((↑r1.fst.length : Int)))), (8, A.val (vint (nth x6 x25.toNat))), (7, A.val ((rP true vint) (x25))), (25, A.val (vint (x25))), (24, A.val (vint ((↑((List.replicate (shlI (1 : Int) (↑r1.fst.length : Int)).toNat (0 : Int)).set (Int.toNat (0 : Int)) (1 : Int)).length : Int)))), (23, A.ref (6 : Nat) []), (6, A.val ((slr true 1 vint) s.2)), (4, A.val ((rP true (slr true 1 (slr true 1 V.bool))) (r1.fst)))]
def T_impl_CountExtensions_l1 (r1 : List (List Bool) × Bool) (x25 : Int) (_x6 : List Int) : (List Int) → Tgt
  | s => ((Ex.exit 2), [25, 24, 23, 6, 4], [(25, A.val (vint (x25))), (24, A.val (vint ((↑((List.replicate (shlI (1 : Int) (↑r1.fst.length : Int)).toNat (0 : Int)).set (Int.toNat (0 : Int)) (1 : Int)).length : Int)))), (23, A.ref (6 : Nat) []), (6, A.val ((slr true 1 vint) s)), (4, A.val ((rP true (slr true 1 (slr true 1 V.bool))) (r1.fst)))])
theorem b_impl_CountExtensions_l1 {r1 : List (List Bool) × Bool} {x25 : Int} {x6 : List Int} (s : (Int × (List Int))) (o : (Int × (List Int)) ⊕ (List Int)) (h : F_impl_CountExtensions_l1 r1 x25 x6 s = some o) : vc Try.prog c_impl_CountExtensions_l1 (outQ [32, 31, 8, 7, 25, 24, 23, 6, 4] (S_impl_CountExtensions_l1 r1 x25 x6) (T_impl_CountExtensions_l1 r1 x25 x6) o) (S_impl_CountExtensions_l1 r1 x25 x6 s) := by
  obtain ⟨x32, x6'⟩ := s
  unfold F_impl_CountExtensions_l1 at h
  try dsimp only at h
  conv => whnf
  refine Br.od h (fun p8 h => ?_) (fun p8 h => ?_)
  · conv => whnf
    refine SetKids.lit rfl ?_
    conv => whnf
    refine CutQ.o (fun t : (Unit ⊕ Unit) => match t with | (.inl s) => ((Ex.exit 3), [32, 31, 8, 7, 25, 24, 23, 6, 4], [(32, A.val (vint (x32))), (31, A.val (vint ((↑r1.fst.length : Int)))), (8, A.val (vint (nth x6 x25.toNat))), (7, A.val ((rP true vint) (x25))), (25, A.val (vint (x25))), (24, A.val (vint ((↑((List.replicate (shlI (1 : Int) (↑r1.fst.length : Int)).toNat (0 : Int)).set (Int.toNat (0 : Int)) (1 : Int)).length : Int)))), (23, A.ref (6 : Nat) []), (6, A.val ((slr true 1 vint) (x6'))), (4, A.val ((rP true (slr true 1 (slr true 1 V.bool))) (r1.fst)))]) | (.inr s) => (Ex.normal, [9, 32, 31, 8, 7, 25, 24, 23, 6, 4], [(9, A.val ((rP true vint) (x32))), (32, A.val (vint (x32))), (31, A.val (vint ((↑r1.fst.length : Int)))), (8, A.val (vint (nth x6 x25.toNat))), (7, A.val ((rP true vint) (x25))), (25, A.val (vint (x25))), (24, A.val (vint ((↑((List.replicate (shlI (1 : Int) (↑r1.fst.length : Int)).toNat (0 : Int)).set (Int.toNat (0 : Int)) (1 : Int)).length : Int)))), (23, A.ref (6 : Nat) []), (6, A.val ((slr true 1 vint) (x6'))), (4, A.val ((rP true (slr true 1 (slr true 1 V.bool))) (r1.fst)))])) h ?_ ?_
    · intro t h
      conv => whnf
      refine Cells.lit rfl rfl ?_
      conv => whnf
      refine Cells.lit rfl rfl ?_
      conv => whnf
      refine Ask.o h fun p9 h => ?_
      conv => whnf
      refine Br.oe h (fun p10 h => ?_) (fun p10 h => ?_)
      · conv => whnf
        refine Br.yes ?_
        conv => whnf
        refine Br.yes ?_
        conv => whnf
        refine Br.yes ?_
        conv => whnf
        cases h; exact ⟨rfl, rfl⟩
      · conv => whnf
        refine Br.no ?_
        conv => whnf
        refine Br.no ?_
        conv => whnf
        refine Br.oe h (fun p11 h => ?_) (fun p11 h => ?_)
        · conv => whnf
          cases h; exact ⟨rfl, rfl⟩
        · conv => whnf
          cases h; exact ⟨rfl, rfl⟩
    · rintro (⟨⟩ | ⟨⟩) h
      · try dsimp only at h
        conv => whnf
        refine Ask.o h fun p13 h => ?_
        conv => whnf
        cases h; exact ⟨rfl, rfl⟩
      · try dsimp only at h
        conv => whnf
        refine Cells.lit rfl rfl ?_
        conv => whnf
        refine Kid.lit rfl rfl ?_
        conv => whnf
        refine CallQ.rd V.bool (by first | rfl | simp only [V.fz, fzL_map, slr] | simp [mulN_one, V.fz, fzL, V.up, upL, fzL_map, fz_slr, fz_at, slr]) (fun _ => rfl) h (fun r h => t_impl_order_none (f_so0 := f_impl_CountExtensions_1) (c_so0 := [(rP false (slr false 1 (slr false 1 V.bool))) (r1.fst), (rP false vint) (x32), (rP false vint) (x25)]) (fun w_0 v h => Ret.cast (by first | rfl | simp only [mulN_one, V.fz, fzL, V.up, upL, fzL_map, fz_slr, fz_at, slr, List.cons_append, List.nil_append] | simp [mulN_one, V.fz, fzL, V.up, upL, fzL_map, fz_slr, fz_at, slr]) (t_impl_CountExtensions_1 h)) h) (fun r14 h => ?_)
        conv => whnf
        refine Br.ob h (fun p15 h => ?_) (fun p15 h => ?_)
        · conv => whnf
          refine Cells.lit rfl rfl ?_
          conv => whnf
          refine Cells.lit rfl rfl ?_
          conv => whnf
          refine Ask.o h fun p16 h => ?_
          conv => whnf
          refine Len.map ?_
          conv => whnf
          refine Ask.o h fun p17 h => ?_
          conv => whnf
          refine Cells.one (fun _ => ⟨rfl, rfl⟩) (by first | omega | (simp only [mulN] at *; omega) | (simp [mulN] at *; omega)) ?_
          conv => whnf
          refine Cells.lit rfl rfl ?_
          conv => whnf
          refine Len.map ?_
          conv => whnf
          refine Ask.o h fun p18 h => ?_
          conv => whnf
          refine Cells.one (fun _ => ⟨rfl, rfl⟩) (by first | omega | (simp only [mulN] at *; omega) | (simp [mulN] at *; omega)) ?_
          conv => whnf
          refine Ask.o h fun p19 h => ?_
          conv => whnf
          refine Len.map ?_
          conv => whnf
          refine Ask.o h fun p20 h => ?_
          conv => whnf
          refine SetKids.one (fun _ => ⟨rfl, rfl⟩) (nth x6' (orI x25 (shlI (1 : Int) x32)).toNat + nth x6' x25.toNat) (by first | rfl | simp only [mulN_one, V.fz, fzL, V.up, upL, fzL_map, fz_slr, fz_at, slr, List.cons_append, List.nil_append] | simp [mulN_one, V.fz, fzL, V.up, upL, fzL_map, fz_slr, fz_at, slr]) (by first | omega | (simp only [mulN] at *; omega) | (simp [mulN] at *; omega)) ?_
          conv => whnf
          refine Ask.o h fun p21 h => ?_
          conv => whnf
          cases h; exact ⟨rfl, rfl⟩
        · conv => whnf
          refine Ask.o h fun p22 h => ?_
          conv => whnf
          cases h; exact ⟨rfl, rfl⟩
  · conv => whnf
    cases h; exact ⟨rfl, rfl⟩

noncomputable def F_impl_CountExtensions_l2 (r1 : List (List Bool) × Bool) : (Int × (List Int)) → Option ((Int × (List Int)) ⊕ (List Int)) := fun (x25, x6) =>
   if x25 < (↑((List.replicate (shlI (1 : Int) (↑r1.fst.length : Int)).toNat (0 : Int)).set (Int.toNat (0 : Int)) (1 : Int)).length : Int) then
    ask ((0 : Int) ≤ x25 ∧ x25 < (↑x6.length : Int)) <|
    (loopO (F_impl_CountExtensions_l1 r1 x25 x6) ((0 : Int), x6)).bind fun q23_6 =>
    ask (InI (x25 + (1 : Int))) <|
    some (.inl (x25 + (1 : Int), q23_6))
   else
    some (.inr x6)
def S_impl_CountExtensions_l2 (r1 : List (List Bool) × Bool) : (Int × (List Int)) → St := fun s => [(25, A.val (vint s.1)), (24, A.val (vint ((↑((List.replicate (shlI (1 : Int) (↑r1.fst.length : Int)).toNat (0 : Int)).set (Int.toNat (0 : Int)) (1 : Int)).length : Int)))), (23, A.ref (6 : Nat) []), (6, A.val ((slr true 1 vint) s.2)), (4, A.val ((rP true (slr true 1 (slr true 1 V.bool))) (r1.fst)))]
def T_impl_CountExtensions_l2 (_r1 : List (List Bool) × Bool) : (List Int) → Tgt
  | s => ((Ex.exit 0), [6], [(6, A.val ((slr true 1 vint) s))])
theorem b_impl_CountExtensions_l2 {r1 : List (List Bool) × Bool} (s : (Int × (List Int))) (o : (Int × (List Int)) ⊕ (List Int)) (h : F_impl_CountExtensions_l2 r1 s = some o) : vc Try.prog c_impl_CountExtensions_l2 (outQ [25, 24, 23, 6, 4] (S_impl_CountExtensions_l2 r1) (T_impl_CountExtensions_l2 r1) o) (S_impl_CountExtensions_l2 r1 s) := by
  obtain ⟨x25, x6⟩ := s
  unfold F_impl_CountExtensions_l2 at h
  try dsimp only at h
  conv => whnf
  refine Br.od h (fun p6 h => ?_) (fun p6 h => ?_)
  · conv => whnf
    refine Len.map ?_
    conv => whnf
    refine Ask.o h fun p7 h => ?_
    conv => whnf
    refine Cells.one (fun _ => ⟨rfl, rfl⟩) (by first | omega | (simp only [mulN] at *; omega) | (simp [mulN] at *; omega)) ?_
    conv => whnf
    refine SetKids.lit rfl ?_
    conv => whnf
    refine Cells.lit rfl rfl ?_
    conv => whnf
    refine Kid.lit rfl rfl ?_
    conv => whnf
    refine Len.map ?_
    conv => whnf
    refine LoopQ.o [32, 31, 8, 7, 25, 24, 23, 6, 4] (S_impl_CountExtensions_l1 r1 x25 x6) (T_impl_CountExtensions_l1 r1 x25 x6) h (fun s o h => b_impl_CountExtensions_l1 s o h) (by first | rfl | simp [restrict, look, mulN_one, V.fz, fzL, V.up, upL, fzL_map, fz_slr, fz_at, slr]) (fun _ => rfl) ?_
    rintro q23_6 h
    try dsimp only at h
    conv => whnf
    refine Ask.o h fun p24 h => ?_
    conv => whnf
    cases h; exact ⟨rfl, rfl⟩
  · conv => whnf
    cases h; exact ⟨rfl, rfl⟩

noncomputable def F_impl_CountExtensions (p0 : SPoset) : Option (Int × Bool) :=
  (F_impl_orderOf (p0)).bind fun r1 =>
  if (r1.snd) = true then
   ask ((0 : Int) ≤ (↑r1.fst.length : Int)) <|
   ask ((0 : Int) ≤ shlI (1 : Int) (↑r1.fst.length : Int) ∧ shlI (1 : Int) (↑r1.fst.length : Int) ≤ (↑LIM : Int)) <|
   ask ((0 : Int) ≤ (0 : Int) ∧ (0 : Int) < (↑(shlI (1 : Int) (↑r1.fst.length : Int)).toNat : Int)) <|
   (loopO (F_impl_CountExtensions_l2 r1) ((0 : Int), (List.replicate (shlI (1 : Int) (↑r1.fst.length : Int)).toNat (0 : Int)).set (Int.toNat (0 : Int)) (1 : Int))).bind fun q25_6 =>
   ask (InI ((↑q25_6.length : Int) - (1 : Int))) <|
   ask ((0 : Int) ≤ (↑q25_6.length : Int) - (1 : Int) ∧ (↑q25_6.length : Int) - (1 : Int) < (↑q25_6.length : Int)) <|
   some (nth q25_6 ((↑q25_6.length : Int) - (1 : Int)).toNat, true)
  else
   some ((0 : Int), false)
theorem t_impl_CountExtensions {p0 : SPoset} {v : (Int × Bool)} (h : F_impl_CountExtensions p0 = some v) : Ret Try.prog f_impl_CountExtensions [(rS_Poset false) p0] ((fun r => V.tup [vint r.1, V.bool r.2]) v) := by
  refine ret_vc k_impl_CountExtensions (Nat.le_of_ble_eq_true rfl) ?_
  unfold F_impl_CountExtensions at h
  conv => whnf
  refine Cells.lit rfl rfl ?_
  conv => whnf
  refine CallQ.o (fun r => V.tup [(slr true 1 (slr true 1 V.bool)) r.1, V.bool r.2]) (by first | rfl | simp only [mulN_one, V.fz, fzL, V.up, upL, fzL_map, fz_slr, fz_at, slr, List.cons_append, List.nil_append] | simp [mulN_one, V.fz, fzL, V.up, upL, fzL_map, fz_slr, fz_at, slr]) h (fun r h => t_impl_orderOf h) (fun r1 h => ?_)
  conv => whnf
  refine SetKids.lit rfl ?_
  conv => whnf
  refine Br.flip ?_
  conv => whnf
  refine Br.ob h (fun p2 h => ?_) (fun p2 h => ?_)
  · conv => whnf
    refine Cells.lit rfl rfl ?_
    conv => whnf
    refine Kid.lit rfl rfl ?_
    conv => whnf
    refine Len.map ?_
    conv => whnf
    refine Ask.o h fun p3 h => ?_
    conv => whnf
    refine Ask.o h fun p4 h => ?_
    conv => whnf
    refine MkQ.o vint ((0 : Int)) rfl ?_
    conv => whnf
    refine Len.mrep ?_
    conv => whnf
    refine Ask.o h fun p5 h => ?_
    conv => whnf
    refine SetKids.one (fun _ => ⟨rfl, rfl⟩) ((1 : Int)) (by first | rfl | simp only [mulN_one, V.fz, fzL, V.up, upL, fzL_map, fz_slr, fz_at, slr, List.cons_append, List.nil_append] | simp [mulN_one, V.fz, fzL, V.up, upL, fzL_map, fz_slr, fz_at, slr]) (by first | omega | (simp only [mulN] at *; omega) | (simp [mulN] at *; omega)) ?_
    conv => whnf
    refine Len.map ?_
    conv => whnf
    refine LoopQ.o [25, 24, 23, 6, 4] (S_impl_CountExtensions_l2 r1) (T_impl_CountExtensions_l2 r1) h (fun s o h => b_impl_CountExtensions_l2 s o h) (by first | rfl | simp [restrict, look, mulN_one, V.fz, fzL, V.up, upL, fzL_map, fz_slr, fz_at, slr]) (fun _ => rfl) ?_
    rintro q25_6 h
    try dsimp only at h
    conv => whnf
    refine Len.map ?_
    conv => whnf
    refine Ask.o h fun p26 h => ?_
    conv => whnf
    refine Len.map ?_
    conv => whnf
    refine Ask.o h fun p27 h => ?_
    conv => whnf
    refine Cells.one (fun _ => ⟨rfl, rfl⟩) (by first | omega | (simp only [mulN] at *; omega) | (simp [mulN] at *; omega)) ?_
    conv => whnf
    cases h; exact (by first | rfl | simp [resV, mulN_one, V.fz, fzL, V.up, upL, fzL_map, fz_slr, fz_at, slr])
  · conv => whnf
    cases h; exact (by first | rfl | simp [resV, mulN_one, V.fz, fzL, V.up, upL, fzL_map, fz_slr, fz_at, slr])

end Go.Proofs.Ythcnmahjhahafaa.Ax
