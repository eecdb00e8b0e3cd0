/-
  What the functions compute, as functions on plain data, and that the program does compute it; written by program.
-/
import Derived.Test.YtpfikenknmlajaaCode
import Derived.Test.YtpfikenknmlajaaG1
namespace Go.Proofs.Ytpfikenknmlajaa.Ax
open Go
set_option maxRecDepth 100000
set_option maxHeartbeats 4000000

noncomputable def F_impl_inSize_l1 (list0 : List Int) (n0 : Int) : Int → Option (Int ⊕ (Unit ⊕ Unit)) := fun x9 =>
   if x9 < (↑list0.length : Int) then
    ask ((0 : Int) ≤ x9 ∧ x9 < (↑list0.length : Int)) <|
    if nth list0 x9.toNat < (0 : Int) then
     some (.inr (.inl ()))
    else
     if nth list0 x9.toNat ≥ n0 then
      some (.inr (.inl ()))
     else
      ask (InI (x9 + (1 : Int))) <|
      some (.inl (x9 + (1 : Int)))
   else
    some (.inr (.inr ()))
def S_impl_inSize_l1 (list0 : List Int) (n0 : Int) : Int → St := fun s => [(9, A.val (vint s)), (8, A.val (vint ((↑list0.length : Int)))), (7, A.val ((slr false 1 vint) (list0))), (1, A.val (vint (n0)))]
def T_impl_inSize_l1 (_list0 : List Int) (_n0 : Int) : (Unit ⊕ Unit) → Tgt
  | (.inl _s) => (Ex.ret, [4], [(4, A.val (V.bool (false)))])
  | (.inr _s) => ((Ex.exit 0), [], [])
theorem b_impl_inSize_l1 {list0 : List Int} {n0 : Int} (x9 : Int) (o : Int ⊕ (Unit ⊕ Unit)) (h : F_impl_inSize_l1 list0 n0 x9 = some o) : vc Try.prog c_impl_inSize_l1 (outQ [9, 8, 7, 1] (S_impl_inSize_l1 list0 n0) (T_impl_inSize_l1 list0 n0) o) (S_impl_inSize_l1 list0 n0 x9) := by
  unfold F_impl_inSize_l1 at h
  try dsimp only at h
  conv => whnf
  refine Br.od h (fun p1 h => ?_) (fun p1 h => ?_)
  · conv => whnf
    refine Len.map ?_
    conv => whnf
    refine Ask.o h fun p2 h => ?_
    conv => whnf
    refine Elem.o (by first | omega | (simp only [mulN] at *; omega) | (simp [mulN] at *; omega)) ?_
    conv => whnf
    refine Br.od h (fun p3 h => ?_) (fun p3 h => ?_)
    · conv => whnf
      refine Br.yes ?_
      conv => whnf
      refine Br.yes ?_
      conv => whnf
      refine Br.yes ?_
      conv => whnf
      refine Br.yes ?_
      conv => whnf
      cases h; exact ⟨rfl, rfl⟩
    · conv => whnf
      refine Br.no ?_
      conv => whnf
      refine Br.no ?_
      conv => whnf
      refine Br.no ?_
      conv => whnf
      refine Br.od h (fun p4 h => ?_) (fun p4 h => ?_)
      · conv => whnf
        cases h; exact ⟨rfl, rfl⟩
      · conv => whnf
        refine Ask.o h fun p5 h => ?_
        conv => whnf
        cases h; exact ⟨rfl, rfl⟩
  · conv => whnf
    cases h; exact ⟨rfl, rfl⟩

noncomputable def F_impl_inSize (list0 : (List Int)) (n0 : Int) : Option Bool :=
  (loopO (F_impl_inSize_l1 list0 n0) (0 : Int)).bind fun t => match t with
  | (.inl _) => (some false)
  | (.inr _) => (some true)
theorem t_impl_inSize {list0 : (List Int)} {n0 : Int} {v : Bool} (h : F_impl_inSize list0 n0 = some v) : Ret Try.prog f_impl_inSize [(slr false 1 vint) list0, vint n0] (V.bool v) := by
  refine ret_vc k_impl_inSize (Nat.le_of_ble_eq_true rfl) ?_
  unfold F_impl_inSize at h
  conv => whnf
  refine Len.map ?_
  conv => whnf
  refine LoopQ.o [9, 8, 7, 1] (S_impl_inSize_l1 list0 n0) (T_impl_inSize_l1 list0 n0) h (fun s o h => b_impl_inSize_l1 s o h) (by first | rfl | simp [restrict, look, mulN_one, V.fz, fzL, V.up, upL, fzL_map, fz_slr, fz_at, slr]) (by rintro (_ | _) <;> rfl) ?_
  rintro (⟨⟩ | ⟨⟩) h
  · try dsimp only at h
    conv => whnf
    cases h; exact (by first | rfl | simp only [resV, mulN_one, V.fz, fzL, V.up, upL, fzL_map, fz_slr, fz_at, slr] | simp [resV, mulN_one, V.fz, fzL, V.up, upL, fzL_map, fz_slr, fz_at, slr])
  · try dsimp only at h
    conv => whnf
    cases h; exact (by first | rfl | simp only [resV, mulN_one, V.fz, fzL, V.up, upL, fzL_map, fz_slr, fz_at, slr] | simp [resV, mulN_one, V.fz, fzL, V.up, upL, fzL_map, fz_slr, fz_at, slr])

noncomputable def F_spec_l1In (x0 : Int) (a0 : Int) (b0 : Int) : Option Bool :=
  if x0 ≥ a0 then
   some (decide (x0 ≤ b0))
  else
   some false
theorem t_spec_l1In {x0 : Int} {a0 : Int} {b0 : Int} {v : Bool} (h : F_spec_l1In x0 a0 b0 = some v) : Ret Try.prog f_spec_l1In [vint x0, vint a0, vint b0] (V.bool v) := by
  refine ret_vc k_spec_l1In (Nat.le_of_ble_eq_true rfl) ?_
  unfold F_spec_l1In at h
  conv => whnf
  refine Br.od h (fun p1 h => ?_) (fun p1 h => ?_)
  · conv => whnf
    refine Br.yes ?_
    conv => whnf
    refine Br.yes ?_
    conv => whnf
    refine Br.yes ?_
    conv => whnf
    cases h; exact (by first | rfl | simp only [resV, mulN_one, V.fz, fzL, V.up, upL, fzL_map, fz_slr, fz_at, slr] | simp [resV, mulN_one, V.fz, fzL, V.up, upL, fzL_map, fz_slr, fz_at, slr])
  · conv => whnf
    refine Br.no ?_
    conv => whnf
    refine Br.no ?_
    conv => whnf
    refine Br.no ?_
    conv => whnf
    cases h; exact (by first | rfl | simp only [resV, mulN_one, V.fz, fzL, V.up, upL, fzL_map, fz_slr, fz_at, slr] | simp [resV, mulN_one, V.fz, fzL, V.up, upL, fzL_map, fz_slr, fz_at, slr])

noncomputable def F_impl_widthOf_1_l1 (self : Int → Int → List Bool → List Int → Option (Bool × List Bool × List Int)) (i0 : Int) (a1 : Int) (a3 : Int → Int → Option Bool) : (Int × (List Bool) × (List Int)) → Option ((Int × (List Bool) × (List Int)) ⊕ (((List Bool) × (List Int)) ⊕ ((List Bool) × (List Int)))) := fun (x8, x47, x49) =>
   if x8 < a1 then
    ((ask ((0 : Int) ≤ x8 ∧ x8 < (↑x47.length : Int)) <|
       if (nth x47 x8.toNat) = true then
        some (.inl ())
       else
        (a3 (i0) (x8)).bind fun r4 =>
        if (r4) = true then
         some (.inr ())
        else
         some (.inl ()) : Option (Unit ⊕ Unit))).bind fun t => match t with
    | (.inl _) => (ask (InI (x8 + (1 : Int))) <|
      some (.inl (x8 + (1 : Int), x47, x49)))
    | (.inr _) => (ask ((0 : Int) ≤ x8 ∧ x8 < (↑x47.length : Int)) <|
      ask ((0 : Int) ≤ x8 ∧ x8 < (↑x49.length : Int)) <|
      if nth x49 x8.toNat < (0 : Int) then
       ask ((0 : Int) ≤ x8 ∧ x8 < (↑x49.length : Int)) <|
       some (.inr (.inl (x47.set x8.toNat true, x49.set x8.toNat i0)))
      else
       ask ((0 : Int) ≤ x8 ∧ x8 < (↑x49.length : Int)) <|
       (self (nth x49 x8.toNat) (a1) (x47.set x8.toNat true) (x49)).bind fun (r13, u14, u15) =>
       if (r13) = true then
        ask ((0 : Int) ≤ x8 ∧ x8 < (↑u15.length : Int)) <|
        some (.inr (.inl (u14, u15.set x8.toNat i0)))
       else
        ask (InI (x8 + (1 : Int))) <|
        some (.inl (x8 + (1 : Int), u14, u15)))
   else
    some (.inr (.inr (x47, x49)))
def S_impl_widthOf_1_l1 (i0 : Int) (a1 : Int) (f_a3 : Nat) (c_a3 : List V) : (Int × (List Bool) × (List Int)) → St := fun s => [(8, A.val (vint s.1)), (5, A.tie false f_impl_widthOf_1 [A.val (rP false vint a1), A.ref ((45 : Nat) + ((1 : Nat) + (1 : Nat))) [], A.val (V.ptr false (V.fclo f_a3 c_a3)), A.ref ((45 : Nat) + ((1 : Nat) + (1 : Nat) + (1 : Nat) + (1 : Nat))) []] []), (0, A.val (vint (i0))), (1, A.val ((rP false vint) (a1))), (2, A.ref 47 []), (47, A.val ((rP true (slr true 1 V.bool)) s.2.1)), (3, A.val (V.ptr false (V.fclo f_a3 c_a3))), (4, A.ref 49 []), (49, A.val ((rP true (slr true 1 vint)) s.2.2))]
def T_impl_widthOf_1_l1 (_i0 : Int) (_a1 : Int) (_f_a3 : Nat) (_c_a3 : List V) : (((List Bool) × (List Int)) ⊕ ((List Bool) × (List Int))) → Tgt
  | (.inl s) => (Ex.ret, [7, 47, 49], [(7, A.val (V.bool (true))), (47, A.val ((rP true (slr true 1 V.bool)) s.1)), (49, A.val ((rP true (slr true 1 vint)) s.2))])
  | (.inr s) => ((Ex.exit 0), [47, 49], [(47, A.val ((rP true (slr true 1 V.bool)) s.1)), (49, A.val ((rP true (slr true 1 vint)) s.2))])
theorem b_impl_widthOf_1_l1 {self : Int → Int → List Bool → List Int → Option (Bool × List Bool × List Int)} {i0 : Int} {a1 : Int} {a3 : Int → Int → Option Bool} {f_a3 : Nat} {c_a3 : List V} (h_a3 : ∀ w_0 w_1 v, a3 w_0 w_1 = some v → Ret Try.prog f_a3 ([vint w_0, vint w_1] ++ fzL c_a3) (V.bool v)) (hself : ∀ {w_0 w_1 w_2 w_4 v}, self w_0 w_1 w_2 w_4 = some v → RetT2 Try.prog f_impl_widthOf_1 1 4 [vint w_0, (rP false vint) w_1, (rP true (slr true 1 V.bool)) w_2, V.ptr false (V.fclo f_a3 c_a3), (rP true (slr true 1 vint)) w_4, V.dead] (V.bool v.1) 2 ((rP true (slr true 1 V.bool)) v.2.1) 4 ((rP true (slr true 1 vint)) v.2.2)) (s : (Int × (List Bool) × (List Int))) (o : (Int × (List Bool) × (List Int)) ⊕ (((List Bool) × (List Int)) ⊕ ((List Bool) × (List Int)))) (h : F_impl_widthOf_1_l1 self i0 a1 a3 s = some o) : vc Try.prog c_impl_widthOf_1_l1 (outQ [8, 5, 0, 1, 2, 47, 3, 4, 49] (S_impl_widthOf_1_l1 i0 a1 f_a3 c_a3) (T_impl_widthOf_1_l1 i0 a1 f_a3 c_a3) o) (S_impl_widthOf_1_l1 i0 a1 f_a3 c_a3 s) := by
  obtain ⟨x8, x47, x49⟩ := s
  unfold F_impl_widthOf_1_l1 at h
  try dsimp only at h
  conv => whnf
  refine Br.od h (fun p1 h => ?_) (fun p1 h => ?_)
  · conv => whnf
    refine CutQ.o (fun t : (Unit ⊕ Unit) => match t with | (.inl s) => ((Ex.exit 1), [8, 5, 0, 1, 2, 47, 3, 4, 49], [(8, A.val (vint (x8))), (5, A.tie false f_impl_widthOf_1 [A.val (rP false vint a1), A.ref ((45 : Nat) + ((1 : Nat) + (1 : Nat))) [], A.val (V.ptr false (V.fclo f_a3 c_a3)), A.ref ((45 : Nat) + ((1 : Nat) + (1 : Nat) + (1 : Nat) + (1 : Nat))) []] []), (0, A.val (vint (i0))), (1, A.val ((rP false vint) (a1))), (2, A.ref 47 []), (47, A.val ((rP true (slr true 1 V.bool)) (x47))), (3, A.val (V.ptr false (V.fclo f_a3 c_a3))), (4, A.ref 49 []), (49, A.val ((rP true (slr true 1 vint)) (x49)))]) | (.inr s) => (Ex.normal, [8, 5, 0, 1, 2, 47, 3, 4, 49], [(8, A.val (vint (x8))), (5, A.tie false f_impl_widthOf_1 [A.val (rP false vint a1), A.ref ((45 : Nat) + ((1 : Nat) + (1 : Nat))) [], A.val (V.ptr false (V.fclo f_a3 c_a3)), A.ref ((45 : Nat) + ((1 : Nat) + (1 : Nat) + (1 : Nat) + (1 : Nat))) []] []), (0, A.val (vint (i0))), (1, A.val ((rP false vint) (a1))), (2, A.ref 47 []), (47, A.val ((rP true (slr true 1 V.bool)) (x47))), (3, A.val (V.ptr false (V.fclo f_a3 c_a3))), (4, A.ref 49 []), (49, A.val ((rP true (slr true 1 vint)) (x49)))])) h ?_ ?_
    · intro t h
      conv => whnf
      refine Cells.lit rfl rfl ?_
      conv => whnf
      refine Kid.lit rfl rfl ?_
      conv => whnf
      refine Len.map ?_
      conv => whnf
      refine Ask.o h fun p2 h => ?_
      conv => whnf
      refine Kid.lit rfl rfl ?_
      conv => whnf
      refine Cells.one (fun _ => ⟨rfl, rfl⟩) (by first | omega | (simp only [mulN] at *; omega) | (simp [mulN] at *; omega)) ?_
      conv => whnf
      refine Br.ob h (fun p3 h => ?_) (fun p3 h => ?_)
      · conv => whnf
        refine Br.yes ?_
        conv => whnf
        refine Br.yes ?_
        conv => whnf
        refine Br.yes ?_
        conv => whnf
        refine Br.yes ?_
        conv => whnf
        refine Br.yes ?_
        conv => whnf
        refine Br.yes ?_
        conv => whnf
        cases h; exact ⟨rfl, rfl⟩
      · conv => whnf
        refine Br.no ?_
        conv => whnf
        refine Br.no ?_
        conv => whnf
        refine Br.no ?_
        conv => whnf
        refine CloQ.o V.bool (by first | rfl | simp only [mulN_one, V.fz, fzL, V.up, upL, fzL_map, fz_slr, fz_at, slr, List.cons_append, List.nil_append] | simp [mulN_one, V.fz, fzL, V.up, upL, fzL_map, fz_slr, fz_at, slr]) (fun _ => by first | rfl | simp [resOk, V.noFz, noFzL, noFzL_map, NoFz.eq]) h (fun r h => h_a3 _ _ _ h) (fun r4 h => ?_)
        conv => whnf
        refine Br.no ?_
        conv => whnf
        refine Br.no ?_
        conv => whnf
        refine Br.flip ?_
        conv => whnf
        refine Br.ob h (fun p5 h => ?_) (fun p5 h => ?_)
        · conv => whnf
          cases h; exact ⟨rfl, rfl⟩
        · conv => whnf
          cases h; exact ⟨rfl, rfl⟩
    · rintro (⟨⟩ | ⟨⟩) h
      · try dsimp only at h
        conv => whnf
        refine Ask.o h fun p7 h => ?_
        conv => whnf
        cases h; exact ⟨rfl, rfl⟩
      · try dsimp only at h
        conv => whnf
        refine Cells.lit rfl rfl ?_
        conv => whnf
        refine Kid.lit rfl rfl ?_
        conv => whnf
        refine Len.map ?_
        conv => whnf
        refine Ask.o h fun p8 h => ?_
        conv => whnf
        refine Kid.lit rfl rfl ?_
        conv => whnf
        refine SetKids.one (fun _ => ⟨rfl, rfl⟩) (true) (by first | rfl | simp only [mulN_one, V.fz, fzL, V.up, upL, fzL_map, fz_slr, fz_at, slr, List.cons_append, List.nil_append] | simp [mulN_one, V.fz, fzL, V.up, upL, fzL_map, fz_slr, fz_at, slr]) (by first | omega | (simp only [mulN] at *; omega) | (simp [mulN] at *; omega)) ?_
        conv => whnf
        refine Kid.lit rfl rfl ?_
        conv => whnf
        refine SetKids.lit rfl ?_
        conv => whnf
        refine Cells.lit rfl rfl ?_
        conv => whnf
        refine Kid.lit rfl rfl ?_
        conv => whnf
        refine Len.map ?_
        conv => whnf
        refine Ask.o h fun p9 h => ?_
        conv => whnf
        refine Kid.lit rfl rfl ?_
        conv => whnf
        refine Cells.one (fun _ => ⟨rfl, rfl⟩) (by first | omega | (simp only [mulN] at *; omega) | (simp [mulN] at *; omega)) ?_
        conv => whnf
        refine Br.od h (fun p10 h => ?_) (fun p10 h => ?_)
        · conv => whnf
          refine Br.yes ?_
          conv => whnf
          refine Br.yes ?_
          conv => whnf
          refine Br.yes ?_
          conv => whnf
          refine Br.yes ?_
          conv => whnf
          refine Br.yes ?_
          conv => whnf
          refine Br.yes ?_
          conv => whnf
          refine Br.yes ?_
          conv => whnf
          refine Cells.lit rfl rfl ?_
          conv => whnf
          refine Kid.lit rfl rfl ?_
          conv => whnf
          refine Len.map ?_
          conv => whnf
          refine Ask.o h fun p11 h => ?_
          conv => whnf
          refine Kid.lit rfl rfl ?_
          conv => whnf
          refine SetKids.one (fun _ => ⟨rfl, rfl⟩) (i0) (by first | rfl | simp only [mulN_one, V.fz, fzL, V.up, upL, fzL_map, fz_slr, fz_at, slr, List.cons_append, List.nil_append] | simp [mulN_one, V.fz, fzL, V.up, upL, fzL_map, fz_slr, fz_at, slr]) (by first | omega | (simp only [mulN] at *; omega) | (simp [mulN] at *; omega)) ?_
          conv => whnf
          refine Kid.lit rfl rfl ?_
          conv => whnf
          refine SetKids.lit rfl ?_
          conv => whnf
          cases h; exact ⟨rfl, rfl⟩
        · conv => whnf
          refine Br.no ?_
          conv => whnf
          refine Cells.lit rfl rfl ?_
          conv => whnf
          refine Br.no ?_
          conv => whnf
          refine Br.no ?_
          conv => whnf
          refine Kid.lit rfl rfl ?_
          conv => whnf
          refine Len.map ?_
          conv => whnf
          refine Ask.o h fun p12 h => ?_
          conv => whnf
          refine Br.no ?_
          conv => whnf
          refine Kid.lit rfl rfl ?_
          conv => whnf
          refine Cells.one (fun _ => ⟨rfl, rfl⟩) (by first | omega | (simp only [mulN] at *; omega) | (simp [mulN] at *; omega)) ?_
          conv => whnf
          refine Br.no ?_
          conv => whnf
          refine CallT.io2 V.bool (rP true (slr true 1 V.bool)) (rP true (slr true 1 vint)) (by first | rfl | simp only [mulN_one, V.fz, fzL, V.up, upL, fzL_map, fz_slr, fz_at, slr, List.cons_append, List.nil_append] | simp [mulN_one, V.fz, fzL, V.up, upL, fzL_map, fz_slr, fz_at, slr]) rfl rfl (fun _ => rfl) (fun _ => ⟨rfl, rfl⟩) (fun _ => ⟨rfl, rfl⟩) rfl rfl h (fun r h => hself h) (fun r13 u14 u15 h => ?_)
          conv => whnf
          refine Br.no ?_
          conv => whnf
          refine Br.ob h (fun p16 h => ?_) (fun p16 h => ?_)
          · conv => whnf
            refine Cells.lit rfl rfl ?_
            conv => whnf
            refine Kid.lit rfl rfl ?_
            conv => whnf
            refine Len.map ?_
            conv => whnf
            refine Ask.o h fun p17 h => ?_
            conv => whnf
            refine Kid.lit rfl rfl ?_
            conv => whnf
            refine SetKids.one (fun _ => ⟨rfl, rfl⟩) (i0) (by first | rfl | simp only [mulN_one, V.fz, fzL, V.up, upL, fzL_map, fz_slr, fz_at, slr, List.cons_append, List.nil_append] | simp [mulN_one, V.fz, fzL, V.up, upL, fzL_map, fz_slr, fz_at, slr]) (by first | omega | (simp only [mulN] at *; omega) | (simp [mulN] at *; omega)) ?_
            conv => whnf
            refine Kid.lit rfl rfl ?_
            conv => whnf
            refine SetKids.lit rfl ?_
            conv => whnf
            cases h; exact ⟨rfl, rfl⟩
          · conv => whnf
            refine Ask.o h fun p18 h => ?_
            conv => whnf
            cases h; exact ⟨rfl, rfl⟩
  · conv => whnf
    cases h; exact ⟨rfl, rfl⟩

noncomputable def F_impl_widthOf_1_s (self : Int → Int → (List Bool) → (List Int) → Option (Bool × (List Bool) × (List Int))) (i0 : Int) (a1 : Int) (a2 : (List Bool)) (a3 : (Int → Int → Option Bool)) (a4 : (List Int)) : Option (Bool × (List Bool) × (List Int)) :=
  (loopO (F_impl_widthOf_1_l1 self i0 a1 a3) ((0 : Int), a2, a4)).bind fun t => match t with
  | (.inl (q19_47, q19_49)) => (some (true, q19_47, q19_49))
  | (.inr (q19_47, q19_49)) => (some (false, q19_47, q19_49))
noncomputable def F_impl_widthOf_1 (a3 : (Int → Int → Option Bool)) : Nat → Int → Int → (List Bool) → (List Int) → Option (Bool × (List Bool) × (List Int))
  | 0 => fun _ _ _ _ => none
  | n + 1 => fun i0 a1 a2 a4 => F_impl_widthOf_1_s (F_impl_widthOf_1 a3 n) i0 a1 a2 a3 a4
theorem t_impl_widthOf_1_s {self : Int → Int → (List Bool) → (List Int) → Option (Bool × (List Bool) × (List Int))} {i0 : Int} {a1 : Int} {a2 : (List Bool)} {a3 : (Int → Int → Option Bool)} {a4 : (List Int)} {f_a3 : Nat} {c_a3 : List V} (h_a3 : ∀ w_0 w_1 v, a3 w_0 w_1 = some v → Ret Try.prog f_a3 ([vint w_0, vint w_1] ++ fzL c_a3) (V.bool v)) (hself : ∀ {w_0 w_1 w_2 w_4 v}, self w_0 w_1 w_2 w_4 = some v → RetT2 Try.prog f_impl_widthOf_1 1 4 [vint w_0, (rP false vint) w_1, (rP true (slr true 1 V.bool)) w_2, V.ptr false (V.fclo f_a3 c_a3), (rP true (slr true 1 vint)) w_4, V.dead] (V.bool v.1) 2 ((rP true (slr true 1 V.bool)) v.2.1) 4 ((rP true (slr true 1 vint)) v.2.2)) {v : (Bool × (List Bool) × (List Int))} (h : F_impl_widthOf_1_s self i0 a1 a2 a3 a4 = some v) : RetT2 Try.prog f_impl_widthOf_1 1 4 [vint i0, (rP false vint) a1, (rP true (slr true 1 V.bool)) a2, V.ptr false (V.fclo f_a3 c_a3), (rP true (slr true 1 vint)) a4, V.dead] (V.bool v.1) 2 ((rP true (slr true 1 V.bool)) v.2.1) 4 ((rP true (slr true 1 vint)) v.2.2) := by
  refine rett2_vc k_impl_widthOf_1 (Nat.le_of_ble_eq_true rfl) (Nat.le_of_ble_eq_true rfl) ?_
  unfold F_impl_widthOf_1_s at h
  conv => whnf
  refine LoopQ.o [8, 5, 0, 1, 2, 47, 3, 4, 49] (S_impl_widthOf_1_l1 i0 a1 f_a3 c_a3) (T_impl_widthOf_1_l1 i0 a1 f_a3 c_a3) h (fun s o h => b_impl_widthOf_1_l1 h_a3 hself s o h) (by first | rfl | simp [restrict, look, mulN_one, V.fz, fzL, V.up, upL, fzL_map, fz_slr, fz_at, slr]) (by rintro (_ | _) <;> rfl) ?_
  rintro (⟨q19_47, q19_49⟩ | ⟨q19_47, q19_49⟩) h
  · try dsimp only at h
    conv => whnf
    cases h; exact ⟨(by first | rfl | simp only [resV, mulN_one, V.fz, fzL, V.up, upL, fzL_map, fz_slr, fz_at, slr] | simp [resV, mulN_one, V.fz, fzL, V.up, upL, fzL_map, fz_slr, fz_at, slr]), (by first | rfl | simp only [resV, mulN_one, V.fz, fzL, V.up, upL, fzL_map, fz_slr, fz_at, slr] | simp [resV, mulN_one, V.fz, fzL, V.up, upL, fzL_map, fz_slr, fz_at, slr]), (by first | rfl | simp only [resV, mulN_one, V.fz, fzL, V.up, upL, fzL_map, fz_slr, fz_at, slr] | simp [resV, mulN_one, V.fz, fzL, V.up, upL, fzL_map, fz_slr, fz_at, slr])⟩
  · try dsimp only at h
    conv => whnf
    cases h; exact ⟨(by first | rfl | simp only [resV, mulN_one, V.fz, fzL, V.up, upL, fzL_map, fz_slr, fz_at, slr] | simp [resV, mulN_one, V.fz, fzL, V.up, upL, fzL_map, fz_slr, fz_at, slr]), (by first | rfl | simp only [resV, mulN_one, V.fz, fzL, V.up, upL, fzL_map, fz_slr, fz_at, slr] | simp [resV, mulN_one, V.fz, fzL, V.up, upL, fzL_map, fz_slr, fz_at, slr]), (by first | rfl | simp only [resV, mulN_one, V.fz, fzL, V.up, upL, fzL_map, fz_slr, fz_at, slr] | simp [resV, mulN_one, V.fz, fzL, V.up, upL, fzL_map, fz_slr, fz_at, slr])⟩
theorem t_impl_widthOf_1_n {a3 : (Int → Int → Option Bool)} {f_a3 : Nat} {c_a3 : List V} (h_a3 : ∀ w_0 w_1 v, a3 w_0 w_1 = some v → Ret Try.prog f_a3 ([vint w_0, vint w_1] ++ fzL c_a3) (V.bool v)) : ∀ (n : Nat) {i0 : Int} {a1 : Int} {a2 : (List Bool)} {a4 : (List Int)} {v : (Bool × (List Bool) × (List Int))}, F_impl_widthOf_1 a3 n i0 a1 a2 a4 = some v → RetT2 Try.prog f_impl_widthOf_1 1 4 [vint i0, (rP false vint) a1, (rP true (slr true 1 V.bool)) a2, V.ptr false (V.fclo f_a3 c_a3), (rP true (slr true 1 vint)) a4, V.dead] (V.bool v.1) 2 ((rP true (slr true 1 V.bool)) v.2.1) 4 ((rP true (slr true 1 vint)) v.2.2)
  | 0, _, _, _, _, _, h => by cases h
  | n + 1, _, _, _, _, _, h => t_impl_widthOf_1_s h_a3 (fun h => t_impl_widthOf_1_n h_a3 n h) h
theorem t_impl_widthOf_1 {i0 : Int} {a1 : Int} {a2 : (List Bool)} {a3 : (Int → Int → Option Bool)} {a4 : (List Int)} {f_a3 : Nat} {c_a3 : List V} (h_a3 : ∀ w_0 w_1 v, a3 w_0 w_1 = some v → Ret Try.prog f_a3 ([vint w_0, vint w_1] ++ fzL c_a3) (V.bool v)) {v : (Bool × (List Bool) × (List Int))} (h : (limO fun n => F_impl_widthOf_1 a3 n i0 a1 a2 a4) = some v) : RetT2 Try.prog f_impl_widthOf_1 1 4 [vint i0, (rP false vint) a1, (rP true (slr true 1 V.bool)) a2, V.ptr false (V.fclo f_a3 c_a3), (rP true (slr true 1 vint)) a4, V.dead] (V.bool v.1) 2 ((rP true (slr true 1 V.bool)) v.2.1) 4 ((rP true (slr true 1 vint)) v.2.2) := by
  obtain ⟨n, hn⟩ := limO_some h
  exact t_impl_widthOf_1_n h_a3 n hn

noncomputable def F_laws_eqIntSS_l1 (a0 : List (List Int)) (b0 : List (List Int)) : Int → Option (Int ⊕ (Unit ⊕ Unit)) := fun x5 =>
   if x5 < (↑a0.length : Int) then
    ask ((0 : Int) ≤ x5 ∧ x5 < (↑a0.length : Int)) <|
    ask ((0 : Int) ≤ x5 ∧ x5 < (↑b0.length : Int)) <|
    (F_laws_eqIntS (nth a0 x5.toNat) (nth b0 x5.toNat)).bind fun r5 =>
    if (r5) = true then
     ask (InI (x5 + (1 : Int))) <|
     some (.inl (x5 + (1 : Int)))
    else
     some (.inr (.inl ()))
   else
    some (.inr (.inr ()))
def S_laws_eqIntSS_l1 (a0 : List (List Int)) (b0 : List (List Int)) : Int → St := fun s => [(5, A.val (vint s)), (0, A.val ((slr false 1 (slr false 1 vint)) (a0))), (1, A.val ((slr false 1 (slr false 1 vint)) (b0)))]
def T_laws_eqIntSS_l1 (_a0 : List (List Int)) (_b0 : List (List Int)) : (Unit ⊕ Unit) → Tgt
  | (.inl _s) => (Ex.ret, [4], [(4, A.val (V.bool (false)))])
  | (.inr _s) => ((Ex.exit 0), [], [])
theorem b_laws_eqIntSS_l1 {a0 : List (List Int)} {b0 : List (List Int)} (x5 : Int) (o : Int ⊕ (Unit ⊕ Unit)) (h : F_laws_eqIntSS_l1 a0 b0 x5 = some o) : vc Try.prog c_laws_eqIntSS_l1 (outQ [5, 0, 1] (S_laws_eqIntSS_l1 a0 b0) (T_laws_eqIntSS_l1 a0 b0) o) (S_laws_eqIntSS_l1 a0 b0 x5) := by
  unfold F_laws_eqIntSS_l1 at h
  try dsimp only at h
  conv => whnf
  refine Len.map ?_
  conv => whnf
  refine Br.od h (fun p2 h => ?_) (fun p2 h => ?_)
  · conv => whnf
    refine Len.map ?_
    conv => whnf
    refine Ask.o h fun p3 h => ?_
    conv => whnf
    refine Elem.o (by first | omega | (simp only [mulN] at *; omega) | (simp [mulN] at *; omega)) ?_
    conv => whnf
    refine Len.map ?_
    conv => whnf
    refine Ask.o h fun p4 h => ?_
    conv => whnf
    refine Elem.o (by first | omega | (simp only [mulN] at *; omega) | (simp [mulN] at *; omega)) ?_
    conv => whnf
    refine CallQ.o V.bool (by first | rfl | simp only [mulN_one, V.fz, fzL, V.up, upL, fzL_map, fz_slr, fz_at, slr, List.cons_append, List.nil_append] | simp [mulN_one, V.fz, fzL, V.up, upL, fzL_map, fz_slr, fz_at, slr]) h (fun r h => t_laws_eqIntS h) (fun r5 h => ?_)
    conv => whnf
    refine Br.flip ?_
    conv => whnf
    refine Br.ob h (fun p6 h => ?_) (fun p6 h => ?_)
    · conv => whnf
      refine Ask.o h fun p7 h => ?_
      conv => whnf
      cases h; exact ⟨rfl, rfl⟩
    · conv => whnf
      cases h; exact ⟨rfl, rfl⟩
  · conv => whnf
    cases h; exact ⟨rfl, rfl⟩

noncomputable def F_laws_eqIntSS (a0 : (List (List Int))) (b0 : (List (List Int))) : Option Bool :=
  if (↑a0.length : Int) ≠ (↑b0.length : Int) then
   some false
  else
   (loopO (F_laws_eqIntSS_l1 a0 b0) (0 : Int)).bind fun t => match t with
   | (.inl _) => (some false)
   | (.inr _) => (some true)
theorem t_laws_eqIntSS {a0 : (List (List Int))} {b0 : (List (List Int))} {v : Bool} (h : F_laws_eqIntSS a0 b0 = some v) : Ret Try.prog f_laws_eqIntSS [(slr false 1 (slr false 1 vint)) a0, (slr false 1 (slr false 1 vint)) b0] (V.bool v) := by
  refine ret_vc k_laws_eqIntSS (Nat.le_of_ble_eq_true rfl) ?_
  unfold F_laws_eqIntSS at h
  conv => whnf
  refine Len.map ?_
  conv => whnf
  refine Len.map ?_
  conv => whnf
  refine Br.on h (fun p1 h => ?_) (fun p1 h => ?_)
  · conv => whnf
    cases h; exact (by first | rfl | simp only [resV, mulN_one, V.fz, fzL, V.up, upL, fzL_map, fz_slr, fz_at, slr] | simp [resV, mulN_one, V.fz, fzL, V.up, upL, fzL_map, fz_slr, fz_at, slr])
  · conv => whnf
    refine LoopQ.o [5, 0, 1] (S_laws_eqIntSS_l1 a0 b0) (T_laws_eqIntSS_l1 a0 b0) h (fun s o h => b_laws_eqIntSS_l1 s o h) (by first | rfl | simp [restrict, look, mulN_one, V.fz, fzL, V.up, upL, fzL_map, fz_slr, fz_at, slr]) (by rintro (_ | _) <;> rfl) ?_
    rintro (⟨⟩ | ⟨⟩) h
    · try dsimp only at h
      conv => whnf
      cases h; exact (by first | rfl | simp only [resV, mulN_one, V.fz, fzL, V.up, upL, fzL_map, fz_slr, fz_at, slr] | simp [resV, mulN_one, V.fz, fzL, V.up, upL, fzL_map, fz_slr, fz_at, slr])
    · try dsimp only at h
      conv => whnf
      cases h; exact (by first | rfl | simp only [resV, mulN_one, V.fz, fzL, V.up, upL, fzL_map, fz_slr, fz_at, slr] | simp [resV, mulN_one, V.fz, fzL, V.up, upL, fzL_map, fz_slr, fz_at, slr])

noncomputable def F_laws_markIntSS_l1 : (Int × (List (List Int)) × Int) → Option ((Int × (List (List Int)) × Int) ⊕ ((List (List Int)) × Int)) := fun (x5, x19, x1) =>
   if x5 < (↑x19.length : Int) then
    ask ((0 : Int) ≤ x5 ∧ x5 < (↑x19.length : Int)) <|
    (F_laws_markIntS (nth x19 x5.toNat) (x1)).bind fun (r3, u4) =>
    ask (InI (x5 + (1 : Int))) <|
    some (.inl (x5 + (1 : Int), x19.set x5.toNat u4, r3))
   else
    some (.inr (x19, x1))
def S_laws_markIntSS_l1 : (Int × (List (List Int)) × Int) → St := fun s => [(5, A.val (vint s.1)), (0, A.ref 19 []), (19, A.val ((slr true 1 (slr true 1 vint)) s.2.1)), (1, A.val (vint s.2.2))]
def T_laws_markIntSS_l1 : ((List (List Int)) × Int) → Tgt
  | s => ((Ex.exit 0), [19, 1], [(19, A.val ((slr true 1 (slr true 1 vint)) s.1)), (1, A.val (vint s.2))])
theorem b_laws_markIntSS_l1 (s : (Int × (List (List Int)) × Int)) (o : (Int × (List (List Int)) × Int) ⊕ ((List (List Int)) × Int)) (h : F_laws_markIntSS_l1 s = some o) : vc Try.prog c_laws_markIntSS_l1 (outQ [5, 0, 19, 1] (S_laws_markIntSS_l1) (T_laws_markIntSS_l1) o) (S_laws_markIntSS_l1 s) := by
  obtain ⟨x5, x19, x1⟩ := s
  unfold F_laws_markIntSS_l1 at h
  try dsimp only at h
  conv => whnf
  refine Len.map ?_
  conv => whnf
  refine Br.od h (fun p1 h => ?_) (fun p1 h => ?_)
  · conv => whnf
    refine Len.map ?_
    conv => whnf
    refine Ask.o h fun p2 h => ?_
    conv => whnf
    refine Cells.one (fun _ => ⟨rfl, rfl⟩) (by first | omega | (simp only [mulN] at *; omega) | (simp [mulN] at *; omega)) ?_
    conv => whnf
    refine Kid.one (fun _ => ⟨rfl, rfl⟩) (by first | omega | (simp only [mulN] at *; omega) | (simp [mulN] at *; omega)) ?_
    conv => whnf
    refine CallQ.io vint (slr true 1 vint) (by first | rfl | simp only [mulN_one, V.fz, fzL, V.up, upL, fzL_map, fz_slr, fz_at, slr, List.cons_append, List.nil_append] | simp [mulN_one, V.fz, fzL, V.up, upL, fzL_map, fz_slr, fz_at, slr]) rfl (fun _ => rfl) (fun _ => ⟨rfl, rfl⟩) rfl h (fun r h => t_laws_markIntS h) (fun r3 u4 h => ?_)
    conv => whnf
    refine Kid.one (fun _ => ⟨rfl, rfl⟩) (by first | omega | (simp only [mulN] at *; omega) | (simp [mulN] at *; omega)) ?_
    conv => whnf
    refine SetKids.one (fun _ => ⟨rfl, rfl⟩) (u4) (by first | rfl | simp only [mulN_one, V.fz, fzL, V.up, upL, fzL_map, fz_slr, fz_at, slr, List.cons_append, List.nil_append] | simp [mulN_one, V.fz, fzL, V.up, upL, fzL_map, fz_slr, fz_at, slr]) (by first | omega | (simp only [mulN] at *; omega) | (simp [mulN] at *; omega)) ?_
    conv => whnf
    refine Ask.o h fun p5 h => ?_
    conv => whnf
    cases h; exact ⟨rfl, rfl⟩
  · conv => whnf
    cases h; exact ⟨rfl, rfl⟩

noncomputable def F_laws_markIntSS (a0 : (List (List Int))) (k0 : Int) : Option (Int × (List (List Int))) :=
  (loopO (F_laws_markIntSS_l1) ((0 : Int), a0, k0)).bind fun (q6_19, q6_1) =>
  some (q6_1, q6_19)
theorem t_laws_markIntSS {a0 : (List (List Int))} {k0 : Int} {v : (Int × (List (List Int)))} (h : F_laws_markIntSS a0 k0 = some v) : RetO Try.prog f_laws_markIntSS [(slr true 1 (slr true 1 vint)) a0, vint k0] (vint v.1) 0 ((slr true 1 (slr true 1 vint)) v.2) := by
  refine reto_vc k_laws_markIntSS (Nat.le_of_ble_eq_true rfl) ?_
  unfold F_laws_markIntSS at h
  conv => whnf
  refine LoopQ.o [5, 0, 19, 1] (S_laws_markIntSS_l1) (T_laws_markIntSS_l1) h (fun s o h => b_laws_markIntSS_l1 s o h) (by first | rfl | simp [restrict, look, mulN_one, V.fz, fzL, V.up, upL, fzL_map, fz_slr, fz_at, slr]) (fun _ => rfl) ?_
  rintro ⟨q6_19, q6_1⟩ h
  try dsimp only at h
  conv => whnf
  cases h; exact ⟨(by first | rfl | simp only [resV, mulN_one, V.fz, fzL, V.up, upL, fzL_map, fz_slr, fz_at, slr] | simp [resV, mulN_one, V.fz, fzL, V.up, upL, fzL_map, fz_slr, fz_at, slr]), (by first | rfl | simp only [resV, mulN_one, V.fz, fzL, V.up, upL, fzL_map, fz_slr, fz_at, slr] | simp [resV, mulN_one, V.fz, fzL, V.up, upL, fzL_map, fz_slr, fz_at, slr])⟩

noncomputable def F_laws_heldIntSS_l1 (a0 : List (List Int)) : (Int × Int) → Option ((Int × Int) ⊕ (Unit ⊕ Int)) := fun (x5, x1) =>
   if x5 < (↑a0.length : Int) then
    ask ((0 : Int) ≤ x5 ∧ x5 < (↑a0.length : Int)) <|
    (F_laws_heldIntS (nth a0 x5.toNat) (x1)).bind fun r3 =>
    if r3 < (0 : Int) then
     some (.inr (.inl ()))
    else
     ask (InI (x5 + (1 : Int))) <|
     some (.inl (x5 + (1 : Int), r3))
   else
    some (.inr (.inr x1))
def S_laws_heldIntSS_l1 (a0 : List (List Int)) : (Int × Int) → St := fun s => [(5, A.val (vint s.1)), (0, A.val ((slr false 1 (slr false 1 vint)) (a0))), (1, A.val (vint s.2))]
def T_laws_heldIntSS_l1 (_a0 : List (List Int)) : (Unit ⊕ Int) → Tgt
  | (.inl _s) => (Ex.ret, [4], [(4, A.val (vint ((-1 : Int))))])
  | (.inr s) => ((Ex.exit 0), [1], [(1, A.val (vint s))])
theorem b_laws_heldIntSS_l1 {a0 : List (List Int)} (s : (Int × Int)) (o : (Int × Int) ⊕ (Unit ⊕ Int)) (h : F_laws_heldIntSS_l1 a0 s = some o) : vc Try.prog c_laws_heldIntSS_l1 (outQ [5, 0, 1] (S_laws_heldIntSS_l1 a0) (T_laws_heldIntSS_l1 a0) o) (S_laws_heldIntSS_l1 a0 s) := by
  obtain ⟨x5, x1⟩ := s
  unfold F_laws_heldIntSS_l1 at h
  try dsimp only at h
  conv => whnf
  refine Len.map ?_
  conv => whnf
  refine Br.od h (fun p1 h => ?_) (fun p1 h => ?_)
  · conv => whnf
    refine Len.map ?_
    conv => whnf
    refine Ask.o h fun p2 h => ?_
    conv => whnf
    refine Elem.o (by first | omega | (simp only [mulN] at *; omega) | (simp [mulN] at *; omega)) ?_
    conv => whnf
    refine CallQ.o vint (by first | rfl | simp only [mulN_one, V.fz, fzL, V.up, upL, fzL_map, fz_slr, fz_at, slr, List.cons_append, List.nil_append] | simp [mulN_one, V.fz, fzL, V.up, upL, fzL_map, fz_slr, fz_at, slr]) h (fun r h => t_laws_heldIntS h) (fun r3 h => ?_)
    conv => whnf
    refine Br.od h (fun p4 h => ?_) (fun p4 h => ?_)
    · conv => whnf
      cases h; exact ⟨rfl, rfl⟩
    · conv => whnf
      refine Ask.o h fun p5 h => ?_
      conv => whnf
      cases h; exact ⟨rfl, rfl⟩
  · conv => whnf
    cases h; exact ⟨rfl, rfl⟩

noncomputable def F_laws_heldIntSS (a0 : (List (List Int))) (k0 : Int) : Option Int :=
  (loopO (F_laws_heldIntSS_l1 a0) ((0 : Int), k0)).bind fun t => match t with
  | (.inl _) => (some (-1 : Int))
  | (.inr q6_1) => (some q6_1)
theorem t_laws_heldIntSS {a0 : (List (List Int))} {k0 : Int} {v : Int} (h : F_laws_heldIntSS a0 k0 = some v) : Ret Try.prog f_laws_heldIntSS [(slr false 1 (slr false 1 vint)) a0, vint k0] (vint v) := by
  refine ret_vc k_laws_heldIntSS (Nat.le_of_ble_eq_true rfl) ?_
  unfold F_laws_heldIntSS at h
  conv => whnf
  refine LoopQ.o [5, 0, 1] (S_laws_heldIntSS_l1 a0) (T_laws_heldIntSS_l1 a0) h (fun s o h => b_laws_heldIntSS_l1 s o h) (by first | rfl | simp [restrict, look, mulN_one, V.fz, fzL, V.up, upL, fzL_map, fz_slr, fz_at, slr]) (by rintro (_ | _) <;> rfl) ?_
  rintro (⟨⟩ | q6_1) h
  · try dsimp only at h
    conv => whnf
    cases h; exact (by first | rfl | simp only [resV, mulN_one, V.fz, fzL, V.up, upL, fzL_map, fz_slr, fz_at, slr] | simp [resV, mulN_one, V.fz, fzL, V.up, upL, fzL_map, fz_slr, fz_at, slr])
  · try dsimp only at h
    conv => whnf
    cases h; exact (by first | rfl | simp only [resV, mulN_one, V.fz, fzL, V.up, upL, fzL_map, fz_slr, fz_at, slr] | simp [resV, mulN_one, V.fz, fzL, V.up, upL, fzL_map, fz_slr, fz_at, slr])

noncomputable def F_laws_szIntSS_l1 (a0 : List (List Int)) : (Int × Int) → Option ((Int × Int) ⊕ (Unit ⊕ Int)) := fun (x5, x1) =>
   if x5 < (↑a0.length : Int) then
    ask ((0 : Int) ≤ x5 ∧ x5 < (↑a0.length : Int)) <|
    (F_laws_szIntS (nth a0 x5.toNat) (x1)).bind fun r5 =>
    if r5 < (0 : Int) then
     some (.inr (.inl ()))
    else
     ask (InI (x5 + (1 : Int))) <|
     some (.inl (x5 + (1 : Int), r5))
   else
    some (.inr (.inr x1))
def S_laws_szIntSS_l1 (a0 : List (List Int)) : (Int × Int) → St := fun s => [(5, A.val (vint s.1)), (1, A.val (vint s.2)), (0, A.val ((slr false 1 (slr false 1 vint)) (a0)))]
def T_laws_szIntSS_l1 (_a0 : List (List Int)) : (Unit ⊕ Int) → Tgt
  | (.inl _s) => (Ex.ret, [4], [(4, A.val (vint ((-1 : Int))))])
  | (.inr s) => ((Ex.exit 0), [1], [(1, A.val (vint s))])
theorem b_laws_szIntSS_l1 {a0 : List (List Int)} (s : (Int × Int)) (o : (Int × Int) ⊕ (Unit ⊕ Int)) (h : F_laws_szIntSS_l1 a0 s = some o) : vc Try.prog c_laws_szIntSS_l1 (outQ [5, 1, 0] (S_laws_szIntSS_l1 a0) (T_laws_szIntSS_l1 a0) o) (S_laws_szIntSS_l1 a0 s) := by
  obtain ⟨x5, x1⟩ := s
  unfold F_laws_szIntSS_l1 at h
  try dsimp only at h
  conv => whnf
  refine Len.map ?_
  conv => whnf
  refine Br.od h (fun p3 h => ?_) (fun p3 h => ?_)
  · conv => whnf
    refine Len.map ?_
    conv => whnf
    refine Ask.o h fun p4 h => ?_
    conv => whnf
    refine Elem.o (by first | omega | (simp only [mulN] at *; omega) | (simp [mulN] at *; omega)) ?_
    conv => whnf
    refine CallQ.o vint (by first | rfl | simp only [mulN_one, V.fz, fzL, V.up, upL, fzL_map, fz_slr, fz_at, slr, List.cons_append, List.nil_append] | simp [mulN_one, V.fz, fzL, V.up, upL, fzL_map, fz_slr, fz_at, slr]) h (fun r h => t_laws_szIntS h) (fun r5 h => ?_)
    conv => whnf
    refine Br.od h (fun p6 h => ?_) (fun p6 h => ?_)
    · conv => whnf
      cases h; exact ⟨rfl, rfl⟩
    · conv => whnf
      refine Ask.o h fun p7 h => ?_
      conv => whnf
      cases h; exact ⟨rfl, rfl⟩
  · conv => whnf
    cases h; exact ⟨rfl, rfl⟩

noncomputable def F_laws_szIntSS (a0 : (List (List Int))) (left0 : Int) : Option Int :=
  ask (InI (left0 - (↑a0.length : Int))) <|
  if left0 - (↑a0.length : Int) < (0 : Int) then
   some (-1 : Int)
  else
   (loopO (F_laws_szIntSS_l1 a0) ((0 : Int), left0 - (↑a0.length : Int))).bind fun t => match t with
   | (.inl _) => (some (-1 : Int))
   | (.inr q8_1) => (some q8_1)
theorem t_laws_szIntSS {a0 : (List (List Int))} {left0 : Int} {v : Int} (h : F_laws_szIntSS a0 left0 = some v) : Ret Try.prog f_laws_szIntSS [(slr false 1 (slr false 1 vint)) a0, vint left0] (vint v) := by
  refine ret_vc k_laws_szIntSS (Nat.le_of_ble_eq_true rfl) ?_
  unfold F_laws_szIntSS at h
  conv => whnf
  refine Len.map ?_
  conv => whnf
  refine Ask.o h fun p1 h => ?_
  conv => whnf
  refine Br.od h (fun p2 h => ?_) (fun p2 h => ?_)
  · conv => whnf
    cases h; exact (by first | rfl | simp only [resV, mulN_one, V.fz, fzL, V.up, upL, fzL_map, fz_slr, fz_at, slr] | simp [resV, mulN_one, V.fz, fzL, V.up, upL, fzL_map, fz_slr, fz_at, slr])
  · conv => whnf
    refine LoopQ.o [5, 1, 0] (S_laws_szIntSS_l1 a0) (T_laws_szIntSS_l1 a0) h (fun s o h => b_laws_szIntSS_l1 s o h) (by first | rfl | simp [restrict, look, mulN_one, V.fz, fzL, V.up, upL, fzL_map, fz_slr, fz_at, slr]) (by rintro (_ | _) <;> rfl) ?_
    rintro (⟨⟩ | q8_1) h
    · try dsimp only at h
      conv => whnf
      cases h; exact (by first | rfl | simp only [resV, mulN_one, V.fz, fzL, V.up, upL, fzL_map, fz_slr, fz_at, slr] | simp [resV, mulN_one, V.fz, fzL, V.up, upL, fzL_map, fz_slr, fz_at, slr])
    · try dsimp only at h
      conv => whnf
      cases h; exact (by first | rfl | simp only [resV, mulN_one, V.fz, fzL, V.up, upL, fzL_map, fz_slr, fz_at, slr] | simp [resV, mulN_one, V.fz, fzL, V.up, upL, fzL_map, fz_slr, fz_at, slr])

noncomputable def F_laws_toIntSS_l1 (a0 : List (List Int)) : (Int × (List (List Int))) → Option ((Int × (List (List Int))) ⊕ (List (List Int))) := fun (x4, x3) =>
   if x4 < (↑a0.length : Int) then
    ask ((0 : Int) ≤ x4 ∧ x4 < (↑a0.length : Int)) <|
    (F_laws_toIntS (nth a0 x4.toNat)).bind fun r4 =>
    ask ((0 : Int) ≤ x4 ∧ x4 < (↑x3.length : Int)) <|
    ask (InI (x4 + (1 : Int))) <|
    some (.inl (x4 + (1 : Int), x3.set x4.toNat r4))
   else
    some (.inr x3)
def S_laws_toIntSS_l1 (a0 : List (List Int)) : (Int × (List (List Int))) → St := fun s => [(4, A.val (vint s.1)), (3, A.val ((slr true 1 (slr true 1 vint)) s.2)), (0, A.val ((slr false 1 (slr false 1 vint)) (a0)))]
def T_laws_toIntSS_l1 (_a0 : List (List Int)) : (List (List Int)) → Tgt
  | s => ((Ex.exit 0), [3], [(3, A.val ((slr true 1 (slr true 1 vint)) s))])
theorem b_laws_toIntSS_l1 {a0 : List (List Int)} (s : (Int × (List (List Int)))) (o : (Int × (List (List Int))) ⊕ (List (List Int))) (h : F_laws_toIntSS_l1 a0 s = some o) : vc Try.prog c_laws_toIntSS_l1 (outQ [4, 3, 0] (S_laws_toIntSS_l1 a0) (T_laws_toIntSS_l1 a0) o) (S_laws_toIntSS_l1 a0 s) := by
  obtain ⟨x4, x3⟩ := s
  unfold F_laws_toIntSS_l1 at h
  try dsimp only at h
  conv => whnf
  refine Len.map ?_
  conv => whnf
  refine Br.od h (fun p2 h => ?_) (fun p2 h => ?_)
  · conv => whnf
    refine Len.map ?_
    conv => whnf
    refine Ask.o h fun p3 h => ?_
    conv => whnf
    refine Elem.o (by first | omega | (simp only [mulN] at *; omega) | (simp [mulN] at *; omega)) ?_
    conv => whnf
    refine CallQ.o (slr true 1 vint) (by first | rfl | simp only [mulN_one, V.fz, fzL, V.up, upL, fzL_map, fz_slr, fz_at, slr, List.cons_append, List.nil_append] | simp [mulN_one, V.fz, fzL, V.up, upL, fzL_map, fz_slr, fz_at, slr]) h (fun r h => t_laws_toIntS h) (fun r4 h => ?_)
    conv => whnf
    refine Len.map ?_
    conv => whnf
    refine Ask.o h fun p5 h => ?_
    conv => whnf
    refine SetKids.one (fun _ => ⟨rfl, rfl⟩) (r4) (by first | rfl | simp only [mulN_one, V.fz, fzL, V.up, upL, fzL_map, fz_slr, fz_at, slr, List.cons_append, List.nil_append] | simp [mulN_one, V.fz, fzL, V.up, upL, fzL_map, fz_slr, fz_at, slr]) (by first | omega | (simp only [mulN] at *; omega) | (simp [mulN] at *; omega)) ?_
    conv => whnf
    refine Ask.o h fun p6 h => ?_
    conv => whnf
    cases h; exact ⟨rfl, rfl⟩
  · conv => whnf
    cases h; exact ⟨rfl, rfl⟩

noncomputable def F_laws_toIntSS (a0 : (List (List Int))) : Option (List (List Int)) :=
  ask ((0 : Int) ≤ (↑a0.length : Int) ∧ (↑a0.length : Int) ≤ (↑LIM : Int)) <|
  (loopO (F_laws_toIntSS_l1 a0) ((0 : Int), List.replicate (↑a0.length : Int).toNat (nilL Int))).bind fun q7_3 =>
  some q7_3
theorem t_laws_toIntSS {a0 : (List (List Int))} {v : (List (List Int))} (h : F_laws_toIntSS a0 = some v) : Ret Try.prog f_laws_toIntSS [(slr false 1 (slr false 1 vint)) a0] ((slr true 1 (slr true 1 vint)) v) := by
  refine ret_vc k_laws_toIntSS (Nat.le_of_ble_eq_true rfl) ?_
  unfold F_laws_toIntSS at h
  conv => whnf
  refine Len.map ?_
  conv => whnf
  refine Ask.o h fun p1 h => ?_
  conv => whnf
  refine MkQ.o (slr true 1 vint) (nilL Int) rfl ?_
  conv => whnf
  refine LoopQ.o [4, 3, 0] (S_laws_toIntSS_l1 a0) (T_laws_toIntSS_l1 a0) h (fun s o h => b_laws_toIntSS_l1 s o h) (by first | rfl | simp [restrict, look, mulN_one, V.fz, fzL, V.up, upL, fzL_map, fz_slr, fz_at, slr]) (fun _ => rfl) ?_
  rintro q7_3 h
  try dsimp only at h
  conv => whnf
  cases h; exact (by first | rfl | simp only [resV, mulN_one, V.fz, fzL, V.up, upL, fzL_map, fz_slr, fz_at, slr] | simp [resV, mulN_one, V.fz, fzL, V.up, upL, fzL_map, fz_slr, fz_at, slr])

end Go.Proofs.Ytpfikenknmlajaa.Ax
