/-
  What the functions compute, as functions on plain data, and that the program does compute it; written by program.
-/
import Derived.Test.YtpfikenknmlajaaCode
import Derived.Test.YtpfikenknmlajaaG1
import Derived.Test.YtpfikenknmlajaaG2
namespace Go.Proofs.Ytpfikenknmlajaa.Ax
open Go
set_option maxRecDepth 100000
set_option maxHeartbeats 4000000

noncomputable def F_impl_orderOf_l1 (p0 : SPoset) (x20 : Int) : (Int × (List (List Bool))) → Option ((Int × (List (List Bool))) ⊕ (List (List Bool))) := fun (x36, x5') =>
   if x36 < (↑(nth p0.Below x20.toNat).length : Int) then
    ask ((0 : Int) ≤ x36 ∧ x36 < (↑(nth p0.Below x20.toNat).length : Int)) <|
    ask ((0 : Int) ≤ nth (nth p0.Below x20.toNat) x36.toNat ∧ nth (nth p0.Below x20.toNat) x36.toNat < (↑x5'.length : Int)) <|
    ask ((0 : Int) ≤ x20 ∧ x20 < (↑(nth x5' (nth (nth p0.Below x20.toNat) x36.toNat).toNat).length : Int)) <|
    ask (InI (x36 + (1 : Int))) <|
    some (.inl (x36 + (1 : Int), x5'.set (nth (nth p0.Below x20.toNat) x36.toNat).toNat ((nth x5' (nth (nth p0.Below x20.toNat) x36.toNat).toNat).set x20.toNat true)))
   else
    some (.inr x5')
def S_impl_orderOf_l1 (p0 : SPoset) (x20 : Int) : (Int × (List (List Bool))) → St := fun s => [(36, A.val (vint s.1)), (35, A.val (vint ((↑(nth p0.Below x20.toNat).length : Int)))), (34, A.val ((slr false 1 vint) (nth p0.Below x20.toNat))), (6, A.val (vint (x20))), (20, A.val (vint (x20))), (19, A.val (vint ((↑p0.Below.length : Int)))), (18, A.val ((slr false 1 (slr false 1 vint)) (p0.Below))), (5, A.val ((slr true 1 (slr true 1 V.bool)) s.2)), (4, A.val (vint ((↑p0.Below.length : Int))))]
def T_impl_orderOf_l1 (p0 : SPoset) (x20 : Int) : (List (List Bool)) → Tgt
  | s => ((Ex.exit 2), [20, 19, 18, 5, 4], [(20, A.val (vint (x20))), (19, A.val (vint ((↑p0.Below.length : Int)))), (18, A.val ((slr false 1 (slr false 1 vint)) (p0.Below))), (5, A.val ((slr true 1 (slr true 1 V.bool)) s)), (4, A.val (vint ((↑p0.Below.length : Int))))])
theorem b_impl_orderOf_l1 {p0 : SPoset} {x20 : Int} (s : (Int × (List (List Bool)))) (o : (Int × (List (List Bool))) ⊕ (List (List Bool))) (h : F_impl_orderOf_l1 p0 x20 s = some o) : vc Try.prog c_impl_orderOf_l1 (outQ [36, 35, 34, 6, 20, 19, 18, 5, 4] (S_impl_orderOf_l1 p0 x20) (T_impl_orderOf_l1 p0 x20) o) (S_impl_orderOf_l1 p0 x20 s) := by
  obtain ⟨x36, x5'⟩ := s
  unfold F_impl_orderOf_l1 at h
  try dsimp only at h
  conv => whnf
  refine Br.od h (fun p10 h => ?_) (fun p10 h => ?_)
  · conv => whnf
    refine Len.map ?_
    conv => whnf
    refine Ask.o h fun p11 h => ?_
    conv => whnf
    refine Elem.o (by first | omega | (simp only [mulN] at *; omega) | (simp [mulN] at *; omega)) ?_
    conv => whnf
    refine Len.map ?_
    conv => whnf
    refine Ask.o h fun p12 h => ?_
    conv => whnf
    refine Cells.one (fun _ => ⟨rfl, rfl⟩) (by first | omega | (simp only [mulN] at *; omega) | (simp [mulN] at *; omega)) ?_
    conv => whnf
    refine Kid.one (fun _ => ⟨rfl, rfl⟩) (by first | omega | (simp only [mulN] at *; omega) | (simp [mulN] at *; omega)) ?_
    conv => whnf
    refine Len.map ?_
    conv => whnf
    refine Ask.o h fun p13 h => ?_
    conv => whnf
    refine Kid.one (fun _ => ⟨rfl, rfl⟩) (by first | omega | (simp only [mulN] at *; omega) | (simp [mulN] at *; omega)) ?_
    conv => whnf
    refine SetKids.one (fun _ => ⟨rfl, rfl⟩) (true) (by first | rfl | simp only [mulN_one, V.fz, fzL, V.up, upL, fzL_map, fz_slr, fz_at, slr, List.cons_append, List.nil_append] | simp [mulN_one, V.fz, fzL, V.up, upL, fzL_map, fz_slr, fz_at, slr]) (by first | omega | (simp only [mulN] at *; omega) | (simp [mulN] at *; omega)) ?_
    conv => whnf
    refine Kid.one (fun _ => ⟨rfl, rfl⟩) (by first | omega | (simp only [mulN] at *; omega) | (simp [mulN] at *; omega)) ?_
    conv => whnf
    refine SetKids.one (fun _ => ⟨rfl, rfl⟩) ((nth x5' (nth (nth p0.Below x20.toNat) x36.toNat).toNat).set x20.toNat true) (by first | rfl | simp only [mulN_one, V.fz, fzL, V.up, upL, fzL_map, fz_slr, fz_at, slr, List.cons_append, List.nil_append] | simp [mulN_one, V.fz, fzL, V.up, upL, fzL_map, fz_slr, fz_at, slr]) (by first | omega | (simp only [mulN] at *; omega) | (simp [mulN] at *; omega)) ?_
    conv => whnf
    refine Ask.o h fun p14 h => ?_
    conv => whnf
    cases h; exact ⟨rfl, rfl⟩
  · conv => whnf
    cases h; exact ⟨rfl, rfl⟩

noncomputable def F_impl_orderOf_l2 (p0 : SPoset) : (Int × (List (List Bool))) → Option ((Int × (List (List Bool))) ⊕ (Unit ⊕ (List (List Bool)))) := fun (x20, x5) =>
   if x20 < (↑p0.Below.length : Int) then
    ask ((0 : Int) ≤ x20 ∧ x20 < (↑p0.Below.length : Int)) <|
    (((F_impl_rises (nth p0.Below x20.toNat)).bind fun r5 =>
       if (r5) = true then
        (F_impl_inSize (nth p0.Below x20.toNat) ((↑p0.Below.length : Int))).bind fun r7 =>
        if (r7) = true then
         some (.inl ())
        else
         some (.inr ())
       else
        some (.inr ()) : Option (Unit ⊕ Unit))).bind fun t => match t with
    | (.inl _) => ((loopO (F_impl_orderOf_l1 p0 x20) ((0 : Int), x5)).bind fun q15_5 =>
      ask (InI (x20 + (1 : Int))) <|
      some (.inl (x20 + (1 : Int), q15_5)))
    | (.inr _) => (some (.inr (.inl ())))
   else
    some (.inr (.inr x5))
def S_impl_orderOf_l2 (p0 : SPoset) : (Int × (List (List Bool))) → St := fun s => [(20, A.val (vint s.1)), (19, A.val (vint ((↑p0.Below.length : Int)))), (18, A.val ((slr false 1 (slr false 1 vint)) (p0.Below))), (5, A.val ((slr true 1 (slr true 1 V.bool)) s.2)), (4, A.val (vint ((↑p0.Below.length : Int))))]
def T_impl_orderOf_l2 (_p0 : SPoset) : (Unit ⊕ (List (List Bool))) → Tgt
  | (.inl _s) => (Ex.ret, [3, 2], [(3, A.val (V.bool (false))), (2, A.val ((slr true 1 (slr true 1 V.bool)) (nilL (List Bool))))])
  | (.inr s) => ((Ex.exit 0), [5], [(5, A.val ((slr true 1 (slr true 1 V.bool)) s))])
theorem b_impl_orderOf_l2 {p0 : SPoset} (s : (Int × (List (List Bool)))) (o : (Int × (List (List Bool))) ⊕ (Unit ⊕ (List (List Bool)))) (h : F_impl_orderOf_l2 p0 s = some o) : vc Try.prog c_impl_orderOf_l2 (outQ [20, 19, 18, 5, 4] (S_impl_orderOf_l2 p0) (T_impl_orderOf_l2 p0) o) (S_impl_orderOf_l2 p0 s) := by
  obtain ⟨x20, x5⟩ := s
  unfold F_impl_orderOf_l2 at h
  try dsimp only at h
  conv => whnf
  refine Br.od h (fun p3 h => ?_) (fun p3 h => ?_)
  · conv => whnf
    refine Len.map ?_
    conv => whnf
    refine Ask.o h fun p4 h => ?_
    conv => whnf
    refine Elem.o (by first | omega | (simp only [mulN] at *; omega) | (simp [mulN] at *; omega)) ?_
    conv => whnf
    refine CutQ.o (fun t : (Unit ⊕ Unit) => match t with | (.inl s) => (Ex.normal, [7, 6, 20, 19, 18, 5, 4], [(7, A.val ((slr false 1 vint) (nth p0.Below x20.toNat))), (6, A.val (vint (x20))), (20, A.val (vint (x20))), (19, A.val (vint ((↑p0.Below.length : Int)))), (18, A.val ((slr false 1 (slr false 1 vint)) (p0.Below))), (5, A.val ((slr true 1 (slr true 1 V.bool)) (x5))), (4, A.val (vint ((↑p0.Below.length : Int))))]) | (.inr s) => (Ex.ret, [3, 2], [(3, A.val (V.bool (false))), (2, A.val ((slr true 1 (slr true 1 V.bool)) (nilL (List Bool))))])) h ?_ ?_
    · intro t h
      conv => whnf
      refine CallQ.o V.bool (by first | rfl | simp only [mulN_one, V.fz, fzL, V.up, upL, fzL_map, fz_slr, fz_at, slr, List.cons_append, List.nil_append] | simp [mulN_one, V.fz, fzL, V.up, upL, fzL_map, fz_slr, fz_at, slr]) h (fun r h => t_impl_rises h) (fun r5 h => ?_)
      conv => whnf
      refine Br.flip ?_
      conv => whnf
      refine Br.ob h (fun p6 h => ?_) (fun p6 h => ?_)
      · conv => whnf
        refine Br.no ?_
        conv => whnf
        refine Br.no ?_
        conv => whnf
        refine CallQ.o V.bool (by first | rfl | simp only [mulN_one, V.fz, fzL, V.up, upL, fzL_map, fz_slr, fz_at, slr, List.cons_append, List.nil_append] | simp [mulN_one, V.fz, fzL, V.up, upL, fzL_map, fz_slr, fz_at, slr]) h (fun r h => t_impl_inSize h) (fun r7 h => ?_)
        conv => whnf
        refine Br.no ?_
        conv => whnf
        refine Br.no ?_
        conv => whnf
        refine Br.flip ?_
        conv => whnf
        refine Br.ob h (fun p8 h => ?_) (fun p8 h => ?_)
        · conv => whnf
          cases h; exact ⟨rfl, rfl⟩
        · conv => whnf
          cases h; exact ⟨rfl, rfl⟩
      · conv => whnf
        refine Br.yes ?_
        conv => whnf
        refine Br.yes ?_
        conv => whnf
        refine Br.yes ?_
        conv => whnf
        refine Br.yes ?_
        conv => whnf
        refine Br.yes ?_
        conv => whnf
        cases h; exact ⟨rfl, rfl⟩
    · rintro (⟨⟩ | ⟨⟩) h
      · try dsimp only at h
        conv => whnf
        refine Len.map ?_
        conv => whnf
        refine LoopQ.o [36, 35, 34, 6, 20, 19, 18, 5, 4] (S_impl_orderOf_l1 p0 x20) (T_impl_orderOf_l1 p0 x20) h (fun s o h => b_impl_orderOf_l1 s o h) (by first | rfl | simp [restrict, look, mulN_one, V.fz, fzL, V.up, upL, fzL_map, fz_slr, fz_at, slr]) (fun _ => rfl) ?_
        rintro q15_5 h
        try dsimp only at h
        conv => whnf
        refine Ask.o h fun p16 h => ?_
        conv => whnf
        cases h; exact ⟨rfl, rfl⟩
      · try dsimp only at h
        conv => whnf
        cases h; exact ⟨rfl, rfl⟩
  · conv => whnf
    cases h; exact ⟨rfl, rfl⟩

noncomputable def F_impl_orderOf (p0 : SPoset) : Option ((List (List Bool)) × Bool) :=
  if (↑p0.Below.length : Int) > (10 : Int) then
   some (nilL (List Bool), false)
  else
   (F_impl_newOrder ((↑p0.Below.length : Int))).bind fun r2 =>
   (loopO (F_impl_orderOf_l2 p0) ((0 : Int), r2)).bind fun t => match t with
   | (.inl _) => (some (nilL (List Bool), false))
   | (.inr q17_5) => ((F_impl_order_isOrder (q17_5)).bind fun r18 =>
     some (q17_5, r18))
theorem t_impl_orderOf {p0 : SPoset} {v : ((List (List Bool)) × Bool)} (h : F_impl_orderOf p0 = some v) : Ret Try.prog f_impl_orderOf [(rS_Poset false) p0] ((fun r => V.tup [(slr true 1 (slr true 1 V.bool)) r.1, V.bool r.2]) v) := by
  refine ret_vc k_impl_orderOf (Nat.le_of_ble_eq_true rfl) ?_
  unfold F_impl_orderOf at h
  conv => whnf
  refine Cells.lit rfl rfl ?_
  conv => whnf
  refine Len.map ?_
  conv => whnf
  refine Br.od h (fun p1 h => ?_) (fun p1 h => ?_)
  · conv => whnf
    cases h; exact (by first | rfl | simp only [resV, mulN_one, V.fz, fzL, V.up, upL, fzL_map, fz_slr, fz_at, slr] | simp [resV, mulN_one, V.fz, fzL, V.up, upL, fzL_map, fz_slr, fz_at, slr])
  · conv => whnf
    refine CallQ.o (slr true 1 (slr true 1 V.bool)) (by first | rfl | simp only [mulN_one, V.fz, fzL, V.up, upL, fzL_map, fz_slr, fz_at, slr, List.cons_append, List.nil_append] | simp [mulN_one, V.fz, fzL, V.up, upL, fzL_map, fz_slr, fz_at, slr]) h (fun r h => t_impl_newOrder h) (fun r2 h => ?_)
    conv => whnf
    refine Cells.lit rfl rfl ?_
    conv => whnf
    refine Len.map ?_
    conv => whnf
    refine LoopQ.o [20, 19, 18, 5, 4] (S_impl_orderOf_l2 p0) (T_impl_orderOf_l2 p0) h (fun s o h => b_impl_orderOf_l2 s o h) (by first | rfl | simp [restrict, look, mulN_one, V.fz, fzL, V.up, upL, fzL_map, fz_slr, fz_at, slr]) (by rintro (_ | _) <;> rfl) ?_
    rintro (⟨⟩ | q17_5) h
    · try dsimp only at h
      conv => whnf
      cases h; exact (by first | rfl | simp only [resV, mulN_one, V.fz, fzL, V.up, upL, fzL_map, fz_slr, fz_at, slr] | simp [resV, mulN_one, V.fz, fzL, V.up, upL, fzL_map, fz_slr, fz_at, slr])
    · try dsimp only at h
      conv => whnf
      refine CallQ.rd V.bool (by first | rfl | simp only [V.fz, fzL_map, slr] | simp [mulN_one, V.fz, fzL, V.up, upL, fzL_map, fz_slr, fz_at, slr]) (fun _ => rfl) h (fun r h => t_impl_order_isOrder h) (fun r18 h => ?_)
      conv => whnf
      cases h; exact (by first | rfl | simp only [resV, mulN_one, V.fz, fzL, V.up, upL, fzL_map, fz_slr, fz_at, slr] | simp [resV, mulN_one, V.fz, fzL, V.up, upL, fzL_map, fz_slr, fz_at, slr])

noncomputable def F_spec_l1Rising_l1 (l0 : List Int) (lo0 : Int) (hi0 : Int) : Int → Option (Int ⊕ (Unit ⊕ Unit)) := fun x7 =>
   if x7 < (↑l0.length : Int) then
    ask ((0 : Int) ≤ x7 ∧ x7 < (↑l0.length : Int)) <|
    (F_spec_l1In (nth l0 x7.toNat) (lo0) (hi0)).bind fun r3 =>
    if (r3) = true then
     if x7 > (0 : Int) then
      ask (InI (x7 - (1 : Int))) <|
      ask ((0 : Int) ≤ x7 - (1 : Int) ∧ x7 - (1 : Int) < (↑l0.length : Int)) <|
      ask ((0 : Int) ≤ x7 ∧ x7 < (↑l0.length : Int)) <|
      if nth l0 (x7 - (1 : Int)).toNat ≥ nth l0 x7.toNat then
       some (.inr (.inl ()))
      else
       ask (InI (x7 + (1 : Int))) <|
       some (.inl (x7 + (1 : Int)))
     else
      ask (InI (x7 + (1 : Int))) <|
      some (.inl (x7 + (1 : Int)))
    else
     some (.inr (.inl ()))
   else
    some (.inr (.inr ()))
def S_spec_l1Rising_l1 (l0 : List Int) (lo0 : Int) (hi0 : Int) : Int → St := fun s => [(7, A.val (vint s)), (0, A.val ((slr false 1 vint) (l0))), (1, A.val (vint (lo0))), (2, A.val (vint (hi0)))]
def T_spec_l1Rising_l1 (_l0 : List Int) (_lo0 : Int) (_hi0 : Int) : (Unit ⊕ Unit) → Tgt
  | (.inl _s) => (Ex.ret, [6], [(6, A.val (V.bool (false)))])
  | (.inr _s) => ((Ex.exit 0), [], [])
theorem b_spec_l1Rising_l1 {l0 : List Int} {lo0 : Int} {hi0 : Int} (x7 : Int) (o : Int ⊕ (Unit ⊕ Unit)) (h : F_spec_l1Rising_l1 l0 lo0 hi0 x7 = some o) : vc Try.prog c_spec_l1Rising_l1 (outQ [7, 0, 1, 2] (S_spec_l1Rising_l1 l0 lo0 hi0) (T_spec_l1Rising_l1 l0 lo0 hi0) o) (S_spec_l1Rising_l1 l0 lo0 hi0 x7) := by
  unfold F_spec_l1Rising_l1 at h
  try dsimp only at h
  conv => whnf
  refine Len.map ?_
  conv => whnf
  refine Br.od h (fun p1 h => ?_) (fun p1 h => ?_)
  · conv => whnf
    refine Len.map ?_
    conv => whnf
    refine Ask.o h fun p2 h => ?_
    conv => whnf
    refine Elem.o (by first | omega | (simp only [mulN] at *; omega) | (simp [mulN] at *; omega)) ?_
    conv => whnf
    refine CallP.o V.bool (by first | rfl | simp only [mulN_one, V.fz, fzL, V.up, upL, fzL_map, fz_slr, fz_at, slr, List.cons_append, List.nil_append] | simp [mulN_one, V.fz, fzL, V.up, upL, fzL_map, fz_slr, fz_at, slr]) h (fun r h => t_spec_l1In h) (fun r3 h => ?_)
    conv => whnf
    refine Br.flip ?_
    conv => whnf
    refine Br.ob h (fun p4 h => ?_) (fun p4 h => ?_)
    · conv => whnf
      refine Br.no ?_
      conv => whnf
      refine Br.no ?_
      conv => whnf
      refine Br.od h (fun p5 h => ?_) (fun p5 h => ?_)
      · conv => whnf
        refine Br.yes ?_
        conv => whnf
        refine Br.yes ?_
        conv => whnf
        refine Ask.o h fun p6 h => ?_
        conv => whnf
        refine Br.yes ?_
        conv => whnf
        refine Len.map ?_
        conv => whnf
        refine Ask.o h fun p7 h => ?_
        conv => whnf
        refine Elem.o (by first | omega | (simp only [mulN] at *; omega) | (simp [mulN] at *; omega)) ?_
        conv => whnf
        refine Br.yes ?_
        conv => whnf
        refine Br.yes ?_
        conv => whnf
        refine Br.yes ?_
        conv => whnf
        refine Br.yes ?_
        conv => whnf
        refine Len.map ?_
        conv => whnf
        refine Ask.o h fun p8 h => ?_
        conv => whnf
        refine Elem.o (by first | omega | (simp only [mulN] at *; omega) | (simp [mulN] at *; omega)) ?_
        conv => whnf
        refine Br.yes ?_
        conv => whnf
        refine Br.yes ?_
        conv => whnf
        refine Br.no ?_
        conv => whnf
        refine Br.yes ?_
        conv => whnf
        refine Br.no ?_
        conv => whnf
        refine Br.od h (fun p9 h => ?_) (fun p9 h => ?_)
        · conv => whnf
          cases h; exact ⟨rfl, rfl⟩
        · conv => whnf
          refine Ask.o h fun p10 h => ?_
          conv => whnf
          cases h; exact ⟨rfl, rfl⟩
      · conv => whnf
        refine Br.no ?_
        conv => whnf
        refine Br.no ?_
        conv => whnf
        refine Br.no ?_
        conv => whnf
        refine Br.no ?_
        conv => whnf
        refine Br.no ?_
        conv => whnf
        refine Br.no ?_
        conv => whnf
        refine Br.no ?_
        conv => whnf
        refine Br.no ?_
        conv => whnf
        refine Br.no ?_
        conv => whnf
        refine Br.no ?_
        conv => whnf
        refine Br.no ?_
        conv => whnf
        refine Br.no ?_
        conv => whnf
        refine Br.no ?_
        conv => whnf
        refine Ask.o h fun p11 h => ?_
        conv => whnf
        cases h; exact ⟨rfl, rfl⟩
    · conv => whnf
      refine Br.yes ?_
      conv => whnf
      refine Br.yes ?_
      conv => whnf
      refine Br.yes ?_
      conv => whnf
      refine Br.yes ?_
      conv => whnf
      refine Br.yes ?_
      conv => whnf
      cases h; exact ⟨rfl, rfl⟩
  · conv => whnf
    cases h; exact ⟨rfl, rfl⟩

noncomputable def F_spec_l1Rising (l0 : (List Int)) (lo0 : Int) (hi0 : Int) : Option Bool :=
  (loopO (F_spec_l1Rising_l1 l0 lo0 hi0) (0 : Int)).bind fun t => match t with
  | (.inl _) => (some false)
  | (.inr _) => (some true)
theorem t_spec_l1Rising {l0 : (List Int)} {lo0 : Int} {hi0 : Int} {v : Bool} (h : F_spec_l1Rising l0 lo0 hi0 = some v) : Ret Try.prog f_spec_l1Rising [(slr false 1 vint) l0, vint lo0, vint hi0] (V.bool v) := by
  refine ret_vc k_spec_l1Rising (Nat.le_of_ble_eq_true rfl) ?_
  unfold F_spec_l1Rising at h
  conv => whnf
  refine LoopQ.o [7, 0, 1, 2] (S_spec_l1Rising_l1 l0 lo0 hi0) (T_spec_l1Rising_l1 l0 lo0 hi0) h (fun s o h => b_spec_l1Rising_l1 s o h) (by first | rfl | simp [restrict, look, mulN_one, V.fz, fzL, V.up, upL, fzL_map, fz_slr, fz_at, slr]) (by rintro (_ | _) <;> rfl) ?_
  rintro (⟨⟩ | ⟨⟩) h
  · try dsimp only at h
    conv => whnf
    cases h; exact (by first | rfl | simp only [resV, mulN_one, V.fz, fzL, V.up, upL, fzL_map, fz_slr, fz_at, slr] | simp [resV, mulN_one, V.fz, fzL, V.up, upL, fzL_map, fz_slr, fz_at, slr])
  · try dsimp only at h
    conv => whnf
    cases h; exact (by first | rfl | simp only [resV, mulN_one, V.fz, fzL, V.up, upL, fzL_map, fz_slr, fz_at, slr] | simp [resV, mulN_one, V.fz, fzL, V.up, upL, fzL_map, fz_slr, fz_at, slr])

noncomputable def F_spec_l5Within_l1 (x0 : List Int) (y0 : List Int) : Int → Option (Int ⊕ (Unit ⊕ Unit)) := fun x5 =>
   if x5 < (↑x0.length : Int) then
    ask ((0 : Int) ≤ x5 ∧ x5 < (↑x0.length : Int)) <|
    (F_spec_l1Has (y0) (nth x0 x5.toNat)).bind fun r3 =>
    if (r3) = true then
     ask (InI (x5 + (1 : Int))) <|
     some (.inl (x5 + (1 : Int)))
    else
     some (.inr (.inl ()))
   else
    some (.inr (.inr ()))
def S_spec_l5Within_l1 (x0 : List Int) (y0 : List Int) : Int → St := fun s => [(5, A.val (vint s)), (0, A.val ((slr false 1 vint) (x0))), (1, A.val ((slr false 1 vint) (y0)))]
def T_spec_l5Within_l1 (_x0 : List Int) (_y0 : List Int) : (Unit ⊕ Unit) → Tgt
  | (.inl _s) => (Ex.ret, [4], [(4, A.val (V.bool (false)))])
  | (.inr _s) => ((Ex.exit 0), [], [])
theorem b_spec_l5Within_l1 {x0 : List Int} {y0 : List Int} (x5 : Int) (o : Int ⊕ (Unit ⊕ Unit)) (h : F_spec_l5Within_l1 x0 y0 x5 = some o) : vc Try.prog c_spec_l5Within_l1 (outQ [5, 0, 1] (S_spec_l5Within_l1 x0 y0) (T_spec_l5Within_l1 x0 y0) o) (S_spec_l5Within_l1 x0 y0 x5) := by
  unfold F_spec_l5Within_l1 at h
  try dsimp only at h
  conv => whnf
  refine Len.map ?_
  conv => whnf
  refine Br.od h (fun p1 h => ?_) (fun p1 h => ?_)
  · conv => whnf
    refine Len.map ?_
    conv => whnf
    refine Ask.o h fun p2 h => ?_
    conv => whnf
    refine Elem.o (by first | omega | (simp only [mulN] at *; omega) | (simp [mulN] at *; omega)) ?_
    conv => whnf
    refine CallQ.o V.bool (by first | rfl | simp only [mulN_one, V.fz, fzL, V.up, upL, fzL_map, fz_slr, fz_at, slr, List.cons_append, List.nil_append] | simp [mulN_one, V.fz, fzL, V.up, upL, fzL_map, fz_slr, fz_at, slr]) h (fun r h => t_spec_l1Has h) (fun r3 h => ?_)
    conv => whnf
    refine Br.flip ?_
    conv => whnf
    refine Br.ob h (fun p4 h => ?_) (fun p4 h => ?_)
    · conv => whnf
      refine Ask.o h fun p5 h => ?_
      conv => whnf
      cases h; exact ⟨rfl, rfl⟩
    · conv => whnf
      cases h; exact ⟨rfl, rfl⟩
  · conv => whnf
    cases h; exact ⟨rfl, rfl⟩

noncomputable def F_spec_l5Within (x0 : (List Int)) (y0 : (List Int)) : Option Bool :=
  (loopO (F_spec_l5Within_l1 x0 y0) (0 : Int)).bind fun t => match t with
  | (.inl _) => (some false)
  | (.inr _) => (some true)
theorem t_spec_l5Within {x0 : (List Int)} {y0 : (List Int)} {v : Bool} (h : F_spec_l5Within x0 y0 = some v) : Ret Try.prog f_spec_l5Within [(slr false 1 vint) x0, (slr false 1 vint) y0] (V.bool v) := by
  refine ret_vc k_spec_l5Within (Nat.le_of_ble_eq_true rfl) ?_
  unfold F_spec_l5Within at h
  conv => whnf
  refine LoopQ.o [5, 0, 1] (S_spec_l5Within_l1 x0 y0) (T_spec_l5Within_l1 x0 y0) h (fun s o h => b_spec_l5Within_l1 s o h) (by first | rfl | simp [restrict, look, mulN_one, V.fz, fzL, V.up, upL, fzL_map, fz_slr, fz_at, slr]) (by rintro (_ | _) <;> rfl) ?_
  rintro (⟨⟩ | ⟨⟩) h
  · try dsimp only at h
    conv => whnf
    cases h; exact (by first | rfl | simp only [resV, mulN_one, V.fz, fzL, V.up, upL, fzL_map, fz_slr, fz_at, slr] | simp [resV, mulN_one, V.fz, fzL, V.up, upL, fzL_map, fz_slr, fz_at, slr])
  · try dsimp only at h
    conv => whnf
    cases h; exact (by first | rfl | simp only [resV, mulN_one, V.fz, fzL, V.up, upL, fzL_map, fz_slr, fz_at, slr] | simp [resV, mulN_one, V.fz, fzL, V.up, upL, fzL_map, fz_slr, fz_at, slr])

noncomputable def F_spec_l23Leq (p0 : SPoset) (x0 : Int) (y0 : Int) : Option Bool :=
  ask ((0 : Int) ≤ y0 ∧ y0 < (↑p0.Below.length : Int)) <|
  (F_spec_l1Has (nth p0.Below y0.toNat) (x0)).bind fun r2 =>
  some r2
theorem t_spec_l23Leq {p0 : SPoset} {x0 : Int} {y0 : Int} {v : Bool} (h : F_spec_l23Leq p0 x0 y0 = some v) : Ret Try.prog f_spec_l23Leq [(rS_Poset false) p0, vint x0, vint y0] (V.bool v) := by
  refine ret_vc k_spec_l23Leq (Nat.le_of_ble_eq_true rfl) ?_
  unfold F_spec_l23Leq at h
  conv => whnf
  refine Cells.lit rfl rfl ?_
  conv => whnf
  refine Len.map ?_
  conv => whnf
  refine Ask.o h fun p1 h => ?_
  conv => whnf
  refine Elem.o (by first | omega | (simp only [mulN] at *; omega) | (simp [mulN] at *; omega)) ?_
  conv => whnf
  refine CallQ.o V.bool (by first | rfl | simp only [mulN_one, V.fz, fzL, V.up, upL, fzL_map, fz_slr, fz_at, slr, List.cons_append, List.nil_append] | simp [mulN_one, V.fz, fzL, V.up, upL, fzL_map, fz_slr, fz_at, slr]) h (fun r h => t_spec_l1Has h) (fun r2 h => ?_)
  conv => whnf
  cases h; exact (by first | rfl | simp only [resV, mulN_one, V.fz, fzL, V.up, upL, fzL_map, fz_slr, fz_at, slr] | simp [resV, mulN_one, V.fz, fzL, V.up, upL, fzL_map, fz_slr, fz_at, slr])

noncomputable def F_impl_widthOf_l1 (n0 : Int) : (Int × (List Int)) → Option ((Int × (List Int)) ⊕ (List Int)) := fun (x15, x5) =>
   if x15 < (↑n0.toNat : Int) then
    ask ((0 : Int) ≤ x15 ∧ x15 < (↑x5.length : Int)) <|
    ask (InI (x15 + (1 : Int))) <|
    some (.inl (x15 + (1 : Int), x5.set x15.toNat (-1 : Int)))
   else
    some (.inr x5)
def S_impl_widthOf_l1 (n0 : Int) (f_less0 : Nat) (c_less0 : List V) : (Int × (List Int)) → St := fun s => [(15, A.val (vint s.1)), (14, A.val (vint ((↑n0.toNat : Int)))), (5, A.val ((rP true (slr true 1 vint)) s.2)), (3, A.val (V.ptr true (V.fclo f_less0 c_less0).up)), (2, A.val ((rP true vint) (n0)))]
def T_impl_widthOf_l1 (n0 : Int) (f_less0 : Nat) (c_less0 : List V) : (List Int) → Tgt
  | s => ((Ex.exit 0), [5, 3, 2], [(5, A.val ((rP true (slr true 1 vint)) s)), (3, A.val (V.ptr true (V.fclo f_less0 c_less0).up)), (2, A.val ((rP true vint) (n0)))])
theorem b_impl_widthOf_l1 {n0 : Int} {f_less0 : Nat} {c_less0 : List V} (s : (Int × (List Int))) (o : (Int × (List Int)) ⊕ (List Int)) (h : F_impl_widthOf_l1 n0 s = some o) : vc Try.prog c_impl_widthOf_l1 (outQ [15, 14, 5, 3, 2] (S_impl_widthOf_l1 n0 f_less0 c_less0) (T_impl_widthOf_l1 n0 f_less0 c_less0) o) (S_impl_widthOf_l1 n0 f_less0 c_less0 s) := by
  obtain ⟨x15, x5⟩ := s
  unfold F_impl_widthOf_l1 at h
  try dsimp only at h
  conv => whnf
  refine Br.od h (fun p2 h => ?_) (fun p2 h => ?_)
  · conv => whnf
    refine Cells.lit rfl rfl ?_
    conv => whnf
    refine Kid.lit rfl rfl ?_
    conv => whnf
    refine Len.map ?_
    conv => whnf
    refine Ask.o h fun p3 h => ?_
    conv => whnf
    refine Kid.lit rfl rfl ?_
    conv => whnf
    refine SetKids.one (fun _ => ⟨rfl, rfl⟩) ((-1 : Int)) (by first | rfl | simp only [mulN_one, V.fz, fzL, V.up, upL, fzL_map, fz_slr, fz_at, slr, List.cons_append, List.nil_append] | simp [mulN_one, V.fz, fzL, V.up, upL, fzL_map, fz_slr, fz_at, slr]) (by first | omega | (simp only [mulN] at *; omega) | (simp [mulN] at *; omega)) ?_
    conv => whnf
    refine Kid.lit rfl rfl ?_
    conv => whnf
    refine SetKids.lit rfl ?_
    conv => whnf
    refine Ask.o h fun p4 h => ?_
    conv => whnf
    cases h; exact ⟨rfl, rfl⟩
  · conv => whnf
    cases h; exact ⟨rfl, rfl⟩

noncomputable def F_impl_widthOf_l2 (n0 : Int) (less0 : Int → Int → Option Bool) : (Int × Int × (List Bool) × (List Int)) → Option ((Int × Int × (List Bool) × (List Int)) ⊕ Int) := fun (x10, x9, _x7, x5) =>
   if x10 < n0 then
    ask ((0 : Int) ≤ n0 ∧ n0 ≤ (↑LIM : Int)) <|
    (limO fun n => F_impl_widthOf_1 less0 n (x10) (n0) (List.replicate n0.toNat false) (x5)).bind fun (r8, u9, u10) =>
    if (r8) = true then
     ask (InI (x9 - (1 : Int))) <|
     ask (InI (x10 + (1 : Int))) <|
     some (.inl (x10 + (1 : Int), x9 - (1 : Int), u9, u10))
    else
     ask (InI (x10 + (1 : Int))) <|
     some (.inl (x10 + (1 : Int), x9, u9, u10))
   else
    some (.inr x9)
def S_impl_widthOf_l2 (n0 : Int) (f_less0 : Nat) (c_less0 : List V) : (Int × Int × (List Bool) × (List Int)) → St := fun s => [(10, A.val (vint s.1)), (9, A.val (vint s.2.1)), (8, A.tie false f_impl_widthOf_1 [A.ref (2 : Nat) [], A.ref (7 : Nat) [], A.ref (3 : Nat) [], A.ref (5 : Nat) []] []), (7, A.val ((rP true (slr true 1 V.bool)) s.2.2.1)), (2, A.val ((rP true vint) (n0))), (3, A.val (V.ptr true (V.fclo f_less0 c_less0).up)), (5, A.val ((rP true (slr true 1 vint)) s.2.2.2))]
def T_impl_widthOf_l2 (_n0 : Int) (_f_less0 : Nat) (_c_less0 : List V) : Int → Tgt
  | s => ((Ex.exit 2), [9], [(9, A.val (vint s))])
theorem b_impl_widthOf_l2 {n0 : Int} {less0 : Int → Int → Option Bool} {f_less0 : Nat} {c_less0 : List V} (h_less0 : ∀ w_0 w_1 v, less0 w_0 w_1 = some v → Ret Try.prog f_less0 ([vint w_0, vint w_1] ++ fzL c_less0) (V.bool v)) (s : (Int × Int × (List Bool) × (List Int))) (o : (Int × Int × (List Bool) × (List Int)) ⊕ Int) (h : F_impl_widthOf_l2 n0 less0 s = some o) : vc Try.prog c_impl_widthOf_l2 (outQ [10, 9, 8, 7, 2, 3, 5] (S_impl_widthOf_l2 n0 f_less0 c_less0) (T_impl_widthOf_l2 n0 f_less0 c_less0) o) (S_impl_widthOf_l2 n0 f_less0 c_less0 s) := by
  obtain ⟨x10, x9, x7, x5⟩ := s
  unfold F_impl_widthOf_l2 at h
  try dsimp only at h
  conv => whnf
  refine Cells.lit rfl rfl ?_
  conv => whnf
  refine Br.od h (fun p6 h => ?_) (fun p6 h => ?_)
  · conv => whnf
    refine Cells.lit rfl rfl ?_
    conv => whnf
    refine Ask.o h fun p7 h => ?_
    conv => whnf
    refine MkQ.o V.bool (false) rfl ?_
    conv => whnf
    refine SetKids.lit rfl ?_
    conv => whnf
    refine CallT.io2 V.bool (rP true (slr true 1 V.bool)) (rP true (slr true 1 vint)) (by first | rfl | simp only [mulN_one, V.fz, fzL, V.up, upL, fzL_map, fz_slr, fz_at, slr, List.cons_append, List.nil_append] | simp [mulN_one, V.fz, fzL, V.up, upL, fzL_map, fz_slr, fz_at, slr]) rfl rfl (fun _ => rfl) (fun _ => ⟨by first | rfl | simp [resOk, V.noFz, noFzL_map], rfl⟩) (fun _ => ⟨by first | rfl | simp [resOk, V.noFz, noFzL_map], rfl⟩) rfl rfl h (fun r h => t_impl_widthOf_1 h_less0 h) (fun r8 u9 u10 h => ?_)
    conv => whnf
    refine Br.ob h (fun p11 h => ?_) (fun p11 h => ?_)
    · conv => whnf
      refine Ask.o h fun p12 h => ?_
      conv => whnf
      refine Ask.o h fun p13 h => ?_
      conv => whnf
      cases h; exact ⟨rfl, rfl⟩
    · conv => whnf
      refine Ask.o h fun p14 h => ?_
      conv => whnf
      cases h; exact ⟨rfl, rfl⟩
  · conv => whnf
    cases h; exact ⟨rfl, rfl⟩

noncomputable def F_impl_widthOf (n0 : Int) (less0 : (Int → Int → Option Bool)) : Option Int :=
  ask ((0 : Int) ≤ n0 ∧ n0 ≤ (↑LIM : Int)) <|
  (loopO (F_impl_widthOf_l1 n0) ((0 : Int), List.replicate n0.toNat (0 : Int))).bind fun q5_5 =>
  (loopO (F_impl_widthOf_l2 n0 less0) ((0 : Int), n0, nilL Bool, q5_5)).bind fun q15_9 =>
  some q15_9
theorem t_impl_widthOf {n0 : Int} {less0 : (Int → Int → Option Bool)} {f_less0 : Nat} {c_less0 : List V} (h_less0 : ∀ w_0 w_1 v, less0 w_0 w_1 = some v → Ret Try.prog f_less0 ([vint w_0, vint w_1] ++ fzL c_less0) (V.bool v)) {v : Int} (h : F_impl_widthOf n0 less0 = some v) : Ret Try.prog f_impl_widthOf [vint n0, V.fclo f_less0 c_less0] (vint v) := by
  refine ret_vc k_impl_widthOf (Nat.le_of_ble_eq_true rfl) ?_
  unfold F_impl_widthOf at h
  conv => whnf
  refine Cells.lit rfl rfl ?_
  conv => whnf
  refine Ask.o h fun p1 h => ?_
  conv => whnf
  refine MkQ.o vint ((0 : Int)) rfl ?_
  conv => whnf
  refine SetKids.lit rfl ?_
  conv => whnf
  refine Cells.lit rfl rfl ?_
  conv => whnf
  refine Kid.lit rfl rfl ?_
  conv => whnf
  refine Len.mrep ?_
  conv => whnf
  refine LoopQ.o [15, 14, 5, 3, 2] (S_impl_widthOf_l1 n0 f_less0 c_less0) (T_impl_widthOf_l1 n0 f_less0 c_less0) h (fun s o h => b_impl_widthOf_l1 s o h) (by first | rfl | simp [restrict, look, mulN_one, V.fz, fzL, V.up, upL, fzL_map, fz_slr, fz_at, slr]) (fun _ => rfl) ?_
  rintro q5_5 h
  try dsimp only at h
  conv => whnf
  refine Cells.lit rfl rfl ?_
  conv => whnf
  refine LoopQ.o [10, 9, 8, 7, 2, 3, 5] (S_impl_widthOf_l2 n0 f_less0 c_less0) (T_impl_widthOf_l2 n0 f_less0 c_less0) h (fun s o h => b_impl_widthOf_l2 h_less0 s o h) (by first | rfl | simp [restrict, look, mulN_one, V.fz, fzL, V.up, upL, fzL_map, fz_slr, fz_at, slr]) (fun _ => rfl) ?_
  rintro q15_9 h
  try dsimp only at h
  conv => whnf
  cases h; exact (by first | rfl | simp only [resV, mulN_one, V.fz, fzL, V.up, upL, fzL_map, fz_slr, fz_at, slr] | simp [resV, mulN_one, V.fz, fzL, V.up, upL, fzL_map, fz_slr, fz_at, slr])

noncomputable def F_impl_order_fewest_1 (x0 : Int) (y0 : Int) (a2 : (List Int)) (a3 : (List (List Bool))) : Option Bool :=
  ask ((0 : Int) ≤ x0 ∧ x0 < (↑a2.length : Int)) <|
  if nth a2 x0.toNat ≠ (-2 : Int) then
   ask ((0 : Int) ≤ x0 ∧ x0 < (↑a2.length : Int)) <|
   some (nth a2 x0.toNat == y0)
  else
   (F_impl_order_less (a3) (x0) (y0)).bind fun r4 =>
   some r4
theorem t_impl_order_fewest_1 {x0 : Int} {y0 : Int} {a2 : (List Int)} {a3 : (List (List Bool))} {v : Bool} (h : F_impl_order_fewest_1 x0 y0 a2 a3 = some v) : Ret Try.prog f_impl_order_fewest_1 [vint x0, vint y0, (rP false (slr false 1 vint)) a2, (rP false (slr false 1 (slr false 1 V.bool))) a3] (V.bool v) := by
  refine ret_vc k_impl_order_fewest_1 (Nat.le_of_ble_eq_true rfl) ?_
  unfold F_impl_order_fewest_1 at h
  conv => whnf
  refine Len.map ?_
  conv => whnf
  refine Ask.o h fun p1 h => ?_
  conv => whnf
  refine Elem.o (by first | omega | (simp only [mulN] at *; omega) | (simp [mulN] at *; omega)) ?_
  conv => whnf
  refine Br.on h (fun p2 h => ?_) (fun p2 h => ?_)
  · conv => whnf
    refine Len.map ?_
    conv => whnf
    refine Ask.o h fun p3 h => ?_
    conv => whnf
    refine Elem.o (by first | omega | (simp only [mulN] at *; omega) | (simp [mulN] at *; omega)) ?_
    conv => whnf
    cases h; exact (by first | rfl | simp only [resV, mulN_one, V.fz, fzL, V.up, upL, fzL_map, fz_slr, fz_at, slr] | simp [resV, mulN_one, V.fz, fzL, V.up, upL, fzL_map, fz_slr, fz_at, slr])
  · conv => whnf
    refine CallQ.o V.bool (by first | rfl | simp only [mulN_one, V.fz, fzL, V.up, upL, fzL_map, fz_slr, fz_at, slr, List.cons_append, List.nil_append] | simp [mulN_one, V.fz, fzL, V.up, upL, fzL_map, fz_slr, fz_at, slr]) h (fun r h => t_impl_order_less h) (fun r4 h => ?_)
    conv => whnf
    cases h; exact (by first | rfl | simp only [resV, mulN_one, V.fz, fzL, V.up, upL, fzL_map, fz_slr, fz_at, slr] | simp [resV, mulN_one, V.fz, fzL, V.up, upL, fzL_map, fz_slr, fz_at, slr])

noncomputable def F_laws_szPoset (a0 : SPoset) (left0 : Int) : Option Int :=
  (F_laws_szIntSS (a0.Below) (left0)).bind fun r1 =>
  if r1 < (0 : Int) then
   some (-1 : Int)
  else
   some r1
theorem t_laws_szPoset {a0 : SPoset} {left0 : Int} {v : Int} (h : F_laws_szPoset a0 left0 = some v) : Ret Try.prog f_laws_szPoset [(rS_Poset false) a0, vint left0] (vint v) := by
  refine ret_vc k_laws_szPoset (Nat.le_of_ble_eq_true rfl) ?_
  unfold F_laws_szPoset at h
  conv => whnf
  refine Cells.lit rfl rfl ?_
  conv => whnf
  refine CallQ.o vint (by first | rfl | simp only [mulN_one, V.fz, fzL, V.up, upL, fzL_map, fz_slr, fz_at, slr, List.cons_append, List.nil_append] | simp [mulN_one, V.fz, fzL, V.up, upL, fzL_map, fz_slr, fz_at, slr]) h (fun r h => t_laws_szIntSS h) (fun r1 h => ?_)
  conv => whnf
  refine Br.od h (fun p2 h => ?_) (fun p2 h => ?_)
  · conv => whnf
    cases h; exact (by first | rfl | simp only [resV, mulN_one, V.fz, fzL, V.up, upL, fzL_map, fz_slr, fz_at, slr] | simp [resV, mulN_one, V.fz, fzL, V.up, upL, fzL_map, fz_slr, fz_at, slr])
  · conv => whnf
    cases h; exact (by first | rfl | simp only [resV, mulN_one, V.fz, fzL, V.up, upL, fzL_map, fz_slr, fz_at, slr] | simp [resV, mulN_one, V.fz, fzL, V.up, upL, fzL_map, fz_slr, fz_at, slr])

noncomputable def F_laws_toPoset (a0 : SPoset) : Option SPoset :=
  (F_laws_toIntSS (a0.Below)).bind fun r1 =>
  some ({ Below := r1 })
theorem t_laws_toPoset {a0 : SPoset} {v : SPoset} (h : F_laws_toPoset a0 = some v) : Ret Try.prog f_laws_toPoset [(rS_Poset false) a0] ((rS_Poset true) v) := by
  refine ret_vc k_laws_toPoset (Nat.le_of_ble_eq_true rfl) ?_
  unfold F_laws_toPoset at h
  conv => whnf
  refine Cells.lit rfl rfl ?_
  conv => whnf
  refine CallQ.o (slr true 1 (slr true 1 vint)) (by first | rfl | simp only [mulN_one, V.fz, fzL, V.up, upL, fzL_map, fz_slr, fz_at, slr, List.cons_append, List.nil_append] | simp [mulN_one, V.fz, fzL, V.up, upL, fzL_map, fz_slr, fz_at, slr]) h (fun r h => t_laws_toIntSS h) (fun r1 h => ?_)
  conv => whnf
  refine SetKids.lit rfl ?_
  conv => whnf
  refine Cells.lit rfl rfl ?_
  conv => whnf
  refine SetKids.lit rfl ?_
  conv => whnf
  cases h; exact (by first | rfl | simp only [resV, mulN_one, V.fz, fzL, V.up, upL, fzL_map, fz_slr, fz_at, slr] | simp [resV, mulN_one, V.fz, fzL, V.up, upL, fzL_map, fz_slr, fz_at, slr])

noncomputable def F_laws_eqPoset (a0 : SPoset) (b0 : SPoset) : Option Bool :=
  (F_laws_eqIntSS (a0.Below) (b0.Below)).bind fun r1 =>
  if (r1) = true then
   some true
  else
   some false
theorem t_laws_eqPoset {a0 : SPoset} {b0 : SPoset} {v : Bool} (h : F_laws_eqPoset a0 b0 = some v) : Ret Try.prog f_laws_eqPoset [(rS_Poset false) a0, (rS_Poset false) b0] (V.bool v) := by
  refine ret_vc k_laws_eqPoset (Nat.le_of_ble_eq_true rfl) ?_
  unfold F_laws_eqPoset at h
  conv => whnf
  refine Cells.lit rfl rfl ?_
  conv => whnf
  refine Cells.lit rfl rfl ?_
  conv => whnf
  refine CallQ.o V.bool (by first | rfl | simp only [mulN_one, V.fz, fzL, V.up, upL, fzL_map, fz_slr, fz_at, slr, List.cons_append, List.nil_append] | simp [mulN_one, V.fz, fzL, V.up, upL, fzL_map, fz_slr, fz_at, slr]) h (fun r h => t_laws_eqIntSS h) (fun r1 h => ?_)
  conv => whnf
  refine Br.flip ?_
  conv => whnf
  refine Br.ob h (fun p2 h => ?_) (fun p2 h => ?_)
  · conv => whnf
    cases h; exact (by first | rfl | simp only [resV, mulN_one, V.fz, fzL, V.up, upL, fzL_map, fz_slr, fz_at, slr] | simp [resV, mulN_one, V.fz, fzL, V.up, upL, fzL_map, fz_slr, fz_at, slr])
  · conv => whnf
    cases h; exact (by first | rfl | simp only [resV, mulN_one, V.fz, fzL, V.up, upL, fzL_map, fz_slr, fz_at, slr] | simp [resV, mulN_one, V.fz, fzL, V.up, upL, fzL_map, fz_slr, fz_at, slr])

noncomputable def F_laws_markPoset (a0 : SPoset) (k0 : Int) : Option (Int × SPoset) :=
  (F_laws_markIntSS (a0.Below) (k0)).bind fun (r1, u2) =>
  some (r1, { Below := u2 })
theorem t_laws_markPoset {a0 : SPoset} {k0 : Int} {v : (Int × SPoset)} (h : F_laws_markPoset a0 k0 = some v) : RetO Try.prog f_laws_markPoset [(rS_Poset true) a0, vint k0] (vint v.1) 0 ((rS_Poset true) v.2) := by
  refine reto_vc k_laws_markPoset (Nat.le_of_ble_eq_true rfl) ?_
  unfold F_laws_markPoset at h
  conv => whnf
  refine Cells.lit rfl rfl ?_
  conv => whnf
  refine Kid.lit rfl rfl ?_
  conv => whnf
  refine CallQ.io vint (slr true 1 (slr true 1 vint)) (by first | rfl | simp only [mulN_one, V.fz, fzL, V.up, upL, fzL_map, fz_slr, fz_at, slr, List.cons_append, List.nil_append] | simp [mulN_one, V.fz, fzL, V.up, upL, fzL_map, fz_slr, fz_at, slr]) rfl (fun _ => rfl) (fun _ => ⟨rfl, rfl⟩) rfl h (fun r h => t_laws_markIntSS h) (fun r1 u2 h => ?_)
  conv => whnf
  refine Kid.lit rfl rfl ?_
  conv => whnf
  refine SetKids.lit rfl ?_
  conv => whnf
  cases h; exact ⟨(by first | rfl | simp only [resV, mulN_one, V.fz, fzL, V.up, upL, fzL_map, fz_slr, fz_at, slr] | simp [resV, mulN_one, V.fz, fzL, V.up, upL, fzL_map, fz_slr, fz_at, slr]), (by first | rfl | simp only [resV, mulN_one, V.fz, fzL, V.up, upL, fzL_map, fz_slr, fz_at, slr] | simp [resV, mulN_one, V.fz, fzL, V.up, upL, fzL_map, fz_slr, fz_at, slr])⟩

end Go.Proofs.Ytpfikenknmlajaa.Ax
