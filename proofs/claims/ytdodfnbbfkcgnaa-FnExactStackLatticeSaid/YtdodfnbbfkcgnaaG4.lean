/-
  What the functions compute, as functions on plain data, and that the program does compute it; written by program.
-/
import Derived.Test.YtdodfnbbfkcgnaaCode
import Derived.Test.YtdodfnbbfkcgnaaG1
import Derived.Test.YtdodfnbbfkcgnaaG2
import Derived.Test.YtdodfnbbfkcgnaaG3
namespace Go.Proofs.Ytdodfnbbfkcgnaa.Ax
open Go
set_option maxRecDepth 100000
set_option maxHeartbeats 4000000

noncomputable def F_laws_heldOpS_l1 (a0 : List SOp) : (Int × Int) → Option ((Int × Int) ⊕ (Unit ⊕ Int)) := fun (x5, x1) =>
   if x5 < (↑a0.length : Int) then
    ask ((0 : Int) ≤ x5 ∧ x5 < (↑a0.length : Int)) <|
    if (nth a0 x5.toNat).Arity ≠ x1 then
     some (.inr (.inl ()))
    else
     ask (InI (x1 + (1 : Int))) <|
     ask ((0 : Int) ≤ x5 ∧ x5 < (↑a0.length : Int)) <|
     (F_laws_heldIntS ((nth a0 x5.toNat).Table) (x1 + (1 : Int))).bind fun r6 =>
     if r6 < (0 : Int) then
      some (.inr (.inl ()))
     else
      ask (InI (x5 + (1 : Int))) <|
      some (.inl (x5 + (1 : Int), r6))
   else
    some (.inr (.inr x1))
def S_laws_heldOpS_l1 (a0 : List SOp) : (Int × Int) → St := fun s => [(5, A.val (vint s.1)), (0, A.val ((slr false 2 (rS_Op false)) (a0))), (1, A.val (vint s.2))]
def T_laws_heldOpS_l1 (_a0 : List SOp) : (Unit ⊕ Int) → Tgt
  | (.inl _s) => (Ex.ret, [4], [(4, A.val (vint ((-1 : Int))))])
  | (.inr s) => ((Ex.exit 0), [1], [(1, A.val (vint s))])
theorem b_laws_heldOpS_l1 {a0 : List SOp} (s : (Int × Int)) (o : (Int × Int) ⊕ (Unit ⊕ Int)) (h : F_laws_heldOpS_l1 a0 s = some o) : vc Try.prog c_laws_heldOpS_l1 (outQ [5, 0, 1] (S_laws_heldOpS_l1 a0) (T_laws_heldOpS_l1 a0) o) (S_laws_heldOpS_l1 a0 s) := by
  obtain ⟨x5, x1⟩ := s
  unfold F_laws_heldOpS_l1 at h
  try dsimp only at h
  conv => whnf
  refine Len.map ?_
  conv => whnf
  refine Br.od h (fun p1 h => ?_) (fun p1 h => ?_)
  · conv => whnf
    refine Len.map ?_
    conv => whnf
    refine Ask.o h fun p2 h => ?_
    conv => whnf
    refine Elem.o (by first | omega | (simp only [mulN] at *; omega) | (simp [mulN] at *; omega)) ?_
    conv => whnf
    refine Br.on h (fun p3 h => ?_) (fun p3 h => ?_)
    · conv => whnf
      cases h; exact ⟨rfl, rfl⟩
    · conv => whnf
      refine Ask.o h fun p4 h => ?_
      conv => whnf
      refine Len.map ?_
      conv => whnf
      refine Ask.o h fun p5 h => ?_
      conv => whnf
      refine Elem.o (by first | omega | (simp only [mulN] at *; omega) | (simp [mulN] at *; omega)) ?_
      conv => whnf
      refine CallQ.o vint (by first | rfl | simp only [mulN_one, V.fz, fzL, V.up, upL, fzL_map, fz_slr, fz_at, slr, List.cons_append, List.nil_append] | simp [mulN_one, V.fz, fzL, V.up, upL, fzL_map, fz_slr, fz_at, slr]) h (fun r h => t_laws_heldIntS h) (fun r6 h => ?_)
      conv => whnf
      refine Br.od h (fun p7 h => ?_) (fun p7 h => ?_)
      · conv => whnf
        cases h; exact ⟨rfl, rfl⟩
      · conv => whnf
        refine Ask.o h fun p8 h => ?_
        conv => whnf
        cases h; exact ⟨rfl, rfl⟩
  · conv => whnf
    cases h; exact ⟨rfl, rfl⟩

noncomputable def F_laws_heldOpS (a0 : (List SOp)) (k0 : Int) : Option Int :=
  (loopO (F_laws_heldOpS_l1 a0) ((0 : Int), k0)).bind fun t => match t with
  | (.inl _) => (some (-1 : Int))
  | (.inr q9_1) => (some q9_1)
theorem t_laws_heldOpS {a0 : (List SOp)} {k0 : Int} {v : Int} (h : F_laws_heldOpS a0 k0 = some v) : Ret Try.prog f_laws_heldOpS [(slr false 2 (rS_Op false)) a0, vint k0] (vint v) := by
  refine ret_vc k_laws_heldOpS (Nat.le_of_ble_eq_true rfl) ?_
  unfold F_laws_heldOpS at h
  conv => whnf
  refine LoopQ.o [5, 0, 1] (S_laws_heldOpS_l1 a0) (T_laws_heldOpS_l1 a0) h (fun s o h => b_laws_heldOpS_l1 s o h) (by first | rfl | simp [restrict, look, mulN_one, V.fz, fzL, V.up, upL, fzL_map, fz_slr, fz_at, slr]) (by rintro (_ | _) <;> rfl) ?_
  rintro (⟨⟩ | q9_1) h
  · try dsimp only at h
    conv => whnf
    cases h; exact (by first | rfl | simp only [resV, mulN_one, V.fz, fzL, V.up, upL, fzL_map, fz_slr, fz_at, slr] | simp [resV, mulN_one, V.fz, fzL, V.up, upL, fzL_map, fz_slr, fz_at, slr])
  · try dsimp only at h
    conv => whnf
    cases h; exact (by first | rfl | simp only [resV, mulN_one, V.fz, fzL, V.up, upL, fzL_map, fz_slr, fz_at, slr] | simp [resV, mulN_one, V.fz, fzL, V.up, upL, fzL_map, fz_slr, fz_at, slr])

noncomputable def F_impl_orderOf_l1 (p0 : SPoset) (x20 : Int) : (Int × (List (List Bool))) → Option ((Int × (List (List Bool))) ⊕ (List (List Bool))) := fun (x36, x5') =>
   if x36 < (↑(nth p0.Below x20.toNat).length : Int) then
    ask ((0 : Int) ≤ x36 ∧ x36 < (↑(nth p0.Below x20.toNat).length : Int)) <|
    ask ((0 : Int) ≤ nth (nth p0.Below x20.toNat) x36.toNat ∧ nth (nth p0.Below x20.toNat) x36.toNat < (↑x5'.length : Int)) <|
    ask ((0 : Int) ≤ x20 ∧ x20 < (↑(nth x5' (nth (nth p0.Below x20.toNat) x36.toNat).toNat).length : Int)) <|
    ask (InI (x36 + (1 : Int))) <|
    some (.inl (x36 + (1 : Int), x5'.set (nth (nth p0.Below x20.toNat) x36.toNat).toNat ((nth x5' (nth (nth p0.Below x20.toNat) x36.toNat).toNat).set x20.toNat true)))
   else
    some (.inr x5')
def S_impl_orderOf_l1 (p0 : SPoset) (x20 : Int) : (Int × (List (List Bool))) → St := fun s => [(36, A.val (vint s.1)), (35, A.val (vint ((↑(nth p0.Below x20.toNat).length : Int)))), (34, A.val ((slr false 1 vint) (nth p0.Below x20.toNat))), (6, A.val (vint (x20))), (20, A.val (vint (x20))), (19, A.val (vint ((↑p0.Below.length : Int)))), (18, A.val ((slr false 1 (slr false 1 vint)) (p0.Below))), (5, A.val ((slr true 1 (slr true 1 V.bool)) s.2)), (4, A.val (vint ((↑p0.Below.length : Int))))]
def T_impl_orderOf_l1 (p0 : SPoset) (x20 : Int) : (List (List Bool)) → Tgt
  | s => ((Ex.exit 2), [20, 19, 18, 5, 4], [(20, A.val (vint (x20))), (19, A.val (vint ((↑p0.Below.length : Int)))), (18, A.val ((slr false 1 (slr false 1 vint)) (p0.Below))), (5, A.val ((slr true 1 (slr true 1 V.bool)) s)), (4, A.val (vint ((↑p0.Below.length : Int))))])
theorem b_impl_orderOf_l1 {p0 : SPoset} {x20 : Int} (s : (Int × (List (List Bool)))) (o : (Int × (List (List Bool))) ⊕ (List (List Bool))) (h : F_impl_orderOf_l1 p0 x20 s = some o) : vc Try.prog c_impl_orderOf_l1 (outQ [36, 35, 34, 6, 20, 19, 18, 5, 4] (S_impl_orderOf_l1 p0 x20) (T_impl_orderOf_l1 p0 x20) o) (S_impl_orderOf_l1 p0 x20 s) := by
  obtain ⟨x36, x5'⟩ := s
  unfold F_impl_orderOf_l1 at h
  try dsimp only at h
  conv => whnf
  refine Br.od h (fun p10 h => ?_) (fun p10 h => ?_)
  · conv => whnf
    refine Len.map ?_
    conv => whnf
    refine Ask.o h fun p11 h => ?_
    conv => whnf
    refine Elem.o (by first | omega | (simp only [mulN] at *; omega) | (simp [mulN] at *; omega)) ?_
    conv => whnf
    refine Len.map ?_
    conv => whnf
    refine Ask.o h fun p12 h => ?_
    conv => whnf
    refine Cells.one (fun _ => ⟨rfl, rfl⟩) (by first | omega | (simp only [mulN] at *; omega) | (simp [mulN] at *; omega)) ?_
    conv => whnf
    refine Kid.one (fun _ => ⟨rfl, rfl⟩) (by first | omega | (simp only [mulN] at *; omega) | (simp [mulN] at *; omega)) ?_
    conv => whnf
    refine Len.map ?_
    conv => whnf
    refine Ask.o h fun p13 h => ?_
    conv => whnf
    refine Kid.one (fun _ => ⟨rfl, rfl⟩) (by first | omega | (simp only [mulN] at *; omega) | (simp [mulN] at *; omega)) ?_
    conv => whnf
    refine SetKids.one (fun _ => ⟨rfl, rfl⟩) (true) (by first | rfl | simp only [mulN_one, V.fz, fzL, V.up, upL, fzL_map, fz_slr, fz_at, slr, List.cons_append, List.nil_append] | simp [mulN_one, V.fz, fzL, V.up, upL, fzL_map, fz_slr, fz_at, slr]) (by first | omega | (simp only [mulN] at *; omega) | (simp [mulN] at *; omega)) ?_
    conv => whnf
    refine Kid.one (fun _ => ⟨rfl, rfl⟩) (by first | omega | (simp only [mulN] at *; omega) | (simp [mulN] at *; omega)) ?_
    conv => whnf
    refine SetKids.one (fun _ => ⟨rfl, rfl⟩) ((nth x5' (nth (nth p0.Below x20.toNat) x36.toNat).toNat).set x20.toNat true) (by first | rfl | simp only [mulN_one, V.fz, fzL, V.up, upL, fzL_map, fz_slr, fz_at, slr, List.cons_append, List.nil_append] | simp [mulN_one, V.fz, fzL, V.up, upL, fzL_map, fz_slr, fz_at, slr]) (by first | omega | (simp only [mulN] at *; omega) | (simp [mulN] at *; omega)) ?_
    conv => whnf
    refine Ask.o h fun p14 h => ?_
    conv => whnf
    cases h; exact ⟨rfl, rfl⟩
  · conv => whnf
    cases h; exact ⟨rfl, rfl⟩

noncomputable def F_impl_orderOf_l2 (p0 : SPoset) : (Int × (List (List Bool))) → Option ((Int × (List (List Bool))) ⊕ (Unit ⊕ (List (List Bool)))) := fun (x20, x5) =>
   if x20 < (↑p0.Below.length : Int) then
    ask ((0 : Int) ≤ x20 ∧ x20 < (↑p0.Below.length : Int)) <|
    (((F_impl_rises (nth p0.Below x20.toNat)).bind fun r5 =>
       if (r5) = true then
        (F_impl_inSize (nth p0.Below x20.toNat) ((↑p0.Below.length : Int))).bind fun r7 =>
        if (r7) = true then
         some (.inl ())
        else
         some (.inr ())
       else
        some (.inr ()) : Option (Unit ⊕ Unit))).bind fun t => match t with
    | (.inl _) => ((loopO (F_impl_orderOf_l1 p0 x20) ((0 : Int), x5)).bind fun q15_5 =>
      ask (InI (x20 + (1 : Int))) <|
      some (.inl (x20 + (1 : Int), q15_5)))
    | (.inr _) => (some (.inr (.inl ())))
   else
    some (.inr (.inr x5))
def S_impl_orderOf_l2 (p0 : SPoset) : (Int × (List (List Bool))) → St := fun s => [(20, A.val (vint s.1)), (19, A.val (vint ((↑p0.Below.length : Int)))), (18, A.val ((slr false 1 (slr false 1 vint)) (p0.Below))), (5, A.val ((slr true 1 (slr true 1 V.bool)) s.2)), (4, A.val (vint ((↑p0.Below.length : Int))))]
def T_impl_orderOf_l2 (_p0 : SPoset) : (Unit ⊕ (List (List Bool))) → Tgt
  | (.inl _s) => (Ex.ret, [3, 2], [(3, A.val (V.bool (false))), (2, A.val ((slr true 1 (slr true 1 V.bool)) (nilL (List Bool))))])
  | (.inr s) => ((Ex.exit 0), [5], [(5, A.val ((slr true 1 (slr true 1 V.bool)) s))])
theorem b_impl_orderOf_l2 {p0 : SPoset} (s : (Int × (List (List Bool)))) (o : (Int × (List (List Bool))) ⊕ (Unit ⊕ (List (List Bool)))) (h : F_impl_orderOf_l2 p0 s = some o) : vc Try.prog c_impl_orderOf_l2 (outQ [20, 19, 18, 5, 4] (S_impl_orderOf_l2 p0) (T_impl_orderOf_l2 p0) o) (S_impl_orderOf_l2 p0 s) := by
  obtain ⟨x20, x5⟩ := s
  unfold F_impl_orderOf_l2 at h
  try dsimp only at h
  conv => whnf
  refine Br.od h (fun p3 h => ?_) (fun p3 h => ?_)
  · conv => whnf
    refine Len.map ?_
    conv => whnf
    refine Ask.o h fun p4 h => ?_
    conv => whnf
    refine Elem.o (by first | omega | (simp only [mulN] at *; omega) | (simp [mulN] at *; omega)) ?_
    conv => whnf
    refine CutQ.o (fun t : (Unit ⊕ Unit) => match t with | (.inl s) => (Ex.normal, [7, 6, 20, 19, 18, 5, 4], [(7, A.val ((slr false 1 vint) (nth p0.Below x20.toNat))), (6, A.val (vint (x20))), (20, A.val (vint (x20))), (19, A.val (vint ((↑p0.Below.length : Int)))), (18, A.val ((slr false 1 (slr false 1 vint)) (p0.Below))), (5, A.val ((slr true 1 (slr true 1 V.bool)) (x5))), (4, A.val (vint ((↑p0.Below.length : Int))))]) | (.inr s) => (Ex.ret, [3, 2], [(3, A.val (V.bool (false))), (2, A.val ((slr true 1 (slr true 1 V.bool)) (nilL (List Bool))))])) h ?_ ?_
    · intro t h
      conv => whnf
      refine CallQ.o V.bool (by first | rfl | simp only [mulN_one, V.fz, fzL, V.up, upL, fzL_map, fz_slr, fz_at, slr, List.cons_append, List.nil_append] | simp [mulN_one, V.fz, fzL, V.up, upL, fzL_map, fz_slr, fz_at, slr]) h (fun r h => t_impl_rises h) (fun r5 h => ?_)
      conv => whnf
      refine Br.flip ?_
      conv => whnf
      refine Br.ob h (fun p6 h => ?_) (fun p6 h => ?_)
      · conv => whnf
        refine Br.no ?_
        conv => whnf
        refine Br.no ?_
        conv => whnf
        refine CallQ.o V.bool (by first | rfl | simp only [mulN_one, V.fz, fzL, V.up, upL, fzL_map, fz_slr, fz_at, slr, List.cons_append, List.nil_append] | simp [mulN_one, V.fz, fzL, V.up, upL, fzL_map, fz_slr, fz_at, slr]) h (fun r h => t_impl_inSize h) (fun r7 h => ?_)
        conv => whnf
        refine Br.no ?_
        conv => whnf
        refine Br.no ?_
        conv => whnf
        refine Br.flip ?_
        conv => whnf
        refine Br.ob h (fun p8 h => ?_) (fun p8 h => ?_)
        · conv => whnf
          cases h; exact ⟨rfl, rfl⟩
        · conv => whnf
          cases h; exact ⟨rfl, rfl⟩
      · conv => whnf
        refine Br.yes ?_
        conv => whnf
        refine Br.yes ?_
        conv => whnf
        refine Br.yes ?_
        conv => whnf
        refine Br.yes ?_
        conv => whnf
        refine Br.yes ?_
        conv => whnf
        cases h; exact ⟨rfl, rfl⟩
    · rintro (⟨⟩ | ⟨⟩) h
      · try dsimp only at h
        conv => whnf
        refine Len.map ?_
        conv => whnf
        refine LoopQ.o [36, 35, 34, 6, 20, 19, 18, 5, 4] (S_impl_orderOf_l1 p0 x20) (T_impl_orderOf_l1 p0 x20) h (fun s o h => b_impl_orderOf_l1 s o h) (by first | rfl | simp [restrict, look, mulN_one, V.fz, fzL, V.up, upL, fzL_map, fz_slr, fz_at, slr]) (fun _ => rfl) ?_
        rintro q15_5 h
        try dsimp only at h
        conv => whnf
        refine Ask.o h fun p16 h => ?_
        conv => whnf
        cases h; exact ⟨rfl, rfl⟩
      · try dsimp only at h
        conv => whnf
        cases h; exact ⟨rfl, rfl⟩
  · conv => whnf
    cases h; exact ⟨rfl, rfl⟩

noncomputable def F_impl_orderOf (p0 : SPoset) : Option ((List (List Bool)) × Bool) :=
  if (↑p0.Below.length : Int) > (10 : Int) then
   some (nilL (List Bool), false)
  else
   (F_impl_newOrder ((↑p0.Below.length : Int))).bind fun r2 =>
   (loopO (F_impl_orderOf_l2 p0) ((0 : Int), r2)).bind fun t => match t with
   | (.inl _) => (some (nilL (List Bool), false))
   | (.inr q17_5) => ((F_impl_order_isOrder (q17_5)).bind fun r18 =>
     some (q17_5, r18))
theorem t_impl_orderOf {p0 : SPoset} {v : ((List (List Bool)) × Bool)} (h : F_impl_orderOf p0 = some v) : Ret Try.prog f_impl_orderOf [(rS_Poset false) p0] ((fun r => V.tup [(slr true 1 (slr true 1 V.bool)) r.1, V.bool r.2]) v) := by
  refine ret_vc k_impl_orderOf (Nat.le_of_ble_eq_true rfl) ?_
  unfold F_impl_orderOf at h
  conv => whnf
  refine Cells.lit rfl rfl ?_
  conv => whnf
  refine Len.map ?_
  conv => whnf
  refine Br.od h (fun p1 h => ?_) (fun p1 h => ?_)
  · conv => whnf
    cases h; exact (by first | rfl | simp only [resV, mulN_one, V.fz, fzL, V.up, upL, fzL_map, fz_slr, fz_at, slr] | simp [resV, mulN_one, V.fz, fzL, V.up, upL, fzL_map, fz_slr, fz_at, slr])
  · conv => whnf
    refine CallQ.o (slr true 1 (slr true 1 V.bool)) (by first | rfl | simp only [mulN_one, V.fz, fzL, V.up, upL, fzL_map, fz_slr, fz_at, slr, List.cons_append, List.nil_append] | simp [mulN_one, V.fz, fzL, V.up, upL, fzL_map, fz_slr, fz_at, slr]) h (fun r h => t_impl_newOrder h) (fun r2 h => ?_)
    conv => whnf
    refine Cells.lit rfl rfl ?_
    conv => whnf
    refine Len.map ?_
    conv => whnf
    refine LoopQ.o [20, 19, 18, 5, 4] (S_impl_orderOf_l2 p0) (T_impl_orderOf_l2 p0) h (fun s o h => b_impl_orderOf_l2 s o h) (by first | rfl | simp [restrict, look, mulN_one, V.fz, fzL, V.up, upL, fzL_map, fz_slr, fz_at, slr]) (by rintro (_ | _) <;> rfl) ?_
    rintro (⟨⟩ | q17_5) h
    · try dsimp only at h
      conv => whnf
      cases h; exact (by first | rfl | simp only [resV, mulN_one, V.fz, fzL, V.up, upL, fzL_map, fz_slr, fz_at, slr] | simp [resV, mulN_one, V.fz, fzL, V.up, upL, fzL_map, fz_slr, fz_at, slr])
    · try dsimp only at h
      conv => whnf
      refine CallQ.rd V.bool (by first | rfl | simp only [V.fz, fzL_map, slr] | simp [mulN_one, V.fz, fzL, V.up, upL, fzL_map, fz_slr, fz_at, slr]) (fun _ => rfl) h (fun r h => t_impl_order_isOrder h) (fun r18 h => ?_)
      conv => whnf
      cases h; exact (by first | rfl | simp only [resV, mulN_one, V.fz, fzL, V.up, upL, fzL_map, fz_slr, fz_at, slr] | simp [resV, mulN_one, V.fz, fzL, V.up, upL, fzL_map, fz_slr, fz_at, slr])

noncomputable def F_impl_order_has (o0 : (List (List Bool))) (list0 : (List Int)) : Option Bool :=
  (F_impl_inSize (list0) ((↑o0.length : Int))).bind fun r1 =>
  some r1
theorem t_impl_order_has {o0 : (List (List Bool))} {list0 : (List Int)} {v : Bool} (h : F_impl_order_has o0 list0 = some v) : Ret Try.prog f_impl_order_has [(slr false 1 (slr false 1 V.bool)) o0, (slr false 1 vint) list0] (V.bool v) := by
  refine ret_vc k_impl_order_has (Nat.le_of_ble_eq_true rfl) ?_
  unfold F_impl_order_has at h
  conv => whnf
  refine Len.map ?_
  conv => whnf
  refine CallQ.o V.bool (by first | rfl | simp only [mulN_one, V.fz, fzL, V.up, upL, fzL_map, fz_slr, fz_at, slr, List.cons_append, List.nil_append] | simp [mulN_one, V.fz, fzL, V.up, upL, fzL_map, fz_slr, fz_at, slr]) h (fun r h => t_impl_inSize h) (fun r1 h => ?_)
  conv => whnf
  cases h; exact (by first | rfl | simp only [resV, mulN_one, V.fz, fzL, V.up, upL, fzL_map, fz_slr, fz_at, slr] | simp [resV, mulN_one, V.fz, fzL, V.up, upL, fzL_map, fz_slr, fz_at, slr])

noncomputable def F_impl_lattice_generated_l1 (l0 : Slattice) (r3 : List Int) (x26 : Int) (x32 : Int) : (Int × Bool × (List Bool)) → Option ((Int × Bool × (List Bool)) ⊕ (Bool × (List Bool))) := fun (x58, x6''', x5''') =>
   if x58 < (↑[nth (nth l0.meets (nth r3 x26.toNat).toNat) (nth r3 x32.toNat).toNat, nth (nth l0.joins (nth r3 x26.toNat).toNat) (nth r3 x32.toNat).toNat].length : Int) then
    ask ((0 : Int) ≤ x58 ∧ x58 < (↑[nth (nth l0.meets (nth r3 x26.toNat).toNat) (nth r3 x32.toNat).toNat, nth (nth l0.joins (nth r3 x26.toNat).toNat) (nth r3 x32.toNat).toNat].length : Int)) <|
    if (x6''') = true then
     ask ((0 : Int) ≤ nth [nth (nth l0.meets (nth r3 x26.toNat).toNat) (nth r3 x32.toNat).toNat, nth (nth l0.joins (nth r3 x26.toNat).toNat) (nth r3 x32.toNat).toNat] x58.toNat ∧ nth [nth (nth l0.meets (nth r3 x26.toNat).toNat) (nth r3 x32.toNat).toNat, nth (nth l0.joins (nth r3 x26.toNat).toNat) (nth r3 x32.toNat).toNat] x58.toNat < (↑x5'''.length : Int)) <|
     ask (InI (x58 + (1 : Int))) <|
     some (.inl (x58 + (1 : Int), true, x5'''.set (nth [nth (nth l0.meets (nth r3 x26.toNat).toNat) (nth r3 x32.toNat).toNat, nth (nth l0.joins (nth r3 x26.toNat).toNat) (nth r3 x32.toNat).toNat] x58.toNat).toNat true))
    else
     ask ((0 : Int) ≤ nth [nth (nth l0.meets (nth r3 x26.toNat).toNat) (nth r3 x32.toNat).toNat, nth (nth l0.joins (nth r3 x26.toNat).toNat) (nth r3 x32.toNat).toNat] x58.toNat ∧ nth [nth (nth l0.meets (nth r3 x26.toNat).toNat) (nth r3 x32.toNat).toNat, nth (nth l0.joins (nth r3 x26.toNat).toNat) (nth r3 x32.toNat).toNat] x58.toNat < (↑x5'''.length : Int)) <|
     ask ((0 : Int) ≤ nth [nth (nth l0.meets (nth r3 x26.toNat).toNat) (nth r3 x32.toNat).toNat, nth (nth l0.joins (nth r3 x26.toNat).toNat) (nth r3 x32.toNat).toNat] x58.toNat ∧ nth [nth (nth l0.meets (nth r3 x26.toNat).toNat) (nth r3 x32.toNat).toNat, nth (nth l0.joins (nth r3 x26.toNat).toNat) (nth r3 x32.toNat).toNat] x58.toNat < (↑x5'''.length : Int)) <|
     ask (InI (x58 + (1 : Int))) <|
     some (.inl (x58 + (1 : Int), !nth x5''' (nth [nth (nth l0.meets (nth r3 x26.toNat).toNat) (nth r3 x32.toNat).toNat, nth (nth l0.joins (nth r3 x26.toNat).toNat) (nth r3 x32.toNat).toNat] x58.toNat).toNat, x5'''.set (nth [nth (nth l0.meets (nth r3 x26.toNat).toNat) (nth r3 x32.toNat).toNat, nth (nth l0.joins (nth r3 x26.toNat).toNat) (nth r3 x32.toNat).toNat] x58.toNat).toNat true))
   else
    some (.inr (x6''', x5'''))
def S_impl_lattice_generated_l1 (l0 : Slattice) (r3 : List Int) (x26 : Int) (x32 : Int) : (Int × Bool × (List Bool)) → St := fun s => [(56, A.val ((slr true 1 vint) ([nth (nth l0.meets (nth r3 x26.toNat).toNat) (nth r3 x32.toNat).toNat, nth (nth l0.joins (nth r3 x26.toNat).toNat) (nth r3 x32.toNat).toNat]))), (57, A.val (vint ((↑[nth (nth l0.meets (nth r3 x26.toNat).toNat) (nth r3 x32.toNat).toNat, nth (nth l0.joins (nth r3 x26.toNat).toNat) (nth r3 x32.toNat).toNat].length : Int)))), (58, A.val (vint s.1)), (32, A.val (vint (x32))), (31, A.val (vint ((↑r3.length : Int)))), (30, A.ref (7 : Nat) []), (9, A.val (vint (nth r3 x26.toNat))), (26, A.val (vint (x26))), (25, A.val (vint ((↑r3.length : Int)))), (24, A.ref (7 : Nat) []), (7, A.val ((slr true 1 vint) (r3))), (6, A.val (V.bool s.2.1)), (5, A.val ((slr true 1 V.bool) s.2.2)), (0, A.val ((rP false (rS_lattice false)) (l0)))]
def T_impl_lattice_generated_l1 (l0 : Slattice) (r3 : List Int) (x26 : Int) (x32 : Int) : (Bool × (List Bool)) → Tgt
  | s => ((Ex.exit 6), [32, 31, 30, 9, 26, 25, 24, 7, 6, 5, 0], [(32, A.val (vint (x32))), (31, A.val (vint ((↑r3.length : Int)))), (30, A.ref (7 : Nat) []), (9, A.val (vint (nth r3 x26.toNat))), (26, A.val (vint (x26))), (25, A.val (vint ((↑r3.length : Int)))), (24, A.ref (7 : Nat) []), (7, A.val ((slr true 1 vint) (r3))), (6, A.val (V.bool s.1)), (5, A.val ((slr true 1 V.bool) s.2)), (0, A.val ((rP false (rS_lattice false)) (l0)))])
theorem b_impl_lattice_generated_l1 {l0 : Slattice} {r3 : List Int} {x26 : Int} {x32 : Int} (s : (Int × Bool × (List Bool))) (o : (Int × Bool × (List Bool)) ⊕ (Bool × (List Bool))) (h : F_impl_lattice_generated_l1 l0 r3 x26 x32 s = some o) : vc Try.prog c_impl_lattice_generated_l1 (outQ [56, 57, 58, 32, 31, 30, 9, 26, 25, 24, 7, 6, 5, 0] (S_impl_lattice_generated_l1 l0 r3 x26 x32) (T_impl_lattice_generated_l1 l0 r3 x26 x32) o) (S_impl_lattice_generated_l1 l0 r3 x26 x32 s) := by
  obtain ⟨x58, x6''', x5'''⟩ := s
  unfold F_impl_lattice_generated_l1 at h
  try dsimp only at h
  conv => whnf
  refine Br.od h (fun p12 h => ?_) (fun p12 h => ?_)
  · conv => whnf
    refine Len.map ?_
    conv => whnf
    refine Ask.o h fun p13 h => ?_
    conv => whnf
    refine Cells.one (fun _ => ⟨rfl, rfl⟩) (by first | omega | (simp only [mulN] at *; omega) | (simp [mulN] at *; omega)) ?_
    conv => whnf
    refine Br.ob h (fun p14 h => ?_) (fun p14 h => ?_)
    · conv => whnf
      refine Br.yes ?_
      conv => whnf
      refine Br.yes ?_
      conv => whnf
      refine Br.yes ?_
      conv => whnf
      refine Br.yes ?_
      conv => whnf
      refine Br.yes ?_
      conv => whnf
      refine Len.map ?_
      conv => whnf
      refine Ask.o h fun p15 h => ?_
      conv => whnf
      refine SetKids.one (fun _ => ⟨rfl, rfl⟩) (true) (by first | rfl | simp only [mulN_one, V.fz, fzL, V.up, upL, fzL_map, fz_slr, fz_at, slr, List.cons_append, List.nil_append] | simp [mulN_one, V.fz, fzL, V.up, upL, fzL_map, fz_slr, fz_at, slr]) (by first | omega | (simp only [mulN] at *; omega) | (simp [mulN] at *; omega)) ?_
      conv => whnf
      refine Ask.o h fun p16 h => ?_
      conv => whnf
      cases h; exact ⟨rfl, rfl⟩
    · conv => whnf
      refine Br.no ?_
      conv => whnf
      refine Br.no ?_
      conv => whnf
      refine Len.map ?_
      conv => whnf
      refine Ask.o h fun p17 h => ?_
      conv => whnf
      refine Br.no ?_
      conv => whnf
      refine Cells.one (fun _ => ⟨rfl, rfl⟩) (by first | omega | (simp only [mulN] at *; omega) | (simp [mulN] at *; omega)) ?_
      conv => whnf
      refine Br.no ?_
      conv => whnf
      refine Br.no ?_
      conv => whnf
      refine Len.map ?_
      conv => whnf
      refine Ask.o h fun p18 h => ?_
      conv => whnf
      refine SetKids.one (fun _ => ⟨rfl, rfl⟩) (true) (by first | rfl | simp only [mulN_one, V.fz, fzL, V.up, upL, fzL_map, fz_slr, fz_at, slr, List.cons_append, List.nil_append] | simp [mulN_one, V.fz, fzL, V.up, upL, fzL_map, fz_slr, fz_at, slr]) (by first | omega | (simp only [mulN] at *; omega) | (simp [mulN] at *; omega)) ?_
      conv => whnf
      refine Ask.o h fun p19 h => ?_
      conv => whnf
      cases h; exact ⟨rfl, rfl⟩
  · conv => whnf
    cases h; exact ⟨rfl, rfl⟩

noncomputable def F_impl_lattice_generated_l2 (l0 : Slattice) (r3 : List Int) (x26 : Int) : (Int × Bool × (List Bool)) → Option ((Int × Bool × (List Bool)) ⊕ (Bool × (List Bool))) := fun (x32, x6'', x5'') =>
   if x32 < (↑r3.length : Int) then
    ask ((0 : Int) ≤ x32 ∧ x32 < (↑r3.length : Int)) <|
    ask ((0 : Int) ≤ nth r3 x26.toNat ∧ nth r3 x26.toNat < (↑l0.meets.length : Int)) <|
    ask ((0 : Int) ≤ nth r3 x32.toNat ∧ nth r3 x32.toNat < (↑(nth l0.meets (nth r3 x26.toNat).toNat).length : Int)) <|
    ask ((0 : Int) ≤ nth r3 x26.toNat ∧ nth r3 x26.toNat < (↑l0.joins.length : Int)) <|
    ask ((0 : Int) ≤ nth r3 x32.toNat ∧ nth r3 x32.toNat < (↑(nth l0.joins (nth r3 x26.toNat).toNat).length : Int)) <|
    (loopO (F_impl_lattice_generated_l1 l0 r3 x26 x32) ((0 : Int), x6'', x5'')).bind fun (q20_6, q20_5) =>
    ask (InI (x32 + (1 : Int))) <|
    some (.inl (x32 + (1 : Int), q20_6, q20_5))
   else
    some (.inr (x6'', x5''))
def S_impl_lattice_generated_l2 (l0 : Slattice) (r3 : List Int) (x26 : Int) : (Int × Bool × (List Bool)) → St := fun s => [(32, A.val (vint s.1)), (31, A.val (vint ((↑r3.length : Int)))), (30, A.ref (7 : Nat) []), (9, A.val (vint (nth r3 x26.toNat))), (26, A.val (vint (x26))), (25, A.val (vint ((↑r3.length : Int)))), (24, A.ref (7 : Nat) []), (7, A.val ((slr true 1 vint) (r3))), (6, A.val (V.bool s.2.1)), (5, A.val ((slr true 1 V.bool) s.2.2)), (0, A.val ((rP false (rS_lattice false)) (l0)))]
def T_impl_lattice_generated_l2 (l0 : Slattice) (r3 : List Int) (x26 : Int) : (Bool × (List Bool)) → Tgt
  | s => ((Ex.exit 4), [26, 25, 24, 7, 6, 5, 0], [(26, A.val (vint (x26))), (25, A.val (vint ((↑r3.length : Int)))), (24, A.ref (7 : Nat) []), (7, A.val ((slr true 1 vint) (r3))), (6, A.val (V.bool s.1)), (5, A.val ((slr true 1 V.bool) s.2)), (0, A.val ((rP false (rS_lattice false)) (l0)))])
theorem b_impl_lattice_generated_l2 {l0 : Slattice} {r3 : List Int} {x26 : Int} (s : (Int × Bool × (List Bool))) (o : (Int × Bool × (List Bool)) ⊕ (Bool × (List Bool))) (h : F_impl_lattice_generated_l2 l0 r3 x26 s = some o) : vc Try.prog c_impl_lattice_generated_l2 (outQ [32, 31, 30, 9, 26, 25, 24, 7, 6, 5, 0] (S_impl_lattice_generated_l2 l0 r3 x26) (T_impl_lattice_generated_l2 l0 r3 x26) o) (S_impl_lattice_generated_l2 l0 r3 x26 s) := by
  obtain ⟨x32, x6'', x5''⟩ := s
  unfold F_impl_lattice_generated_l2 at h
  try dsimp only at h
  conv => whnf
  refine Br.od h (fun p6 h => ?_) (fun p6 h => ?_)
  · conv => whnf
    refine Len.map ?_
    conv => whnf
    refine Ask.o h fun p7 h => ?_
    conv => whnf
    refine Cells.one (fun _ => ⟨rfl, rfl⟩) (by first | omega | (simp only [mulN] at *; omega) | (simp [mulN] at *; omega)) ?_
    conv => whnf
    refine Len.map ?_
    conv => whnf
    refine Ask.o h fun p8 h => ?_
    conv => whnf
    refine Elem.o (by first | omega | (simp only [mulN] at *; omega) | (simp [mulN] at *; omega)) ?_
    conv => whnf
    refine Len.map ?_
    conv => whnf
    refine Ask.o h fun p9 h => ?_
    conv => whnf
    refine Elem.o (by first | omega | (simp only [mulN] at *; omega) | (simp [mulN] at *; omega)) ?_
    conv => whnf
    refine Len.map ?_
    conv => whnf
    refine Ask.o h fun p10 h => ?_
    conv => whnf
    refine Elem.o (by first | omega | (simp only [mulN] at *; omega) | (simp [mulN] at *; omega)) ?_
    conv => whnf
    refine Len.map ?_
    conv => whnf
    refine Ask.o h fun p11 h => ?_
    conv => whnf
    refine Elem.o (by first | omega | (simp only [mulN] at *; omega) | (simp [mulN] at *; omega)) ?_
    conv => whnf
    refine BslQ.o vint ([nth (nth l0.meets (nth r3 x26.toNat).toNat) (nth r3 x32.toNat).toNat, nth (nth l0.joins (nth r3 x26.toNat).toNat) (nth r3 x32.toNat).toNat]) (by exact fun _ => ⟨rfl, rfl⟩) (by first | rfl | simp only [mulN_one, V.fz, fzL, V.up, upL, fzL_map, fz_slr, fz_at, slr, List.cons_append, List.nil_append] | simp [mulN_one, V.fz, fzL, V.up, upL, fzL_map, fz_slr, fz_at, slr]) ?_
    conv => whnf
    refine Len.map ?_
    conv => whnf
    refine LoopQ.o [56, 57, 58, 32, 31, 30, 9, 26, 25, 24, 7, 6, 5, 0] (S_impl_lattice_generated_l1 l0 r3 x26 x32) (T_impl_lattice_generated_l1 l0 r3 x26 x32) h (fun s o h => b_impl_lattice_generated_l1 s o h) (by first | rfl | simp [restrict, look, mulN_one, V.fz, fzL, V.up, upL, fzL_map, fz_slr, fz_at, slr]) (fun _ => rfl) ?_
    rintro ⟨q20_6, q20_5⟩ h
    try dsimp only at h
    conv => whnf
    refine Ask.o h fun p21 h => ?_
    conv => whnf
    cases h; exact ⟨rfl, rfl⟩
  · conv => whnf
    cases h; exact ⟨rfl, rfl⟩

noncomputable def F_impl_lattice_generated_l3 (l0 : Slattice) (r3 : List Int) : (Int × Bool × (List Bool)) → Option ((Int × Bool × (List Bool)) ⊕ (Bool × (List Bool))) := fun (x26, x6', x5') =>
   if x26 < (↑r3.length : Int) then
    ask ((0 : Int) ≤ x26 ∧ x26 < (↑r3.length : Int)) <|
    (loopO (F_impl_lattice_generated_l2 l0 r3 x26) ((0 : Int), x6', x5')).bind fun (q22_6, q22_5) =>
    ask (InI (x26 + (1 : Int))) <|
    some (.inl (x26 + (1 : Int), q22_6, q22_5))
   else
    some (.inr (x6', x5'))
def S_impl_lattice_generated_l3 (l0 : Slattice) (r3 : List Int) : (Int × Bool × (List Bool)) → St := fun s => [(26, A.val (vint s.1)), (25, A.val (vint ((↑r3.length : Int)))), (24, A.ref (7 : Nat) []), (7, A.val ((slr true 1 vint) (r3))), (6, A.val (V.bool s.2.1)), (5, A.val ((slr true 1 V.bool) s.2.2)), (0, A.val ((rP false (rS_lattice false)) (l0)))]
def T_impl_lattice_generated_l3 (l0 : Slattice) (_r3 : List Int) : (Bool × (List Bool)) → Tgt
  | s => ((Ex.exit 2), [6, 5, 0], [(6, A.val (V.bool s.1)), (5, A.val ((slr true 1 V.bool) s.2)), (0, A.val ((rP false (rS_lattice false)) (l0)))])
theorem b_impl_lattice_generated_l3 {l0 : Slattice} {r3 : List Int} (s : (Int × Bool × (List Bool))) (o : (Int × Bool × (List Bool)) ⊕ (Bool × (List Bool))) (h : F_impl_lattice_generated_l3 l0 r3 s = some o) : vc Try.prog c_impl_lattice_generated_l3 (outQ [26, 25, 24, 7, 6, 5, 0] (S_impl_lattice_generated_l3 l0 r3) (T_impl_lattice_generated_l3 l0 r3) o) (S_impl_lattice_generated_l3 l0 r3 s) := by
  obtain ⟨x26, x6', x5'⟩ := s
  unfold F_impl_lattice_generated_l3 at h
  try dsimp only at h
  conv => whnf
  refine Br.od h (fun p4 h => ?_) (fun p4 h => ?_)
  · conv => whnf
    refine Len.map ?_
    conv => whnf
    refine Ask.o h fun p5 h => ?_
    conv => whnf
    refine Cells.one (fun _ => ⟨rfl, rfl⟩) (by first | omega | (simp only [mulN] at *; omega) | (simp [mulN] at *; omega)) ?_
    conv => whnf
    refine Len.map ?_
    conv => whnf
    refine LoopQ.o [32, 31, 30, 9, 26, 25, 24, 7, 6, 5, 0] (S_impl_lattice_generated_l2 l0 r3 x26) (T_impl_lattice_generated_l2 l0 r3 x26) h (fun s o h => b_impl_lattice_generated_l2 s o h) (by first | rfl | simp [restrict, look, mulN_one, V.fz, fzL, V.up, upL, fzL_map, fz_slr, fz_at, slr]) (fun _ => rfl) ?_
    rintro ⟨q22_6, q22_5⟩ h
    try dsimp only at h
    conv => whnf
    refine Ask.o h fun p23 h => ?_
    conv => whnf
    cases h; exact ⟨rfl, rfl⟩
  · conv => whnf
    cases h; exact ⟨rfl, rfl⟩

noncomputable def F_impl_lattice_generated_l4 (l0 : Slattice) : (Bool × (List Bool)) → Option ((Bool × (List Bool)) ⊕ (List Bool)) := fun (x6, x5) =>
   if (x6) = true then
    (F_impl_marked (x5)).bind fun r3 =>
    (loopO (F_impl_lattice_generated_l3 l0 r3) ((0 : Int), false, x5)).bind fun (q24_6, q24_5) =>
    some (.inl (q24_6, q24_5))
   else
    some (.inr x5)
def S_impl_lattice_generated_l4 (l0 : Slattice) : (Bool × (List Bool)) → St := fun s => [(6, A.val (V.bool s.1)), (5, A.val ((slr true 1 V.bool) s.2)), (0, A.val ((rP false (rS_lattice false)) (l0)))]
def T_impl_lattice_generated_l4 (_l0 : Slattice) : (List Bool) → Tgt
  | s => ((Ex.exit 0), [5], [(5, A.val ((slr true 1 V.bool) s))])
theorem b_impl_lattice_generated_l4 {l0 : Slattice} (s : (Bool × (List Bool))) (o : (Bool × (List Bool)) ⊕ (List Bool)) (h : F_impl_lattice_generated_l4 l0 s = some o) : vc Try.prog c_impl_lattice_generated_l4 (outQ [6, 5, 0] (S_impl_lattice_generated_l4 l0) (T_impl_lattice_generated_l4 l0) o) (S_impl_lattice_generated_l4 l0 s) := by
  obtain ⟨x6, x5⟩ := s
  unfold F_impl_lattice_generated_l4 at h
  try dsimp only at h
  conv => whnf
  refine Br.ob h (fun p2 h => ?_) (fun p2 h => ?_)
  · conv => whnf
    refine CallQ.rd (slr true 1 vint) (by first | rfl | simp only [V.fz, fzL_map, slr] | simp [mulN_one, V.fz, fzL, V.up, upL, fzL_map, fz_slr, fz_at, slr]) (fun _ => by simp [V.noFz, noFzL_map]) h (fun r h => t_impl_marked h) (fun r3 h => ?_)
    conv => whnf
    refine Len.map ?_
    conv => whnf
    refine LoopQ.o [26, 25, 24, 7, 6, 5, 0] (S_impl_lattice_generated_l3 l0 r3) (T_impl_lattice_generated_l3 l0 r3) h (fun s o h => b_impl_lattice_generated_l3 s o h) (by first | rfl | simp [restrict, look, mulN_one, V.fz, fzL, V.up, upL, fzL_map, fz_slr, fz_at, slr]) (fun _ => rfl) ?_
    rintro ⟨q24_6, q24_5⟩ h
    try dsimp only at h
    conv => whnf
    cases h; exact ⟨rfl, rfl⟩
  · conv => whnf
    cases h; exact ⟨rfl, rfl⟩

noncomputable def F_impl_lattice_generated (l0 : Slattice) (some0 : (List Int)) : Option (List Int) :=
  (F_impl_marks (some0) ((↑l0.order.length : Int))).bind fun r1 =>
  (loopO (F_impl_lattice_generated_l4 l0) (true, r1)).bind fun q25_5 =>
  (F_impl_marked (q25_5)).bind fun r26 =>
  some r26
theorem t_impl_lattice_generated {l0 : Slattice} {some0 : (List Int)} {v : (List Int)} (h : F_impl_lattice_generated l0 some0 = some v) : Ret Try.prog f_impl_lattice_generated [(rP false (rS_lattice false)) l0, (slr false 1 vint) some0] ((slr true 1 vint) v) := by
  refine ret_vc k_impl_lattice_generated (Nat.le_of_ble_eq_true rfl) ?_
  unfold F_impl_lattice_generated at h
  conv => whnf
  refine Len.map ?_
  conv => whnf
  refine CallQ.o (slr true 1 V.bool) (by first | rfl | simp only [mulN_one, V.fz, fzL, V.up, upL, fzL_map, fz_slr, fz_at, slr, List.cons_append, List.nil_append] | simp [mulN_one, V.fz, fzL, V.up, upL, fzL_map, fz_slr, fz_at, slr]) h (fun r h => t_impl_marks h) (fun r1 h => ?_)
  conv => whnf
  refine LoopQ.o [6, 5, 0] (S_impl_lattice_generated_l4 l0) (T_impl_lattice_generated_l4 l0) h (fun s o h => b_impl_lattice_generated_l4 s o h) (by first | rfl | simp [restrict, look, mulN_one, V.fz, fzL, V.up, upL, fzL_map, fz_slr, fz_at, slr]) (fun _ => rfl) ?_
  rintro q25_5 h
  try dsimp only at h
  conv => whnf
  refine CallQ.rd (slr true 1 vint) (by first | rfl | simp only [V.fz, fzL_map, slr] | simp [mulN_one, V.fz, fzL, V.up, upL, fzL_map, fz_slr, fz_at, slr]) (fun _ => by simp [V.noFz, noFzL_map]) h (fun r h => t_impl_marked h) (fun r26 h => ?_)
  conv => whnf
  cases h; exact (by first | rfl | simp only [resV, mulN_one, V.fz, fzL, V.up, upL, fzL_map, fz_slr, fz_at, slr] | simp [resV, mulN_one, V.fz, fzL, V.up, upL, fzL_map, fz_slr, fz_at, slr])

noncomputable def F_impl_lattice_algebra (l0 : Slattice) : Option SAlgebra :=
  (F_impl_flatOp (l0.meets)).bind fun r1 =>
  (F_impl_flatOp (l0.joins)).bind fun r2 =>
  some ({ Size := (↑l0.order.length : Int), Ops := [r1, r2] })
theorem t_impl_lattice_algebra {l0 : Slattice} {v : SAlgebra} (h : F_impl_lattice_algebra l0 = some v) : Ret Try.prog f_impl_lattice_algebra [(rP false (rS_lattice false)) l0] ((rS_Algebra true) v) := by
  refine ret_vc k_impl_lattice_algebra (Nat.le_of_ble_eq_true rfl) ?_
  unfold F_impl_lattice_algebra at h
  conv => whnf
  refine Len.map ?_
  conv => whnf
  refine CallP.o (rS_Op true) (by first | rfl | simp only [mulN_one, V.fz, fzL, V.up, upL, fzL_map, fz_slr, fz_at, slr, List.cons_append, List.nil_append] | simp [mulN_one, V.fz, fzL, V.up, upL, fzL_map, fz_slr, fz_at, slr]) h (fun r h => t_impl_flatOp h) (fun r1 h => ?_)
  conv => whnf
  refine CallP.o (rS_Op true) (by first | rfl | simp only [mulN_one, V.fz, fzL, V.up, upL, fzL_map, fz_slr, fz_at, slr, List.cons_append, List.nil_append] | simp [mulN_one, V.fz, fzL, V.up, upL, fzL_map, fz_slr, fz_at, slr]) h (fun r h => t_impl_flatOp h) (fun r2 h => ?_)
  conv => whnf
  refine BslQ.o (rS_Op true) ([r1, r2]) (by exact fun _ => ⟨rfl, rfl⟩) (by first | rfl | simp only [mulN_one, V.fz, fzL, V.up, upL, fzL_map, fz_slr, fz_at, slr, List.cons_append, List.nil_append] | simp [mulN_one, V.fz, fzL, V.up, upL, fzL_map, fz_slr, fz_at, slr]) ?_
  conv => whnf
  refine SetKids.lit rfl ?_
  conv => whnf
  cases h; exact (by first | rfl | simp only [resV, mulN_one, V.fz, fzL, V.up, upL, fzL_map, fz_slr, fz_at, slr] | simp [resV, mulN_one, V.fz, fzL, V.up, upL, fzL_map, fz_slr, fz_at, slr])

noncomputable def F_spec_l23Leq (p0 : SPoset) (x0 : Int) (y0 : Int) : Option Bool :=
  ask ((0 : Int) ≤ y0 ∧ y0 < (↑p0.Below.length : Int)) <|
  (F_spec_l1Has (nth p0.Below y0.toNat) (x0)).bind fun r2 =>
  some r2
theorem t_spec_l23Leq {p0 : SPoset} {x0 : Int} {y0 : Int} {v : Bool} (h : F_spec_l23Leq p0 x0 y0 = some v) : Ret Try.prog f_spec_l23Leq [(rS_Poset false) p0, vint x0, vint y0] (V.bool v) := by
  refine ret_vc k_spec_l23Leq (Nat.le_of_ble_eq_true rfl) ?_
  unfold F_spec_l23Leq at h
  conv => whnf
  refine Cells.lit rfl rfl ?_
  conv => whnf
  refine Len.map ?_
  conv => whnf
  refine Ask.o h fun p1 h => ?_
  conv => whnf
  refine Elem.o (by first | omega | (simp only [mulN] at *; omega) | (simp [mulN] at *; omega)) ?_
  conv => whnf
  refine CallQ.o V.bool (by first | rfl | simp only [mulN_one, V.fz, fzL, V.up, upL, fzL_map, fz_slr, fz_at, slr, List.cons_append, List.nil_append] | simp [mulN_one, V.fz, fzL, V.up, upL, fzL_map, fz_slr, fz_at, slr]) h (fun r h => t_spec_l1Has h) (fun r2 h => ?_)
  conv => whnf
  cases h; exact (by first | rfl | simp only [resV, mulN_one, V.fz, fzL, V.up, upL, fzL_map, fz_slr, fz_at, slr] | simp [resV, mulN_one, V.fz, fzL, V.up, upL, fzL_map, fz_slr, fz_at, slr])

noncomputable def F_spec_l2Elements_l1 (n0 : Int) (list0 : List Int) : Int → Option (Int ⊕ (Unit ⊕ Unit)) := fun x5 =>
   if x5 < (↑list0.length : Int) then
    ask ((0 : Int) ≤ x5 ∧ x5 < (↑list0.length : Int)) <|
    ask (InI (n0 - (1 : Int))) <|
    (F_spec_l1In (nth list0 x5.toNat) ((0 : Int)) (n0 - (1 : Int))).bind fun r4 =>
    if (r4) = true then
     ask (InI (x5 + (1 : Int))) <|
     some (.inl (x5 + (1 : Int)))
    else
     some (.inr (.inl ()))
   else
    some (.inr (.inr ()))
def S_spec_l2Elements_l1 (n0 : Int) (list0 : List Int) : Int → St := fun s => [(5, A.val (vint s)), (0, A.val (vint (n0))), (1, A.val ((slr false 1 vint) (list0)))]
def T_spec_l2Elements_l1 (_n0 : Int) (_list0 : List Int) : (Unit ⊕ Unit) → Tgt
  | (.inl _s) => (Ex.ret, [4], [(4, A.val (V.bool (false)))])
  | (.inr _s) => ((Ex.exit 0), [], [])
theorem b_spec_l2Elements_l1 {n0 : Int} {list0 : List Int} (x5 : Int) (o : Int ⊕ (Unit ⊕ Unit)) (h : F_spec_l2Elements_l1 n0 list0 x5 = some o) : vc Try.prog c_spec_l2Elements_l1 (outQ [5, 0, 1] (S_spec_l2Elements_l1 n0 list0) (T_spec_l2Elements_l1 n0 list0) o) (S_spec_l2Elements_l1 n0 list0 x5) := by
  unfold F_spec_l2Elements_l1 at h
  try dsimp only at h
  conv => whnf
  refine Len.map ?_
  conv => whnf
  refine Br.od h (fun p1 h => ?_) (fun p1 h => ?_)
  · conv => whnf
    refine Len.map ?_
    conv => whnf
    refine Ask.o h fun p2 h => ?_
    conv => whnf
    refine Elem.o (by first | omega | (simp only [mulN] at *; omega) | (simp [mulN] at *; omega)) ?_
    conv => whnf
    refine Ask.o h fun p3 h => ?_
    conv => whnf
    refine CallQ.o V.bool (by first | rfl | simp only [mulN_one, V.fz, fzL, V.up, upL, fzL_map, fz_slr, fz_at, slr, List.cons_append, List.nil_append] | simp [mulN_one, V.fz, fzL, V.up, upL, fzL_map, fz_slr, fz_at, slr]) h (fun r h => t_spec_l1In h) (fun r4 h => ?_)
    conv => whnf
    refine Br.flip ?_
    conv => whnf
    refine Br.ob h (fun p5 h => ?_) (fun p5 h => ?_)
    · conv => whnf
      refine Ask.o h fun p6 h => ?_
      conv => whnf
      cases h; exact ⟨rfl, rfl⟩
    · conv => whnf
      cases h; exact ⟨rfl, rfl⟩
  · conv => whnf
    cases h; exact ⟨rfl, rfl⟩

noncomputable def F_spec_l2Elements (n0 : Int) (list0 : (List Int)) : Option Bool :=
  (loopO (F_spec_l2Elements_l1 n0 list0) (0 : Int)).bind fun t => match t with
  | (.inl _) => (some false)
  | (.inr _) => (some true)
theorem t_spec_l2Elements {n0 : Int} {list0 : (List Int)} {v : Bool} (h : F_spec_l2Elements n0 list0 = some v) : Ret Try.prog f_spec_l2Elements [vint n0, (slr false 1 vint) list0] (V.bool v) := by
  refine ret_vc k_spec_l2Elements (Nat.le_of_ble_eq_true rfl) ?_
  unfold F_spec_l2Elements at h
  conv => whnf
  refine LoopQ.o [5, 0, 1] (S_spec_l2Elements_l1 n0 list0) (T_spec_l2Elements_l1 n0 list0) h (fun s o h => b_spec_l2Elements_l1 s o h) (by first | rfl | simp [restrict, look, mulN_one, V.fz, fzL, V.up, upL, fzL_map, fz_slr, fz_at, slr]) (by rintro (_ | _) <;> rfl) ?_
  rintro (⟨⟩ | ⟨⟩) h
  · try dsimp only at h
    conv => whnf
    cases h; exact (by first | rfl | simp only [resV, mulN_one, V.fz, fzL, V.up, upL, fzL_map, fz_slr, fz_at, slr] | simp [resV, mulN_one, V.fz, fzL, V.up, upL, fzL_map, fz_slr, fz_at, slr])
  · try dsimp only at h
    conv => whnf
    cases h; exact (by first | rfl | simp only [resV, mulN_one, V.fz, fzL, V.up, upL, fzL_map, fz_slr, fz_at, slr] | simp [resV, mulN_one, V.fz, fzL, V.up, upL, fzL_map, fz_slr, fz_at, slr])

noncomputable def F_laws_eqOp (a0 : SOp) (b0 : SOp) : Option Bool :=
  if a0.Arity ≠ b0.Arity then
   some false
  else
   (F_laws_eqIntS (a0.Table) (b0.Table)).bind fun r2 =>
   if (r2) = true then
    some true
   else
    some false
theorem t_laws_eqOp {a0 : SOp} {b0 : SOp} {v : Bool} (h : F_laws_eqOp a0 b0 = some v) : Ret Try.prog f_laws_eqOp [(rS_Op false) a0, (rS_Op false) b0] (V.bool v) := by
  refine ret_vc k_laws_eqOp (Nat.le_of_ble_eq_true rfl) ?_
  unfold F_laws_eqOp at h
  conv => whnf
  refine Cells.lit rfl rfl ?_
  conv => whnf
  refine Cells.lit rfl rfl ?_
  conv => whnf
  refine Br.on h (fun p1 h => ?_) (fun p1 h => ?_)
  · conv => whnf
    cases h; exact (by first | rfl | simp only [resV, mulN_one, V.fz, fzL, V.up, upL, fzL_map, fz_slr, fz_at, slr] | simp [resV, mulN_one, V.fz, fzL, V.up, upL, fzL_map, fz_slr, fz_at, slr])
  · conv => whnf
    refine Cells.lit rfl rfl ?_
    conv => whnf
    refine Cells.lit rfl rfl ?_
    conv => whnf
    refine CallQ.o V.bool (by first | rfl | simp only [mulN_one, V.fz, fzL, V.up, upL, fzL_map, fz_slr, fz_at, slr, List.cons_append, List.nil_append] | simp [mulN_one, V.fz, fzL, V.up, upL, fzL_map, fz_slr, fz_at, slr]) h (fun r h => t_laws_eqIntS h) (fun r2 h => ?_)
    conv => whnf
    refine Br.flip ?_
    conv => whnf
    refine Br.ob h (fun p3 h => ?_) (fun p3 h => ?_)
    · conv => whnf
      cases h; exact (by first | rfl | simp only [resV, mulN_one, V.fz, fzL, V.up, upL, fzL_map, fz_slr, fz_at, slr] | simp [resV, mulN_one, V.fz, fzL, V.up, upL, fzL_map, fz_slr, fz_at, slr])
    · conv => whnf
      cases h; exact (by first | rfl | simp only [resV, mulN_one, V.fz, fzL, V.up, upL, fzL_map, fz_slr, fz_at, slr] | simp [resV, mulN_one, V.fz, fzL, V.up, upL, fzL_map, fz_slr, fz_at, slr])

end Go.Proofs.Ytdodfnbbfkcgnaa.Ax
