/-
  What the functions compute, as functions on plain data, and that the program does compute it; written by program.
-/
import Derived.Test.YtbnoclklhcbidaaDoorCode
import Derived.Test.YtbnoclklhcbidaaDoorG1
namespace Go.Proofs.YtbnoclklhcbidaaDoor.Ax
open Go
set_option maxRecDepth 100000
set_option maxHeartbeats 4000000

noncomputable def F_laws_szIntSS_l1 (a0 : List (List Int)) : (Int × Int) → Option ((Int × Int) ⊕ (Unit ⊕ Int)) := fun (x5, x1) =>
   if x5 < (↑a0.length : Int) then
    ask ((0 : Int) ≤ x5 ∧ x5 < (↑a0.length : Int)) <|
    (F_laws_szIntS (nth a0 x5.toNat) (x1)).bind fun r5 =>
    if r5 < (0 : Int) then
     some (.inr (.inl ()))
    else
     ask (InI (x5 + (1 : Int))) <|
     some (.inl (x5 + (1 : Int), r5))
   else
    some (.inr (.inr x1))
def S_laws_szIntSS_l1 (a0 : List (List Int)) : (Int × Int) → St := fun s => [(5, A.val (vint s.1)), (1, A.val (vint s.2)), (0, A.val ((slr false 1 (slr false 1 vint)) (a0)))]
def T_laws_szIntSS_l1 (_a0 : List (List Int)) : (Unit ⊕ Int) → Tgt
  | (.inl _s) => (Ex.ret, [4], [(4, A.val (vint ((-1 : Int))))])
  | (.inr s) => ((Ex.exit 0), [1], [(1, A.val (vint s))])
theorem b_laws_szIntSS_l1 {a0 : List (List Int)} (s : (Int × Int)) (o : (Int × Int) ⊕ (Unit ⊕ Int)) (h : F_laws_szIntSS_l1 a0 s = some o) : vc Tryd.prog c_laws_szIntSS_l1 (outQ [5, 1, 0] (S_laws_szIntSS_l1 a0) (T_laws_szIntSS_l1 a0) o) (S_laws_szIntSS_l1 a0 s) := by
  obtain ⟨x5, x1⟩ := s
  unfold F_laws_szIntSS_l1 at h
  try dsimp only at h
  conv => whnf
  refine Len.map ?_
  conv => whnf
  refine Br.od h (fun p3 h => ?_) (fun p3 h => ?_)
  · conv => whnf
    refine Len.map ?_
    conv => whnf
    refine Ask.o h fun p4 h => ?_
    conv => whnf
    refine Elem.o (by first | omega | (simp only [mulN] at *; omega) | (simp [mulN] at *; omega)) ?_
    conv => whnf
    refine CallQ.o vint (by first | rfl | simp only [mulN_one, V.fz, fzL, V.up, upL, fzL_map, fz_slr, fz_at, slr, List.cons_append, List.nil_append] | simp [mulN_one, V.fz, fzL, V.up, upL, fzL_map, fz_slr, fz_at, slr]) h (fun r h => t_laws_szIntS h) (fun r5 h => ?_)
    conv => whnf
    refine Br.od h (fun p6 h => ?_) (fun p6 h => ?_)
    · conv => whnf
      cases h; exact ⟨rfl, rfl⟩
    · conv => whnf
      refine Ask.o h fun p7 h => ?_
      conv => whnf
      cases h; exact ⟨rfl, rfl⟩
  · conv => whnf
    cases h; exact ⟨rfl, rfl⟩

noncomputable def F_laws_szIntSS (a0 : (List (List Int))) (left0 : Int) : Option Int :=
  ask (InI (left0 - (↑a0.length : Int))) <|
  if left0 - (↑a0.length : Int) < (0 : Int) then
   some (-1 : Int)
  else
   (loopO (F_laws_szIntSS_l1 a0) ((0 : Int), left0 - (↑a0.length : Int))).bind fun t => match t with
   | (.inl _) => (some (-1 : Int))
   | (.inr q8_1) => (some q8_1)
theorem t_laws_szIntSS {a0 : (List (List Int))} {left0 : Int} {v : Int} (h : F_laws_szIntSS a0 left0 = some v) : Ret Tryd.prog f_laws_szIntSS [(slr false 1 (slr false 1 vint)) a0, vint left0] (vint v) := by
  refine ret_vc k_laws_szIntSS (Nat.le_of_ble_eq_true rfl) ?_
  unfold F_laws_szIntSS at h
  conv => whnf
  refine Len.map ?_
  conv => whnf
  refine Ask.o h fun p1 h => ?_
  conv => whnf
  refine Br.od h (fun p2 h => ?_) (fun p2 h => ?_)
  · conv => whnf
    cases h; exact (by first | rfl | simp only [resV, mulN_one, V.fz, fzL, V.up, upL, fzL_map, fz_slr, fz_at, slr] | simp [resV, mulN_one, V.fz, fzL, V.up, upL, fzL_map, fz_slr, fz_at, slr])
  · conv => whnf
    refine LoopQ.o [5, 1, 0] (S_laws_szIntSS_l1 a0) (T_laws_szIntSS_l1 a0) h (fun s o h => b_laws_szIntSS_l1 s o h) (by first | rfl | simp [restrict, look, mulN_one, V.fz, fzL, V.up, upL, fzL_map, fz_slr, fz_at, slr]) (by rintro (_ | _) <;> rfl) ?_
    rintro (⟨⟩ | q8_1) h
    · try dsimp only at h
      conv => whnf
      cases h; exact (by first | rfl | simp only [resV, mulN_one, V.fz, fzL, V.up, upL, fzL_map, fz_slr, fz_at, slr] | simp [resV, mulN_one, V.fz, fzL, V.up, upL, fzL_map, fz_slr, fz_at, slr])
    · try dsimp only at h
      conv => whnf
      cases h; exact (by first | rfl | simp only [resV, mulN_one, V.fz, fzL, V.up, upL, fzL_map, fz_slr, fz_at, slr] | simp [resV, mulN_one, V.fz, fzL, V.up, upL, fzL_map, fz_slr, fz_at, slr])

noncomputable def F_laws_toIntSS_l1 (a0 : List (List Int)) : (Int × (List (List Int))) → Option ((Int × (List (List Int))) ⊕ (List (List Int))) := fun (x4, x3) =>
   if x4 < (↑a0.length : Int) then
    ask ((0 : Int) ≤ x4 ∧ x4 < (↑a0.length : Int)) <|
    (F_laws_toIntS (nth a0 x4.toNat)).bind fun r4 =>
    ask ((0 : Int) ≤ x4 ∧ x4 < (↑x3.length : Int)) <|
    ask (InI (x4 + (1 : Int))) <|
    some (.inl (x4 + (1 : Int), x3.set x4.toNat r4))
   else
    some (.inr x3)
def S_laws_toIntSS_l1 (a0 : List (List Int)) : (Int × (List (List Int))) → St := fun s => [(4, A.val (vint s.1)), (3, A.val ((slr true 1 (slr true 1 vint)) s.2)), (0, A.val ((slr false 1 (slr false 1 vint)) (a0)))]
def T_laws_toIntSS_l1 (_a0 : List (List Int)) : (List (List Int)) → Tgt
  | s => ((Ex.exit 0), [3], [(3, A.val ((slr true 1 (slr true 1 vint)) s))])
theorem b_laws_toIntSS_l1 {a0 : List (List Int)} (s : (Int × (List (List Int)))) (o : (Int × (List (List Int))) ⊕ (List (List Int))) (h : F_laws_toIntSS_l1 a0 s = some o) : vc Tryd.prog c_laws_toIntSS_l1 (outQ [4, 3, 0] (S_laws_toIntSS_l1 a0) (T_laws_toIntSS_l1 a0) o) (S_laws_toIntSS_l1 a0 s) := by
  obtain ⟨x4, x3⟩ := s
  unfold F_laws_toIntSS_l1 at h
  try dsimp only at h
  conv => whnf
  refine Len.map ?_
  conv => whnf
  refine Br.od h (fun p2 h => ?_) (fun p2 h => ?_)
  · conv => whnf
    refine Len.map ?_
    conv => whnf
    refine Ask.o h fun p3 h => ?_
    conv => whnf
    refine Elem.o (by first | omega | (simp only [mulN] at *; omega) | (simp [mulN] at *; omega)) ?_
    conv => whnf
    refine CallQ.o (slr true 1 vint) (by first | rfl | simp only [mulN_one, V.fz, fzL, V.up, upL, fzL_map, fz_slr, fz_at, slr, List.cons_append, List.nil_append] | simp [mulN_one, V.fz, fzL, V.up, upL, fzL_map, fz_slr, fz_at, slr]) h (fun r h => t_laws_toIntS h) (fun r4 h => ?_)
    conv => whnf
    refine Len.map ?_
    conv => whnf
    refine Ask.o h fun p5 h => ?_
    conv => whnf
    refine SetKids.one (fun _ => ⟨rfl, rfl⟩) (r4) (by first | rfl | simp only [mulN_one, V.fz, fzL, V.up, upL, fzL_map, fz_slr, fz_at, slr, List.cons_append, List.nil_append] | simp [mulN_one, V.fz, fzL, V.up, upL, fzL_map, fz_slr, fz_at, slr]) (by first | omega | (simp only [mulN] at *; omega) | (simp [mulN] at *; omega)) ?_
    conv => whnf
    refine Ask.o h fun p6 h => ?_
    conv => whnf
    cases h; exact ⟨rfl, rfl⟩
  · conv => whnf
    cases h; exact ⟨rfl, rfl⟩

noncomputable def F_laws_toIntSS (a0 : (List (List Int))) : Option (List (List Int)) :=
  ask ((0 : Int) ≤ (↑a0.length : Int) ∧ (↑a0.length : Int) ≤ (↑LIM : Int)) <|
  (loopO (F_laws_toIntSS_l1 a0) ((0 : Int), List.replicate (↑a0.length : Int).toNat (nilL Int))).bind fun q7_3 =>
  some q7_3
theorem t_laws_toIntSS {a0 : (List (List Int))} {v : (List (List Int))} (h : F_laws_toIntSS a0 = some v) : Ret Tryd.prog f_laws_toIntSS [(slr false 1 (slr false 1 vint)) a0] ((slr true 1 (slr true 1 vint)) v) := by
  refine ret_vc k_laws_toIntSS (Nat.le_of_ble_eq_true rfl) ?_
  unfold F_laws_toIntSS at h
  conv => whnf
  refine Len.map ?_
  conv => whnf
  refine Ask.o h fun p1 h => ?_
  conv => whnf
  refine MkQ.o (slr true 1 vint) (nilL Int) rfl ?_
  conv => whnf
  refine LoopQ.o [4, 3, 0] (S_laws_toIntSS_l1 a0) (T_laws_toIntSS_l1 a0) h (fun s o h => b_laws_toIntSS_l1 s o h) (by first | rfl | simp [restrict, look, mulN_one, V.fz, fzL, V.up, upL, fzL_map, fz_slr, fz_at, slr]) (fun _ => rfl) ?_
  rintro q7_3 h
  try dsimp only at h
  conv => whnf
  cases h; exact (by first | rfl | simp only [resV, mulN_one, V.fz, fzL, V.up, upL, fzL_map, fz_slr, fz_at, slr] | simp [resV, mulN_one, V.fz, fzL, V.up, upL, fzL_map, fz_slr, fz_at, slr])

noncomputable def F_impl_orderOf_l1 (p0 : SPoset) (x20 : Int) : (Int × (List (List Bool))) → Option ((Int × (List (List Bool))) ⊕ (List (List Bool))) := fun (x36, x5') =>
   if x36 < (↑(nth p0.Below x20.toNat).length : Int) then
    ask ((0 : Int) ≤ x36 ∧ x36 < (↑(nth p0.Below x20.toNat).length : Int)) <|
    ask ((0 : Int) ≤ nth (nth p0.Below x20.toNat) x36.toNat ∧ nth (nth p0.Below x20.toNat) x36.toNat < (↑x5'.length : Int)) <|
    ask ((0 : Int) ≤ x20 ∧ x20 < (↑(nth x5' (nth (nth p0.Below x20.toNat) x36.toNat).toNat).length : Int)) <|
    ask (InI (x36 + (1 : Int))) <|
    some (.inl (x36 + (1 : Int), x5'.set (nth (nth p0.Below x20.toNat) x36.toNat).toNat ((nth x5' (nth (nth p0.Below x20.toNat) x36.toNat).toNat).set x20.toNat true)))
   else
    some (.inr x5')
def S_impl_orderOf_l1 (p0 : SPoset) (x20 : Int) : (Int × (List (List Bool))) → St := fun s => [(36, A.val (vint s.1)), (35, A.val (vint ((↑(nth p0.Below x20.toNat).length : Int)))), (34, A.val ((slr false 1 vint) (nth p0.Below x20.toNat))), (6, A.val (vint (x20))), (20, A.val (vint (x20))), (19, A.val (vint ((↑p0.Below.length : Int)))), (18, A.val ((slr false 1 (slr false 1 vint)) (p0.Below))), (5, A.val ((slr true 1 (slr true 1 V.bool)) s.2)), (4, A.val (vint ((↑p0.Below.length : Int))))]
def T_impl_orderOf_l1 (p0 : SPoset) (x20 : Int) : (List (List Bool)) → Tgt
  | s => ((Ex.exit 2), [20, 19, 18, 5, 4], [(20, A.val (vint (x20))), (19, A.val (vint ((↑p0.Below.length : Int)))), (18, A.val ((slr false 1 (slr false 1 vint)) (p0.Below))), (5, A.val ((slr true 1 (slr true 1 V.bool)) s)), (4, A.val (vint ((↑p0.Below.length : Int))))])
theorem b_impl_orderOf_l1 {p0 : SPoset} {x20 : Int} (s : (Int × (List (List Bool)))) (o : (Int × (List (List Bool))) ⊕ (List (List Bool))) (h : F_impl_orderOf_l1 p0 x20 s = some o) : vc Tryd.prog c_impl_orderOf_l1 (outQ [36, 35, 34, 6, 20, 19, 18, 5, 4] (S_impl_orderOf_l1 p0 x20) (T_impl_orderOf_l1 p0 x20) o) (S_impl_orderOf_l1 p0 x20 s) := by
  obtain ⟨x36, x5'⟩ := s
  unfold F_impl_orderOf_l1 at h
  try dsimp only at h
  conv => whnf
  refine Br.od h (fun p10 h => ?_) (fun p10 h => ?_)
  · conv => whnf
    refine Len.map ?_
    conv => whnf
    refine Ask.o h fun p11 h => ?_
    conv => whnf
    refine Elem.o (by first | omega | (simp only [mulN] at *; omega) | (simp [mulN] at *; omega)) ?_
    conv => whnf
    refine Len.map ?_
    conv => whnf
    refine Ask.o h fun p12 h => ?_
    conv => whnf
    refine Cells.one (fun _ => ⟨rfl, rfl⟩) (by first | omega | (simp only [mulN] at *; omega) | (simp [mulN] at *; omega)) ?_
    conv => whnf
    refine Kid.one (fun _ => ⟨rfl, rfl⟩) (by first | omega | (simp only [mulN] at *; omega) | (simp [mulN] at *; omega)) ?_
    conv => whnf
    refine Len.map ?_
    conv => whnf
    refine Ask.o h fun p13 h => ?_
    conv => whnf
    refine Kid.one (fun _ => ⟨rfl, rfl⟩) (by first | omega | (simp only [mulN] at *; omega) | (simp [mulN] at *; omega)) ?_
    conv => whnf
    refine SetKids.one (fun _ => ⟨rfl, rfl⟩) (true) (by first | rfl | simp only [mulN_one, V.fz, fzL, V.up, upL, fzL_map, fz_slr, fz_at, slr, List.cons_append, List.nil_append] | simp [mulN_one, V.fz, fzL, V.up, upL, fzL_map, fz_slr, fz_at, slr]) (by first | omega | (simp only [mulN] at *; omega) | (simp [mulN] at *; omega)) ?_
    conv => whnf
    refine Kid.one (fun _ => ⟨rfl, rfl⟩) (by first | omega | (simp only [mulN] at *; omega) | (simp [mulN] at *; omega)) ?_
    conv => whnf
    refine SetKids.one (fun _ => ⟨rfl, rfl⟩) ((nth x5' (nth (nth p0.Below x20.toNat) x36.toNat).toNat).set x20.toNat true) (by first | rfl | simp only [mulN_one, V.fz, fzL, V.up, upL, fzL_map, fz_slr, fz_at, slr, List.cons_append, List.nil_append] | simp [mulN_one, V.fz, fzL, V.up, upL, fzL_map, fz_slr, fz_at, slr]) (by first | omega | (simp only [mulN] at *; omega) | (simp [mulN] at *; omega)) ?_
    conv => whnf
    refine Ask.o h fun p14 h => ?_
    conv => whnf
    cases h; exact ⟨rfl, rfl⟩
  · conv => whnf
    cases h; exact ⟨rfl, rfl⟩

noncomputable def F_impl_orderOf_l2 (p0 : SPoset) : (Int × (List (List Bool))) → Option ((Int × (List (List Bool))) ⊕ (Unit ⊕ (List (List Bool)))) := fun (x20, x5) =>
   if x20 < (↑p0.Below.length : Int) then
    ask ((0 : Int) ≤ x20 ∧ x20 < (↑p0.Below.length : Int)) <|
    (((F_impl_rises (nth p0.Below x20.toNat)).bind fun r5 =>
       if (r5) = true then
        (F_impl_inSize (nth p0.Below x20.toNat) ((↑p0.Below.length : Int))).bind fun r7 =>
        if (r7) = true then
         some (.inl ())
        else
         some (.inr ())
       else
        some (.inr ()) : Option (Unit ⊕ Unit))).bind fun t => match t with
    | (.inl _) => ((loopO (F_impl_orderOf_l1 p0 x20) ((0 : Int), x5)).bind fun q15_5 =>
      ask (InI (x20 + (1 : Int))) <|
      some (.inl (x20 + (1 : Int), q15_5)))
    | (.inr _) => (some (.inr (.inl ())))
   else
    some (.inr (.inr x5))
def S_impl_orderOf_l2 (p0 : SPoset) : (Int × (List (List Bool))) → St := fun s => [(20, A.val (vint s.1)), (19, A.val (vint ((↑p0.Below.length : Int)))), (18, A.val ((slr false 1 (slr false 1 vint)) (p0.Below))), (5, A.val ((slr true 1 (slr true 1 V.bool)) s.2)), (4, A.val (vint ((↑p0.Below.length : Int))))]
def T_impl_orderOf_l2 (_p0 : SPoset) : (Unit ⊕ (List (List Bool))) → Tgt
  | (.inl _s) => (Ex.ret, [3, 2], [(3, A.val (V.bool (false))), (2, A.val ((slr true 1 (slr true 1 V.bool)) (nilL (List Bool))))])
  | (.inr s) => ((Ex.exit 0), [5], [(5, A.val ((slr true 1 (slr true 1 V.bool)) s))])
theorem b_impl_orderOf_l2 {p0 : SPoset} (s : (Int × (List (List Bool)))) (o : (Int × (List (List Bool))) ⊕ (Unit ⊕ (List (List Bool)))) (h : F_impl_orderOf_l2 p0 s = some o) : vc Tryd.prog c_impl_orderOf_l2 (outQ [20, 19, 18, 5, 4] (S_impl_orderOf_l2 p0) (T_impl_orderOf_l2 p0) o) (S_impl_orderOf_l2 p0 s) := by
  obtain ⟨x20, x5⟩ := s
  unfold F_impl_orderOf_l2 at h
  try dsimp only at h
  conv => whnf
  refine Br.od h (fun p3 h => ?_) (fun p3 h => ?_)
  · conv => whnf
    refine Len.map ?_
    conv => whnf
    refine Ask.o h fun p4 h => ?_
    conv => whnf
    refine Elem.o (by first | omega | (simp only [mulN] at *; omega) | (simp [mulN] at *; omega)) ?_
    conv => whnf
    refine CutQ.o (fun t : (Unit ⊕ Unit) => match t with | (.inl s) => (Ex.normal, [7, 6, 20, 19, 18, 5, 4], [(7, A.val ((slr false 1 vint) (nth p0.Below x20.toNat))), (6, A.val (vint (x20))), (20, A.val (vint (x20))), (19, A.val (vint ((↑p0.Below.length : Int)))), (18, A.val ((slr false 1 (slr false 1 vint)) (p0.Below))), (5, A.val ((slr true 1 (slr true 1 V.bool)) (x5))), (4, A.val (vint ((↑p0.Below.length : Int))))]) | (.inr s) => (Ex.ret, [3, 2], [(3, A.val (V.bool (false))), (2, A.val ((slr true 1 (slr true 1 V.bool)) (nilL (List Bool))))])) h ?_ ?_
    · intro t h
      conv => whnf
      refine CallQ.o V.bool (by first | rfl | simp only [mulN_one, V.fz, fzL, V.up, upL, fzL_map, fz_slr, fz_at, slr, List.cons_append, List.nil_append] | simp [mulN_one, V.fz, fzL, V.up, upL, fzL_map, fz_slr, fz_at, slr]) h (fun r h => t_impl_rises h) (fun r5 h => ?_)
      conv => whnf
      refine Br.flip ?_
      conv => whnf
      refine Br.ob h (fun p6 h => ?_) (fun p6 h => ?_)
      · conv => whnf
        refine Br.no ?_
        conv => whnf
        refine Br.no ?_
        conv => whnf
        refine CallQ.o V.bool (by first | rfl | simp only [mulN_one, V.fz, fzL, V.up, upL, fzL_map, fz_slr, fz_at, slr, List.cons_append, List.nil_append] | simp [mulN_one, V.fz, fzL, V.up, upL, fzL_map, fz_slr, fz_at, slr]) h (fun r h => t_impl_inSize h) (fun r7 h => ?_)
        conv => whnf
        refine Br.no ?_
        conv => whnf
        refine Br.no ?_
        conv => whnf
        refine Br.flip ?_
        conv => whnf
        refine Br.ob h (fun p8 h => ?_) (fun p8 h => ?_)
        · conv => whnf
          cases h; exact ⟨rfl, rfl⟩
        · conv => whnf
          cases h; exact ⟨rfl, rfl⟩
      · conv => whnf
        refine Br.yes ?_
        conv => whnf
        refine Br.yes ?_
        conv => whnf
        refine Br.yes ?_
        conv => whnf
        refine Br.yes ?_
        conv => whnf
        refine Br.yes ?_
        conv => whnf
        cases h; exact ⟨rfl, rfl⟩
    · rintro (⟨⟩ | ⟨⟩) h
      · try dsimp only at h
        conv => whnf
        refine Len.map ?_
        conv => whnf
        refine LoopQ.o [36, 35, 34, 6, 20, 19, 18, 5, 4] (S_impl_orderOf_l1 p0 x20) (T_impl_orderOf_l1 p0 x20) h (fun s o h => b_impl_orderOf_l1 s o h) (by first | rfl | simp [restrict, look, mulN_one, V.fz, fzL, V.up, upL, fzL_map, fz_slr, fz_at, slr]) (fun _ => rfl) ?_
        rintro q15_5 h
        try dsimp only at h
        conv => whnf
        refine Ask.o h fun p16 h => ?_
        conv => whnf
        cases h; exact ⟨rfl, rfl⟩
      · try dsimp only at h
        conv => whnf
        cases h; exact ⟨rfl, rfl⟩
  · conv => whnf
    cases h; exact ⟨rfl, rfl⟩

noncomputable def F_impl_orderOf (p0 : SPoset) : Option ((List (List Bool)) × Bool) :=
  if (↑p0.Below.length : Int) > (10 : Int) then
   some (nilL (List Bool), false)
  else
   (F_impl_newOrder ((↑p0.Below.length : Int))).bind fun r2 =>
   (loopO (F_impl_orderOf_l2 p0) ((0 : Int), r2)).bind fun t => match t with
   | (.inl _) => (some (nilL (List Bool), false))
   | (.inr q17_5) => ((F_impl_order_isOrder (q17_5)).bind fun r18 =>
     some (q17_5, r18))
theorem t_impl_orderOf {p0 : SPoset} {v : ((List (List Bool)) × Bool)} (h : F_impl_orderOf p0 = some v) : Ret Tryd.prog f_impl_orderOf [(rS_Poset false) p0] ((fun r => V.tup [(slr true 1 (slr true 1 V.bool)) r.1, V.bool r.2]) v) := by
  refine ret_vc k_impl_orderOf (Nat.le_of_ble_eq_true rfl) ?_
  unfold F_impl_orderOf at h
  conv => whnf
  refine Cells.lit rfl rfl ?_
  conv => whnf
  refine Len.map ?_
  conv => whnf
  refine Br.od h (fun p1 h => ?_) (fun p1 h => ?_)
  · conv => whnf
    cases h; exact (by first | rfl | simp only [resV, mulN_one, V.fz, fzL, V.up, upL, fzL_map, fz_slr, fz_at, slr] | simp [resV, mulN_one, V.fz, fzL, V.up, upL, fzL_map, fz_slr, fz_at, slr])
  · conv => whnf
    refine CallQ.o (slr true 1 (slr true 1 V.bool)) (by first | rfl | simp only [mulN_one, V.fz, fzL, V.up, upL, fzL_map, fz_slr, fz_at, slr, List.cons_append, List.nil_append] | simp [mulN_one, V.fz, fzL, V.up, upL, fzL_map, fz_slr, fz_at, slr]) h (fun r h => t_impl_newOrder h) (fun r2 h => ?_)
    conv => whnf
    refine Cells.lit rfl rfl ?_
    conv => whnf
    refine Len.map ?_
    conv => whnf
    refine LoopQ.o [20, 19, 18, 5, 4] (S_impl_orderOf_l2 p0) (T_impl_orderOf_l2 p0) h (fun s o h => b_impl_orderOf_l2 s o h) (by first | rfl | simp [restrict, look, mulN_one, V.fz, fzL, V.up, upL, fzL_map, fz_slr, fz_at, slr]) (by rintro (_ | _) <;> rfl) ?_
    rintro (⟨⟩ | q17_5) h
    · try dsimp only at h
      conv => whnf
      cases h; exact (by first | rfl | simp only [resV, mulN_one, V.fz, fzL, V.up, upL, fzL_map, fz_slr, fz_at, slr] | simp [resV, mulN_one, V.fz, fzL, V.up, upL, fzL_map, fz_slr, fz_at, slr])
    · try dsimp only at h
      conv => whnf
      refine CallQ.rd V.bool (by first | rfl | simp only [V.fz, fzL_map, slr] | simp [mulN_one, V.fz, fzL, V.up, upL, fzL_map, fz_slr, fz_at, slr]) (fun _ => rfl) h (fun r h => t_impl_order_isOrder h) (fun r18 h => ?_)
      conv => whnf
      cases h; exact (by first | rfl | simp only [resV, mulN_one, V.fz, fzL, V.up, upL, fzL_map, fz_slr, fz_at, slr] | simp [resV, mulN_one, V.fz, fzL, V.up, upL, fzL_map, fz_slr, fz_at, slr])

noncomputable def F_laws_eqIntSS_l1 (a0 : List (List Int)) (b0 : List (List Int)) : Int → Option (Int ⊕ (Unit ⊕ Unit)) := fun x5 =>
   if x5 < (↑a0.length : Int) then
    ask ((0 : Int) ≤ x5 ∧ x5 < (↑a0.length : Int)) <|
    ask ((0 : Int) ≤ x5 ∧ x5 < (↑b0.length : Int)) <|
    (F_laws_eqIntS (nth a0 x5.toNat) (nth b0 x5.toNat)).bind fun r5 =>
    if (r5) = true then
     ask (InI (x5 + (1 : Int))) <|
     some (.inl (x5 + (1 : Int)))
    else
     some (.inr (.inl ()))
   else
    some (.inr (.inr ()))
def S_laws_eqIntSS_l1 (a0 : List (List Int)) (b0 : List (List Int)) : Int → St := fun s => [(5, A.val (vint s)), (0, A.val ((slr false 1 (slr false 1 vint)) (a0))), (1, A.val ((slr false 1 (slr false 1 vint)) (b0)))]
def T_laws_eqIntSS_l1 (_a0 : List (List Int)) (_b0 : List (List Int)) : (Unit ⊕ Unit) → Tgt
  | (.inl _s) => (Ex.ret, [4], [(4, A.val (V.bool (false)))])
  | (.inr _s) => ((Ex.exit 0), [], [])
theorem b_laws_eqIntSS_l1 {a0 : List (List Int)} {b0 : List (List Int)} (x5 : Int) (o : Int ⊕ (Unit ⊕ Unit)) (h : F_laws_eqIntSS_l1 a0 b0 x5 = some o) : vc Tryd.prog c_laws_eqIntSS_l1 (outQ [5, 0, 1] (S_laws_eqIntSS_l1 a0 b0) (T_laws_eqIntSS_l1 a0 b0) o) (S_laws_eqIntSS_l1 a0 b0 x5) := by
  unfold F_laws_eqIntSS_l1 at h
  try dsimp only at h
  conv => whnf
  refine Len.map ?_
  conv => whnf
  refine Br.od h (fun p2 h => ?_) (fun p2 h => ?_)
  · conv => whnf
    refine Len.map ?_
    conv => whnf
    refine Ask.o h fun p3 h => ?_
    conv => whnf
    refine Elem.o (by first | omega | (simp only [mulN] at *; omega) | (simp [mulN] at *; omega)) ?_
    conv => whnf
    refine Len.map ?_
    conv => whnf
    refine Ask.o h fun p4 h => ?_
    conv => whnf
    refine Elem.o (by first | omega | (simp only [mulN] at *; omega) | (simp [mulN] at *; omega)) ?_
    conv => whnf
    refine CallQ.o V.bool (by first | rfl | simp only [mulN_one, V.fz, fzL, V.up, upL, fzL_map, fz_slr, fz_at, slr, List.cons_append, List.nil_append] | simp [mulN_one, V.fz, fzL, V.up, upL, fzL_map, fz_slr, fz_at, slr]) h (fun r h => t_laws_eqIntS h) (fun r5 h => ?_)
    conv => whnf
    refine Br.flip ?_
    conv => whnf
    refine Br.ob h (fun p6 h => ?_) (fun p6 h => ?_)
    · conv => whnf
      refine Ask.o h fun p7 h => ?_
      conv => whnf
      cases h; exact ⟨rfl, rfl⟩
    · conv => whnf
      cases h; exact ⟨rfl, rfl⟩
  · conv => whnf
    cases h; exact ⟨rfl, rfl⟩

noncomputable def F_laws_eqIntSS (a0 : (List (List Int))) (b0 : (List (List Int))) : Option Bool :=
  if (↑a0.length : Int) ≠ (↑b0.length : Int) then
   some false
  else
   (loopO (F_laws_eqIntSS_l1 a0 b0) (0 : Int)).bind fun t => match t with
   | (.inl _) => (some false)
   | (.inr _) => (some true)
theorem t_laws_eqIntSS {a0 : (List (List Int))} {b0 : (List (List Int))} {v : Bool} (h : F_laws_eqIntSS a0 b0 = some v) : Ret Tryd.prog f_laws_eqIntSS [(slr false 1 (slr false 1 vint)) a0, (slr false 1 (slr false 1 vint)) b0] (V.bool v) := by
  refine ret_vc k_laws_eqIntSS (Nat.le_of_ble_eq_true rfl) ?_
  unfold F_laws_eqIntSS at h
  conv => whnf
  refine Len.map ?_
  conv => whnf
  refine Len.map ?_
  conv => whnf
  refine Br.on h (fun p1 h => ?_) (fun p1 h => ?_)
  · conv => whnf
    cases h; exact (by first | rfl | simp only [resV, mulN_one, V.fz, fzL, V.up, upL, fzL_map, fz_slr, fz_at, slr] | simp [resV, mulN_one, V.fz, fzL, V.up, upL, fzL_map, fz_slr, fz_at, slr])
  · conv => whnf
    refine LoopQ.o [5, 0, 1] (S_laws_eqIntSS_l1 a0 b0) (T_laws_eqIntSS_l1 a0 b0) h (fun s o h => b_laws_eqIntSS_l1 s o h) (by first | rfl | simp [restrict, look, mulN_one, V.fz, fzL, V.up, upL, fzL_map, fz_slr, fz_at, slr]) (by rintro (_ | _) <;> rfl) ?_
    rintro (⟨⟩ | ⟨⟩) h
    · try dsimp only at h
      conv => whnf
      cases h; exact (by first | rfl | simp only [resV, mulN_one, V.fz, fzL, V.up, upL, fzL_map, fz_slr, fz_at, slr] | simp [resV, mulN_one, V.fz, fzL, V.up, upL, fzL_map, fz_slr, fz_at, slr])
    · try dsimp only at h
      conv => whnf
      cases h; exact (by first | rfl | simp only [resV, mulN_one, V.fz, fzL, V.up, upL, fzL_map, fz_slr, fz_at, slr] | simp [resV, mulN_one, V.fz, fzL, V.up, upL, fzL_map, fz_slr, fz_at, slr])

noncomputable def F_spec_l1Rising_l1 (l0 : List Int) (lo0 : Int) (hi0 : Int) : Int → Option (Int ⊕ (Unit ⊕ Unit)) := fun x7 =>
   if x7 < (↑l0.length : Int) then
    ask ((0 : Int) ≤ x7 ∧ x7 < (↑l0.length : Int)) <|
    (F_spec_l1In (nth l0 x7.toNat) (lo0) (hi0)).bind fun r3 =>
    if (r3) = true then
     if x7 > (0 : Int) then
      ask (InI (x7 - (1 : Int))) <|
      ask ((0 : Int) ≤ x7 - (1 : Int) ∧ x7 - (1 : Int) < (↑l0.length : Int)) <|
      ask ((0 : Int) ≤ x7 ∧ x7 < (↑l0.length : Int)) <|
      if nth l0 (x7 - (1 : Int)).toNat ≥ nth l0 x7.toNat then
       some (.inr (.inl ()))
      else
       ask (InI (x7 + (1 : Int))) <|
       some (.inl (x7 + (1 : Int)))
     else
      ask (InI (x7 + (1 : Int))) <|
      some (.inl (x7 + (1 : Int)))
    else
     some (.inr (.inl ()))
   else
    some (.inr (.inr ()))
def S_spec_l1Rising_l1 (l0 : List Int) (lo0 : Int) (hi0 : Int) : Int → St := fun s => [(7, A.val (vint s)), (0, A.val ((slr false 1 vint) (l0))), (1, A.val (vint (lo0))), (2, A.val (vint (hi0)))]
def T_spec_l1Rising_l1 (_l0 : List Int) (_lo0 : Int) (_hi0 : Int) : (Unit ⊕ Unit) → Tgt
  | (.inl _s) => (Ex.ret, [6], [(6, A.val (V.bool (false)))])
  | (.inr _s) => ((Ex.exit 0), [], [])
theorem b_spec_l1Rising_l1 {l0 : List Int} {lo0 : Int} {hi0 : Int} (x7 : Int) (o : Int ⊕ (Unit ⊕ Unit)) (h : F_spec_l1Rising_l1 l0 lo0 hi0 x7 = some o) : vc Tryd.prog c_spec_l1Rising_l1 (outQ [7, 0, 1, 2] (S_spec_l1Rising_l1 l0 lo0 hi0) (T_spec_l1Rising_l1 l0 lo0 hi0) o) (S_spec_l1Rising_l1 l0 lo0 hi0 x7) := by
  unfold F_spec_l1Rising_l1 at h
  try dsimp only at h
  conv => whnf
  refine Len.map ?_
  conv => whnf
  refine Br.od h (fun p1 h => ?_) (fun p1 h => ?_)
  · conv => whnf
    refine Len.map ?_
    conv => whnf
    refine Ask.o h fun p2 h => ?_
    conv => whnf
    refine Elem.o (by first | omega | (simp only [mulN] at *; omega) | (simp [mulN] at *; omega)) ?_
    conv => whnf
    refine CallP.o V.bool (by first | rfl | simp only [mulN_one, V.fz, fzL, V.up, upL, fzL_map, fz_slr, fz_at, slr, List.cons_append, List.nil_append] | simp [mulN_one, V.fz, fzL, V.up, upL, fzL_map, fz_slr, fz_at, slr]) h (fun r h => t_spec_l1In h) (fun r3 h => ?_)
    conv => whnf
    refine Br.flip ?_
    conv => whnf
    refine Br.ob h (fun p4 h => ?_) (fun p4 h => ?_)
    · conv => whnf
      refine Br.no ?_
      conv => whnf
      refine Br.no ?_
      conv => whnf
      refine Br.od h (fun p5 h => ?_) (fun p5 h => ?_)
      · conv => whnf
        refine Br.yes ?_
        conv => whnf
        refine Br.yes ?_
        conv => whnf
        refine Ask.o h fun p6 h => ?_
        conv => whnf
        refine Br.yes ?_
        conv => whnf
        refine Len.map ?_
        conv => whnf
        refine Ask.o h fun p7 h => ?_
        conv => whnf
        refine Elem.o (by first | omega | (simp only [mulN] at *; omega) | (simp [mulN] at *; omega)) ?_
        conv => whnf
        refine Br.yes ?_
        conv => whnf
        refine Br.yes ?_
        conv => whnf
        refine Br.yes ?_
        conv => whnf
        refine Br.yes ?_
        conv => whnf
        refine Len.map ?_
        conv => whnf
        refine Ask.o h fun p8 h => ?_
        conv => whnf
        refine Elem.o (by first | omega | (simp only [mulN] at *; omega) | (simp [mulN] at *; omega)) ?_
        conv => whnf
        refine Br.yes ?_
        conv => whnf
        refine Br.yes ?_
        conv => whnf
        refine Br.no ?_
        conv => whnf
        refine Br.yes ?_
        conv => whnf
        refine Br.no ?_
        conv => whnf
        refine Br.od h (fun p9 h => ?_) (fun p9 h => ?_)
        · conv => whnf
          cases h; exact ⟨rfl, rfl⟩
        · conv => whnf
          refine Ask.o h fun p10 h => ?_
          conv => whnf
          cases h; exact ⟨rfl, rfl⟩
      · conv => whnf
        refine Br.no ?_
        conv => whnf
        refine Br.no ?_
        conv => whnf
        refine Br.no ?_
        conv => whnf
        refine Br.no ?_
        conv => whnf
        refine Br.no ?_
        conv => whnf
        refine Br.no ?_
        conv => whnf
        refine Br.no ?_
        conv => whnf
        refine Br.no ?_
        conv => whnf
        refine Br.no ?_
        conv => whnf
        refine Br.no ?_
        conv => whnf
        refine Br.no ?_
        conv => whnf
        refine Br.no ?_
        conv => whnf
        refine Br.no ?_
        conv => whnf
        refine Ask.o h fun p11 h => ?_
        conv => whnf
        cases h; exact ⟨rfl, rfl⟩
    · conv => whnf
      refine Br.yes ?_
      conv => whnf
      refine Br.yes ?_
      conv => whnf
      refine Br.yes ?_
      conv => whnf
      refine Br.yes ?_
      conv => whnf
      refine Br.yes ?_
      conv => whnf
      cases h; exact ⟨rfl, rfl⟩
  · conv => whnf
    cases h; exact ⟨rfl, rfl⟩

noncomputable def F_spec_l1Rising (l0 : (List Int)) (lo0 : Int) (hi0 : Int) : Option Bool :=
  (loopO (F_spec_l1Rising_l1 l0 lo0 hi0) (0 : Int)).bind fun t => match t with
  | (.inl _) => (some false)
  | (.inr _) => (some true)
theorem t_spec_l1Rising {l0 : (List Int)} {lo0 : Int} {hi0 : Int} {v : Bool} (h : F_spec_l1Rising l0 lo0 hi0 = some v) : Ret Tryd.prog f_spec_l1Rising [(slr false 1 vint) l0, vint lo0, vint hi0] (V.bool v) := by
  refine ret_vc k_spec_l1Rising (Nat.le_of_ble_eq_true rfl) ?_
  unfold F_spec_l1Rising at h
  conv => whnf
  refine LoopQ.o [7, 0, 1, 2] (S_spec_l1Rising_l1 l0 lo0 hi0) (T_spec_l1Rising_l1 l0 lo0 hi0) h (fun s o h => b_spec_l1Rising_l1 s o h) (by first | rfl | simp [restrict, look, mulN_one, V.fz, fzL, V.up, upL, fzL_map, fz_slr, fz_at, slr]) (by rintro (_ | _) <;> rfl) ?_
  rintro (⟨⟩ | ⟨⟩) h
  · try dsimp only at h
    conv => whnf
    cases h; exact (by first | rfl | simp only [resV, mulN_one, V.fz, fzL, V.up, upL, fzL_map, fz_slr, fz_at, slr] | simp [resV, mulN_one, V.fz, fzL, V.up, upL, fzL_map, fz_slr, fz_at, slr])
  · try dsimp only at h
    conv => whnf
    cases h; exact (by first | rfl | simp only [resV, mulN_one, V.fz, fzL, V.up, upL, fzL_map, fz_slr, fz_at, slr] | simp [resV, mulN_one, V.fz, fzL, V.up, upL, fzL_map, fz_slr, fz_at, slr])

noncomputable def F_spec_l5Within_l1 (x0 : List Int) (y0 : List Int) : Int → Option (Int ⊕ (Unit ⊕ Unit)) := fun x5 =>
   if x5 < (↑x0.length : Int) then
    ask ((0 : Int) ≤ x5 ∧ x5 < (↑x0.length : Int)) <|
    (F_spec_l1Has (y0) (nth x0 x5.toNat)).bind fun r3 =>
    if (r3) = true then
     ask (InI (x5 + (1 : Int))) <|
     some (.inl (x5 + (1 : Int)))
    else
     some (.inr (.inl ()))
   else
    some (.inr (.inr ()))
def S_spec_l5Within_l1 (x0 : List Int) (y0 : List Int) : Int → St := fun s => [(5, A.val (vint s)), (0, A.val ((slr false 1 vint) (x0))), (1, A.val ((slr false 1 vint) (y0)))]
def T_spec_l5Within_l1 (_x0 : List Int) (_y0 : List Int) : (Unit ⊕ Unit) → Tgt
  | (.inl _s) => (Ex.ret, [4], [(4, A.val (V.bool (false)))])
  | (.inr _s) => ((Ex.exit 0), [], [])
theorem b_spec_l5Within_l1 {x0 : List Int} {y0 : List Int} (x5 : Int) (o : Int ⊕ (Unit ⊕ Unit)) (h : F_spec_l5Within_l1 x0 y0 x5 = some o) : vc Tryd.prog c_spec_l5Within_l1 (outQ [5, 0, 1] (S_spec_l5Within_l1 x0 y0) (T_spec_l5Within_l1 x0 y0) o) (S_spec_l5Within_l1 x0 y0 x5) := by
  unfold F_spec_l5Within_l1 at h
  try dsimp only at h
  conv => whnf
  refine Len.map ?_
  conv => whnf
  refine Br.od h (fun p1 h => ?_) (fun p1 h => ?_)
  · conv => whnf
    refine Len.map ?_
    conv => whnf
    refine Ask.o h fun p2 h => ?_
    conv => whnf
    refine Elem.o (by first | omega | (simp only [mulN] at *; omega) | (simp [mulN] at *; omega)) ?_
    conv => whnf
    refine CallQ.o V.bool (by first | rfl | simp only [mulN_one, V.fz, fzL, V.up, upL, fzL_map, fz_slr, fz_at, slr, List.cons_append, List.nil_append] | simp [mulN_one, V.fz, fzL, V.up, upL, fzL_map, fz_slr, fz_at, slr]) h (fun r h => t_spec_l1Has h) (fun r3 h => ?_)
    conv => whnf
    refine Br.flip ?_
    conv => whnf
    refine Br.ob h (fun p4 h => ?_) (fun p4 h => ?_)
    · conv => whnf
      refine Ask.o h fun p5 h => ?_
      conv => whnf
      cases h; exact ⟨rfl, rfl⟩
    · conv => whnf
      cases h; exact ⟨rfl, rfl⟩
  · conv => whnf
    cases h; exact ⟨rfl, rfl⟩

noncomputable def F_spec_l5Within (x0 : (List Int)) (y0 : (List Int)) : Option Bool :=
  (loopO (F_spec_l5Within_l1 x0 y0) (0 : Int)).bind fun t => match t with
  | (.inl _) => (some false)
  | (.inr _) => (some true)
theorem t_spec_l5Within {x0 : (List Int)} {y0 : (List Int)} {v : Bool} (h : F_spec_l5Within x0 y0 = some v) : Ret Tryd.prog f_spec_l5Within [(slr false 1 vint) x0, (slr false 1 vint) y0] (V.bool v) := by
  refine ret_vc k_spec_l5Within (Nat.le_of_ble_eq_true rfl) ?_
  unfold F_spec_l5Within at h
  conv => whnf
  refine LoopQ.o [5, 0, 1] (S_spec_l5Within_l1 x0 y0) (T_spec_l5Within_l1 x0 y0) h (fun s o h => b_spec_l5Within_l1 s o h) (by first | rfl | simp [restrict, look, mulN_one, V.fz, fzL, V.up, upL, fzL_map, fz_slr, fz_at, slr]) (by rintro (_ | _) <;> rfl) ?_
  rintro (⟨⟩ | ⟨⟩) h
  · try dsimp only at h
    conv => whnf
    cases h; exact (by first | rfl | simp only [resV, mulN_one, V.fz, fzL, V.up, upL, fzL_map, fz_slr, fz_at, slr] | simp [resV, mulN_one, V.fz, fzL, V.up, upL, fzL_map, fz_slr, fz_at, slr])
  · try dsimp only at h
    conv => whnf
    cases h; exact (by first | rfl | simp only [resV, mulN_one, V.fz, fzL, V.up, upL, fzL_map, fz_slr, fz_at, slr] | simp [resV, mulN_one, V.fz, fzL, V.up, upL, fzL_map, fz_slr, fz_at, slr])

noncomputable def F_impl_order_covers_l1 (o0 : List (List Bool)) (x0 : Int) (y0 : Int) : Int → Option (Int ⊕ (Unit ⊕ Unit)) := fun x15 =>
   if x15 < (↑o0.length : Int) then
    (F_impl_order_less (o0) (x0) (x15)).bind fun r4 =>
    if (r4) = true then
     (F_impl_order_less (o0) (x15) (y0)).bind fun r6 =>
     if (r6) = true then
      some (.inr (.inl ()))
     else
      ask (InI (x15 + (1 : Int))) <|
      some (.inl (x15 + (1 : Int)))
    else
     ask (InI (x15 + (1 : Int))) <|
     some (.inl (x15 + (1 : Int)))
   else
    some (.inr (.inr ()))
def S_impl_order_covers_l1 (o0 : List (List Bool)) (x0 : Int) (y0 : Int) : Int → St := fun s => [(15, A.val (vint s)), (14, A.val (vint ((↑o0.length : Int)))), (0, A.val ((slr false 1 (slr false 1 V.bool)) (o0))), (1, A.val (vint (x0))), (2, A.val (vint (y0)))]
def T_impl_order_covers_l1 (_o0 : List (List Bool)) (_x0 : Int) (_y0 : Int) : (Unit ⊕ Unit) → Tgt
  | (.inl _s) => (Ex.ret, [6], [(6, A.val (V.bool (false)))])
  | (.inr _s) => ((Ex.exit 0), [], [])
theorem b_impl_order_covers_l1 {o0 : List (List Bool)} {x0 : Int} {y0 : Int} (x15 : Int) (o : Int ⊕ (Unit ⊕ Unit)) (h : F_impl_order_covers_l1 o0 x0 y0 x15 = some o) : vc Tryd.prog c_impl_order_covers_l1 (outQ [15, 14, 0, 1, 2] (S_impl_order_covers_l1 o0 x0 y0) (T_impl_order_covers_l1 o0 x0 y0) o) (S_impl_order_covers_l1 o0 x0 y0 x15) := by
  unfold F_impl_order_covers_l1 at h
  try dsimp only at h
  conv => whnf
  refine Br.od h (fun p3 h => ?_) (fun p3 h => ?_)
  · conv => whnf
    refine CallQ.o V.bool (by first | rfl | simp only [mulN_one, V.fz, fzL, V.up, upL, fzL_map, fz_slr, fz_at, slr, List.cons_append, List.nil_append] | simp [mulN_one, V.fz, fzL, V.up, upL, fzL_map, fz_slr, fz_at, slr]) h (fun r h => t_impl_order_less h) (fun r4 h => ?_)
    conv => whnf
    refine Br.ob h (fun p5 h => ?_) (fun p5 h => ?_)
    · conv => whnf
      refine Br.yes ?_
      conv => whnf
      refine Br.yes ?_
      conv => whnf
      refine Br.yes ?_
      conv => whnf
      refine CallQ.o V.bool (by first | rfl | simp only [mulN_one, V.fz, fzL, V.up, upL, fzL_map, fz_slr, fz_at, slr, List.cons_append, List.nil_append] | simp [mulN_one, V.fz, fzL, V.up, upL, fzL_map, fz_slr, fz_at, slr]) h (fun r h => t_impl_order_less h) (fun r6 h => ?_)
      conv => whnf
      refine Br.yes ?_
      conv => whnf
      refine Br.ob h (fun p7 h => ?_) (fun p7 h => ?_)
      · conv => whnf
        cases h; exact ⟨rfl, rfl⟩
      · conv => whnf
        refine Ask.o h fun p8 h => ?_
        conv => whnf
        cases h; exact ⟨rfl, rfl⟩
    · conv => whnf
      refine Br.no ?_
      conv => whnf
      refine Br.no ?_
      conv => whnf
      refine Br.no ?_
      conv => whnf
      refine Br.no ?_
      conv => whnf
      refine Br.no ?_
      conv => whnf
      refine Ask.o h fun p9 h => ?_
      conv => whnf
      cases h; exact ⟨rfl, rfl⟩
  · conv => whnf
    cases h; exact ⟨rfl, rfl⟩

noncomputable def F_impl_order_covers (o0 : (List (List Bool))) (x0 : Int) (y0 : Int) : Option Bool :=
  (F_impl_order_less (o0) (x0) (y0)).bind fun r1 =>
  if (r1) = true then
   (loopO (F_impl_order_covers_l1 o0 x0 y0) (0 : Int)).bind fun t => match t with
   | (.inl _) => (some false)
   | (.inr _) => (some true)
  else
   some false
theorem t_impl_order_covers {o0 : (List (List Bool))} {x0 : Int} {y0 : Int} {v : Bool} (h : F_impl_order_covers o0 x0 y0 = some v) : Ret Tryd.prog f_impl_order_covers [(slr false 1 (slr false 1 V.bool)) o0, vint x0, vint y0] (V.bool v) := by
  refine ret_vc k_impl_order_covers (Nat.le_of_ble_eq_true rfl) ?_
  unfold F_impl_order_covers at h
  conv => whnf
  refine CallQ.o V.bool (by first | rfl | simp only [mulN_one, V.fz, fzL, V.up, upL, fzL_map, fz_slr, fz_at, slr, List.cons_append, List.nil_append] | simp [mulN_one, V.fz, fzL, V.up, upL, fzL_map, fz_slr, fz_at, slr]) h (fun r h => t_impl_order_less h) (fun r1 h => ?_)
  conv => whnf
  refine Br.flip ?_
  conv => whnf
  refine Br.ob h (fun p2 h => ?_) (fun p2 h => ?_)
  · conv => whnf
    refine Len.map ?_
    conv => whnf
    refine LoopQ.o [15, 14, 0, 1, 2] (S_impl_order_covers_l1 o0 x0 y0) (T_impl_order_covers_l1 o0 x0 y0) h (fun s o h => b_impl_order_covers_l1 s o h) (by first | rfl | simp [restrict, look, mulN_one, V.fz, fzL, V.up, upL, fzL_map, fz_slr, fz_at, slr]) (by rintro (_ | _) <;> rfl) ?_
    rintro (⟨⟩ | ⟨⟩) h
    · try dsimp only at h
      conv => whnf
      cases h; exact (by first | rfl | simp only [resV, mulN_one, V.fz, fzL, V.up, upL, fzL_map, fz_slr, fz_at, slr] | simp [resV, mulN_one, V.fz, fzL, V.up, upL, fzL_map, fz_slr, fz_at, slr])
    · try dsimp only at h
      conv => whnf
      cases h; exact (by first | rfl | simp only [resV, mulN_one, V.fz, fzL, V.up, upL, fzL_map, fz_slr, fz_at, slr] | simp [resV, mulN_one, V.fz, fzL, V.up, upL, fzL_map, fz_slr, fz_at, slr])
  · conv => whnf
    cases h; exact (by first | rfl | simp only [resV, mulN_one, V.fz, fzL, V.up, upL, fzL_map, fz_slr, fz_at, slr] | simp [resV, mulN_one, V.fz, fzL, V.up, upL, fzL_map, fz_slr, fz_at, slr])

noncomputable def F_spec_l23Leq (p0 : SPoset) (x0 : Int) (y0 : Int) : Option Bool :=
  ask ((0 : Int) ≤ y0 ∧ y0 < (↑p0.Below.length : Int)) <|
  (F_spec_l1Has (nth p0.Below y0.toNat) (x0)).bind fun r2 =>
  some r2
theorem t_spec_l23Leq {p0 : SPoset} {x0 : Int} {y0 : Int} {v : Bool} (h : F_spec_l23Leq p0 x0 y0 = some v) : Ret Tryd.prog f_spec_l23Leq [(rS_Poset false) p0, vint x0, vint y0] (V.bool v) := by
  refine ret_vc k_spec_l23Leq (Nat.le_of_ble_eq_true rfl) ?_
  unfold F_spec_l23Leq at h
  conv => whnf
  refine Cells.lit rfl rfl ?_
  conv => whnf
  refine Len.map ?_
  conv => whnf
  refine Ask.o h fun p1 h => ?_
  conv => whnf
  refine Elem.o (by first | omega | (simp only [mulN] at *; omega) | (simp [mulN] at *; omega)) ?_
  conv => whnf
  refine CallQ.o V.bool (by first | rfl | simp only [mulN_one, V.fz, fzL, V.up, upL, fzL_map, fz_slr, fz_at, slr, List.cons_append, List.nil_append] | simp [mulN_one, V.fz, fzL, V.up, upL, fzL_map, fz_slr, fz_at, slr]) h (fun r h => t_spec_l1Has h) (fun r2 h => ?_)
  conv => whnf
  cases h; exact (by first | rfl | simp only [resV, mulN_one, V.fz, fzL, V.up, upL, fzL_map, fz_slr, fz_at, slr] | simp [resV, mulN_one, V.fz, fzL, V.up, upL, fzL_map, fz_slr, fz_at, slr])

noncomputable def F_laws_szPoset (a0 : SPoset) (left0 : Int) : Option Int :=
  (F_laws_szIntSS (a0.Below) (left0)).bind fun r1 =>
  if r1 < (0 : Int) then
   some (-1 : Int)
  else
   some r1
theorem t_laws_szPoset {a0 : SPoset} {left0 : Int} {v : Int} (h : F_laws_szPoset a0 left0 = some v) : Ret Tryd.prog f_laws_szPoset [(rS_Poset false) a0, vint left0] (vint v) := by
  refine ret_vc k_laws_szPoset (Nat.le_of_ble_eq_true rfl) ?_
  unfold F_laws_szPoset at h
  conv => whnf
  refine Cells.lit rfl rfl ?_
  conv => whnf
  refine CallQ.o vint (by first | rfl | simp only [mulN_one, V.fz, fzL, V.up, upL, fzL_map, fz_slr, fz_at, slr, List.cons_append, List.nil_append] | simp [mulN_one, V.fz, fzL, V.up, upL, fzL_map, fz_slr, fz_at, slr]) h (fun r h => t_laws_szIntSS h) (fun r1 h => ?_)
  conv => whnf
  refine Br.od h (fun p2 h => ?_) (fun p2 h => ?_)
  · conv => whnf
    cases h; exact (by first | rfl | simp only [resV, mulN_one, V.fz, fzL, V.up, upL, fzL_map, fz_slr, fz_at, slr] | simp [resV, mulN_one, V.fz, fzL, V.up, upL, fzL_map, fz_slr, fz_at, slr])
  · conv => whnf
    cases h; exact (by first | rfl | simp only [resV, mulN_one, V.fz, fzL, V.up, upL, fzL_map, fz_slr, fz_at, slr] | simp [resV, mulN_one, V.fz, fzL, V.up, upL, fzL_map, fz_slr, fz_at, slr])

noncomputable def F_laws_toPoset (a0 : SPoset) : Option SPoset :=
  (F_laws_toIntSS (a0.Below)).bind fun r1 =>
  some ({ Below := r1 })
theorem t_laws_toPoset {a0 : SPoset} {v : SPoset} (h : F_laws_toPoset a0 = some v) : Ret Tryd.prog f_laws_toPoset [(rS_Poset false) a0] ((rS_Poset true) v) := by
  refine ret_vc k_laws_toPoset (Nat.le_of_ble_eq_true rfl) ?_
  unfold F_laws_toPoset at h
  conv => whnf
  refine Cells.lit rfl rfl ?_
  conv => whnf
  refine CallQ.o (slr true 1 (slr true 1 vint)) (by first | rfl | simp only [mulN_one, V.fz, fzL, V.up, upL, fzL_map, fz_slr, fz_at, slr, List.cons_append, List.nil_append] | simp [mulN_one, V.fz, fzL, V.up, upL, fzL_map, fz_slr, fz_at, slr]) h (fun r h => t_laws_toIntSS h) (fun r1 h => ?_)
  conv => whnf
  refine SetKids.lit rfl ?_
  conv => whnf
  refine Cells.lit rfl rfl ?_
  conv => whnf
  refine SetKids.lit rfl ?_
  conv => whnf
  cases h; exact (by first | rfl | simp only [resV, mulN_one, V.fz, fzL, V.up, upL, fzL_map, fz_slr, fz_at, slr] | simp [resV, mulN_one, V.fz, fzL, V.up, upL, fzL_map, fz_slr, fz_at, slr])

noncomputable def F_laws_eqPoset (a0 : SPoset) (b0 : SPoset) : Option Bool :=
  (F_laws_eqIntSS (a0.Below) (b0.Below)).bind fun r1 =>
  if (r1) = true then
   some true
  else
   some false
theorem t_laws_eqPoset {a0 : SPoset} {b0 : SPoset} {v : Bool} (h : F_laws_eqPoset a0 b0 = some v) : Ret Tryd.prog f_laws_eqPoset [(rS_Poset false) a0, (rS_Poset false) b0] (V.bool v) := by
  refine ret_vc k_laws_eqPoset (Nat.le_of_ble_eq_true rfl) ?_
  unfold F_laws_eqPoset at h
  conv => whnf
  refine Cells.lit rfl rfl ?_
  conv => whnf
  refine Cells.lit rfl rfl ?_
  conv => whnf
  refine CallQ.o V.bool (by first | rfl | simp only [mulN_one, V.fz, fzL, V.up, upL, fzL_map, fz_slr, fz_at, slr, List.cons_append, List.nil_append] | simp [mulN_one, V.fz, fzL, V.up, upL, fzL_map, fz_slr, fz_at, slr]) h (fun r h => t_laws_eqIntSS h) (fun r1 h => ?_)
  conv => whnf
  refine Br.flip ?_
  conv => whnf
  refine Br.ob h (fun p2 h => ?_) (fun p2 h => ?_)
  · conv => whnf
    cases h; exact (by first | rfl | simp only [resV, mulN_one, V.fz, fzL, V.up, upL, fzL_map, fz_slr, fz_at, slr] | simp [resV, mulN_one, V.fz, fzL, V.up, upL, fzL_map, fz_slr, fz_at, slr])
  · conv => whnf
    cases h; exact (by first | rfl | simp only [resV, mulN_one, V.fz, fzL, V.up, upL, fzL_map, fz_slr, fz_at, slr] | simp [resV, mulN_one, V.fz, fzL, V.up, upL, fzL_map, fz_slr, fz_at, slr])

end Go.Proofs.YtbnoclklhcbidaaDoor.Ax
