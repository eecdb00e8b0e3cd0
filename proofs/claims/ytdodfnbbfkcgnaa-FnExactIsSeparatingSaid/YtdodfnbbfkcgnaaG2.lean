/-
  What the functions compute, as functions on plain data, and that the program does compute it; written by program.
-/
import Derived.Test.YtdodfnbbfkcgnaaCode
import Derived.Test.YtdodfnbbfkcgnaaG1
namespace Go.Proofs.Ytdodfnbbfkcgnaa.Ax
open Go
set_option maxRecDepth 100000
set_option maxHeartbeats 4000000

noncomputable def F_impl_isPartition_l1 (p0 : List Int) : Int → Option (Int ⊕ (Unit ⊕ Unit)) := fun x13 =>
   if x13 < (↑p0.length : Int) then
    ask ((0 : Int) ≤ x13 ∧ x13 < (↑p0.length : Int)) <|
    if nth p0 x13.toNat < (0 : Int) then
     some (.inr (.inl ()))
    else
     if nth p0 x13.toNat > x13 then
      some (.inr (.inl ()))
     else
      ask ((0 : Int) ≤ nth p0 x13.toNat ∧ nth p0 x13.toNat < (↑p0.length : Int)) <|
      if nth p0 (nth p0 x13.toNat).toNat ≠ nth p0 x13.toNat then
       some (.inr (.inl ()))
      else
       ask (InI (x13 + (1 : Int))) <|
       some (.inl (x13 + (1 : Int)))
   else
    some (.inr (.inr ()))
def S_impl_isPartition_l1 (p0 : List Int) : Int → St := fun s => [(13, A.val (vint s)), (12, A.val (vint ((↑p0.length : Int)))), (11, A.val ((slr false 1 vint) (p0))), (1, A.val ((slr false 1 vint) (p0)))]
def T_impl_isPartition_l1 (_p0 : List Int) : (Unit ⊕ Unit) → Tgt
  | (.inl _s) => (Ex.ret, [4], [(4, A.val (V.bool (false)))])
  | (.inr _s) => ((Ex.exit 0), [], [])
theorem b_impl_isPartition_l1 {p0 : List Int} (x13 : Int) (o : Int ⊕ (Unit ⊕ Unit)) (h : F_impl_isPartition_l1 p0 x13 = some o) : vc Try.prog c_impl_isPartition_l1 (outQ [13, 12, 11, 1] (S_impl_isPartition_l1 p0) (T_impl_isPartition_l1 p0) o) (S_impl_isPartition_l1 p0 x13) := by
  unfold F_impl_isPartition_l1 at h
  try dsimp only at h
  conv => whnf
  refine Br.od h (fun p2 h => ?_) (fun p2 h => ?_)
  · conv => whnf
    refine Len.map ?_
    conv => whnf
    refine Ask.o h fun p3 h => ?_
    conv => whnf
    refine Elem.o (by first | omega | (simp only [mulN] at *; omega) | (simp [mulN] at *; omega)) ?_
    conv => whnf
    refine Br.od h (fun p4 h => ?_) (fun p4 h => ?_)
    · conv => whnf
      refine Br.yes ?_
      conv => whnf
      refine Br.yes ?_
      conv => whnf
      refine Br.yes ?_
      conv => whnf
      refine Br.yes ?_
      conv => whnf
      refine Br.yes ?_
      conv => whnf
      refine Br.yes ?_
      conv => whnf
      refine Br.yes ?_
      conv => whnf
      refine Br.yes ?_
      conv => whnf
      refine Br.yes ?_
      conv => whnf
      refine Br.yes ?_
      conv => whnf
      refine Br.yes ?_
      conv => whnf
      cases h; exact ⟨rfl, rfl⟩
    · conv => whnf
      refine Br.no ?_
      conv => whnf
      refine Br.no ?_
      conv => whnf
      refine Br.no ?_
      conv => whnf
      refine Br.od h (fun p5 h => ?_) (fun p5 h => ?_)
      · conv => whnf
        refine Br.yes ?_
        conv => whnf
        refine Br.yes ?_
        conv => whnf
        refine Br.yes ?_
        conv => whnf
        refine Br.yes ?_
        conv => whnf
        refine Br.yes ?_
        conv => whnf
        refine Br.yes ?_
        conv => whnf
        refine Br.yes ?_
        conv => whnf
        cases h; exact ⟨rfl, rfl⟩
      · conv => whnf
        refine Br.no ?_
        conv => whnf
        refine Br.no ?_
        conv => whnf
        refine Len.map ?_
        conv => whnf
        refine Ask.o h fun p6 h => ?_
        conv => whnf
        refine Elem.o (by first | omega | (simp only [mulN] at *; omega) | (simp [mulN] at *; omega)) ?_
        conv => whnf
        refine Br.no ?_
        conv => whnf
        refine Br.no ?_
        conv => whnf
        refine Br.no ?_
        conv => whnf
        refine Br.no ?_
        conv => whnf
        refine Br.on h (fun p7 h => ?_) (fun p7 h => ?_)
        · conv => whnf
          cases h; exact ⟨rfl, rfl⟩
        · conv => whnf
          refine Ask.o h fun p8 h => ?_
          conv => whnf
          cases h; exact ⟨rfl, rfl⟩
  · conv => whnf
    cases h; exact ⟨rfl, rfl⟩

noncomputable def F_impl_isPartition (n0 : Int) (p0 : (List Int)) : Option Bool :=
  if (↑p0.length : Int) ≠ n0 then
   some false
  else
   (loopO (F_impl_isPartition_l1 p0) (0 : Int)).bind fun t => match t with
   | (.inl _) => (some false)
   | (.inr _) => (some true)
theorem t_impl_isPartition {n0 : Int} {p0 : (List Int)} {v : Bool} (h : F_impl_isPartition n0 p0 = some v) : Ret Try.prog f_impl_isPartition [vint n0, (slr false 1 vint) p0] (V.bool v) := by
  refine ret_vc k_impl_isPartition (Nat.le_of_ble_eq_true rfl) ?_
  unfold F_impl_isPartition at h
  conv => whnf
  refine Len.map ?_
  conv => whnf
  refine Br.on h (fun p1 h => ?_) (fun p1 h => ?_)
  · conv => whnf
    cases h; exact (by first | rfl | simp only [resV, mulN_one, V.fz, fzL, V.up, upL, fzL_map, fz_slr, fz_at, slr] | simp [resV, mulN_one, V.fz, fzL, V.up, upL, fzL_map, fz_slr, fz_at, slr])
  · conv => whnf
    refine Len.map ?_
    conv => whnf
    refine LoopQ.o [13, 12, 11, 1] (S_impl_isPartition_l1 p0) (T_impl_isPartition_l1 p0) h (fun s o h => b_impl_isPartition_l1 s o h) (by first | rfl | simp [restrict, look, mulN_one, V.fz, fzL, V.up, upL, fzL_map, fz_slr, fz_at, slr]) (by rintro (_ | _) <;> rfl) ?_
    rintro (⟨⟩ | ⟨⟩) h
    · try dsimp only at h
      conv => whnf
      cases h; exact (by first | rfl | simp only [resV, mulN_one, V.fz, fzL, V.up, upL, fzL_map, fz_slr, fz_at, slr] | simp [resV, mulN_one, V.fz, fzL, V.up, upL, fzL_map, fz_slr, fz_at, slr])
    · try dsimp only at h
      conv => whnf
      cases h; exact (by first | rfl | simp only [resV, mulN_one, V.fz, fzL, V.up, upL, fzL_map, fz_slr, fz_at, slr] | simp [resV, mulN_one, V.fz, fzL, V.up, upL, fzL_map, fz_slr, fz_at, slr])

noncomputable def F_impl_clone (list0 : (List Int)) : Option (List Int) :=
  ask ((nilL Int).length + (list0).length ≤ LIM) <|
  some (nilL Int ++ list0)
theorem t_impl_clone {list0 : (List Int)} {v : (List Int)} (h : F_impl_clone list0 = some v) : Ret Try.prog f_impl_clone [(slr false 1 vint) list0] ((slr true 1 vint) v) := by
  refine ret_vc k_impl_clone (Nat.le_of_ble_eq_true rfl) ?_
  unfold F_impl_clone at h
  conv => whnf
  refine BslQ.o vint (nilL Int) (by exact fun _ => ⟨rfl, rfl⟩) (by first | rfl | simp only [mulN_one, V.fz, fzL, V.up, upL, fzL_map, fz_slr, fz_at, slr, List.cons_append, List.nil_append] | simp [mulN_one, V.fz, fzL, V.up, upL, fzL_map, fz_slr, fz_at, slr]) ?_
  conv => whnf
  refine AppQ.o (m := 1) vint (by exact fun _ => ⟨rfl, rfl⟩) (nilL Int) (list0) (by first | rfl | simp only [mulN_one, V.fz, fzL, V.up, upL, fzL_map, fz_slr, fz_at, slr, List.cons_append, List.nil_append] | simp [mulN_one, V.fz, fzL, V.up, upL, fzL_map, fz_slr, fz_at, slr]) (by first | rfl | simp only [mulN_one, V.fz, fzL, V.up, upL, fzL_map, fz_slr, fz_at, slr, List.cons_append, List.nil_append] | simp [mulN_one, V.fz, fzL, V.up, upL, fzL_map, fz_slr, fz_at, slr]) h fun h => ?_
  conv => whnf
  cases h; exact (by first | rfl | simp only [resV, mulN_one, V.fz, fzL, V.up, upL, fzL_map, fz_slr, fz_at, slr] | simp [resV, mulN_one, V.fz, fzL, V.up, upL, fzL_map, fz_slr, fz_at, slr])

noncomputable def F_impl_kernelOf_l1 (list0 : List Int) (x10 : Int) : (List Int) → Option ((List Int) ⊕ (List Int)) := fun x3' =>
   ask ((0 : Int) ≤ x10 ∧ x10 < (↑x3'.length : Int)) <|
   ask ((0 : Int) ≤ nth x3' x10.toNat ∧ nth x3' x10.toNat < (↑list0.length : Int)) <|
   ask ((0 : Int) ≤ x10 ∧ x10 < (↑list0.length : Int)) <|
   if nth list0 (nth x3' x10.toNat).toNat ≠ nth list0 x10.toNat then
    ask ((0 : Int) ≤ x10 ∧ x10 < (↑x3'.length : Int)) <|
    ask (InI (nth x3' x10.toNat + (1 : Int))) <|
    ask ((0 : Int) ≤ x10 ∧ x10 < (↑x3'.length : Int)) <|
    some (.inl (x3'.set x10.toNat (nth x3' x10.toNat + (1 : Int))))
   else
    some (.inr x3')
def S_impl_kernelOf_l1 (list0 : List Int) (x10 : Int) : (List Int) → St := fun s => [(4, A.val (vint (x10))), (10, A.val (vint (x10))), (9, A.val (vint ((↑list0.length : Int)))), (3, A.val ((slr true 1 vint) s)), (0, A.val ((slr false 1 vint) (list0)))]
def T_impl_kernelOf_l1 (list0 : List Int) (x10 : Int) : (List Int) → Tgt
  | s => ((Ex.exit 2), [10, 9, 3, 0], [(10, A.val (vint (x10))), (9, A.val (vint ((↑list0.length : Int)))), (3, A.val ((slr true 1 vint) s)), (0, A.val ((slr false 1 vint) (list0)))])
theorem b_impl_kernelOf_l1 {list0 : List Int} {x10 : Int} (x3' : (List Int)) (o : (List Int) ⊕ (List Int)) (h : F_impl_kernelOf_l1 list0 x10 x3' = some o) : vc Try.prog c_impl_kernelOf_l1 (outQ [4, 10, 9, 3, 0] (S_impl_kernelOf_l1 list0 x10) (T_impl_kernelOf_l1 list0 x10) o) (S_impl_kernelOf_l1 list0 x10 x3') := by
  unfold F_impl_kernelOf_l1 at h
  try dsimp only at h
  conv => whnf
  refine Len.map ?_
  conv => whnf
  refine Ask.o h fun p4 h => ?_
  conv => whnf
  refine Cells.one (fun _ => ⟨rfl, rfl⟩) (by first | omega | (simp only [mulN] at *; omega) | (simp [mulN] at *; omega)) ?_
  conv => whnf
  refine Len.map ?_
  conv => whnf
  refine Ask.o h fun p5 h => ?_
  conv => whnf
  refine Elem.o (by first | omega | (simp only [mulN] at *; omega) | (simp [mulN] at *; omega)) ?_
  conv => whnf
  refine Len.map ?_
  conv => whnf
  refine Ask.o h fun p6 h => ?_
  conv => whnf
  refine Elem.o (by first | omega | (simp only [mulN] at *; omega) | (simp [mulN] at *; omega)) ?_
  conv => whnf
  refine Br.on h (fun p7 h => ?_) (fun p7 h => ?_)
  · conv => whnf
    refine Len.map ?_
    conv => whnf
    refine Ask.o h fun p8 h => ?_
    conv => whnf
    refine Cells.one (fun _ => ⟨rfl, rfl⟩) (by first | omega | (simp only [mulN] at *; omega) | (simp [mulN] at *; omega)) ?_
    conv => whnf
    refine Ask.o h fun p9 h => ?_
    conv => whnf
    refine Len.map ?_
    conv => whnf
    refine Ask.o h fun p10 h => ?_
    conv => whnf
    refine SetKids.one (fun _ => ⟨rfl, rfl⟩) (nth x3' x10.toNat + (1 : Int)) (by first | rfl | simp only [mulN_one, V.fz, fzL, V.up, upL, fzL_map, fz_slr, fz_at, slr, List.cons_append, List.nil_append] | simp [mulN_one, V.fz, fzL, V.up, upL, fzL_map, fz_slr, fz_at, slr]) (by first | omega | (simp only [mulN] at *; omega) | (simp [mulN] at *; omega)) ?_
    conv => whnf
    cases h; exact ⟨rfl, rfl⟩
  · conv => whnf
    cases h; exact ⟨rfl, rfl⟩

noncomputable def F_impl_kernelOf_l2 (list0 : List Int) : (Int × (List Int)) → Option ((Int × (List Int)) ⊕ (List Int)) := fun (x10, x3) =>
   if x10 < (↑list0.length : Int) then
    ask ((0 : Int) ≤ x10 ∧ x10 < (↑x3.length : Int)) <|
    (loopO (F_impl_kernelOf_l1 list0 x10) (x3.set x10.toNat (0 : Int))).bind fun q11_3 =>
    ask (InI (x10 + (1 : Int))) <|
    some (.inl (x10 + (1 : Int), q11_3))
   else
    some (.inr x3)
def S_impl_kernelOf_l2 (list0 : List Int) : (Int × (List Int)) → St := fun s => [(10, A.val (vint s.1)), (9, A.val (vint ((↑list0.length : Int)))), (3, A.val ((slr true 1 vint) s.2)), (0, A.val ((slr false 1 vint) (list0)))]
def T_impl_kernelOf_l2 (_list0 : List Int) : (List Int) → Tgt
  | s => ((Ex.exit 0), [3], [(3, A.val ((slr true 1 vint) s))])
theorem b_impl_kernelOf_l2 {list0 : List Int} (s : (Int × (List Int))) (o : (Int × (List Int)) ⊕ (List Int)) (h : F_impl_kernelOf_l2 list0 s = some o) : vc Try.prog c_impl_kernelOf_l2 (outQ [10, 9, 3, 0] (S_impl_kernelOf_l2 list0) (T_impl_kernelOf_l2 list0) o) (S_impl_kernelOf_l2 list0 s) := by
  obtain ⟨x10, x3⟩ := s
  unfold F_impl_kernelOf_l2 at h
  try dsimp only at h
  conv => whnf
  refine Br.od h (fun p2 h => ?_) (fun p2 h => ?_)
  · conv => whnf
    refine Len.map ?_
    conv => whnf
    refine Ask.o h fun p3 h => ?_
    conv => whnf
    refine SetKids.one (fun _ => ⟨rfl, rfl⟩) ((0 : Int)) (by first | rfl | simp only [mulN_one, V.fz, fzL, V.up, upL, fzL_map, fz_slr, fz_at, slr, List.cons_append, List.nil_append] | simp [mulN_one, V.fz, fzL, V.up, upL, fzL_map, fz_slr, fz_at, slr]) (by first | omega | (simp only [mulN] at *; omega) | (simp [mulN] at *; omega)) ?_
    conv => whnf
    refine LoopQ.o [4, 10, 9, 3, 0] (S_impl_kernelOf_l1 list0 x10) (T_impl_kernelOf_l1 list0 x10) h (fun s o h => b_impl_kernelOf_l1 s o h) (by first | rfl | simp [restrict, look, mulN_one, V.fz, fzL, V.up, upL, fzL_map, fz_slr, fz_at, slr]) (fun _ => rfl) ?_
    rintro q11_3 h
    try dsimp only at h
    conv => whnf
    refine Ask.o h fun p12 h => ?_
    conv => whnf
    cases h; exact ⟨rfl, rfl⟩
  · conv => whnf
    cases h; exact ⟨rfl, rfl⟩

noncomputable def F_impl_kernelOf (list0 : (List Int)) : Option (List Int) :=
  ask ((0 : Int) ≤ (↑list0.length : Int) ∧ (↑list0.length : Int) ≤ (↑LIM : Int)) <|
  (loopO (F_impl_kernelOf_l2 list0) ((0 : Int), List.replicate (↑list0.length : Int).toNat (0 : Int))).bind fun q13_3 =>
  some q13_3
theorem t_impl_kernelOf {list0 : (List Int)} {v : (List Int)} (h : F_impl_kernelOf list0 = some v) : Ret Try.prog f_impl_kernelOf [(slr false 1 vint) list0] ((slr true 1 vint) v) := by
  refine ret_vc k_impl_kernelOf (Nat.le_of_ble_eq_true rfl) ?_
  unfold F_impl_kernelOf at h
  conv => whnf
  refine Len.map ?_
  conv => whnf
  refine Ask.o h fun p1 h => ?_
  conv => whnf
  refine MkQ.o vint ((0 : Int)) rfl ?_
  conv => whnf
  refine Len.map ?_
  conv => whnf
  refine LoopQ.o [10, 9, 3, 0] (S_impl_kernelOf_l2 list0) (T_impl_kernelOf_l2 list0) h (fun s o h => b_impl_kernelOf_l2 s o h) (by first | rfl | simp [restrict, look, mulN_one, V.fz, fzL, V.up, upL, fzL_map, fz_slr, fz_at, slr]) (fun _ => rfl) ?_
  rintro q13_3 h
  try dsimp only at h
  conv => whnf
  cases h; exact (by first | rfl | simp only [resV, mulN_one, V.fz, fzL, V.up, upL, fzL_map, fz_slr, fz_at, slr] | simp [resV, mulN_one, V.fz, fzL, V.up, upL, fzL_map, fz_slr, fz_at, slr])

noncomputable def F_impl_unite_l1 (p0 : List Int) (q5_2 : Int) (q5_1 : Int) : (Int × (List Int)) → Option ((Int × (List Int)) ⊕ (List Int)) := fun (x26, x40) =>
   if x26 < (↑p0.length : Int) then
    ask ((0 : Int) ≤ x26 ∧ x26 < (↑x40.length : Int)) <|
    if nth x40 x26.toNat = q5_2 then
     ask ((0 : Int) ≤ x26 ∧ x26 < (↑x40.length : Int)) <|
     ask (InI (x26 + (1 : Int))) <|
     some (.inl (x26 + (1 : Int), x40.set x26.toNat q5_1))
    else
     ask (InI (x26 + (1 : Int))) <|
     some (.inl (x26 + (1 : Int), x40))
   else
    some (.inr x40)
def S_impl_unite_l1 (p0 : List Int) (q5_2 : Int) (q5_1 : Int) : (Int × (List Int)) → St := fun s => [(26, A.val (vint s.1)), (25, A.val (vint ((↑p0.length : Int)))), (2, A.val (vint (q5_2))), (1, A.val (vint (q5_1))), (0, A.ref ((40 : Nat) + (0 : Nat)) []), (40, A.val ((slr true 1 vint) s.2))]
def T_impl_unite_l1 (_p0 : List Int) (_q5_2 : Int) (_q5_1 : Int) : (List Int) → Tgt
  | s => ((Ex.exit 0), [40], [(40, A.val ((slr true 1 vint) s))])
theorem b_impl_unite_l1 {p0 : List Int} {q5_2 : Int} {q5_1 : Int} (s : (Int × (List Int))) (o : (Int × (List Int)) ⊕ (List Int)) (h : F_impl_unite_l1 p0 q5_2 q5_1 s = some o) : vc Try.prog c_impl_unite_l1 (outQ [26, 25, 2, 1, 0, 40] (S_impl_unite_l1 p0 q5_2 q5_1) (T_impl_unite_l1 p0 q5_2 q5_1) o) (S_impl_unite_l1 p0 q5_2 q5_1 s) := by
  obtain ⟨x26, x40⟩ := s
  unfold F_impl_unite_l1 at h
  try dsimp only at h
  conv => whnf
  refine Br.od h (fun p6 h => ?_) (fun p6 h => ?_)
  · conv => whnf
    refine Len.map ?_
    conv => whnf
    refine Ask.o h fun p7 h => ?_
    conv => whnf
    refine Cells.one (fun _ => ⟨rfl, rfl⟩) (by first | omega | (simp only [mulN] at *; omega) | (simp [mulN] at *; omega)) ?_
    conv => whnf
    refine Br.oe h (fun p8 h => ?_) (fun p8 h => ?_)
    · conv => whnf
      refine Len.map ?_
      conv => whnf
      refine Ask.o h fun p9 h => ?_
      conv => whnf
      refine SetKids.one (fun _ => ⟨rfl, rfl⟩) (q5_1) (by first | rfl | simp only [mulN_one, V.fz, fzL, V.up, upL, fzL_map, fz_slr, fz_at, slr, List.cons_append, List.nil_append] | simp [mulN_one, V.fz, fzL, V.up, upL, fzL_map, fz_slr, fz_at, slr]) (by first | omega | (simp only [mulN] at *; omega) | (simp [mulN] at *; omega)) ?_
      conv => whnf
      refine Ask.o h fun p10 h => ?_
      conv => whnf
      cases h; exact ⟨rfl, rfl⟩
    · conv => whnf
      refine Ask.o h fun p11 h => ?_
      conv => whnf
      cases h; exact ⟨rfl, rfl⟩
  · conv => whnf
    cases h; exact ⟨rfl, rfl⟩

noncomputable def F_impl_unite (p0 : (List Int)) (x0 : Int) (y0 : Int) : Option (Bool × (List Int)) :=
  ask ((0 : Int) ≤ x0 ∧ x0 < (↑p0.length : Int)) <|
  ask ((0 : Int) ≤ y0 ∧ y0 < (↑p0.length : Int)) <|
  if nth p0 x0.toNat = nth p0 y0.toNat then
   some (false, p0)
  else
   ((if nth p0 x0.toNat > nth p0 y0.toNat then
        some (nth p0 x0.toNat, nth p0 y0.toNat)
       else
        some (nth p0 y0.toNat, nth p0 x0.toNat) : Option (Int × Int))).bind fun (q5_2, q5_1) =>
   (loopO (F_impl_unite_l1 p0 q5_2 q5_1) ((0 : Int), p0)).bind fun q12_40 =>
   some (true, q12_40)
theorem t_impl_unite {p0 : (List Int)} {x0 : Int} {y0 : Int} {v : (Bool × (List Int))} (h : F_impl_unite p0 x0 y0 = some v) : RetO Try.prog f_impl_unite [(slr true 1 vint) p0, vint x0, vint y0] (V.bool v.1) 0 ((slr true 1 vint) v.2) := by
  refine reto_vc k_impl_unite (Nat.le_of_ble_eq_true rfl) ?_
  unfold F_impl_unite at h
  conv => whnf
  refine Len.map ?_
  conv => whnf
  refine Ask.o h fun p1 h => ?_
  conv => whnf
  refine Cells.one (fun _ => ⟨rfl, rfl⟩) (by first | omega | (simp only [mulN] at *; omega) | (simp [mulN] at *; omega)) ?_
  conv => whnf
  refine Len.map ?_
  conv => whnf
  refine Ask.o h fun p2 h => ?_
  conv => whnf
  refine Cells.one (fun _ => ⟨rfl, rfl⟩) (by first | omega | (simp only [mulN] at *; omega) | (simp [mulN] at *; omega)) ?_
  conv => whnf
  refine Br.oe h (fun p3 h => ?_) (fun p3 h => ?_)
  · conv => whnf
    cases h; exact ⟨(by first | rfl | simp only [resV, mulN_one, V.fz, fzL, V.up, upL, fzL_map, fz_slr, fz_at, slr] | simp [resV, mulN_one, V.fz, fzL, V.up, upL, fzL_map, fz_slr, fz_at, slr]), (by first | rfl | simp only [resV, mulN_one, V.fz, fzL, V.up, upL, fzL_map, fz_slr, fz_at, slr] | simp [resV, mulN_one, V.fz, fzL, V.up, upL, fzL_map, fz_slr, fz_at, slr])⟩
  · conv => whnf
    refine CutQ.o (fun t : (Int × Int) => match t with | s => (Ex.normal, [2, 1, 0, 40], [(2, A.val (vint s.1)), (1, A.val (vint s.2)), (0, A.ref ((40 : Nat) + (0 : Nat)) []), (40, A.val ((slr true 1 vint) (p0)))])) h ?_ ?_
    · intro t h
      conv => whnf
      refine Br.od h (fun p4 h => ?_) (fun p4 h => ?_)
      · conv => whnf
        cases h; exact ⟨rfl, rfl⟩
      · conv => whnf
        cases h; exact ⟨rfl, rfl⟩
    · rintro ⟨q5_2, q5_1⟩ h
      try dsimp only at h
      conv => whnf
      refine Len.map ?_
      conv => whnf
      refine LoopQ.o [26, 25, 2, 1, 0, 40] (S_impl_unite_l1 p0 q5_2 q5_1) (T_impl_unite_l1 p0 q5_2 q5_1) h (fun s o h => b_impl_unite_l1 s o h) (by first | rfl | simp [restrict, look, mulN_one, V.fz, fzL, V.up, upL, fzL_map, fz_slr, fz_at, slr]) (fun _ => rfl) ?_
      rintro q12_40 h
      try dsimp only at h
      conv => whnf
      cases h; exact ⟨(by first | rfl | simp only [resV, mulN_one, V.fz, fzL, V.up, upL, fzL_map, fz_slr, fz_at, slr] | simp [resV, mulN_one, V.fz, fzL, V.up, upL, fzL_map, fz_slr, fz_at, slr]), (by first | rfl | simp only [resV, mulN_one, V.fz, fzL, V.up, upL, fzL_map, fz_slr, fz_at, slr] | simp [resV, mulN_one, V.fz, fzL, V.up, upL, fzL_map, fz_slr, fz_at, slr])⟩

noncomputable def F_spec_l1Least (a0 : Int) (b0 : Int) : Option Int :=
  if a0 < b0 then
   some a0
  else
   some b0
theorem t_spec_l1Least {a0 : Int} {b0 : Int} {v : Int} (h : F_spec_l1Least a0 b0 = some v) : Ret Try.prog f_spec_l1Least [vint a0, vint b0] (vint v) := by
  refine ret_vc k_spec_l1Least (Nat.le_of_ble_eq_true rfl) ?_
  unfold F_spec_l1Least at h
  conv => whnf
  refine Br.od h (fun p1 h => ?_) (fun p1 h => ?_)
  · conv => whnf
    cases h; exact (by first | rfl | simp only [resV, mulN_one, V.fz, fzL, V.up, upL, fzL_map, fz_slr, fz_at, slr] | simp [resV, mulN_one, V.fz, fzL, V.up, upL, fzL_map, fz_slr, fz_at, slr])
  · conv => whnf
    cases h; exact (by first | rfl | simp only [resV, mulN_one, V.fz, fzL, V.up, upL, fzL_map, fz_slr, fz_at, slr] | simp [resV, mulN_one, V.fz, fzL, V.up, upL, fzL_map, fz_slr, fz_at, slr])

noncomputable def F_spec_l1Most (a0 : Int) (b0 : Int) : Option Int :=
  if a0 > b0 then
   some a0
  else
   some b0
theorem t_spec_l1Most {a0 : Int} {b0 : Int} {v : Int} (h : F_spec_l1Most a0 b0 = some v) : Ret Try.prog f_spec_l1Most [vint a0, vint b0] (vint v) := by
  refine ret_vc k_spec_l1Most (Nat.le_of_ble_eq_true rfl) ?_
  unfold F_spec_l1Most at h
  conv => whnf
  refine Br.od h (fun p1 h => ?_) (fun p1 h => ?_)
  · conv => whnf
    cases h; exact (by first | rfl | simp only [resV, mulN_one, V.fz, fzL, V.up, upL, fzL_map, fz_slr, fz_at, slr] | simp [resV, mulN_one, V.fz, fzL, V.up, upL, fzL_map, fz_slr, fz_at, slr])
  · conv => whnf
    cases h; exact (by first | rfl | simp only [resV, mulN_one, V.fz, fzL, V.up, upL, fzL_map, fz_slr, fz_at, slr] | simp [resV, mulN_one, V.fz, fzL, V.up, upL, fzL_map, fz_slr, fz_at, slr])

noncomputable def F_laws_eqIntSS_l1 (a0 : List (List Int)) (b0 : List (List Int)) : Int → Option (Int ⊕ (Unit ⊕ Unit)) := fun x5 =>
   if x5 < (↑a0.length : Int) then
    ask ((0 : Int) ≤ x5 ∧ x5 < (↑a0.length : Int)) <|
    ask ((0 : Int) ≤ x5 ∧ x5 < (↑b0.length : Int)) <|
    (F_laws_eqIntS (nth a0 x5.toNat) (nth b0 x5.toNat)).bind fun r5 =>
    if (r5) = true then
     ask (InI (x5 + (1 : Int))) <|
     some (.inl (x5 + (1 : Int)))
    else
     some (.inr (.inl ()))
   else
    some (.inr (.inr ()))
def S_laws_eqIntSS_l1 (a0 : List (List Int)) (b0 : List (List Int)) : Int → St := fun s => [(5, A.val (vint s)), (0, A.val ((slr false 1 (slr false 1 vint)) (a0))), (1, A.val ((slr false 1 (slr false 1 vint)) (b0)))]
def T_laws_eqIntSS_l1 (_a0 : List (List Int)) (_b0 : List (List Int)) : (Unit ⊕ Unit) → Tgt
  | (.inl _s) => (Ex.ret, [4], [(4, A.val (V.bool (false)))])
  | (.inr _s) => ((Ex.exit 0), [], [])
theorem b_laws_eqIntSS_l1 {a0 : List (List Int)} {b0 : List (List Int)} (x5 : Int) (o : Int ⊕ (Unit ⊕ Unit)) (h : F_laws_eqIntSS_l1 a0 b0 x5 = some o) : vc Try.prog c_laws_eqIntSS_l1 (outQ [5, 0, 1] (S_laws_eqIntSS_l1 a0 b0) (T_laws_eqIntSS_l1 a0 b0) o) (S_laws_eqIntSS_l1 a0 b0 x5) := by
  unfold F_laws_eqIntSS_l1 at h
  try dsimp only at h
  conv => whnf
  refine Len.map ?_
  conv => whnf
  refine Br.od h (fun p2 h => ?_) (fun p2 h => ?_)
  · conv => whnf
    refine Len.map ?_
    conv => whnf
    refine Ask.o h fun p3 h => ?_
    conv => whnf
    refine Elem.o (by first | omega | (simp only [mulN] at *; omega) | (simp [mulN] at *; omega)) ?_
    conv => whnf
    refine Len.map ?_
    conv => whnf
    refine Ask.o h fun p4 h => ?_
    conv => whnf
    refine Elem.o (by first | omega | (simp only [mulN] at *; omega) | (simp [mulN] at *; omega)) ?_
    conv => whnf
    refine CallQ.o V.bool (by first | rfl | simp only [mulN_one, V.fz, fzL, V.up, upL, fzL_map, fz_slr, fz_at, slr, List.cons_append, List.nil_append] | simp [mulN_one, V.fz, fzL, V.up, upL, fzL_map, fz_slr, fz_at, slr]) h (fun r h => t_laws_eqIntS h) (fun r5 h => ?_)
    conv => whnf
    refine Br.flip ?_
    conv => whnf
    refine Br.ob h (fun p6 h => ?_) (fun p6 h => ?_)
    · conv => whnf
      refine Ask.o h fun p7 h => ?_
      conv => whnf
      cases h; exact ⟨rfl, rfl⟩
    · conv => whnf
      cases h; exact ⟨rfl, rfl⟩
  · conv => whnf
    cases h; exact ⟨rfl, rfl⟩

noncomputable def F_laws_eqIntSS (a0 : (List (List Int))) (b0 : (List (List Int))) : Option Bool :=
  if (↑a0.length : Int) ≠ (↑b0.length : Int) then
   some false
  else
   (loopO (F_laws_eqIntSS_l1 a0 b0) (0 : Int)).bind fun t => match t with
   | (.inl _) => (some false)
   | (.inr _) => (some true)
theorem t_laws_eqIntSS {a0 : (List (List Int))} {b0 : (List (List Int))} {v : Bool} (h : F_laws_eqIntSS a0 b0 = some v) : Ret Try.prog f_laws_eqIntSS [(slr false 1 (slr false 1 vint)) a0, (slr false 1 (slr false 1 vint)) b0] (V.bool v) := by
  refine ret_vc k_laws_eqIntSS (Nat.le_of_ble_eq_true rfl) ?_
  unfold F_laws_eqIntSS at h
  conv => whnf
  refine Len.map ?_
  conv => whnf
  refine Len.map ?_
  conv => whnf
  refine Br.on h (fun p1 h => ?_) (fun p1 h => ?_)
  · conv => whnf
    cases h; exact (by first | rfl | simp only [resV, mulN_one, V.fz, fzL, V.up, upL, fzL_map, fz_slr, fz_at, slr] | simp [resV, mulN_one, V.fz, fzL, V.up, upL, fzL_map, fz_slr, fz_at, slr])
  · conv => whnf
    refine LoopQ.o [5, 0, 1] (S_laws_eqIntSS_l1 a0 b0) (T_laws_eqIntSS_l1 a0 b0) h (fun s o h => b_laws_eqIntSS_l1 s o h) (by first | rfl | simp [restrict, look, mulN_one, V.fz, fzL, V.up, upL, fzL_map, fz_slr, fz_at, slr]) (by rintro (_ | _) <;> rfl) ?_
    rintro (⟨⟩ | ⟨⟩) h
    · try dsimp only at h
      conv => whnf
      cases h; exact (by first | rfl | simp only [resV, mulN_one, V.fz, fzL, V.up, upL, fzL_map, fz_slr, fz_at, slr] | simp [resV, mulN_one, V.fz, fzL, V.up, upL, fzL_map, fz_slr, fz_at, slr])
    · try dsimp only at h
      conv => whnf
      cases h; exact (by first | rfl | simp only [resV, mulN_one, V.fz, fzL, V.up, upL, fzL_map, fz_slr, fz_at, slr] | simp [resV, mulN_one, V.fz, fzL, V.up, upL, fzL_map, fz_slr, fz_at, slr])

noncomputable def F_laws_szIntSS_l1 (a0 : List (List Int)) : (Int × Int) → Option ((Int × Int) ⊕ (Unit ⊕ Int)) := fun (x5, x1) =>
   if x5 < (↑a0.length : Int) then
    ask ((0 : Int) ≤ x5 ∧ x5 < (↑a0.length : Int)) <|
    (F_laws_szIntS (nth a0 x5.toNat) (x1)).bind fun r5 =>
    if r5 < (0 : Int) then
     some (.inr (.inl ()))
    else
     ask (InI (x5 + (1 : Int))) <|
     some (.inl (x5 + (1 : Int), r5))
   else
    some (.inr (.inr x1))
def S_laws_szIntSS_l1 (a0 : List (List Int)) : (Int × Int) → St := fun s => [(5, A.val (vint s.1)), (1, A.val (vint s.2)), (0, A.val ((slr false 1 (slr false 1 vint)) (a0)))]
def T_laws_szIntSS_l1 (_a0 : List (List Int)) : (Unit ⊕ Int) → Tgt
  | (.inl _s) => (Ex.ret, [4], [(4, A.val (vint ((-1 : Int))))])
  | (.inr s) => ((Ex.exit 0), [1], [(1, A.val (vint s))])
theorem b_laws_szIntSS_l1 {a0 : List (List Int)} (s : (Int × Int)) (o : (Int × Int) ⊕ (Unit ⊕ Int)) (h : F_laws_szIntSS_l1 a0 s = some o) : vc Try.prog c_laws_szIntSS_l1 (outQ [5, 1, 0] (S_laws_szIntSS_l1 a0) (T_laws_szIntSS_l1 a0) o) (S_laws_szIntSS_l1 a0 s) := by
  obtain ⟨x5, x1⟩ := s
  unfold F_laws_szIntSS_l1 at h
  try dsimp only at h
  conv => whnf
  refine Len.map ?_
  conv => whnf
  refine Br.od h (fun p3 h => ?_) (fun p3 h => ?_)
  · conv => whnf
    refine Len.map ?_
    conv => whnf
    refine Ask.o h fun p4 h => ?_
    conv => whnf
    refine Elem.o (by first | omega | (simp only [mulN] at *; omega) | (simp [mulN] at *; omega)) ?_
    conv => whnf
    refine CallQ.o vint (by first | rfl | simp only [mulN_one, V.fz, fzL, V.up, upL, fzL_map, fz_slr, fz_at, slr, List.cons_append, List.nil_append] | simp [mulN_one, V.fz, fzL, V.up, upL, fzL_map, fz_slr, fz_at, slr]) h (fun r h => t_laws_szIntS h) (fun r5 h => ?_)
    conv => whnf
    refine Br.od h (fun p6 h => ?_) (fun p6 h => ?_)
    · conv => whnf
      cases h; exact ⟨rfl, rfl⟩
    · conv => whnf
      refine Ask.o h fun p7 h => ?_
      conv => whnf
      cases h; exact ⟨rfl, rfl⟩
  · conv => whnf
    cases h; exact ⟨rfl, rfl⟩

noncomputable def F_laws_szIntSS (a0 : (List (List Int))) (left0 : Int) : Option Int :=
  ask (InI (left0 - (↑a0.length : Int))) <|
  if left0 - (↑a0.length : Int) < (0 : Int) then
   some (-1 : Int)
  else
   (loopO (F_laws_szIntSS_l1 a0) ((0 : Int), left0 - (↑a0.length : Int))).bind fun t => match t with
   | (.inl _) => (some (-1 : Int))
   | (.inr q8_1) => (some q8_1)
theorem t_laws_szIntSS {a0 : (List (List Int))} {left0 : Int} {v : Int} (h : F_laws_szIntSS a0 left0 = some v) : Ret Try.prog f_laws_szIntSS [(slr false 1 (slr false 1 vint)) a0, vint left0] (vint v) := by
  refine ret_vc k_laws_szIntSS (Nat.le_of_ble_eq_true rfl) ?_
  unfold F_laws_szIntSS at h
  conv => whnf
  refine Len.map ?_
  conv => whnf
  refine Ask.o h fun p1 h => ?_
  conv => whnf
  refine Br.od h (fun p2 h => ?_) (fun p2 h => ?_)
  · conv => whnf
    cases h; exact (by first | rfl | simp only [resV, mulN_one, V.fz, fzL, V.up, upL, fzL_map, fz_slr, fz_at, slr] | simp [resV, mulN_one, V.fz, fzL, V.up, upL, fzL_map, fz_slr, fz_at, slr])
  · conv => whnf
    refine LoopQ.o [5, 1, 0] (S_laws_szIntSS_l1 a0) (T_laws_szIntSS_l1 a0) h (fun s o h => b_laws_szIntSS_l1 s o h) (by first | rfl | simp [restrict, look, mulN_one, V.fz, fzL, V.up, upL, fzL_map, fz_slr, fz_at, slr]) (by rintro (_ | _) <;> rfl) ?_
    rintro (⟨⟩ | q8_1) h
    · try dsimp only at h
      conv => whnf
      cases h; exact (by first | rfl | simp only [resV, mulN_one, V.fz, fzL, V.up, upL, fzL_map, fz_slr, fz_at, slr] | simp [resV, mulN_one, V.fz, fzL, V.up, upL, fzL_map, fz_slr, fz_at, slr])
    · try dsimp only at h
      conv => whnf
      cases h; exact (by first | rfl | simp only [resV, mulN_one, V.fz, fzL, V.up, upL, fzL_map, fz_slr, fz_at, slr] | simp [resV, mulN_one, V.fz, fzL, V.up, upL, fzL_map, fz_slr, fz_at, slr])

noncomputable def F_laws_toIntSS_l1 (a0 : List (List Int)) : (Int × (List (List Int))) → Option ((Int × (List (List Int))) ⊕ (List (List Int))) := fun (x4, x3) =>
   if x4 < (↑a0.length : Int) then
    ask ((0 : Int) ≤ x4 ∧ x4 < (↑a0.length : Int)) <|
    (F_laws_toIntS (nth a0 x4.toNat)).bind fun r4 =>
    ask ((0 : Int) ≤ x4 ∧ x4 < (↑x3.length : Int)) <|
    ask (InI (x4 + (1 : Int))) <|
    some (.inl (x4 + (1 : Int), x3.set x4.toNat r4))
   else
    some (.inr x3)
def S_laws_toIntSS_l1 (a0 : List (List Int)) : (Int × (List (List Int))) → St := fun s => [(4, A.val (vint s.1)), (3, A.val ((slr true 1 (slr true 1 vint)) s.2)), (0, A.val ((slr false 1 (slr false 1 vint)) (a0)))]
def T_laws_toIntSS_l1 (_a0 : List (List Int)) : (List (List Int)) → Tgt
  | s => ((Ex.exit 0), [3], [(3, A.val ((slr true 1 (slr true 1 vint)) s))])
theorem b_laws_toIntSS_l1 {a0 : List (List Int)} (s : (Int × (List (List Int)))) (o : (Int × (List (List Int))) ⊕ (List (List Int))) (h : F_laws_toIntSS_l1 a0 s = some o) : vc Try.prog c_laws_toIntSS_l1 (outQ [4, 3, 0] (S_laws_toIntSS_l1 a0) (T_laws_toIntSS_l1 a0) o) (S_laws_toIntSS_l1 a0 s) := by
  obtain ⟨x4, x3⟩ := s
  unfold F_laws_toIntSS_l1 at h
  try dsimp only at h
  conv => whnf
  refine Len.map ?_
  conv => whnf
  refine Br.od h (fun p2 h => ?_) (fun p2 h => ?_)
  · conv => whnf
    refine Len.map ?_
    conv => whnf
    refine Ask.o h fun p3 h => ?_
    conv => whnf
    refine Elem.o (by first | omega | (simp only [mulN] at *; omega) | (simp [mulN] at *; omega)) ?_
    conv => whnf
    refine CallQ.o (slr true 1 vint) (by first | rfl | simp only [mulN_one, V.fz, fzL, V.up, upL, fzL_map, fz_slr, fz_at, slr, List.cons_append, List.nil_append] | simp [mulN_one, V.fz, fzL, V.up, upL, fzL_map, fz_slr, fz_at, slr]) h (fun r h => t_laws_toIntS h) (fun r4 h => ?_)
    conv => whnf
    refine Len.map ?_
    conv => whnf
    refine Ask.o h fun p5 h => ?_
    conv => whnf
    refine SetKids.one (fun _ => ⟨rfl, rfl⟩) (r4) (by first | rfl | simp only [mulN_one, V.fz, fzL, V.up, upL, fzL_map, fz_slr, fz_at, slr, List.cons_append, List.nil_append] | simp [mulN_one, V.fz, fzL, V.up, upL, fzL_map, fz_slr, fz_at, slr]) (by first | omega | (simp only [mulN] at *; omega) | (simp [mulN] at *; omega)) ?_
    conv => whnf
    refine Ask.o h fun p6 h => ?_
    conv => whnf
    cases h; exact ⟨rfl, rfl⟩
  · conv => whnf
    cases h; exact ⟨rfl, rfl⟩

noncomputable def F_laws_toIntSS (a0 : (List (List Int))) : Option (List (List Int)) :=
  ask ((0 : Int) ≤ (↑a0.length : Int) ∧ (↑a0.length : Int) ≤ (↑LIM : Int)) <|
  (loopO (F_laws_toIntSS_l1 a0) ((0 : Int), List.replicate (↑a0.length : Int).toNat (nilL Int))).bind fun q7_3 =>
  some q7_3
theorem t_laws_toIntSS {a0 : (List (List Int))} {v : (List (List Int))} (h : F_laws_toIntSS a0 = some v) : Ret Try.prog f_laws_toIntSS [(slr false 1 (slr false 1 vint)) a0] ((slr true 1 (slr true 1 vint)) v) := by
  refine ret_vc k_laws_toIntSS (Nat.le_of_ble_eq_true rfl) ?_
  unfold F_laws_toIntSS at h
  conv => whnf
  refine Len.map ?_
  conv => whnf
  refine Ask.o h fun p1 h => ?_
  conv => whnf
  refine MkQ.o (slr true 1 vint) (nilL Int) rfl ?_
  conv => whnf
  refine LoopQ.o [4, 3, 0] (S_laws_toIntSS_l1 a0) (T_laws_toIntSS_l1 a0) h (fun s o h => b_laws_toIntSS_l1 s o h) (by first | rfl | simp [restrict, look, mulN_one, V.fz, fzL, V.up, upL, fzL_map, fz_slr, fz_at, slr]) (fun _ => rfl) ?_
  rintro q7_3 h
  try dsimp only at h
  conv => whnf
  cases h; exact (by first | rfl | simp only [resV, mulN_one, V.fz, fzL, V.up, upL, fzL_map, fz_slr, fz_at, slr] | simp [resV, mulN_one, V.fz, fzL, V.up, upL, fzL_map, fz_slr, fz_at, slr])

noncomputable def F_spec_l10Meet_l1 (list0 : List (List Int)) : (Int × (List Int)) → Option ((Int × (List Int)) ⊕ (List Int)) := fun (x6, x5) =>
   if x6 < (↑list0.length : Int) then
    ask ((0 : Int) ≤ x6 ∧ x6 < (↑list0.length : Int)) <|
    (F_spec_l6Meet (x5) (nth list0 x6.toNat)).bind fun r4 =>
    ask (InI (x6 + (1 : Int))) <|
    some (.inl (x6 + (1 : Int), r4))
   else
    some (.inr x5)
def S_spec_l10Meet_l1 (list0 : List (List Int)) : (Int × (List Int)) → St := fun s => [(6, A.val (vint s.1)), (5, A.val ((slr true 1 vint) s.2)), (1, A.val ((slr false 1 (slr false 1 vint)) (list0)))]
def T_spec_l10Meet_l1 (_list0 : List (List Int)) : (List Int) → Tgt
  | s => ((Ex.exit 0), [5], [(5, A.val ((slr true 1 vint) s))])
theorem b_spec_l10Meet_l1 {list0 : List (List Int)} (s : (Int × (List Int))) (o : (Int × (List Int)) ⊕ (List Int)) (h : F_spec_l10Meet_l1 list0 s = some o) : vc Try.prog c_spec_l10Meet_l1 (outQ [6, 5, 1] (S_spec_l10Meet_l1 list0) (T_spec_l10Meet_l1 list0) o) (S_spec_l10Meet_l1 list0 s) := by
  obtain ⟨x6, x5⟩ := s
  unfold F_spec_l10Meet_l1 at h
  try dsimp only at h
  conv => whnf
  refine Len.map ?_
  conv => whnf
  refine Br.od h (fun p2 h => ?_) (fun p2 h => ?_)
  · conv => whnf
    refine Len.map ?_
    conv => whnf
    refine Ask.o h fun p3 h => ?_
    conv => whnf
    refine Elem.o (by first | omega | (simp only [mulN] at *; omega) | (simp [mulN] at *; omega)) ?_
    conv => whnf
    refine CallQ.rd (slr true 1 vint) (by first | rfl | simp only [V.fz, fzL_map, slr] | simp [mulN_one, V.fz, fzL, V.up, upL, fzL_map, fz_slr, fz_at, slr]) (fun _ => by simp [V.noFz, noFzL_map]) h (fun r h => t_spec_l6Meet h) (fun r4 h => ?_)
    conv => whnf
    refine Ask.o h fun p5 h => ?_
    conv => whnf
    cases h; exact ⟨rfl, rfl⟩
  · conv => whnf
    cases h; exact ⟨rfl, rfl⟩

noncomputable def F_spec_l10Meet (n0 : Int) (list0 : (List (List Int))) : Option (List Int) :=
  (F_spec_l6Full (n0)).bind fun r1 =>
  (loopO (F_spec_l10Meet_l1 list0) ((0 : Int), r1)).bind fun q6_5 =>
  some q6_5
theorem t_spec_l10Meet {n0 : Int} {list0 : (List (List Int))} {v : (List Int)} (h : F_spec_l10Meet n0 list0 = some v) : Ret Try.prog f_spec_l10Meet [vint n0, (slr false 1 (slr false 1 vint)) list0] ((slr true 1 vint) v) := by
  refine ret_vc k_spec_l10Meet (Nat.le_of_ble_eq_true rfl) ?_
  unfold F_spec_l10Meet at h
  conv => whnf
  refine CallQ.o (slr true 1 vint) (by first | rfl | simp only [mulN_one, V.fz, fzL, V.up, upL, fzL_map, fz_slr, fz_at, slr, List.cons_append, List.nil_append] | simp [mulN_one, V.fz, fzL, V.up, upL, fzL_map, fz_slr, fz_at, slr]) h (fun r h => t_spec_l6Full h) (fun r1 h => ?_)
  conv => whnf
  refine LoopQ.o [6, 5, 1] (S_spec_l10Meet_l1 list0) (T_spec_l10Meet_l1 list0) h (fun s o h => b_spec_l10Meet_l1 s o h) (by first | rfl | simp [restrict, look, mulN_one, V.fz, fzL, V.up, upL, fzL_map, fz_slr, fz_at, slr]) (fun _ => rfl) ?_
  rintro q6_5 h
  try dsimp only at h
  conv => whnf
  cases h; exact (by first | rfl | simp only [resV, mulN_one, V.fz, fzL, V.up, upL, fzL_map, fz_slr, fz_at, slr] | simp [resV, mulN_one, V.fz, fzL, V.up, upL, fzL_map, fz_slr, fz_at, slr])

noncomputable def F_laws_szOp (a0 : SOp) (left0 : Int) : Option Int :=
  (F_laws_szIntS (a0.Table) (left0)).bind fun r1 =>
  if r1 < (0 : Int) then
   some (-1 : Int)
  else
   some r1
theorem t_laws_szOp {a0 : SOp} {left0 : Int} {v : Int} (h : F_laws_szOp a0 left0 = some v) : Ret Try.prog f_laws_szOp [(rS_Op false) a0, vint left0] (vint v) := by
  refine ret_vc k_laws_szOp (Nat.le_of_ble_eq_true rfl) ?_
  unfold F_laws_szOp at h
  conv => whnf
  refine Cells.lit rfl rfl ?_
  conv => whnf
  refine CallQ.o vint (by first | rfl | simp only [mulN_one, V.fz, fzL, V.up, upL, fzL_map, fz_slr, fz_at, slr, List.cons_append, List.nil_append] | simp [mulN_one, V.fz, fzL, V.up, upL, fzL_map, fz_slr, fz_at, slr]) h (fun r h => t_laws_szIntS h) (fun r1 h => ?_)
  conv => whnf
  refine Br.od h (fun p2 h => ?_) (fun p2 h => ?_)
  · conv => whnf
    cases h; exact (by first | rfl | simp only [resV, mulN_one, V.fz, fzL, V.up, upL, fzL_map, fz_slr, fz_at, slr] | simp [resV, mulN_one, V.fz, fzL, V.up, upL, fzL_map, fz_slr, fz_at, slr])
  · conv => whnf
    cases h; exact (by first | rfl | simp only [resV, mulN_one, V.fz, fzL, V.up, upL, fzL_map, fz_slr, fz_at, slr] | simp [resV, mulN_one, V.fz, fzL, V.up, upL, fzL_map, fz_slr, fz_at, slr])

noncomputable def F_spec_l2Op_l1 (n0 : Int) (op0 : SOp) : Int → Option (Int ⊕ (Unit ⊕ Unit)) := fun x5 =>
   if x5 < (↑op0.Table.length : Int) then
    ask ((0 : Int) ≤ x5 ∧ x5 < (↑op0.Table.length : Int)) <|
    ask (InI (n0 - (1 : Int))) <|
    (F_spec_l1In (nth op0.Table x5.toNat) ((0 : Int)) (n0 - (1 : Int))).bind fun r9 =>
    if (r9) = true then
     ask (InI (x5 + (1 : Int))) <|
     some (.inl (x5 + (1 : Int)))
    else
     some (.inr (.inl ()))
   else
    some (.inr (.inr ()))
def S_spec_l2Op_l1 (n0 : Int) (op0 : SOp) : Int → St := fun s => [(5, A.val (vint s)), (3, A.val ((rP true (rS_Op false)) (op0))), (0, A.val (vint (n0)))]
def T_spec_l2Op_l1 (_n0 : Int) (_op0 : SOp) : (Unit ⊕ Unit) → Tgt
  | (.inl _s) => (Ex.ret, [4], [(4, A.val (V.bool (false)))])
  | (.inr _s) => ((Ex.exit 0), [], [])
theorem b_spec_l2Op_l1 {n0 : Int} {op0 : SOp} (x5 : Int) (o : Int ⊕ (Unit ⊕ Unit)) (h : F_spec_l2Op_l1 n0 op0 x5 = some o) : vc Try.prog c_spec_l2Op_l1 (outQ [5, 3, 0] (S_spec_l2Op_l1 n0 op0) (T_spec_l2Op_l1 n0 op0) o) (S_spec_l2Op_l1 n0 op0 x5) := by
  unfold F_spec_l2Op_l1 at h
  try dsimp only at h
  conv => whnf
  refine Cells.lit rfl rfl ?_
  conv => whnf
  refine Len.map ?_
  conv => whnf
  refine Br.od h (fun p6 h => ?_) (fun p6 h => ?_)
  · conv => whnf
    refine Cells.lit rfl rfl ?_
    conv => whnf
    refine Len.map ?_
    conv => whnf
    refine Ask.o h fun p7 h => ?_
    conv => whnf
    refine Elem.o (by first | omega | (simp only [mulN] at *; omega) | (simp [mulN] at *; omega)) ?_
    conv => whnf
    refine Ask.o h fun p8 h => ?_
    conv => whnf
    refine CallQ.o V.bool (by first | rfl | simp only [mulN_one, V.fz, fzL, V.up, upL, fzL_map, fz_slr, fz_at, slr, List.cons_append, List.nil_append] | simp [mulN_one, V.fz, fzL, V.up, upL, fzL_map, fz_slr, fz_at, slr]) h (fun r h => t_spec_l1In h) (fun r9 h => ?_)
    conv => whnf
    refine Br.flip ?_
    conv => whnf
    refine Br.ob h (fun p10 h => ?_) (fun p10 h => ?_)
    · conv => whnf
      refine Ask.o h fun p11 h => ?_
      conv => whnf
      cases h; exact ⟨rfl, rfl⟩
    · conv => whnf
      cases h; exact ⟨rfl, rfl⟩
  · conv => whnf
    cases h; exact ⟨rfl, rfl⟩

noncomputable def F_spec_l2Op (n0 : Int) (op0 : SOp) : Option Bool :=
  (((F_spec_l1In (op0.Arity) ((0 : Int)) ((3 : Int))).bind fun r1 =>
     if (r1) = true then
      (F_spec_l2Pow (n0) (op0.Arity)).bind fun r3 =>
      if (↑op0.Table.length : Int) ≠ r3 then
       some (.inl ())
      else
       some (.inr ())
     else
      some (.inl ()) : Option (Unit ⊕ Unit))).bind fun t => match t with
  | (.inl _) => (some false)
  | (.inr _) => ((loopO (F_spec_l2Op_l1 n0 op0) (0 : Int)).bind fun t => match t with
    | (.inl _) => (some false)
    | (.inr _) => (some true))
theorem t_spec_l2Op {n0 : Int} {op0 : SOp} {v : Bool} (h : F_spec_l2Op n0 op0 = some v) : Ret Try.prog f_spec_l2Op [vint n0, (rS_Op false) op0] (V.bool v) := by
  refine ret_vc k_spec_l2Op (Nat.le_of_ble_eq_true rfl) ?_
  unfold F_spec_l2Op at h
  conv => whnf
  refine CutQ.o (fun t : (Unit ⊕ Unit) => match t with | (.inl s) => (Ex.ret, [4], [(4, A.val (V.bool (false)))]) | (.inr s) => (Ex.normal, [3, 0], [(3, A.val ((rP true (rS_Op false)) (op0))), (0, A.val (vint (n0)))])) h ?_ ?_
  · intro t h
    conv => whnf
    refine Cells.lit rfl rfl ?_
    conv => whnf
    refine CallP.o V.bool (by first | rfl | simp only [mulN_one, V.fz, fzL, V.up, upL, fzL_map, fz_slr, fz_at, slr, List.cons_append, List.nil_append] | simp [mulN_one, V.fz, fzL, V.up, upL, fzL_map, fz_slr, fz_at, slr]) h (fun r h => t_spec_l1In h) (fun r1 h => ?_)
    conv => whnf
    refine Br.flip ?_
    conv => whnf
    refine Br.ob h (fun p2 h => ?_) (fun p2 h => ?_)
    · conv => whnf
      refine Br.no ?_
      conv => whnf
      refine Cells.lit rfl rfl ?_
      conv => whnf
      refine Br.no ?_
      conv => whnf
      refine Len.map ?_
      conv => whnf
      refine Br.no ?_
      conv => whnf
      refine Br.no ?_
      conv => whnf
      refine Br.no ?_
      conv => whnf
      refine Cells.lit rfl rfl ?_
      conv => whnf
      refine Br.no ?_
      conv => whnf
      refine CallP.o vint (by first | rfl | simp only [mulN_one, V.fz, fzL, V.up, upL, fzL_map, fz_slr, fz_at, slr, List.cons_append, List.nil_append] | simp [mulN_one, V.fz, fzL, V.up, upL, fzL_map, fz_slr, fz_at, slr]) h (fun r h => t_spec_l2Pow h) (fun r3 h => ?_)
      conv => whnf
      refine Br.no ?_
      conv => whnf
      refine Br.no ?_
      conv => whnf
      refine Br.on h (fun p4 h => ?_) (fun p4 h => ?_)
      · conv => whnf
        cases h; exact ⟨rfl, rfl⟩
      · conv => whnf
        cases h; exact ⟨rfl, rfl⟩
    · conv => whnf
      refine Br.yes ?_
      conv => whnf
      refine Br.yes ?_
      conv => whnf
      refine Br.yes ?_
      conv => whnf
      refine Br.yes ?_
      conv => whnf
      refine Br.yes ?_
      conv => whnf
      refine Br.yes ?_
      conv => whnf
      refine Br.yes ?_
      conv => whnf
      refine Br.yes ?_
      conv => whnf
      refine Br.yes ?_
      conv => whnf
      cases h; exact ⟨rfl, rfl⟩
  · rintro (⟨⟩ | ⟨⟩) h
    · try dsimp only at h
      conv => whnf
      cases h; exact (by first | rfl | simp only [resV, mulN_one, V.fz, fzL, V.up, upL, fzL_map, fz_slr, fz_at, slr] | simp [resV, mulN_one, V.fz, fzL, V.up, upL, fzL_map, fz_slr, fz_at, slr])
    · try dsimp only at h
      conv => whnf
      refine LoopQ.o [5, 3, 0] (S_spec_l2Op_l1 n0 op0) (T_spec_l2Op_l1 n0 op0) h (fun s o h => b_spec_l2Op_l1 s o h) (by first | rfl | simp [restrict, look, mulN_one, V.fz, fzL, V.up, upL, fzL_map, fz_slr, fz_at, slr]) (by rintro (_ | _) <;> rfl) ?_
      rintro (⟨⟩ | ⟨⟩) h
      · try dsimp only at h
        conv => whnf
        cases h; exact (by first | rfl | simp only [resV, mulN_one, V.fz, fzL, V.up, upL, fzL_map, fz_slr, fz_at, slr] | simp [resV, mulN_one, V.fz, fzL, V.up, upL, fzL_map, fz_slr, fz_at, slr])
      · try dsimp only at h
        conv => whnf
        cases h; exact (by first | rfl | simp only [resV, mulN_one, V.fz, fzL, V.up, upL, fzL_map, fz_slr, fz_at, slr] | simp [resV, mulN_one, V.fz, fzL, V.up, upL, fzL_map, fz_slr, fz_at, slr])

noncomputable def F_laws_toOp (a0 : SOp) : Option SOp :=
  (F_laws_toIntS (a0.Table)).bind fun r1 =>
  some ({ Arity := a0.Arity, Table := r1 })
theorem t_laws_toOp {a0 : SOp} {v : SOp} (h : F_laws_toOp a0 = some v) : Ret Try.prog f_laws_toOp [(rS_Op false) a0] ((rS_Op true) v) := by
  refine ret_vc k_laws_toOp (Nat.le_of_ble_eq_true rfl) ?_
  unfold F_laws_toOp at h
  conv => whnf
  refine Cells.lit rfl rfl ?_
  conv => whnf
  refine SetKids.lit rfl ?_
  conv => whnf
  refine Cells.lit rfl rfl ?_
  conv => whnf
  refine CallQ.o (slr true 1 vint) (by first | rfl | simp only [mulN_one, V.fz, fzL, V.up, upL, fzL_map, fz_slr, fz_at, slr, List.cons_append, List.nil_append] | simp [mulN_one, V.fz, fzL, V.up, upL, fzL_map, fz_slr, fz_at, slr]) h (fun r h => t_laws_toIntS h) (fun r1 h => ?_)
  conv => whnf
  refine SetKids.lit rfl ?_
  conv => whnf
  refine Cells.lit rfl rfl ?_
  conv => whnf
  refine SetKids.lit rfl ?_
  conv => whnf
  cases h; exact (by first | rfl | simp only [resV, mulN_one, V.fz, fzL, V.up, upL, fzL_map, fz_slr, fz_at, slr] | simp [resV, mulN_one, V.fz, fzL, V.up, upL, fzL_map, fz_slr, fz_at, slr])

end Go.Proofs.Ytdodfnbbfkcgnaa.Ax
