/-
  What the functions compute, as functions on plain data, and that the program does compute it; written by program.
-/
import Derived.Test.YtdodfnbbfkcgnaaCode
namespace Go.Proofs.Ytdodfnbbfkcgnaa.Ax
open Go
set_option maxRecDepth 100000
set_option maxHeartbeats 4000000

noncomputable def F_laws_toIntS_l1 (a0 : List Int) : (Int × (List Int)) → Option ((Int × (List Int)) ⊕ (List Int)) := fun (x4, x3) =>
   if x4 < (↑a0.length : Int) then
    ask ((0 : Int) ≤ x4 ∧ x4 < (↑a0.length : Int)) <|
    ask ((0 : Int) ≤ x4 ∧ x4 < (↑x3.length : Int)) <|
    ask (InI (x4 + (1 : Int))) <|
    some (.inl (x4 + (1 : Int), x3.set x4.toNat (nth a0 x4.toNat)))
   else
    some (.inr x3)
def S_laws_toIntS_l1 (a0 : List Int) : (Int × (List Int)) → St := fun s => [(4, A.val (vint s.1)), (3, A.val ((slr true 1 vint) s.2)), (0, A.val ((slr false 1 vint) (a0)))]
def T_laws_toIntS_l1 (_a0 : List Int) : (List Int) → Tgt
  | s => ((Ex.exit 0), [3], [(3, A.val ((slr true 1 vint) s))])
theorem b_laws_toIntS_l1 {a0 : List Int} (s : (Int × (List Int))) (o : (Int × (List Int)) ⊕ (List Int)) (h : F_laws_toIntS_l1 a0 s = some o) : vc Try.prog c_laws_toIntS_l1 (outQ [4, 3, 0] (S_laws_toIntS_l1 a0) (T_laws_toIntS_l1 a0) o) (S_laws_toIntS_l1 a0 s) := by
  obtain ⟨x4, x3⟩ := s
  unfold F_laws_toIntS_l1 at h
  try dsimp only at h
  conv => whnf
  refine Len.map ?_
  conv => whnf
  refine Br.od h (fun p2 h => ?_) (fun p2 h => ?_)
  · conv => whnf
    refine Len.map ?_
    conv => whnf
    refine Ask.o h fun p3 h => ?_
    conv => whnf
    refine Elem.o (by first | omega | (simp only [mulN] at *; omega) | (simp [mulN] at *; omega)) ?_
    conv => whnf
    refine Len.map ?_
    conv => whnf
    refine Ask.o h fun p4 h => ?_
    conv => whnf
    refine SetKids.one (fun _ => ⟨rfl, rfl⟩) (nth a0 x4.toNat) (by first | rfl | simp only [mulN_one, V.fz, fzL, V.up, upL, fzL_map, fz_slr, fz_at, slr, List.cons_append, List.nil_append] | simp [mulN_one, V.fz, fzL, V.up, upL, fzL_map, fz_slr, fz_at, slr]) (by first | omega | (simp only [mulN] at *; omega) | (simp [mulN] at *; omega)) ?_
    conv => whnf
    refine Ask.o h fun p5 h => ?_
    conv => whnf
    cases h; exact ⟨rfl, rfl⟩
  · conv => whnf
    cases h; exact ⟨rfl, rfl⟩

noncomputable def F_laws_toIntS (a0 : (List Int)) : Option (List Int) :=
  ask ((0 : Int) ≤ (↑a0.length : Int) ∧ (↑a0.length : Int) ≤ (↑LIM : Int)) <|
  (loopO (F_laws_toIntS_l1 a0) ((0 : Int), List.replicate (↑a0.length : Int).toNat (0 : Int))).bind fun q6_3 =>
  some q6_3
theorem t_laws_toIntS {a0 : (List Int)} {v : (List Int)} (h : F_laws_toIntS a0 = some v) : Ret Try.prog f_laws_toIntS [(slr false 1 vint) a0] ((slr true 1 vint) v) := by
  refine ret_vc k_laws_toIntS (Nat.le_of_ble_eq_true rfl) ?_
  unfold F_laws_toIntS at h
  conv => whnf
  refine Len.map ?_
  conv => whnf
  refine Ask.o h fun p1 h => ?_
  conv => whnf
  refine MkQ.o vint ((0 : Int)) rfl ?_
  conv => whnf
  refine LoopQ.o [4, 3, 0] (S_laws_toIntS_l1 a0) (T_laws_toIntS_l1 a0) h (fun s o h => b_laws_toIntS_l1 s o h) (by first | rfl | simp [restrict, look, mulN_one, V.fz, fzL, V.up, upL, fzL_map, fz_slr, fz_at, slr]) (fun _ => rfl) ?_
  rintro q6_3 h
  try dsimp only at h
  conv => whnf
  cases h; exact (by first | rfl | simp only [resV, mulN_one, V.fz, fzL, V.up, upL, fzL_map, fz_slr, fz_at, slr] | simp [resV, mulN_one, V.fz, fzL, V.up, upL, fzL_map, fz_slr, fz_at, slr])

noncomputable def F_laws_eqIntS_l1 (a0 : List Int) (b0 : List Int) : Int → Option (Int ⊕ (Unit ⊕ Unit)) := fun x5 =>
   if x5 < (↑a0.length : Int) then
    ask ((0 : Int) ≤ x5 ∧ x5 < (↑a0.length : Int)) <|
    ask ((0 : Int) ≤ x5 ∧ x5 < (↑b0.length : Int)) <|
    if nth a0 x5.toNat ≠ nth b0 x5.toNat then
     some (.inr (.inl ()))
    else
     ask (InI (x5 + (1 : Int))) <|
     some (.inl (x5 + (1 : Int)))
   else
    some (.inr (.inr ()))
def S_laws_eqIntS_l1 (a0 : List Int) (b0 : List Int) : Int → St := fun s => [(5, A.val (vint s)), (0, A.val ((slr false 1 vint) (a0))), (1, A.val ((slr false 1 vint) (b0)))]
def T_laws_eqIntS_l1 (_a0 : List Int) (_b0 : List Int) : (Unit ⊕ Unit) → Tgt
  | (.inl _s) => (Ex.ret, [4], [(4, A.val (V.bool (false)))])
  | (.inr _s) => ((Ex.exit 0), [], [])
theorem b_laws_eqIntS_l1 {a0 : List Int} {b0 : List Int} (x5 : Int) (o : Int ⊕ (Unit ⊕ Unit)) (h : F_laws_eqIntS_l1 a0 b0 x5 = some o) : vc Try.prog c_laws_eqIntS_l1 (outQ [5, 0, 1] (S_laws_eqIntS_l1 a0 b0) (T_laws_eqIntS_l1 a0 b0) o) (S_laws_eqIntS_l1 a0 b0 x5) := by
  unfold F_laws_eqIntS_l1 at h
  try dsimp only at h
  conv => whnf
  refine Len.map ?_
  conv => whnf
  refine Br.od h (fun p2 h => ?_) (fun p2 h => ?_)
  · conv => whnf
    refine Len.map ?_
    conv => whnf
    refine Ask.o h fun p3 h => ?_
    conv => whnf
    refine Elem.o (by first | omega | (simp only [mulN] at *; omega) | (simp [mulN] at *; omega)) ?_
    conv => whnf
    refine Len.map ?_
    conv => whnf
    refine Ask.o h fun p4 h => ?_
    conv => whnf
    refine Elem.o (by first | omega | (simp only [mulN] at *; omega) | (simp [mulN] at *; omega)) ?_
    conv => whnf
    refine Br.on h (fun p5 h => ?_) (fun p5 h => ?_)
    · conv => whnf
      cases h; exact ⟨rfl, rfl⟩
    · conv => whnf
      refine Ask.o h fun p6 h => ?_
      conv => whnf
      cases h; exact ⟨rfl, rfl⟩
  · conv => whnf
    cases h; exact ⟨rfl, rfl⟩

noncomputable def F_laws_eqIntS (a0 : (List Int)) (b0 : (List Int)) : Option Bool :=
  if (↑a0.length : Int) ≠ (↑b0.length : Int) then
   some false
  else
   (loopO (F_laws_eqIntS_l1 a0 b0) (0 : Int)).bind fun t => match t with
   | (.inl _) => (some false)
   | (.inr _) => (some true)
theorem t_laws_eqIntS {a0 : (List Int)} {b0 : (List Int)} {v : Bool} (h : F_laws_eqIntS a0 b0 = some v) : Ret Try.prog f_laws_eqIntS [(slr false 1 vint) a0, (slr false 1 vint) b0] (V.bool v) := by
  refine ret_vc k_laws_eqIntS (Nat.le_of_ble_eq_true rfl) ?_
  unfold F_laws_eqIntS at h
  conv => whnf
  refine Len.map ?_
  conv => whnf
  refine Len.map ?_
  conv => whnf
  refine Br.on h (fun p1 h => ?_) (fun p1 h => ?_)
  · conv => whnf
    cases h; exact (by first | rfl | simp only [resV, mulN_one, V.fz, fzL, V.up, upL, fzL_map, fz_slr, fz_at, slr] | simp [resV, mulN_one, V.fz, fzL, V.up, upL, fzL_map, fz_slr, fz_at, slr])
  · conv => whnf
    refine LoopQ.o [5, 0, 1] (S_laws_eqIntS_l1 a0 b0) (T_laws_eqIntS_l1 a0 b0) h (fun s o h => b_laws_eqIntS_l1 s o h) (by first | rfl | simp [restrict, look, mulN_one, V.fz, fzL, V.up, upL, fzL_map, fz_slr, fz_at, slr]) (by rintro (_ | _) <;> rfl) ?_
    rintro (⟨⟩ | ⟨⟩) h
    · try dsimp only at h
      conv => whnf
      cases h; exact (by first | rfl | simp only [resV, mulN_one, V.fz, fzL, V.up, upL, fzL_map, fz_slr, fz_at, slr] | simp [resV, mulN_one, V.fz, fzL, V.up, upL, fzL_map, fz_slr, fz_at, slr])
    · try dsimp only at h
      conv => whnf
      cases h; exact (by first | rfl | simp only [resV, mulN_one, V.fz, fzL, V.up, upL, fzL_map, fz_slr, fz_at, slr] | simp [resV, mulN_one, V.fz, fzL, V.up, upL, fzL_map, fz_slr, fz_at, slr])

noncomputable def F_laws_markIntS_l1 : (Int × (List Int) × Int) → Option ((Int × (List Int) × Int) ⊕ ((List Int) × Int)) := fun (x5, x19, x1) =>
   if x5 < (↑x19.length : Int) then
    ask ((0 : Int) ≤ x5 ∧ x5 < (↑x19.length : Int)) <|
    ask (InI (x1 + (1 : Int))) <|
    ask (InI (x5 + (1 : Int))) <|
    some (.inl (x5 + (1 : Int), x19.set x5.toNat x1, x1 + (1 : Int)))
   else
    some (.inr (x19, x1))
def S_laws_markIntS_l1 : (Int × (List Int) × Int) → St := fun s => [(5, A.val (vint s.1)), (0, A.ref ((19 : Nat) + (0 : Nat)) []), (19, A.val ((slr true 1 vint) s.2.1)), (1, A.val (vint s.2.2))]
def T_laws_markIntS_l1 : ((List Int) × Int) → Tgt
  | s => ((Ex.exit 0), [19, 1], [(19, A.val ((slr true 1 vint) s.1)), (1, A.val (vint s.2))])
theorem b_laws_markIntS_l1 (s : (Int × (List Int) × Int)) (o : (Int × (List Int) × Int) ⊕ ((List Int) × Int)) (h : F_laws_markIntS_l1 s = some o) : vc Try.prog c_laws_markIntS_l1 (outQ [5, 0, 19, 1] (S_laws_markIntS_l1) (T_laws_markIntS_l1) o) (S_laws_markIntS_l1 s) := by
  obtain ⟨x5, x19, x1⟩ := s
  unfold F_laws_markIntS_l1 at h
  try dsimp only at h
  conv => whnf
  refine Len.map ?_
  conv => whnf
  refine Br.od h (fun p1 h => ?_) (fun p1 h => ?_)
  · conv => whnf
    refine Len.map ?_
    conv => whnf
    refine Ask.o h fun p2 h => ?_
    conv => whnf
    refine SetKids.one (fun _ => ⟨rfl, rfl⟩) (x1) (by first | rfl | simp only [mulN_one, V.fz, fzL, V.up, upL, fzL_map, fz_slr, fz_at, slr, List.cons_append, List.nil_append] | simp [mulN_one, V.fz, fzL, V.up, upL, fzL_map, fz_slr, fz_at, slr]) (by first | omega | (simp only [mulN] at *; omega) | (simp [mulN] at *; omega)) ?_
    conv => whnf
    refine Ask.o h fun p3 h => ?_
    conv => whnf
    refine Ask.o h fun p4 h => ?_
    conv => whnf
    cases h; exact ⟨rfl, rfl⟩
  · conv => whnf
    cases h; exact ⟨rfl, rfl⟩

noncomputable def F_laws_markIntS (a0 : (List Int)) (k0 : Int) : Option (Int × (List Int)) :=
  (loopO (F_laws_markIntS_l1) ((0 : Int), a0, k0)).bind fun (q5_19, q5_1) =>
  some (q5_1, q5_19)
theorem t_laws_markIntS {a0 : (List Int)} {k0 : Int} {v : (Int × (List Int))} (h : F_laws_markIntS a0 k0 = some v) : RetO Try.prog f_laws_markIntS [(slr true 1 vint) a0, vint k0] (vint v.1) 0 ((slr true 1 vint) v.2) := by
  refine reto_vc k_laws_markIntS (Nat.le_of_ble_eq_true rfl) ?_
  unfold F_laws_markIntS at h
  conv => whnf
  refine LoopQ.o [5, 0, 19, 1] (S_laws_markIntS_l1) (T_laws_markIntS_l1) h (fun s o h => b_laws_markIntS_l1 s o h) (by first | rfl | simp [restrict, look, mulN_one, V.fz, fzL, V.up, upL, fzL_map, fz_slr, fz_at, slr]) (fun _ => rfl) ?_
  rintro ⟨q5_19, q5_1⟩ h
  try dsimp only at h
  conv => whnf
  cases h; exact ⟨(by first | rfl | simp only [resV, mulN_one, V.fz, fzL, V.up, upL, fzL_map, fz_slr, fz_at, slr] | simp [resV, mulN_one, V.fz, fzL, V.up, upL, fzL_map, fz_slr, fz_at, slr]), (by first | rfl | simp only [resV, mulN_one, V.fz, fzL, V.up, upL, fzL_map, fz_slr, fz_at, slr] | simp [resV, mulN_one, V.fz, fzL, V.up, upL, fzL_map, fz_slr, fz_at, slr])⟩

noncomputable def F_laws_heldIntS_l1 (a0 : List Int) : (Int × Int) → Option ((Int × Int) ⊕ (Unit ⊕ Int)) := fun (x5, x1) =>
   if x5 < (↑a0.length : Int) then
    ask ((0 : Int) ≤ x5 ∧ x5 < (↑a0.length : Int)) <|
    if nth a0 x5.toNat ≠ x1 then
     some (.inr (.inl ()))
    else
     ask (InI (x1 + (1 : Int))) <|
     ask (InI (x5 + (1 : Int))) <|
     some (.inl (x5 + (1 : Int), x1 + (1 : Int)))
   else
    some (.inr (.inr x1))
def S_laws_heldIntS_l1 (a0 : List Int) : (Int × Int) → St := fun s => [(5, A.val (vint s.1)), (0, A.val ((slr false 1 vint) (a0))), (1, A.val (vint s.2))]
def T_laws_heldIntS_l1 (_a0 : List Int) : (Unit ⊕ Int) → Tgt
  | (.inl _s) => (Ex.ret, [4], [(4, A.val (vint ((-1 : Int))))])
  | (.inr s) => ((Ex.exit 0), [1], [(1, A.val (vint s))])
theorem b_laws_heldIntS_l1 {a0 : List Int} (s : (Int × Int)) (o : (Int × Int) ⊕ (Unit ⊕ Int)) (h : F_laws_heldIntS_l1 a0 s = some o) : vc Try.prog c_laws_heldIntS_l1 (outQ [5, 0, 1] (S_laws_heldIntS_l1 a0) (T_laws_heldIntS_l1 a0) o) (S_laws_heldIntS_l1 a0 s) := by
  obtain ⟨x5, x1⟩ := s
  unfold F_laws_heldIntS_l1 at h
  try dsimp only at h
  conv => whnf
  refine Len.map ?_
  conv => whnf
  refine Br.od h (fun p1 h => ?_) (fun p1 h => ?_)
  · conv => whnf
    refine Len.map ?_
    conv => whnf
    refine Ask.o h fun p2 h => ?_
    conv => whnf
    refine Elem.o (by first | omega | (simp only [mulN] at *; omega) | (simp [mulN] at *; omega)) ?_
    conv => whnf
    refine Br.on h (fun p3 h => ?_) (fun p3 h => ?_)
    · conv => whnf
      cases h; exact ⟨rfl, rfl⟩
    · conv => whnf
      refine Ask.o h fun p4 h => ?_
      conv => whnf
      refine Ask.o h fun p5 h => ?_
      conv => whnf
      cases h; exact ⟨rfl, rfl⟩
  · conv => whnf
    cases h; exact ⟨rfl, rfl⟩

noncomputable def F_laws_heldIntS (a0 : (List Int)) (k0 : Int) : Option Int :=
  (loopO (F_laws_heldIntS_l1 a0) ((0 : Int), k0)).bind fun t => match t with
  | (.inl _) => (some (-1 : Int))
  | (.inr q6_1) => (some q6_1)
theorem t_laws_heldIntS {a0 : (List Int)} {k0 : Int} {v : Int} (h : F_laws_heldIntS a0 k0 = some v) : Ret Try.prog f_laws_heldIntS [(slr false 1 vint) a0, vint k0] (vint v) := by
  refine ret_vc k_laws_heldIntS (Nat.le_of_ble_eq_true rfl) ?_
  unfold F_laws_heldIntS at h
  conv => whnf
  refine LoopQ.o [5, 0, 1] (S_laws_heldIntS_l1 a0) (T_laws_heldIntS_l1 a0) h (fun s o h => b_laws_heldIntS_l1 s o h) (by first | rfl | simp [restrict, look, mulN_one, V.fz, fzL, V.up, upL, fzL_map, fz_slr, fz_at, slr]) (by rintro (_ | _) <;> rfl) ?_
  rintro (⟨⟩ | q6_1) h
  · try dsimp only at h
    conv => whnf
    cases h; exact (by first | rfl | simp only [resV, mulN_one, V.fz, fzL, V.up, upL, fzL_map, fz_slr, fz_at, slr] | simp [resV, mulN_one, V.fz, fzL, V.up, upL, fzL_map, fz_slr, fz_at, slr])
  · try dsimp only at h
    conv => whnf
    cases h; exact (by first | rfl | simp only [resV, mulN_one, V.fz, fzL, V.up, upL, fzL_map, fz_slr, fz_at, slr] | simp [resV, mulN_one, V.fz, fzL, V.up, upL, fzL_map, fz_slr, fz_at, slr])

noncomputable def F_impl_newOrder_l1 (n0 : Int) : (Int × (List (List Bool))) → Option ((Int × (List (List Bool))) ⊕ (List (List Bool))) := fun (x9, x3) =>
   if x9 < (↑n0.toNat : Int) then
    ask ((0 : Int) ≤ n0 ∧ n0 ≤ (↑LIM : Int)) <|
    ask ((0 : Int) ≤ x9 ∧ x9 < (↑x3.length : Int)) <|
    ask (InI (x9 + (1 : Int))) <|
    some (.inl (x9 + (1 : Int), x3.set x9.toNat (List.replicate n0.toNat false)))
   else
    some (.inr x3)
def S_impl_newOrder_l1 (n0 : Int) : (Int × (List (List Bool))) → St := fun s => [(9, A.val (vint s.1)), (8, A.val (vint ((↑n0.toNat : Int)))), (3, A.val ((slr true 1 (slr true 1 V.bool)) s.2)), (0, A.val (vint (n0)))]
def T_impl_newOrder_l1 (_n0 : Int) : (List (List Bool)) → Tgt
  | s => ((Ex.exit 0), [3], [(3, A.val ((slr true 1 (slr true 1 V.bool)) s))])
theorem b_impl_newOrder_l1 {n0 : Int} (s : (Int × (List (List Bool)))) (o : (Int × (List (List Bool))) ⊕ (List (List Bool))) (h : F_impl_newOrder_l1 n0 s = some o) : vc Try.prog c_impl_newOrder_l1 (outQ [9, 8, 3, 0] (S_impl_newOrder_l1 n0) (T_impl_newOrder_l1 n0) o) (S_impl_newOrder_l1 n0 s) := by
  obtain ⟨x9, x3⟩ := s
  unfold F_impl_newOrder_l1 at h
  try dsimp only at h
  conv => whnf
  refine Br.od h (fun p2 h => ?_) (fun p2 h => ?_)
  · conv => whnf
    refine Ask.o h fun p3 h => ?_
    conv => whnf
    refine MkQ.o V.bool (false) rfl ?_
    conv => whnf
    refine Len.map ?_
    conv => whnf
    refine Ask.o h fun p4 h => ?_
    conv => whnf
    refine SetKids.one (fun _ => ⟨rfl, rfl⟩) (List.replicate n0.toNat false) (by first | rfl | simp only [mulN_one, V.fz, fzL, V.up, upL, fzL_map, fz_slr, fz_at, slr, List.cons_append, List.nil_append] | simp [mulN_one, V.fz, fzL, V.up, upL, fzL_map, fz_slr, fz_at, slr]) (by first | omega | (simp only [mulN] at *; omega) | (simp [mulN] at *; omega)) ?_
    conv => whnf
    refine Ask.o h fun p5 h => ?_
    conv => whnf
    cases h; exact ⟨rfl, rfl⟩
  · conv => whnf
    cases h; exact ⟨rfl, rfl⟩

noncomputable def F_impl_newOrder (n0 : Int) : Option (List (List Bool)) :=
  ask ((0 : Int) ≤ n0 ∧ n0 ≤ (↑LIM : Int)) <|
  (loopO (F_impl_newOrder_l1 n0) ((0 : Int), List.replicate n0.toNat (nilL Bool))).bind fun q6_3 =>
  some q6_3
theorem t_impl_newOrder {n0 : Int} {v : (List (List Bool))} (h : F_impl_newOrder n0 = some v) : Ret Try.prog f_impl_newOrder [vint n0] ((slr true 1 (slr true 1 V.bool)) v) := by
  refine ret_vc k_impl_newOrder (Nat.le_of_ble_eq_true rfl) ?_
  unfold F_impl_newOrder at h
  conv => whnf
  refine Ask.o h fun p1 h => ?_
  conv => whnf
  refine MkQ.o (slr true 1 V.bool) (nilL Bool) rfl ?_
  conv => whnf
  refine Len.mrep ?_
  conv => whnf
  refine LoopQ.o [9, 8, 3, 0] (S_impl_newOrder_l1 n0) (T_impl_newOrder_l1 n0) h (fun s o h => b_impl_newOrder_l1 s o h) (by first | rfl | simp [restrict, look, mulN_one, V.fz, fzL, V.up, upL, fzL_map, fz_slr, fz_at, slr]) (fun _ => rfl) ?_
  rintro q6_3 h
  try dsimp only at h
  conv => whnf
  cases h; exact (by first | rfl | simp only [resV, mulN_one, V.fz, fzL, V.up, upL, fzL_map, fz_slr, fz_at, slr] | simp [resV, mulN_one, V.fz, fzL, V.up, upL, fzL_map, fz_slr, fz_at, slr])

noncomputable def F_impl_order_poset_l1 (o0 : List (List Bool)) (x11 : Int) (_x3 : SPoset) : (Int × (List Int)) → Option ((Int × (List Int)) ⊕ (List Int)) := fun (x17, x5) =>
   if x17 < (↑o0.length : Int) then
    ask ((0 : Int) ≤ x17 ∧ x17 < (↑o0.length : Int)) <|
    ask ((0 : Int) ≤ x11 ∧ x11 < (↑(nth o0 x17.toNat).length : Int)) <|
    if (nth (nth o0 x17.toNat) x11.toNat) = true then
     ask ((x5).length + ([x17]).length ≤ LIM) <|
     ask (InI (x17 + (1 : Int))) <|
     some (.inl (x17 + (1 : Int), x5 ++ [x17]))
    else
     ask (InI (x17 + (1 : Int))) <|
     some (.inl (x17 + (1 : Int), x5))
   else
    some (.inr x5)
def S_impl_order_poset_l1 (o0 : List (List Bool)) (x11 : Int) (x3 : SPoset) : (Int × (List Int)) → St := fun s => [(17, A.val (vint s.1)), (16, A.val (vint ((↑o0.length : Int)))), (5, A.val ((slr true 1 vint) s.2)), (4, A.val (vint (x11))), (11, A.val (vint (x11))), (10, A.val (vint ((↑o0.length : Int)))), (3, A.val ((rP true (rS_Poset true)) (x3))), (2, A.val ((rP true (rS_Poset true)) ({ Below := nilL (List Int) }))), (0, A.val ((slr false 1 (slr false 1 V.bool)) (o0)))]
def T_impl_order_poset_l1 (o0 : List (List Bool)) (x11 : Int) (x3 : SPoset) : (List Int) → Tgt
  | s => ((Ex.exit 2), [5, 11, 10, 3, 2, 0], [(5, A.val ((slr true 1 vint) s)), (11, A.val (vint (x11))), (10, A.val (vint ((↑o0.length : Int)))), (3, A.val ((rP true (rS_Poset true)) (x3))), (2, A.val ((rP true (rS_Poset true)) ({ Below := nilL (List Int) }))), (0, A.val ((slr false 1 (slr false 1 V.bool)) (o0)))])
theorem b_impl_order_poset_l1 {o0 : List (List Bool)} {x11 : Int} {x3 : SPoset} (s : (Int × (List Int))) (o : (Int × (List Int)) ⊕ (List Int)) (h : F_impl_order_poset_l1 o0 x11 x3 s = some o) : vc Try.prog c_impl_order_poset_l1 (outQ [17, 16, 5, 4, 11, 10, 3, 2, 0] (S_impl_order_poset_l1 o0 x11 x3) (T_impl_order_poset_l1 o0 x11 x3) o) (S_impl_order_poset_l1 o0 x11 x3 s) := by
  obtain ⟨x17, x5⟩ := s
  unfold F_impl_order_poset_l1 at h
  try dsimp only at h
  conv => whnf
  refine Br.od h (fun p2 h => ?_) (fun p2 h => ?_)
  · conv => whnf
    refine Len.map ?_
    conv => whnf
    refine Ask.o h fun p3 h => ?_
    conv => whnf
    refine Elem.o (by first | omega | (simp only [mulN] at *; omega) | (simp [mulN] at *; omega)) ?_
    conv => whnf
    refine Len.map ?_
    conv => whnf
    refine Ask.o h fun p4 h => ?_
    conv => whnf
    refine Elem.o (by first | omega | (simp only [mulN] at *; omega) | (simp [mulN] at *; omega)) ?_
    conv => whnf
    refine Br.ob h (fun p5 h => ?_) (fun p5 h => ?_)
    · conv => whnf
      refine BslQ.o vint [x17] (by exact fun _ => ⟨rfl, rfl⟩) (by first | rfl | simp only [mulN_one, V.fz, fzL, V.up, upL, fzL_map, fz_slr, fz_at, slr, List.cons_append, List.nil_append] | simp [mulN_one, V.fz, fzL, V.up, upL, fzL_map, fz_slr, fz_at, slr]) ?_
      conv => whnf
      refine NoOwn.o (fun _ => rfl) ?_
      conv => whnf
      refine AppQ.o (m := 1) vint (by exact fun _ => ⟨rfl, rfl⟩) (x5) ([x17]) (by first | rfl | simp only [mulN_one, V.fz, fzL, V.up, upL, fzL_map, fz_slr, fz_at, slr, List.cons_append, List.nil_append] | simp [mulN_one, V.fz, fzL, V.up, upL, fzL_map, fz_slr, fz_at, slr]) (by first | rfl | simp only [mulN_one, V.fz, fzL, V.up, upL, fzL_map, fz_slr, fz_at, slr, List.cons_append, List.nil_append] | simp [mulN_one, V.fz, fzL, V.up, upL, fzL_map, fz_slr, fz_at, slr]) h fun h => ?_
      conv => whnf
      refine Ask.o h fun p6 h => ?_
      conv => whnf
      cases h; exact ⟨rfl, rfl⟩
    · conv => whnf
      refine Ask.o h fun p7 h => ?_
      conv => whnf
      cases h; exact ⟨rfl, rfl⟩
  · conv => whnf
    cases h; exact ⟨rfl, rfl⟩

noncomputable def F_impl_order_poset_l2 (o0 : List (List Bool)) : (Int × SPoset) → Option ((Int × SPoset) ⊕ SPoset) := fun (x11, x3) =>
   if x11 < (↑o0.length : Int) then
    (loopO (F_impl_order_poset_l1 o0 x11 x3) ((0 : Int), nilL Int)).bind fun q8_5 =>
    ask ((x3.Below).length + ([q8_5]).length ≤ LIM) <|
    ask (InI (x11 + (1 : Int))) <|
    some (.inl (x11 + (1 : Int), { Below := x3.Below ++ [q8_5] }))
   else
    some (.inr x3)
def S_impl_order_poset_l2 (o0 : List (List Bool)) : (Int × SPoset) → St := fun s => [(11, A.val (vint s.1)), (10, A.val (vint ((↑o0.length : Int)))), (3, A.val ((rP true (rS_Poset true)) s.2)), (2, A.val ((rP true (rS_Poset true)) ({ Below := nilL (List Int) }))), (0, A.val ((slr false 1 (slr false 1 V.bool)) (o0)))]
def T_impl_order_poset_l2 (_o0 : List (List Bool)) : SPoset → Tgt
  | s => ((Ex.exit 0), [3, 2], [(3, A.val ((rP true (rS_Poset true)) s)), (2, A.val ((rP true (rS_Poset true)) ({ Below := nilL (List Int) })))])
theorem b_impl_order_poset_l2 {o0 : List (List Bool)} (s : (Int × SPoset)) (o : (Int × SPoset) ⊕ SPoset) (h : F_impl_order_poset_l2 o0 s = some o) : vc Try.prog c_impl_order_poset_l2 (outQ [11, 10, 3, 2, 0] (S_impl_order_poset_l2 o0) (T_impl_order_poset_l2 o0) o) (S_impl_order_poset_l2 o0 s) := by
  obtain ⟨x11, x3⟩ := s
  unfold F_impl_order_poset_l2 at h
  try dsimp only at h
  conv => whnf
  refine Br.od h (fun p1 h => ?_) (fun p1 h => ?_)
  · conv => whnf
    refine BslQ.o vint (nilL Int) (by exact fun _ => ⟨rfl, rfl⟩) (by first | rfl | simp only [mulN_one, V.fz, fzL, V.up, upL, fzL_map, fz_slr, fz_at, slr, List.cons_append, List.nil_append] | simp [mulN_one, V.fz, fzL, V.up, upL, fzL_map, fz_slr, fz_at, slr]) ?_
    conv => whnf
    refine Len.map ?_
    conv => whnf
    refine LoopQ.o [17, 16, 5, 4, 11, 10, 3, 2, 0] (S_impl_order_poset_l1 o0 x11 x3) (T_impl_order_poset_l1 o0 x11 x3) h (fun s o h => b_impl_order_poset_l1 s o h) (by first | rfl | simp [restrict, look, mulN_one, V.fz, fzL, V.up, upL, fzL_map, fz_slr, fz_at, slr]) (fun _ => rfl) ?_
    rintro q8_5 h
    try dsimp only at h
    conv => whnf
    refine Cells.lit rfl rfl ?_
    conv => whnf
    refine BslQ.o (slr true 1 vint) [q8_5] (by exact fun _ => ⟨rfl, rfl⟩) (by first | rfl | simp only [mulN_one, V.fz, fzL, V.up, upL, fzL_map, fz_slr, fz_at, slr, List.cons_append, List.nil_append] | simp [mulN_one, V.fz, fzL, V.up, upL, fzL_map, fz_slr, fz_at, slr]) ?_
    conv => whnf
    refine NoOwn.own rfl ?_
    conv => whnf
    refine AppQ.o (m := 1) (slr true 1 vint) (by exact fun _ => ⟨rfl, rfl⟩) (x3.Below) ([q8_5]) (by first | rfl | simp only [mulN_one, V.fz, fzL, V.up, upL, fzL_map, fz_slr, fz_at, slr, List.cons_append, List.nil_append] | simp [mulN_one, V.fz, fzL, V.up, upL, fzL_map, fz_slr, fz_at, slr]) (by first | rfl | simp only [mulN_one, V.fz, fzL, V.up, upL, fzL_map, fz_slr, fz_at, slr, List.cons_append, List.nil_append] | simp [mulN_one, V.fz, fzL, V.up, upL, fzL_map, fz_slr, fz_at, slr]) h fun h => ?_
    conv => whnf
    refine SetKids.lit rfl ?_
    conv => whnf
    refine Ask.o h fun p9 h => ?_
    conv => whnf
    cases h; exact ⟨rfl, rfl⟩
  · conv => whnf
    cases h; exact ⟨rfl, rfl⟩

noncomputable def F_impl_order_poset (o0 : (List (List Bool))) : Option SPoset :=
  (loopO (F_impl_order_poset_l2 o0) ((0 : Int), { Below := nilL (List Int) })).bind fun q10_3 =>
  some q10_3
theorem t_impl_order_poset {o0 : (List (List Bool))} {v : SPoset} (h : F_impl_order_poset o0 = some v) : Ret Try.prog f_impl_order_poset [(slr false 1 (slr false 1 V.bool)) o0] ((rS_Poset true) v) := by
  refine ret_vc k_impl_order_poset (Nat.le_of_ble_eq_true rfl) ?_
  unfold F_impl_order_poset at h
  conv => whnf
  refine BslQ.o (slr true 1 vint) (nilL (List Int)) (by exact fun _ => ⟨rfl, rfl⟩) (by first | rfl | simp only [mulN_one, V.fz, fzL, V.up, upL, fzL_map, fz_slr, fz_at, slr, List.cons_append, List.nil_append] | simp [mulN_one, V.fz, fzL, V.up, upL, fzL_map, fz_slr, fz_at, slr]) ?_
  conv => whnf
  refine SetKids.lit rfl ?_
  conv => whnf
  refine Len.map ?_
  conv => whnf
  refine LoopQ.o [11, 10, 3, 2, 0] (S_impl_order_poset_l2 o0) (T_impl_order_poset_l2 o0) h (fun s o h => b_impl_order_poset_l2 s o h) (by first | rfl | simp [restrict, look, mulN_one, V.fz, fzL, V.up, upL, fzL_map, fz_slr, fz_at, slr]) (fun _ => rfl) ?_
  rintro q10_3 h
  try dsimp only at h
  conv => whnf
  refine Cells.lit rfl rfl ?_
  conv => whnf
  refine SetKids.lit rfl ?_
  conv => whnf
  cases h; exact (by first | rfl | simp only [resV, mulN_one, V.fz, fzL, V.up, upL, fzL_map, fz_slr, fz_at, slr] | simp [resV, mulN_one, V.fz, fzL, V.up, upL, fzL_map, fz_slr, fz_at, slr])

noncomputable def F_laws_szIntS (a0 : (List Int)) (left0 : Int) : Option Int :=
  ask (InI (left0 - (↑a0.length : Int))) <|
  if left0 - (↑a0.length : Int) < (0 : Int) then
   some (-1 : Int)
  else
   some (left0 - (↑a0.length : Int))
theorem t_laws_szIntS {a0 : (List Int)} {left0 : Int} {v : Int} (h : F_laws_szIntS a0 left0 = some v) : Ret Try.prog f_laws_szIntS [(slr false 1 vint) a0, vint left0] (vint v) := by
  refine ret_vc k_laws_szIntS (Nat.le_of_ble_eq_true rfl) ?_
  unfold F_laws_szIntS at h
  conv => whnf
  refine Len.map ?_
  conv => whnf
  refine Ask.o h fun p1 h => ?_
  conv => whnf
  refine Br.od h (fun p2 h => ?_) (fun p2 h => ?_)
  · conv => whnf
    cases h; exact (by first | rfl | simp only [resV, mulN_one, V.fz, fzL, V.up, upL, fzL_map, fz_slr, fz_at, slr] | simp [resV, mulN_one, V.fz, fzL, V.up, upL, fzL_map, fz_slr, fz_at, slr])
  · conv => whnf
    cases h; exact (by first | rfl | simp only [resV, mulN_one, V.fz, fzL, V.up, upL, fzL_map, fz_slr, fz_at, slr] | simp [resV, mulN_one, V.fz, fzL, V.up, upL, fzL_map, fz_slr, fz_at, slr])

noncomputable def F_spec_l1Same_l1 (a0 : List Int) (b0 : List Int) : Int → Option (Int ⊕ (Unit ⊕ Unit)) := fun x5 =>
   if x5 < (↑a0.length : Int) then
    ask ((0 : Int) ≤ x5 ∧ x5 < (↑a0.length : Int)) <|
    ask ((0 : Int) ≤ x5 ∧ x5 < (↑b0.length : Int)) <|
    if nth a0 x5.toNat ≠ nth b0 x5.toNat then
     some (.inr (.inl ()))
    else
     ask (InI (x5 + (1 : Int))) <|
     some (.inl (x5 + (1 : Int)))
   else
    some (.inr (.inr ()))
def S_spec_l1Same_l1 (a0 : List Int) (b0 : List Int) : Int → St := fun s => [(5, A.val (vint s)), (0, A.val ((slr false 1 vint) (a0))), (1, A.val ((slr false 1 vint) (b0)))]
def T_spec_l1Same_l1 (_a0 : List Int) (_b0 : List Int) : (Unit ⊕ Unit) → Tgt
  | (.inl _s) => (Ex.ret, [4], [(4, A.val (V.bool (false)))])
  | (.inr _s) => ((Ex.exit 0), [], [])
theorem b_spec_l1Same_l1 {a0 : List Int} {b0 : List Int} (x5 : Int) (o : Int ⊕ (Unit ⊕ Unit)) (h : F_spec_l1Same_l1 a0 b0 x5 = some o) : vc Try.prog c_spec_l1Same_l1 (outQ [5, 0, 1] (S_spec_l1Same_l1 a0 b0) (T_spec_l1Same_l1 a0 b0) o) (S_spec_l1Same_l1 a0 b0 x5) := by
  unfold F_spec_l1Same_l1 at h
  try dsimp only at h
  conv => whnf
  refine Len.map ?_
  conv => whnf
  refine Br.od h (fun p2 h => ?_) (fun p2 h => ?_)
  · conv => whnf
    refine Len.map ?_
    conv => whnf
    refine Ask.o h fun p3 h => ?_
    conv => whnf
    refine Elem.o (by first | omega | (simp only [mulN] at *; omega) | (simp [mulN] at *; omega)) ?_
    conv => whnf
    refine Len.map ?_
    conv => whnf
    refine Ask.o h fun p4 h => ?_
    conv => whnf
    refine Elem.o (by first | omega | (simp only [mulN] at *; omega) | (simp [mulN] at *; omega)) ?_
    conv => whnf
    refine Br.on h (fun p5 h => ?_) (fun p5 h => ?_)
    · conv => whnf
      cases h; exact ⟨rfl, rfl⟩
    · conv => whnf
      refine Ask.o h fun p6 h => ?_
      conv => whnf
      cases h; exact ⟨rfl, rfl⟩
  · conv => whnf
    cases h; exact ⟨rfl, rfl⟩

noncomputable def F_spec_l1Same (a0 : (List Int)) (b0 : (List Int)) : Option Bool :=
  if (↑a0.length : Int) ≠ (↑b0.length : Int) then
   some false
  else
   (loopO (F_spec_l1Same_l1 a0 b0) (0 : Int)).bind fun t => match t with
   | (.inl _) => (some false)
   | (.inr _) => (some true)
theorem t_spec_l1Same {a0 : (List Int)} {b0 : (List Int)} {v : Bool} (h : F_spec_l1Same a0 b0 = some v) : Ret Try.prog f_spec_l1Same [(slr false 1 vint) a0, (slr false 1 vint) b0] (V.bool v) := by
  refine ret_vc k_spec_l1Same (Nat.le_of_ble_eq_true rfl) ?_
  unfold F_spec_l1Same at h
  conv => whnf
  refine Len.map ?_
  conv => whnf
  refine Len.map ?_
  conv => whnf
  refine Br.on h (fun p1 h => ?_) (fun p1 h => ?_)
  · conv => whnf
    cases h; exact (by first | rfl | simp only [resV, mulN_one, V.fz, fzL, V.up, upL, fzL_map, fz_slr, fz_at, slr] | simp [resV, mulN_one, V.fz, fzL, V.up, upL, fzL_map, fz_slr, fz_at, slr])
  · conv => whnf
    refine LoopQ.o [5, 0, 1] (S_spec_l1Same_l1 a0 b0) (T_spec_l1Same_l1 a0 b0) h (fun s o h => b_spec_l1Same_l1 s o h) (by first | rfl | simp [restrict, look, mulN_one, V.fz, fzL, V.up, upL, fzL_map, fz_slr, fz_at, slr]) (by rintro (_ | _) <;> rfl) ?_
    rintro (⟨⟩ | ⟨⟩) h
    · try dsimp only at h
      conv => whnf
      cases h; exact (by first | rfl | simp only [resV, mulN_one, V.fz, fzL, V.up, upL, fzL_map, fz_slr, fz_at, slr] | simp [resV, mulN_one, V.fz, fzL, V.up, upL, fzL_map, fz_slr, fz_at, slr])
    · try dsimp only at h
      conv => whnf
      cases h; exact (by first | rfl | simp only [resV, mulN_one, V.fz, fzL, V.up, upL, fzL_map, fz_slr, fz_at, slr] | simp [resV, mulN_one, V.fz, fzL, V.up, upL, fzL_map, fz_slr, fz_at, slr])

noncomputable def F_spec_l2Type_l1 (a0 : SAlgebra) : (Int × (List Int)) → Option ((Int × (List Int)) ⊕ (List Int)) := fun (x4, x3) =>
   if x4 < (↑a0.Ops.length : Int) then
    ask ((0 : Int) ≤ x4 ∧ x4 < (↑a0.Ops.length : Int)) <|
    ask ((x3).length + ([(nth a0.Ops x4.toNat).Arity]).length ≤ LIM) <|
    ask (InI (x4 + (1 : Int))) <|
    some (.inl (x4 + (1 : Int), x3 ++ [(nth a0.Ops x4.toNat).Arity]))
   else
    some (.inr x3)
def S_spec_l2Type_l1 (a0 : SAlgebra) : (Int × (List Int)) → St := fun s => [(4, A.val (vint s.1)), (3, A.val ((slr true 1 vint) s.2)), (1, A.val ((rP true (rS_Algebra false)) (a0)))]
def T_spec_l2Type_l1 (_a0 : SAlgebra) : (List Int) → Tgt
  | s => ((Ex.exit 0), [3], [(3, A.val ((slr true 1 vint) s))])
theorem b_spec_l2Type_l1 {a0 : SAlgebra} (s : (Int × (List Int))) (o : (Int × (List Int)) ⊕ (List Int)) (h : F_spec_l2Type_l1 a0 s = some o) : vc Try.prog c_spec_l2Type_l1 (outQ [4, 3, 1] (S_spec_l2Type_l1 a0) (T_spec_l2Type_l1 a0) o) (S_spec_l2Type_l1 a0 s) := by
  obtain ⟨x4, x3⟩ := s
  unfold F_spec_l2Type_l1 at h
  try dsimp only at h
  conv => whnf
  refine Cells.lit rfl rfl ?_
  conv => whnf
  refine Len.map ?_
  conv => whnf
  refine Br.od h (fun p1 h => ?_) (fun p1 h => ?_)
  · conv => whnf
    refine Cells.lit rfl rfl ?_
    conv => whnf
    refine Len.map ?_
    conv => whnf
    refine Ask.o h fun p2 h => ?_
    conv => whnf
    refine Elem.o (by first | omega | (simp only [mulN] at *; omega) | (simp [mulN] at *; omega)) ?_
    conv => whnf
    refine BslQ.o vint ([(nth a0.Ops x4.toNat).Arity]) (by exact fun _ => ⟨rfl, rfl⟩) (by first | rfl | simp only [mulN_one, V.fz, fzL, V.up, upL, fzL_map, fz_slr, fz_at, slr, List.cons_append, List.nil_append] | simp [mulN_one, V.fz, fzL, V.up, upL, fzL_map, fz_slr, fz_at, slr]) ?_
    conv => whnf
    refine NoOwn.o (fun _ => rfl) ?_
    conv => whnf
    refine AppQ.o (m := 1) vint (by exact fun _ => ⟨rfl, rfl⟩) (x3) ([(nth a0.Ops x4.toNat).Arity]) (by first | rfl | simp only [mulN_one, V.fz, fzL, V.up, upL, fzL_map, fz_slr, fz_at, slr, List.cons_append, List.nil_append] | simp [mulN_one, V.fz, fzL, V.up, upL, fzL_map, fz_slr, fz_at, slr]) (by first | rfl | simp only [mulN_one, V.fz, fzL, V.up, upL, fzL_map, fz_slr, fz_at, slr, List.cons_append, List.nil_append] | simp [mulN_one, V.fz, fzL, V.up, upL, fzL_map, fz_slr, fz_at, slr]) h fun h => ?_
    conv => whnf
    refine Ask.o h fun p3 h => ?_
    conv => whnf
    cases h; exact ⟨rfl, rfl⟩
  · conv => whnf
    cases h; exact ⟨rfl, rfl⟩

noncomputable def F_spec_l2Type (a0 : SAlgebra) : Option (List Int) :=
  (loopO (F_spec_l2Type_l1 a0) ((0 : Int), nilL Int)).bind fun q4_3 =>
  some q4_3
theorem t_spec_l2Type {a0 : SAlgebra} {v : (List Int)} (h : F_spec_l2Type a0 = some v) : Ret Try.prog f_spec_l2Type [(rS_Algebra false) a0] ((slr true 1 vint) v) := by
  refine ret_vc k_spec_l2Type (Nat.le_of_ble_eq_true rfl) ?_
  unfold F_spec_l2Type at h
  conv => whnf
  refine BslQ.o vint (nilL Int) (by exact fun _ => ⟨rfl, rfl⟩) (by first | rfl | simp only [mulN_one, V.fz, fzL, V.up, upL, fzL_map, fz_slr, fz_at, slr, List.cons_append, List.nil_append] | simp [mulN_one, V.fz, fzL, V.up, upL, fzL_map, fz_slr, fz_at, slr]) ?_
  conv => whnf
  refine LoopQ.o [4, 3, 1] (S_spec_l2Type_l1 a0) (T_spec_l2Type_l1 a0) h (fun s o h => b_spec_l2Type_l1 s o h) (by first | rfl | simp [restrict, look, mulN_one, V.fz, fzL, V.up, upL, fzL_map, fz_slr, fz_at, slr]) (fun _ => rfl) ?_
  rintro q4_3 h
  try dsimp only at h
  conv => whnf
  cases h; exact (by first | rfl | simp only [resV, mulN_one, V.fz, fzL, V.up, upL, fzL_map, fz_slr, fz_at, slr] | simp [resV, mulN_one, V.fz, fzL, V.up, upL, fzL_map, fz_slr, fz_at, slr])

noncomputable def F_spec_l2Value_l1 (a0 : SAlgebra) (_op0 : Int) (args0 : List Int) : (Int × Int) → Option ((Int × Int) ⊕ Int) := fun (x8, x7) =>
   if x8 < (↑args0.length : Int) then
    ask (InI (x7 * a0.Size)) <|
    ask ((0 : Int) ≤ x8 ∧ x8 < (↑args0.length : Int)) <|
    ask (InI (x7 * a0.Size + nth args0 x8.toNat)) <|
    ask (InI (x8 + (1 : Int))) <|
    some (.inl (x8 + (1 : Int), x7 * a0.Size + nth args0 x8.toNat))
   else
    some (.inr x7)
def S_spec_l2Value_l1 (a0 : SAlgebra) (op0 : Int) (args0 : List Int) : (Int × Int) → St := fun s => [(8, A.val (vint s.1)), (7, A.val (vint s.2)), (3, A.val ((rP true (rS_Algebra false)) (a0))), (1, A.val (vint (op0))), (2, A.val ((slr false 1 vint) (args0)))]
def T_spec_l2Value_l1 (a0 : SAlgebra) (op0 : Int) (_args0 : List Int) : Int → Tgt
  | s => ((Ex.exit 0), [7, 3, 1], [(7, A.val (vint s)), (3, A.val ((rP true (rS_Algebra false)) (a0))), (1, A.val (vint (op0)))])
theorem b_spec_l2Value_l1 {a0 : SAlgebra} {op0 : Int} {args0 : List Int} (s : (Int × Int)) (o : (Int × Int) ⊕ Int) (h : F_spec_l2Value_l1 a0 op0 args0 s = some o) : vc Try.prog c_spec_l2Value_l1 (outQ [8, 7, 3, 1, 2] (S_spec_l2Value_l1 a0 op0 args0) (T_spec_l2Value_l1 a0 op0 args0) o) (S_spec_l2Value_l1 a0 op0 args0 s) := by
  obtain ⟨x8, x7⟩ := s
  unfold F_spec_l2Value_l1 at h
  try dsimp only at h
  conv => whnf
  refine Len.map ?_
  conv => whnf
  refine Br.od h (fun p1 h => ?_) (fun p1 h => ?_)
  · conv => whnf
    refine Cells.lit rfl rfl ?_
    conv => whnf
    refine Ask.o h fun p2 h => ?_
    conv => whnf
    refine Len.map ?_
    conv => whnf
    refine Ask.o h fun p3 h => ?_
    conv => whnf
    refine Elem.o (by first | omega | (simp only [mulN] at *; omega) | (simp [mulN] at *; omega)) ?_
    conv => whnf
    refine Ask.o h fun p4 h => ?_
    conv => whnf
    refine Ask.o h fun p5 h => ?_
    conv => whnf
    cases h; exact ⟨rfl, rfl⟩
  · conv => whnf
    cases h; exact ⟨rfl, rfl⟩

noncomputable def F_spec_l2Value (a0 : SAlgebra) (op0 : Int) (args0 : (List Int)) : Option Int :=
  (loopO (F_spec_l2Value_l1 a0 op0 args0) ((0 : Int), (0 : Int))).bind fun q6_7 =>
  ask ((0 : Int) ≤ op0 ∧ op0 < (↑a0.Ops.length : Int)) <|
  ask ((0 : Int) ≤ q6_7 ∧ q6_7 < (↑(nth a0.Ops op0.toNat).Table.length : Int)) <|
  some (nth (nth a0.Ops op0.toNat).Table q6_7.toNat)
theorem t_spec_l2Value {a0 : SAlgebra} {op0 : Int} {args0 : (List Int)} {v : Int} (h : F_spec_l2Value a0 op0 args0 = some v) : Ret Try.prog f_spec_l2Value [(rS_Algebra false) a0, vint op0, (slr false 1 vint) args0] (vint v) := by
  refine ret_vc k_spec_l2Value (Nat.le_of_ble_eq_true rfl) ?_
  unfold F_spec_l2Value at h
  conv => whnf
  refine LoopQ.o [8, 7, 3, 1, 2] (S_spec_l2Value_l1 a0 op0 args0) (T_spec_l2Value_l1 a0 op0 args0) h (fun s o h => b_spec_l2Value_l1 s o h) (by first | rfl | simp [restrict, look, mulN_one, V.fz, fzL, V.up, upL, fzL_map, fz_slr, fz_at, slr]) (fun _ => rfl) ?_
  rintro q6_7 h
  try dsimp only at h
  conv => whnf
  refine Cells.lit rfl rfl ?_
  conv => whnf
  refine Len.map ?_
  conv => whnf
  refine Ask.o h fun p7 h => ?_
  conv => whnf
  refine Elem.o (by first | omega | (simp only [mulN] at *; omega) | (simp [mulN] at *; omega)) ?_
  conv => whnf
  refine Len.map ?_
  conv => whnf
  refine Ask.o h fun p8 h => ?_
  conv => whnf
  refine Elem.o (by first | omega | (simp only [mulN] at *; omega) | (simp [mulN] at *; omega)) ?_
  conv => whnf
  cases h; exact (by first | rfl | simp only [resV, mulN_one, V.fz, fzL, V.up, upL, fzL_map, fz_slr, fz_at, slr] | simp [resV, mulN_one, V.fz, fzL, V.up, upL, fzL_map, fz_slr, fz_at, slr])

noncomputable def F_impl_sameList_l1 (a0 : List Int) (b0 : List Int) : Int → Option (Int ⊕ (Unit ⊕ Unit)) := fun x14 =>
   if x14 < (↑a0.length : Int) then
    ask ((0 : Int) ≤ x14 ∧ x14 < (↑a0.length : Int)) <|
    ask ((0 : Int) ≤ x14 ∧ x14 < (↑b0.length : Int)) <|
    if nth b0 x14.toNat ≠ nth a0 x14.toNat then
     some (.inr (.inl ()))
    else
     ask (InI (x14 + (1 : Int))) <|
     some (.inl (x14 + (1 : Int)))
   else
    some (.inr (.inr ()))
def S_impl_sameList_l1 (a0 : List Int) (b0 : List Int) : Int → St := fun s => [(14, A.val (vint s)), (13, A.val (vint ((↑a0.length : Int)))), (12, A.val ((slr false 1 vint) (a0))), (1, A.val ((slr false 1 vint) (b0)))]
def T_impl_sameList_l1 (_a0 : List Int) (_b0 : List Int) : (Unit ⊕ Unit) → Tgt
  | (.inl _s) => (Ex.ret, [4], [(4, A.val (V.bool (false)))])
  | (.inr _s) => ((Ex.exit 0), [], [])
theorem b_impl_sameList_l1 {a0 : List Int} {b0 : List Int} (x14 : Int) (o : Int ⊕ (Unit ⊕ Unit)) (h : F_impl_sameList_l1 a0 b0 x14 = some o) : vc Try.prog c_impl_sameList_l1 (outQ [14, 13, 12, 1] (S_impl_sameList_l1 a0 b0) (T_impl_sameList_l1 a0 b0) o) (S_impl_sameList_l1 a0 b0 x14) := by
  unfold F_impl_sameList_l1 at h
  try dsimp only at h
  conv => whnf
  refine Br.od h (fun p2 h => ?_) (fun p2 h => ?_)
  · conv => whnf
    refine Len.map ?_
    conv => whnf
    refine Ask.o h fun p3 h => ?_
    conv => whnf
    refine Elem.o (by first | omega | (simp only [mulN] at *; omega) | (simp [mulN] at *; omega)) ?_
    conv => whnf
    refine Len.map ?_
    conv => whnf
    refine Ask.o h fun p4 h => ?_
    conv => whnf
    refine Elem.o (by first | omega | (simp only [mulN] at *; omega) | (simp [mulN] at *; omega)) ?_
    conv => whnf
    refine Br.on h (fun p5 h => ?_) (fun p5 h => ?_)
    · conv => whnf
      cases h; exact ⟨rfl, rfl⟩
    · conv => whnf
      refine Ask.o h fun p6 h => ?_
      conv => whnf
      cases h; exact ⟨rfl, rfl⟩
  · conv => whnf
    cases h; exact ⟨rfl, rfl⟩

noncomputable def F_impl_sameList (a0 : (List Int)) (b0 : (List Int)) : Option Bool :=
  if (↑a0.length : Int) ≠ (↑b0.length : Int) then
   some false
  else
   (loopO (F_impl_sameList_l1 a0 b0) (0 : Int)).bind fun t => match t with
   | (.inl _) => (some false)
   | (.inr _) => (some true)
theorem t_impl_sameList {a0 : (List Int)} {b0 : (List Int)} {v : Bool} (h : F_impl_sameList a0 b0 = some v) : Ret Try.prog f_impl_sameList [(slr false 1 vint) a0, (slr false 1 vint) b0] (V.bool v) := by
  refine ret_vc k_impl_sameList (Nat.le_of_ble_eq_true rfl) ?_
  unfold F_impl_sameList at h
  conv => whnf
  refine Len.map ?_
  conv => whnf
  refine Len.map ?_
  conv => whnf
  refine Br.on h (fun p1 h => ?_) (fun p1 h => ?_)
  · conv => whnf
    cases h; exact (by first | rfl | simp only [resV, mulN_one, V.fz, fzL, V.up, upL, fzL_map, fz_slr, fz_at, slr] | simp [resV, mulN_one, V.fz, fzL, V.up, upL, fzL_map, fz_slr, fz_at, slr])
  · conv => whnf
    refine Len.map ?_
    conv => whnf
    refine LoopQ.o [14, 13, 12, 1] (S_impl_sameList_l1 a0 b0) (T_impl_sameList_l1 a0 b0) h (fun s o h => b_impl_sameList_l1 s o h) (by first | rfl | simp [restrict, look, mulN_one, V.fz, fzL, V.up, upL, fzL_map, fz_slr, fz_at, slr]) (by rintro (_ | _) <;> rfl) ?_
    rintro (⟨⟩ | ⟨⟩) h
    · try dsimp only at h
      conv => whnf
      cases h; exact (by first | rfl | simp only [resV, mulN_one, V.fz, fzL, V.up, upL, fzL_map, fz_slr, fz_at, slr] | simp [resV, mulN_one, V.fz, fzL, V.up, upL, fzL_map, fz_slr, fz_at, slr])
    · try dsimp only at h
      conv => whnf
      cases h; exact (by first | rfl | simp only [resV, mulN_one, V.fz, fzL, V.up, upL, fzL_map, fz_slr, fz_at, slr] | simp [resV, mulN_one, V.fz, fzL, V.up, upL, fzL_map, fz_slr, fz_at, slr])

noncomputable def F_impl_typeOf_l1 (a0 : SAlgebra) : (Int × (List Int)) → Option ((Int × (List Int)) ⊕ (List Int)) := fun (x10, x3) =>
   if x10 < (↑a0.Ops.length : Int) then
    ask ((0 : Int) ≤ x10 ∧ x10 < (↑a0.Ops.length : Int)) <|
    ask ((x3).length + ([(nth a0.Ops x10.toNat).Arity]).length ≤ LIM) <|
    ask (InI (x10 + (1 : Int))) <|
    some (.inl (x10 + (1 : Int), x3 ++ [(nth a0.Ops x10.toNat).Arity]))
   else
    some (.inr x3)
def S_impl_typeOf_l1 (a0 : SAlgebra) : (Int × (List Int)) → St := fun s => [(10, A.val (vint s.1)), (9, A.val (vint ((↑a0.Ops.length : Int)))), (8, A.val ((slr false 2 (rS_Op false)) (a0.Ops))), (3, A.val ((slr true 1 vint) s.2))]
def T_impl_typeOf_l1 (_a0 : SAlgebra) : (List Int) → Tgt
  | s => ((Ex.exit 0), [3], [(3, A.val ((slr true 1 vint) s))])
theorem b_impl_typeOf_l1 {a0 : SAlgebra} (s : (Int × (List Int))) (o : (Int × (List Int)) ⊕ (List Int)) (h : F_impl_typeOf_l1 a0 s = some o) : vc Try.prog c_impl_typeOf_l1 (outQ [10, 9, 8, 3] (S_impl_typeOf_l1 a0) (T_impl_typeOf_l1 a0) o) (S_impl_typeOf_l1 a0 s) := by
  obtain ⟨x10, x3⟩ := s
  unfold F_impl_typeOf_l1 at h
  try dsimp only at h
  conv => whnf
  refine Br.od h (fun p1 h => ?_) (fun p1 h => ?_)
  · conv => whnf
    refine Len.map ?_
    conv => whnf
    refine Ask.o h fun p2 h => ?_
    conv => whnf
    refine Elem.o (by first | omega | (simp only [mulN] at *; omega) | (simp [mulN] at *; omega)) ?_
    conv => whnf
    refine SetKids.lit rfl ?_
    conv => whnf
    refine Cells.lit rfl rfl ?_
    conv => whnf
    refine BslQ.o vint ([(nth a0.Ops x10.toNat).Arity]) (by exact fun _ => ⟨rfl, rfl⟩) (by first | rfl | simp only [mulN_one, V.fz, fzL, V.up, upL, fzL_map, fz_slr, fz_at, slr, List.cons_append, List.nil_append] | simp [mulN_one, V.fz, fzL, V.up, upL, fzL_map, fz_slr, fz_at, slr]) ?_
    conv => whnf
    refine NoOwn.o (fun _ => rfl) ?_
    conv => whnf
    refine AppQ.o (m := 1) vint (by exact fun _ => ⟨rfl, rfl⟩) (x3) ([(nth a0.Ops x10.toNat).Arity]) (by first | rfl | simp only [mulN_one, V.fz, fzL, V.up, upL, fzL_map, fz_slr, fz_at, slr, List.cons_append, List.nil_append] | simp [mulN_one, V.fz, fzL, V.up, upL, fzL_map, fz_slr, fz_at, slr]) (by first | rfl | simp only [mulN_one, V.fz, fzL, V.up, upL, fzL_map, fz_slr, fz_at, slr, List.cons_append, List.nil_append] | simp [mulN_one, V.fz, fzL, V.up, upL, fzL_map, fz_slr, fz_at, slr]) h fun h => ?_
    conv => whnf
    refine Ask.o h fun p3 h => ?_
    conv => whnf
    cases h; exact ⟨rfl, rfl⟩
  · conv => whnf
    cases h; exact ⟨rfl, rfl⟩

noncomputable def F_impl_typeOf (a0 : SAlgebra) : Option (List Int) :=
  (loopO (F_impl_typeOf_l1 a0) ((0 : Int), nilL Int)).bind fun q4_3 =>
  some q4_3
theorem t_impl_typeOf {a0 : SAlgebra} {v : (List Int)} (h : F_impl_typeOf a0 = some v) : Ret Try.prog f_impl_typeOf [(rS_Algebra false) a0] ((slr true 1 vint) v) := by
  refine ret_vc k_impl_typeOf (Nat.le_of_ble_eq_true rfl) ?_
  unfold F_impl_typeOf at h
  conv => whnf
  refine BslQ.o vint (nilL Int) (by exact fun _ => ⟨rfl, rfl⟩) (by first | rfl | simp only [mulN_one, V.fz, fzL, V.up, upL, fzL_map, fz_slr, fz_at, slr, List.cons_append, List.nil_append] | simp [mulN_one, V.fz, fzL, V.up, upL, fzL_map, fz_slr, fz_at, slr]) ?_
  conv => whnf
  refine Cells.lit rfl rfl ?_
  conv => whnf
  refine Len.map ?_
  conv => whnf
  refine LoopQ.o [10, 9, 8, 3] (S_impl_typeOf_l1 a0) (T_impl_typeOf_l1 a0) h (fun s o h => b_impl_typeOf_l1 s o h) (by first | rfl | simp [restrict, look, mulN_one, V.fz, fzL, V.up, upL, fzL_map, fz_slr, fz_at, slr]) (fun _ => rfl) ?_
  rintro q4_3 h
  try dsimp only at h
  conv => whnf
  cases h; exact (by first | rfl | simp only [resV, mulN_one, V.fz, fzL, V.up, upL, fzL_map, fz_slr, fz_at, slr] | simp [resV, mulN_one, V.fz, fzL, V.up, upL, fzL_map, fz_slr, fz_at, slr])

noncomputable def F_spec_l1In (x0 : Int) (a0 : Int) (b0 : Int) : Option Bool :=
  if x0 ≥ a0 then
   some (decide (x0 ≤ b0))
  else
   some false
theorem t_spec_l1In {x0 : Int} {a0 : Int} {b0 : Int} {v : Bool} (h : F_spec_l1In x0 a0 b0 = some v) : Ret Try.prog f_spec_l1In [vint x0, vint a0, vint b0] (V.bool v) := by
  refine ret_vc k_spec_l1In (Nat.le_of_ble_eq_true rfl) ?_
  unfold F_spec_l1In at h
  conv => whnf
  refine Br.od h (fun p1 h => ?_) (fun p1 h => ?_)
  · conv => whnf
    refine Br.yes ?_
    conv => whnf
    refine Br.yes ?_
    conv => whnf
    refine Br.yes ?_
    conv => whnf
    cases h; exact (by first | rfl | simp only [resV, mulN_one, V.fz, fzL, V.up, upL, fzL_map, fz_slr, fz_at, slr] | simp [resV, mulN_one, V.fz, fzL, V.up, upL, fzL_map, fz_slr, fz_at, slr])
  · conv => whnf
    refine Br.no ?_
    conv => whnf
    refine Br.no ?_
    conv => whnf
    refine Br.no ?_
    conv => whnf
    cases h; exact (by first | rfl | simp only [resV, mulN_one, V.fz, fzL, V.up, upL, fzL_map, fz_slr, fz_at, slr] | simp [resV, mulN_one, V.fz, fzL, V.up, upL, fzL_map, fz_slr, fz_at, slr])

end Go.Proofs.Ytdodfnbbfkcgnaa.Ax
