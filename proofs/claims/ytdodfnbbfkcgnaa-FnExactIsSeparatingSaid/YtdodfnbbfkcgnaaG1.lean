/-
  What the functions compute, as functions on plain data, and that the program does compute it; written by program.
-/
import Derived.Test.YtdodfnbbfkcgnaaCode
namespace Go.Proofs.Ytdodfnbbfkcgnaa.Ax
open Go
set_option maxRecDepth 100000
set_option maxHeartbeats 4000000

noncomputable def F_laws_toIntS_l1 (a0 : List Int) : (Int × (List Int)) → Option ((Int × (List Int)) ⊕ (List Int)) := fun (x4, x3) =>
   if x4 < (↑a0.length : Int) then
    ask ((0 : Int) ≤ x4 ∧ x4 < (↑a0.length : Int)) <|
    ask ((0 : Int) ≤ x4 ∧ x4 < (↑x3.length : Int)) <|
    ask (InI (x4 + (1 : Int))) <|
    some (.inl (x4 + (1 : Int), x3.set x4.toNat (nth a0 x4.toNat)))
   else
    some (.inr x3)
def S_laws_toIntS_l1 (a0 : List Int) : (Int × (List Int)) → St := fun s => [(4, A.val (vint s.1)), (3, A.val ((slr true 1 vint) s.2)), (0, A.val ((slr false 1 vint) (a0)))]
def T_laws_toIntS_l1 (_a0 : List Int) : (List Int) → Tgt
  | s => ((Ex.exit 0), [3], [(3, A.val ((slr true 1 vint) s))])
theorem b_laws_toIntS_l1 {a0 : List Int} (s : (Int × (List Int))) (o : (Int × (List Int)) ⊕ (List Int)) (h : F_laws_toIntS_l1 a0 s = some o) : vc Try.prog c_laws_toIntS_l1 (outQ [4, 3, 0] (S_laws_toIntS_l1 a0) (T_laws_toIntS_l1 a0) o) (S_laws_toIntS_l1 a0 s) := by
  obtain ⟨x4, x3⟩ := s
  unfold F_laws_toIntS_l1 at h
  try dsimp only at h
  conv => whnf
  refine Len.map ?_
  conv => whnf
  refine Br.od h (fun p2 h => ?_) (fun p2 h => ?_)
  · conv => whnf
    refine Len.map ?_
    conv => whnf
    refine Ask.o h fun p3 h => ?_
    conv => whnf
    refine Elem.o (by first | omega | (simp only [mulN] at *; omega) | (simp [mulN] at *; omega)) ?_
    conv => whnf
    refine Len.map ?_
    conv => whnf
    refine Ask.o h fun p4 h => ?_
    conv => whnf
    refine SetKids.one (fun _ => ⟨rfl, rfl⟩) (nth a0 x4.toNat) (by first | rfl | simp only [mulN_one, V.fz, fzL, V.up, upL, fzL_map, fz_slr, fz_at, slr, List.cons_append, List.nil_append] | simp [mulN_one, V.fz, fzL, V.up, upL, fzL_map, fz_slr, fz_at, slr]) (by first | omega | (simp only [mulN] at *; omega) | (simp [mulN] at *; omega)) ?_
    conv => whnf
    refine Ask.o h fun p5 h => ?_
    conv => whnf
    cases h; exact ⟨rfl, rfl⟩
  · conv => whnf
    cases h; exact ⟨rfl, rfl⟩

noncomputable def F_laws_toIntS (a0 : (List Int)) : Option (List Int) :=
  ask ((0 : Int) ≤ (↑a0.length : Int) ∧ (↑a0.length : Int) ≤ (↑LIM : Int)) <|
  (loopO (F_laws_toIntS_l1 a0) ((0 : Int), List.replicate (↑a0.length : Int).toNat (0 : Int))).bind fun q6_3 =>
  some q6_3
theorem t_laws_toIntS {a0 : (List Int)} {v : (List Int)} (h : F_laws_toIntS a0 = some v) : Ret Try.prog f_laws_toIntS [(slr false 1 vint) a0] ((slr true 1 vint) v) := by
  refine ret_vc k_laws_toIntS (Nat.le_of_ble_eq_true rfl) ?_
  unfold F_laws_toIntS at h
  conv => whnf
  refine Len.map ?_
  conv => whnf
  refine Ask.o h fun p1 h => ?_
  conv => whnf
  refine MkQ.o vint ((0 : Int)) rfl ?_
  conv => whnf
  refine LoopQ.o [4, 3, 0] (S_laws_toIntS_l1 a0) (T_laws_toIntS_l1 a0) h (fun s o h => b_laws_toIntS_l1 s o h) (by first | rfl | simp [restrict, look, mulN_one, V.fz, fzL, V.up, upL, fzL_map, fz_slr, fz_at, slr]) (fun _ => rfl) ?_
  rintro q6_3 h
  try dsimp only at h
  conv => whnf
  cases h; exact (by first | rfl | simp only [resV, mulN_one, V.fz, fzL, V.up, upL, fzL_map, fz_slr, fz_at, slr] | simp [resV, mulN_one, V.fz, fzL, V.up, upL, fzL_map, fz_slr, fz_at, slr])

noncomputable def F_laws_eqIntS_l1 (a0 : List Int) (b0 : List Int) : Int → Option (Int ⊕ (Unit ⊕ Unit)) := fun x5 =>
   if x5 < (↑a0.length : Int) then
    ask ((0 : Int) ≤ x5 ∧ x5 < (↑a0.length : Int)) <|
    ask ((0 : Int) ≤ x5 ∧ x5 < (↑b0.length : Int)) <|
    if nth a0 x5.toNat ≠ nth b0 x5.toNat then
     some (.inr (.inl ()))
    else
     ask (InI (x5 + (1 : Int))) <|
     some (.inl (x5 + (1 : Int)))
   else
    some (.inr (.inr ()))
def S_laws_eqIntS_l1 (a0 : List Int) (b0 : List Int) : Int → St := fun s => [(5, A.val (vint s)), (0, A.val ((slr false 1 vint) (a0))), (1, A.val ((slr false 1 vint) (b0)))]
def T_laws_eqIntS_l1 (_a0 : List Int) (_b0 : List Int) : (Unit ⊕ Unit) → Tgt
  | (.inl _s) => (Ex.ret, [4], [(4, A.val (V.bool (false)))])
  | (.inr _s) => ((Ex.exit 0), [], [])
theorem b_laws_eqIntS_l1 {a0 : List Int} {b0 : List Int} (x5 : Int) (o : Int ⊕ (Unit ⊕ Unit)) (h : F_laws_eqIntS_l1 a0 b0 x5 = some o) : vc Try.prog c_laws_eqIntS_l1 (outQ [5, 0, 1] (S_laws_eqIntS_l1 a0 b0) (T_laws_eqIntS_l1 a0 b0) o) (S_laws_eqIntS_l1 a0 b0 x5) := by
  unfold F_laws_eqIntS_l1 at h
  try dsimp only at h
  conv => whnf
  refine Len.map ?_
  conv => whnf
  refine Br.od h (fun p2 h => ?_) (fun p2 h => ?_)
  · conv => whnf
    refine Len.map ?_
    conv => whnf
    refine Ask.o h fun p3 h => ?_
    conv => whnf
    refine Elem.o (by first | omega | (simp only [mulN] at *; omega) | (simp [mulN] at *; omega)) ?_
    conv => whnf
    refine Len.map ?_
    conv => whnf
    refine Ask.o h fun p4 h => ?_
    conv => whnf
    refine Elem.o (by first | omega | (simp only [mulN] at *; omega) | (simp [mulN] at *; omega)) ?_
    conv => whnf
    refine Br.on h (fun p5 h => ?_) (fun p5 h => ?_)
    · conv => whnf
      cases h; exact ⟨rfl, rfl⟩
    · conv => whnf
      refine Ask.o h fun p6 h => ?_
      conv => whnf
      cases h; exact ⟨rfl, rfl⟩
  · conv => whnf
    cases h; exact ⟨rfl, rfl⟩

noncomputable def F_laws_eqIntS (a0 : (List Int)) (b0 : (List Int)) : Option Bool :=
  if (↑a0.length : Int) ≠ (↑b0.length : Int) then
   some false
  else
   (loopO (F_laws_eqIntS_l1 a0 b0) (0 : Int)).bind fun t => match t with
   | (.inl _) => (some false)
   | (.inr _) => (some true)
theorem t_laws_eqIntS {a0 : (List Int)} {b0 : (List Int)} {v : Bool} (h : F_laws_eqIntS a0 b0 = some v) : Ret Try.prog f_laws_eqIntS [(slr false 1 vint) a0, (slr false 1 vint) b0] (V.bool v) := by
  refine ret_vc k_laws_eqIntS (Nat.le_of_ble_eq_true rfl) ?_
  unfold F_laws_eqIntS at h
  conv => whnf
  refine Len.map ?_
  conv => whnf
  refine Len.map ?_
  conv => whnf
  refine Br.on h (fun p1 h => ?_) (fun p1 h => ?_)
  · conv => whnf
    cases h; exact (by first | rfl | simp only [resV, mulN_one, V.fz, fzL, V.up, upL, fzL_map, fz_slr, fz_at, slr] | simp [resV, mulN_one, V.fz, fzL, V.up, upL, fzL_map, fz_slr, fz_at, slr])
  · conv => whnf
    refine LoopQ.o [5, 0, 1] (S_laws_eqIntS_l1 a0 b0) (T_laws_eqIntS_l1 a0 b0) h (fun s o h => b_laws_eqIntS_l1 s o h) (by first | rfl | simp [restrict, look, mulN_one, V.fz, fzL, V.up, upL, fzL_map, fz_slr, fz_at, slr]) (by rintro (_ | _) <;> rfl) ?_
    rintro (⟨⟩ | ⟨⟩) h
    · try dsimp only at h
      conv => whnf
      cases h; exact (by first | rfl | simp only [resV, mulN_one, V.fz, fzL, V.up, upL, fzL_map, fz_slr, fz_at, slr] | simp [resV, mulN_one, V.fz, fzL, V.up, upL, fzL_map, fz_slr, fz_at, slr])
    · try dsimp only at h
      conv => whnf
      cases h; exact (by first | rfl | simp only [resV, mulN_one, V.fz, fzL, V.up, upL, fzL_map, fz_slr, fz_at, slr] | simp [resV, mulN_one, V.fz, fzL, V.up, upL, fzL_map, fz_slr, fz_at, slr])

noncomputable def F_spec_l1Own (l0 : (List Int)) : Option (List Int) :=
  ask ((nilL Int).length + (l0).length ≤ LIM) <|
  some (nilL Int ++ l0)
theorem t_spec_l1Own {l0 : (List Int)} {v : (List Int)} (h : F_spec_l1Own l0 = some v) : Ret Try.prog f_spec_l1Own [(slr false 1 vint) l0] ((slr true 1 vint) v) := by
  refine ret_vc k_spec_l1Own (Nat.le_of_ble_eq_true rfl) ?_
  unfold F_spec_l1Own at h
  conv => whnf
  refine BslQ.o vint (nilL Int) (by exact fun _ => ⟨rfl, rfl⟩) (by first | rfl | simp only [mulN_one, V.fz, fzL, V.up, upL, fzL_map, fz_slr, fz_at, slr, List.cons_append, List.nil_append] | simp [mulN_one, V.fz, fzL, V.up, upL, fzL_map, fz_slr, fz_at, slr]) ?_
  conv => whnf
  refine AppQ.o (m := 1) vint (by exact fun _ => ⟨rfl, rfl⟩) (nilL Int) (l0) (by first | rfl | simp only [mulN_one, V.fz, fzL, V.up, upL, fzL_map, fz_slr, fz_at, slr, List.cons_append, List.nil_append] | simp [mulN_one, V.fz, fzL, V.up, upL, fzL_map, fz_slr, fz_at, slr]) (by first | rfl | simp only [mulN_one, V.fz, fzL, V.up, upL, fzL_map, fz_slr, fz_at, slr, List.cons_append, List.nil_append] | simp [mulN_one, V.fz, fzL, V.up, upL, fzL_map, fz_slr, fz_at, slr]) h fun h => ?_
  conv => whnf
  cases h; exact (by first | rfl | simp only [resV, mulN_one, V.fz, fzL, V.up, upL, fzL_map, fz_slr, fz_at, slr] | simp [resV, mulN_one, V.fz, fzL, V.up, upL, fzL_map, fz_slr, fz_at, slr])

noncomputable def F_laws_szIntS (a0 : (List Int)) (left0 : Int) : Option Int :=
  ask (InI (left0 - (↑a0.length : Int))) <|
  if left0 - (↑a0.length : Int) < (0 : Int) then
   some (-1 : Int)
  else
   some (left0 - (↑a0.length : Int))
theorem t_laws_szIntS {a0 : (List Int)} {left0 : Int} {v : Int} (h : F_laws_szIntS a0 left0 = some v) : Ret Try.prog f_laws_szIntS [(slr false 1 vint) a0, vint left0] (vint v) := by
  refine ret_vc k_laws_szIntS (Nat.le_of_ble_eq_true rfl) ?_
  unfold F_laws_szIntS at h
  conv => whnf
  refine Len.map ?_
  conv => whnf
  refine Ask.o h fun p1 h => ?_
  conv => whnf
  refine Br.od h (fun p2 h => ?_) (fun p2 h => ?_)
  · conv => whnf
    cases h; exact (by first | rfl | simp only [resV, mulN_one, V.fz, fzL, V.up, upL, fzL_map, fz_slr, fz_at, slr] | simp [resV, mulN_one, V.fz, fzL, V.up, upL, fzL_map, fz_slr, fz_at, slr])
  · conv => whnf
    cases h; exact (by first | rfl | simp only [resV, mulN_one, V.fz, fzL, V.up, upL, fzL_map, fz_slr, fz_at, slr] | simp [resV, mulN_one, V.fz, fzL, V.up, upL, fzL_map, fz_slr, fz_at, slr])

noncomputable def F_spec_l6Count_l1 (p0 : List Int) : (Int × Int) → Option ((Int × Int) ⊕ Int) := fun (x4, x3) =>
   if x4 < (↑p0.length : Int) then
    ask ((0 : Int) ≤ x4 ∧ x4 < (↑p0.length : Int)) <|
    if nth p0 x4.toNat = x4 then
     ask (InI (x3 + (1 : Int))) <|
     ask (InI (x4 + (1 : Int))) <|
     some (.inl (x4 + (1 : Int), x3 + (1 : Int)))
    else
     ask (InI (x4 + (1 : Int))) <|
     some (.inl (x4 + (1 : Int), x3))
   else
    some (.inr x3)
def S_spec_l6Count_l1 (p0 : List Int) : (Int × Int) → St := fun s => [(4, A.val (vint s.1)), (3, A.val (vint s.2)), (0, A.val ((slr false 1 vint) (p0)))]
def T_spec_l6Count_l1 (_p0 : List Int) : Int → Tgt
  | s => ((Ex.exit 0), [3], [(3, A.val (vint s))])
theorem b_spec_l6Count_l1 {p0 : List Int} (s : (Int × Int)) (o : (Int × Int) ⊕ Int) (h : F_spec_l6Count_l1 p0 s = some o) : vc Try.prog c_spec_l6Count_l1 (outQ [4, 3, 0] (S_spec_l6Count_l1 p0) (T_spec_l6Count_l1 p0) o) (S_spec_l6Count_l1 p0 s) := by
  obtain ⟨x4, x3⟩ := s
  unfold F_spec_l6Count_l1 at h
  try dsimp only at h
  conv => whnf
  refine Len.map ?_
  conv => whnf
  refine Br.od h (fun p1 h => ?_) (fun p1 h => ?_)
  · conv => whnf
    refine Len.map ?_
    conv => whnf
    refine Ask.o h fun p2 h => ?_
    conv => whnf
    refine Elem.o (by first | omega | (simp only [mulN] at *; omega) | (simp [mulN] at *; omega)) ?_
    conv => whnf
    refine Br.oe h (fun p3 h => ?_) (fun p3 h => ?_)
    · conv => whnf
      refine Ask.o h fun p4 h => ?_
      conv => whnf
      refine Ask.o h fun p5 h => ?_
      conv => whnf
      cases h; exact ⟨rfl, rfl⟩
    · conv => whnf
      refine Ask.o h fun p6 h => ?_
      conv => whnf
      cases h; exact ⟨rfl, rfl⟩
  · conv => whnf
    cases h; exact ⟨rfl, rfl⟩

noncomputable def F_spec_l6Count (p0 : (List Int)) : Option Int :=
  (loopO (F_spec_l6Count_l1 p0) ((0 : Int), (0 : Int))).bind fun q7_3 =>
  some q7_3
theorem t_spec_l6Count {p0 : (List Int)} {v : Int} (h : F_spec_l6Count p0 = some v) : Ret Try.prog f_spec_l6Count [(slr false 1 vint) p0] (vint v) := by
  refine ret_vc k_spec_l6Count (Nat.le_of_ble_eq_true rfl) ?_
  unfold F_spec_l6Count at h
  conv => whnf
  refine LoopQ.o [4, 3, 0] (S_spec_l6Count_l1 p0) (T_spec_l6Count_l1 p0) h (fun s o h => b_spec_l6Count_l1 s o h) (by first | rfl | simp [restrict, look, mulN_one, V.fz, fzL, V.up, upL, fzL_map, fz_slr, fz_at, slr]) (fun _ => rfl) ?_
  rintro q7_3 h
  try dsimp only at h
  conv => whnf
  cases h; exact (by first | rfl | simp only [resV, mulN_one, V.fz, fzL, V.up, upL, fzL_map, fz_slr, fz_at, slr] | simp [resV, mulN_one, V.fz, fzL, V.up, upL, fzL_map, fz_slr, fz_at, slr])

noncomputable def F_impl_blockCount_l1 (p0 : List Int) : (Int × Int) → Option ((Int × Int) ⊕ Int) := fun (x8, x3) =>
   if x8 < (↑p0.length : Int) then
    ask ((0 : Int) ≤ x8 ∧ x8 < (↑p0.length : Int)) <|
    if nth p0 x8.toNat = x8 then
     ask (InI (x3 + (1 : Int))) <|
     ask (InI (x8 + (1 : Int))) <|
     some (.inl (x8 + (1 : Int), x3 + (1 : Int)))
    else
     ask (InI (x8 + (1 : Int))) <|
     some (.inl (x8 + (1 : Int), x3))
   else
    some (.inr x3)
def S_impl_blockCount_l1 (p0 : List Int) : (Int × Int) → St := fun s => [(8, A.val (vint s.1)), (7, A.val (vint ((↑p0.length : Int)))), (6, A.val ((slr false 1 vint) (p0))), (3, A.val (vint s.2))]
def T_impl_blockCount_l1 (_p0 : List Int) : Int → Tgt
  | s => ((Ex.exit 0), [3], [(3, A.val (vint s))])
theorem b_impl_blockCount_l1 {p0 : List Int} (s : (Int × Int)) (o : (Int × Int) ⊕ Int) (h : F_impl_blockCount_l1 p0 s = some o) : vc Try.prog c_impl_blockCount_l1 (outQ [8, 7, 6, 3] (S_impl_blockCount_l1 p0) (T_impl_blockCount_l1 p0) o) (S_impl_blockCount_l1 p0 s) := by
  obtain ⟨x8, x3⟩ := s
  unfold F_impl_blockCount_l1 at h
  try dsimp only at h
  conv => whnf
  refine Br.od h (fun p1 h => ?_) (fun p1 h => ?_)
  · conv => whnf
    refine Len.map ?_
    conv => whnf
    refine Ask.o h fun p2 h => ?_
    conv => whnf
    refine Elem.o (by first | omega | (simp only [mulN] at *; omega) | (simp [mulN] at *; omega)) ?_
    conv => whnf
    refine Br.oe h (fun p3 h => ?_) (fun p3 h => ?_)
    · conv => whnf
      refine Ask.o h fun p4 h => ?_
      conv => whnf
      refine Ask.o h fun p5 h => ?_
      conv => whnf
      cases h; exact ⟨rfl, rfl⟩
    · conv => whnf
      refine Ask.o h fun p6 h => ?_
      conv => whnf
      cases h; exact ⟨rfl, rfl⟩
  · conv => whnf
    cases h; exact ⟨rfl, rfl⟩

noncomputable def F_impl_blockCount (p0 : (List Int)) : Option Int :=
  (loopO (F_impl_blockCount_l1 p0) ((0 : Int), (0 : Int))).bind fun q7_3 =>
  some q7_3
theorem t_impl_blockCount {p0 : (List Int)} {v : Int} (h : F_impl_blockCount p0 = some v) : Ret Try.prog f_impl_blockCount [(slr false 1 vint) p0] (vint v) := by
  refine ret_vc k_impl_blockCount (Nat.le_of_ble_eq_true rfl) ?_
  unfold F_impl_blockCount at h
  conv => whnf
  refine Len.map ?_
  conv => whnf
  refine LoopQ.o [8, 7, 6, 3] (S_impl_blockCount_l1 p0) (T_impl_blockCount_l1 p0) h (fun s o h => b_impl_blockCount_l1 s o h) (by first | rfl | simp [restrict, look, mulN_one, V.fz, fzL, V.up, upL, fzL_map, fz_slr, fz_at, slr]) (fun _ => rfl) ?_
  rintro q7_3 h
  try dsimp only at h
  conv => whnf
  cases h; exact (by first | rfl | simp only [resV, mulN_one, V.fz, fzL, V.up, upL, fzL_map, fz_slr, fz_at, slr] | simp [resV, mulN_one, V.fz, fzL, V.up, upL, fzL_map, fz_slr, fz_at, slr])

noncomputable def F_spec_l1Same_l1 (a0 : List Int) (b0 : List Int) : Int → Option (Int ⊕ (Unit ⊕ Unit)) := fun x5 =>
   if x5 < (↑a0.length : Int) then
    ask ((0 : Int) ≤ x5 ∧ x5 < (↑a0.length : Int)) <|
    ask ((0 : Int) ≤ x5 ∧ x5 < (↑b0.length : Int)) <|
    if nth a0 x5.toNat ≠ nth b0 x5.toNat then
     some (.inr (.inl ()))
    else
     ask (InI (x5 + (1 : Int))) <|
     some (.inl (x5 + (1 : Int)))
   else
    some (.inr (.inr ()))
def S_spec_l1Same_l1 (a0 : List Int) (b0 : List Int) : Int → St := fun s => [(5, A.val (vint s)), (0, A.val ((slr false 1 vint) (a0))), (1, A.val ((slr false 1 vint) (b0)))]
def T_spec_l1Same_l1 (_a0 : List Int) (_b0 : List Int) : (Unit ⊕ Unit) → Tgt
  | (.inl _s) => (Ex.ret, [4], [(4, A.val (V.bool (false)))])
  | (.inr _s) => ((Ex.exit 0), [], [])
theorem b_spec_l1Same_l1 {a0 : List Int} {b0 : List Int} (x5 : Int) (o : Int ⊕ (Unit ⊕ Unit)) (h : F_spec_l1Same_l1 a0 b0 x5 = some o) : vc Try.prog c_spec_l1Same_l1 (outQ [5, 0, 1] (S_spec_l1Same_l1 a0 b0) (T_spec_l1Same_l1 a0 b0) o) (S_spec_l1Same_l1 a0 b0 x5) := by
  unfold F_spec_l1Same_l1 at h
  try dsimp only at h
  conv => whnf
  refine Len.map ?_
  conv => whnf
  refine Br.od h (fun p2 h => ?_) (fun p2 h => ?_)
  · conv => whnf
    refine Len.map ?_
    conv => whnf
    refine Ask.o h fun p3 h => ?_
    conv => whnf
    refine Elem.o (by first | omega | (simp only [mulN] at *; omega) | (simp [mulN] at *; omega)) ?_
    conv => whnf
    refine Len.map ?_
    conv => whnf
    refine Ask.o h fun p4 h => ?_
    conv => whnf
    refine Elem.o (by first | omega | (simp only [mulN] at *; omega) | (simp [mulN] at *; omega)) ?_
    conv => whnf
    refine Br.on h (fun p5 h => ?_) (fun p5 h => ?_)
    · conv => whnf
      cases h; exact ⟨rfl, rfl⟩
    · conv => whnf
      refine Ask.o h fun p6 h => ?_
      conv => whnf
      cases h; exact ⟨rfl, rfl⟩
  · conv => whnf
    cases h; exact ⟨rfl, rfl⟩

noncomputable def F_spec_l1Same (a0 : (List Int)) (b0 : (List Int)) : Option Bool :=
  if (↑a0.length : Int) ≠ (↑b0.length : Int) then
   some false
  else
   (loopO (F_spec_l1Same_l1 a0 b0) (0 : Int)).bind fun t => match t with
   | (.inl _) => (some false)
   | (.inr _) => (some true)
theorem t_spec_l1Same {a0 : (List Int)} {b0 : (List Int)} {v : Bool} (h : F_spec_l1Same a0 b0 = some v) : Ret Try.prog f_spec_l1Same [(slr false 1 vint) a0, (slr false 1 vint) b0] (V.bool v) := by
  refine ret_vc k_spec_l1Same (Nat.le_of_ble_eq_true rfl) ?_
  unfold F_spec_l1Same at h
  conv => whnf
  refine Len.map ?_
  conv => whnf
  refine Len.map ?_
  conv => whnf
  refine Br.on h (fun p1 h => ?_) (fun p1 h => ?_)
  · conv => whnf
    cases h; exact (by first | rfl | simp only [resV, mulN_one, V.fz, fzL, V.up, upL, fzL_map, fz_slr, fz_at, slr] | simp [resV, mulN_one, V.fz, fzL, V.up, upL, fzL_map, fz_slr, fz_at, slr])
  · conv => whnf
    refine LoopQ.o [5, 0, 1] (S_spec_l1Same_l1 a0 b0) (T_spec_l1Same_l1 a0 b0) h (fun s o h => b_spec_l1Same_l1 s o h) (by first | rfl | simp [restrict, look, mulN_one, V.fz, fzL, V.up, upL, fzL_map, fz_slr, fz_at, slr]) (by rintro (_ | _) <;> rfl) ?_
    rintro (⟨⟩ | ⟨⟩) h
    · try dsimp only at h
      conv => whnf
      cases h; exact (by first | rfl | simp only [resV, mulN_one, V.fz, fzL, V.up, upL, fzL_map, fz_slr, fz_at, slr] | simp [resV, mulN_one, V.fz, fzL, V.up, upL, fzL_map, fz_slr, fz_at, slr])
    · try dsimp only at h
      conv => whnf
      cases h; exact (by first | rfl | simp only [resV, mulN_one, V.fz, fzL, V.up, upL, fzL_map, fz_slr, fz_at, slr] | simp [resV, mulN_one, V.fz, fzL, V.up, upL, fzL_map, fz_slr, fz_at, slr])

noncomputable def F_spec_l2Value_l1 (a0 : SAlgebra) (_op0 : Int) (args0 : List Int) : (Int × Int) → Option ((Int × Int) ⊕ Int) := fun (x8, x7) =>
   if x8 < (↑args0.length : Int) then
    ask (InI (x7 * a0.Size)) <|
    ask ((0 : Int) ≤ x8 ∧ x8 < (↑args0.length : Int)) <|
    ask (InI (x7 * a0.Size + nth args0 x8.toNat)) <|
    ask (InI (x8 + (1 : Int))) <|
    some (.inl (x8 + (1 : Int), x7 * a0.Size + nth args0 x8.toNat))
   else
    some (.inr x7)
def S_spec_l2Value_l1 (a0 : SAlgebra) (op0 : Int) (args0 : List Int) : (Int × Int) → St := fun s => [(8, A.val (vint s.1)), (7, A.val (vint s.2)), (3, A.val ((rP true (rS_Algebra false)) (a0))), (1, A.val (vint (op0))), (2, A.val ((slr false 1 vint) (args0)))]
def T_spec_l2Value_l1 (a0 : SAlgebra) (op0 : Int) (_args0 : List Int) : Int → Tgt
  | s => ((Ex.exit 0), [7, 3, 1], [(7, A.val (vint s)), (3, A.val ((rP true (rS_Algebra false)) (a0))), (1, A.val (vint (op0)))])
theorem b_spec_l2Value_l1 {a0 : SAlgebra} {op0 : Int} {args0 : List Int} (s : (Int × Int)) (o : (Int × Int) ⊕ Int) (h : F_spec_l2Value_l1 a0 op0 args0 s = some o) : vc Try.prog c_spec_l2Value_l1 (outQ [8, 7, 3, 1, 2] (S_spec_l2Value_l1 a0 op0 args0) (T_spec_l2Value_l1 a0 op0 args0) o) (S_spec_l2Value_l1 a0 op0 args0 s) := by
  obtain ⟨x8, x7⟩ := s
  unfold F_spec_l2Value_l1 at h
  try dsimp only at h
  conv => whnf
  refine Len.map ?_
  conv => whnf
  refine Br.od h (fun p1 h => ?_) (fun p1 h => ?_)
  · conv => whnf
    refine Cells.lit rfl rfl ?_
    conv => whnf
    refine Ask.o h fun p2 h => ?_
    conv => whnf
    refine Len.map ?_
    conv => whnf
    refine Ask.o h fun p3 h => ?_
    conv => whnf
    refine Elem.o (by first | omega | (simp only [mulN] at *; omega) | (simp [mulN] at *; omega)) ?_
    conv => whnf
    refine Ask.o h fun p4 h => ?_
    conv => whnf
    refine Ask.o h fun p5 h => ?_
    conv => whnf
    cases h; exact ⟨rfl, rfl⟩
  · conv => whnf
    cases h; exact ⟨rfl, rfl⟩

noncomputable def F_spec_l2Value (a0 : SAlgebra) (op0 : Int) (args0 : (List Int)) : Option Int :=
  (loopO (F_spec_l2Value_l1 a0 op0 args0) ((0 : Int), (0 : Int))).bind fun q6_7 =>
  ask ((0 : Int) ≤ op0 ∧ op0 < (↑a0.Ops.length : Int)) <|
  ask ((0 : Int) ≤ q6_7 ∧ q6_7 < (↑(nth a0.Ops op0.toNat).Table.length : Int)) <|
  some (nth (nth a0.Ops op0.toNat).Table q6_7.toNat)
theorem t_spec_l2Value {a0 : SAlgebra} {op0 : Int} {args0 : (List Int)} {v : Int} (h : F_spec_l2Value a0 op0 args0 = some v) : Ret Try.prog f_spec_l2Value [(rS_Algebra false) a0, vint op0, (slr false 1 vint) args0] (vint v) := by
  refine ret_vc k_spec_l2Value (Nat.le_of_ble_eq_true rfl) ?_
  unfold F_spec_l2Value at h
  conv => whnf
  refine LoopQ.o [8, 7, 3, 1, 2] (S_spec_l2Value_l1 a0 op0 args0) (T_spec_l2Value_l1 a0 op0 args0) h (fun s o h => b_spec_l2Value_l1 s o h) (by first | rfl | simp [restrict, look, mulN_one, V.fz, fzL, V.up, upL, fzL_map, fz_slr, fz_at, slr]) (fun _ => rfl) ?_
  rintro q6_7 h
  try dsimp only at h
  conv => whnf
  refine Cells.lit rfl rfl ?_
  conv => whnf
  refine Len.map ?_
  conv => whnf
  refine Ask.o h fun p7 h => ?_
  conv => whnf
  refine Elem.o (by first | omega | (simp only [mulN] at *; omega) | (simp [mulN] at *; omega)) ?_
  conv => whnf
  refine Len.map ?_
  conv => whnf
  refine Ask.o h fun p8 h => ?_
  conv => whnf
  refine Elem.o (by first | omega | (simp only [mulN] at *; omega) | (simp [mulN] at *; omega)) ?_
  conv => whnf
  cases h; exact (by first | rfl | simp only [resV, mulN_one, V.fz, fzL, V.up, upL, fzL_map, fz_slr, fz_at, slr] | simp [resV, mulN_one, V.fz, fzL, V.up, upL, fzL_map, fz_slr, fz_at, slr])

noncomputable def F_spec_l1In (x0 : Int) (a0 : Int) (b0 : Int) : Option Bool :=
  if x0 ≥ a0 then
   some (decide (x0 ≤ b0))
  else
   some false
theorem t_spec_l1In {x0 : Int} {a0 : Int} {b0 : Int} {v : Bool} (h : F_spec_l1In x0 a0 b0 = some v) : Ret Try.prog f_spec_l1In [vint x0, vint a0, vint b0] (V.bool v) := by
  refine ret_vc k_spec_l1In (Nat.le_of_ble_eq_true rfl) ?_
  unfold F_spec_l1In at h
  conv => whnf
  refine Br.od h (fun p1 h => ?_) (fun p1 h => ?_)
  · conv => whnf
    refine Br.yes ?_
    conv => whnf
    refine Br.yes ?_
    conv => whnf
    refine Br.yes ?_
    conv => whnf
    cases h; exact (by first | rfl | simp only [resV, mulN_one, V.fz, fzL, V.up, upL, fzL_map, fz_slr, fz_at, slr] | simp [resV, mulN_one, V.fz, fzL, V.up, upL, fzL_map, fz_slr, fz_at, slr])
  · conv => whnf
    refine Br.no ?_
    conv => whnf
    refine Br.no ?_
    conv => whnf
    refine Br.no ?_
    conv => whnf
    cases h; exact (by first | rfl | simp only [resV, mulN_one, V.fz, fzL, V.up, upL, fzL_map, fz_slr, fz_at, slr] | simp [resV, mulN_one, V.fz, fzL, V.up, upL, fzL_map, fz_slr, fz_at, slr])

noncomputable def F_spec_l2Args_l1 (n0 : Int) : (Int × (List Int) × Int) → Option ((Int × (List Int) × Int) ⊕ (List Int)) := fun (x8, x7, x2) =>
   if x8 ≥ (0 : Int) then
    ask (n0 ≠ (0 : Int)) <|
    ask ((0 : Int) ≤ x8 ∧ x8 < (↑x7.length : Int)) <|
    ask (n0 ≠ (0 : Int) ∧ InI (x2.tdiv n0)) <|
    ask (InI (x8 - (1 : Int))) <|
    some (.inl (x8 - (1 : Int), x7.set x8.toNat (x2.tmod n0), x2.tdiv n0))
   else
    some (.inr x7)
def S_spec_l2Args_l1 (n0 : Int) : (Int × (List Int) × Int) → St := fun s => [(8, A.val (vint s.1)), (7, A.val ((slr true 1 vint) s.2.1)), (0, A.val (vint (n0))), (2, A.val (vint s.2.2))]
def T_spec_l2Args_l1 (_n0 : Int) : (List Int) → Tgt
  | s => ((Ex.exit 0), [7], [(7, A.val ((slr true 1 vint) s))])
theorem b_spec_l2Args_l1 {n0 : Int} (s : (Int × (List Int) × Int)) (o : (Int × (List Int) × Int) ⊕ (List Int)) (h : F_spec_l2Args_l1 n0 s = some o) : vc Try.prog c_spec_l2Args_l1 (outQ [8, 7, 0, 2] (S_spec_l2Args_l1 n0) (T_spec_l2Args_l1 n0) o) (S_spec_l2Args_l1 n0 s) := by
  obtain ⟨x8, x7, x2⟩ := s
  unfold F_spec_l2Args_l1 at h
  try dsimp only at h
  conv => whnf
  refine Br.od h (fun p3 h => ?_) (fun p3 h => ?_)
  · conv => whnf
    refine Ask.o h fun p4 h => ?_
    conv => whnf
    refine Len.map ?_
    conv => whnf
    refine Ask.o h fun p5 h => ?_
    conv => whnf
    refine SetKids.one (fun _ => ⟨rfl, rfl⟩) (x2.tmod n0) (by first | rfl | simp only [mulN_one, V.fz, fzL, V.up, upL, fzL_map, fz_slr, fz_at, slr, List.cons_append, List.nil_append] | simp [mulN_one, V.fz, fzL, V.up, upL, fzL_map, fz_slr, fz_at, slr]) (by first | omega | (simp only [mulN] at *; omega) | (simp [mulN] at *; omega)) ?_
    conv => whnf
    refine Ask.o h fun p6 h => ?_
    conv => whnf
    refine Ask.o h fun p7 h => ?_
    conv => whnf
    cases h; exact ⟨rfl, rfl⟩
  · conv => whnf
    cases h; exact ⟨rfl, rfl⟩

noncomputable def F_spec_l2Args (n0 : Int) (arity0 : Int) (at0 : Int) : Option (List Int) :=
  ask ((0 : Int) ≤ arity0 ∧ arity0 ≤ (↑LIM : Int)) <|
  ask (InI (arity0 - (1 : Int))) <|
  (loopO (F_spec_l2Args_l1 n0) (arity0 - (1 : Int), List.replicate arity0.toNat (0 : Int), at0)).bind fun q8_7 =>
  some q8_7
theorem t_spec_l2Args {n0 : Int} {arity0 : Int} {at0 : Int} {v : (List Int)} (h : F_spec_l2Args n0 arity0 at0 = some v) : Ret Try.prog f_spec_l2Args [vint n0, vint arity0, vint at0] ((slr true 1 vint) v) := by
  refine ret_vc k_spec_l2Args (Nat.le_of_ble_eq_true rfl) ?_
  unfold F_spec_l2Args at h
  conv => whnf
  refine Ask.o h fun p1 h => ?_
  conv => whnf
  refine MkQ.o vint ((0 : Int)) rfl ?_
  conv => whnf
  refine Ask.o h fun p2 h => ?_
  conv => whnf
  refine LoopQ.o [8, 7, 0, 2] (S_spec_l2Args_l1 n0) (T_spec_l2Args_l1 n0) h (fun s o h => b_spec_l2Args_l1 s o h) (by first | rfl | simp [restrict, look, mulN_one, V.fz, fzL, V.up, upL, fzL_map, fz_slr, fz_at, slr]) (fun _ => rfl) ?_
  rintro q8_7 h
  try dsimp only at h
  conv => whnf
  cases h; exact (by first | rfl | simp only [resV, mulN_one, V.fz, fzL, V.up, upL, fzL_map, fz_slr, fz_at, slr] | simp [resV, mulN_one, V.fz, fzL, V.up, upL, fzL_map, fz_slr, fz_at, slr])

noncomputable def F_impl_inSize_l1 (list0 : List Int) (n0 : Int) : Int → Option (Int ⊕ (Unit ⊕ Unit)) := fun x9 =>
   if x9 < (↑list0.length : Int) then
    ask ((0 : Int) ≤ x9 ∧ x9 < (↑list0.length : Int)) <|
    if nth list0 x9.toNat < (0 : Int) then
     some (.inr (.inl ()))
    else
     if nth list0 x9.toNat ≥ n0 then
      some (.inr (.inl ()))
     else
      ask (InI (x9 + (1 : Int))) <|
      some (.inl (x9 + (1 : Int)))
   else
    some (.inr (.inr ()))
def S_impl_inSize_l1 (list0 : List Int) (n0 : Int) : Int → St := fun s => [(9, A.val (vint s)), (8, A.val (vint ((↑list0.length : Int)))), (7, A.val ((slr false 1 vint) (list0))), (1, A.val (vint (n0)))]
def T_impl_inSize_l1 (_list0 : List Int) (_n0 : Int) : (Unit ⊕ Unit) → Tgt
  | (.inl _s) => (Ex.ret, [4], [(4, A.val (V.bool (false)))])
  | (.inr _s) => ((Ex.exit 0), [], [])
theorem b_impl_inSize_l1 {list0 : List Int} {n0 : Int} (x9 : Int) (o : Int ⊕ (Unit ⊕ Unit)) (h : F_impl_inSize_l1 list0 n0 x9 = some o) : vc Try.prog c_impl_inSize_l1 (outQ [9, 8, 7, 1] (S_impl_inSize_l1 list0 n0) (T_impl_inSize_l1 list0 n0) o) (S_impl_inSize_l1 list0 n0 x9) := by
  unfold F_impl_inSize_l1 at h
  try dsimp only at h
  conv => whnf
  refine Br.od h (fun p1 h => ?_) (fun p1 h => ?_)
  · conv => whnf
    refine Len.map ?_
    conv => whnf
    refine Ask.o h fun p2 h => ?_
    conv => whnf
    refine Elem.o (by first | omega | (simp only [mulN] at *; omega) | (simp [mulN] at *; omega)) ?_
    conv => whnf
    refine Br.od h (fun p3 h => ?_) (fun p3 h => ?_)
    · conv => whnf
      refine Br.yes ?_
      conv => whnf
      refine Br.yes ?_
      conv => whnf
      refine Br.yes ?_
      conv => whnf
      refine Br.yes ?_
      conv => whnf
      cases h; exact ⟨rfl, rfl⟩
    · conv => whnf
      refine Br.no ?_
      conv => whnf
      refine Br.no ?_
      conv => whnf
      refine Br.no ?_
      conv => whnf
      refine Br.od h (fun p4 h => ?_) (fun p4 h => ?_)
      · conv => whnf
        cases h; exact ⟨rfl, rfl⟩
      · conv => whnf
        refine Ask.o h fun p5 h => ?_
        conv => whnf
        cases h; exact ⟨rfl, rfl⟩
  · conv => whnf
    cases h; exact ⟨rfl, rfl⟩

noncomputable def F_impl_inSize (list0 : (List Int)) (n0 : Int) : Option Bool :=
  (loopO (F_impl_inSize_l1 list0 n0) (0 : Int)).bind fun t => match t with
  | (.inl _) => (some false)
  | (.inr _) => (some true)
theorem t_impl_inSize {list0 : (List Int)} {n0 : Int} {v : Bool} (h : F_impl_inSize list0 n0 = some v) : Ret Try.prog f_impl_inSize [(slr false 1 vint) list0, vint n0] (V.bool v) := by
  refine ret_vc k_impl_inSize (Nat.le_of_ble_eq_true rfl) ?_
  unfold F_impl_inSize at h
  conv => whnf
  refine Len.map ?_
  conv => whnf
  refine LoopQ.o [9, 8, 7, 1] (S_impl_inSize_l1 list0 n0) (T_impl_inSize_l1 list0 n0) h (fun s o h => b_impl_inSize_l1 s o h) (by first | rfl | simp [restrict, look, mulN_one, V.fz, fzL, V.up, upL, fzL_map, fz_slr, fz_at, slr]) (by rintro (_ | _) <;> rfl) ?_
  rintro (⟨⟩ | ⟨⟩) h
  · try dsimp only at h
    conv => whnf
    cases h; exact (by first | rfl | simp only [resV, mulN_one, V.fz, fzL, V.up, upL, fzL_map, fz_slr, fz_at, slr] | simp [resV, mulN_one, V.fz, fzL, V.up, upL, fzL_map, fz_slr, fz_at, slr])
  · try dsimp only at h
    conv => whnf
    cases h; exact (by first | rfl | simp only [resV, mulN_one, V.fz, fzL, V.up, upL, fzL_map, fz_slr, fz_at, slr] | simp [resV, mulN_one, V.fz, fzL, V.up, upL, fzL_map, fz_slr, fz_at, slr])

noncomputable def F_spec_l6Full (n0 : Int) : Option (List Int) :=
  ask ((0 : Int) ≤ n0 ∧ n0 ≤ (↑LIM : Int)) <|
  some (List.replicate n0.toNat (0 : Int))
theorem t_spec_l6Full {n0 : Int} {v : (List Int)} (h : F_spec_l6Full n0 = some v) : Ret Try.prog f_spec_l6Full [vint n0] ((slr true 1 vint) v) := by
  refine ret_vc k_spec_l6Full (Nat.le_of_ble_eq_true rfl) ?_
  unfold F_spec_l6Full at h
  conv => whnf
  refine Ask.o h fun p1 h => ?_
  conv => whnf
  refine MkQ.o vint ((0 : Int)) rfl ?_
  conv => whnf
  cases h; exact (by first | rfl | simp only [resV, mulN_one, V.fz, fzL, V.up, upL, fzL_map, fz_slr, fz_at, slr] | simp [resV, mulN_one, V.fz, fzL, V.up, upL, fzL_map, fz_slr, fz_at, slr])

noncomputable def F_spec_l6Meet_l1 (p0 : List Int) (q0 : List Int) (x6 : Int) (_x5 : List Int) : Int → Option (Int ⊕ Int) := fun x7 =>
   ask ((0 : Int) ≤ x7 ∧ x7 < (↑p0.length : Int)) <|
   ask ((0 : Int) ≤ x6 ∧ x6 < (↑p0.length : Int)) <|
   if nth p0 x7.toNat ≠ nth p0 x6.toNat then
    ask (InI (x7 + (1 : Int))) <|
    some (.inl (x7 + (1 : Int)))
   else
    ask ((0 : Int) ≤ x7 ∧ x7 < (↑q0.length : Int)) <|
    ask ((0 : Int) ≤ x6 ∧ x6 < (↑q0.length : Int)) <|
    if nth q0 x7.toNat ≠ nth q0 x6.toNat then
     ask (InI (x7 + (1 : Int))) <|
     some (.inl (x7 + (1 : Int)))
    else
     some (.inr x7)
def S_spec_l6Meet_l1 (p0 : List Int) (q0 : List Int) (x6 : Int) (x5 : List Int) : Int → St := fun s => [(7, A.val (vint s)), (6, A.val (vint (x6))), (5, A.val ((slr true 1 vint) (x5))), (0, A.val ((slr false 1 vint) (p0))), (1, A.val ((slr false 1 vint) (q0)))]
def T_spec_l6Meet_l1 (p0 : List Int) (q0 : List Int) (x6 : Int) (x5 : List Int) : Int → Tgt
  | s => ((Ex.exit 2), [7, 6, 5, 0, 1], [(7, A.val (vint s)), (6, A.val (vint (x6))), (5, A.val ((slr true 1 vint) (x5))), (0, A.val ((slr false 1 vint) (p0))), (1, A.val ((slr false 1 vint) (q0)))])
theorem b_spec_l6Meet_l1 {p0 : List Int} {q0 : List Int} {x6 : Int} {x5 : List Int} (x7 : Int) (o : Int ⊕ Int) (h : F_spec_l6Meet_l1 p0 q0 x6 x5 x7 = some o) : vc Try.prog c_spec_l6Meet_l1 (outQ [7, 6, 5, 0, 1] (S_spec_l6Meet_l1 p0 q0 x6 x5) (T_spec_l6Meet_l1 p0 q0 x6 x5) o) (S_spec_l6Meet_l1 p0 q0 x6 x5 x7) := by
  unfold F_spec_l6Meet_l1 at h
  try dsimp only at h
  conv => whnf
  refine Len.map ?_
  conv => whnf
  refine Ask.o h fun p2 h => ?_
  conv => whnf
  refine Elem.o (by first | omega | (simp only [mulN] at *; omega) | (simp [mulN] at *; omega)) ?_
  conv => whnf
  refine Len.map ?_
  conv => whnf
  refine Ask.o h fun p3 h => ?_
  conv => whnf
  refine Elem.o (by first | omega | (simp only [mulN] at *; omega) | (simp [mulN] at *; omega)) ?_
  conv => whnf
  refine Br.on h (fun p4 h => ?_) (fun p4 h => ?_)
  · conv => whnf
    refine Br.yes ?_
    conv => whnf
    refine Br.yes ?_
    conv => whnf
    refine Br.yes ?_
    conv => whnf
    refine Br.yes ?_
    conv => whnf
    refine Br.yes ?_
    conv => whnf
    refine Br.yes ?_
    conv => whnf
    refine Br.yes ?_
    conv => whnf
    refine Br.yes ?_
    conv => whnf
    refine Br.yes ?_
    conv => whnf
    refine Br.yes ?_
    conv => whnf
    refine Ask.o h fun p5 h => ?_
    conv => whnf
    cases h; exact ⟨rfl, rfl⟩
  · conv => whnf
    refine Br.no ?_
    conv => whnf
    refine Br.no ?_
    conv => whnf
    refine Len.map ?_
    conv => whnf
    refine Ask.o h fun p6 h => ?_
    conv => whnf
    refine Elem.o (by first | omega | (simp only [mulN] at *; omega) | (simp [mulN] at *; omega)) ?_
    conv => whnf
    refine Br.no ?_
    conv => whnf
    refine Br.no ?_
    conv => whnf
    refine Br.no ?_
    conv => whnf
    refine Br.no ?_
    conv => whnf
    refine Len.map ?_
    conv => whnf
    refine Ask.o h fun p7 h => ?_
    conv => whnf
    refine Elem.o (by first | omega | (simp only [mulN] at *; omega) | (simp [mulN] at *; omega)) ?_
    conv => whnf
    refine Br.no ?_
    conv => whnf
    refine Br.no ?_
    conv => whnf
    refine Br.no ?_
    conv => whnf
    refine Br.on h (fun p8 h => ?_) (fun p8 h => ?_)
    · conv => whnf
      refine Ask.o h fun p9 h => ?_
      conv => whnf
      cases h; exact ⟨rfl, rfl⟩
    · conv => whnf
      cases h; exact ⟨rfl, rfl⟩

noncomputable def F_spec_l6Meet_l2 (p0 : List Int) (q0 : List Int) : (Int × (List Int)) → Option ((Int × (List Int)) ⊕ (List Int)) := fun (x6, x5) =>
   if x6 < (↑p0.length : Int) then
    (loopO (F_spec_l6Meet_l1 p0 q0 x6 x5) (0 : Int)).bind fun q10_7 =>
    ask ((x5).length + ([q10_7]).length ≤ LIM) <|
    ask (InI (x6 + (1 : Int))) <|
    some (.inl (x6 + (1 : Int), x5 ++ [q10_7]))
   else
    some (.inr x5)
def S_spec_l6Meet_l2 (p0 : List Int) (q0 : List Int) : (Int × (List Int)) → St := fun s => [(6, A.val (vint s.1)), (5, A.val ((slr true 1 vint) s.2)), (0, A.val ((slr false 1 vint) (p0))), (1, A.val ((slr false 1 vint) (q0)))]
def T_spec_l6Meet_l2 (_p0 : List Int) (_q0 : List Int) : (List Int) → Tgt
  | s => ((Ex.exit 0), [5], [(5, A.val ((slr true 1 vint) s))])
theorem b_spec_l6Meet_l2 {p0 : List Int} {q0 : List Int} (s : (Int × (List Int))) (o : (Int × (List Int)) ⊕ (List Int)) (h : F_spec_l6Meet_l2 p0 q0 s = some o) : vc Try.prog c_spec_l6Meet_l2 (outQ [6, 5, 0, 1] (S_spec_l6Meet_l2 p0 q0) (T_spec_l6Meet_l2 p0 q0) o) (S_spec_l6Meet_l2 p0 q0 s) := by
  obtain ⟨x6, x5⟩ := s
  unfold F_spec_l6Meet_l2 at h
  try dsimp only at h
  conv => whnf
  refine Len.map ?_
  conv => whnf
  refine Br.od h (fun p1 h => ?_) (fun p1 h => ?_)
  · conv => whnf
    refine LoopQ.o [7, 6, 5, 0, 1] (S_spec_l6Meet_l1 p0 q0 x6 x5) (T_spec_l6Meet_l1 p0 q0 x6 x5) h (fun s o h => b_spec_l6Meet_l1 s o h) (by first | rfl | simp [restrict, look, mulN_one, V.fz, fzL, V.up, upL, fzL_map, fz_slr, fz_at, slr]) (fun _ => rfl) ?_
    rintro q10_7 h
    try dsimp only at h
    conv => whnf
    refine BslQ.o vint [q10_7] (by exact fun _ => ⟨rfl, rfl⟩) (by first | rfl | simp only [mulN_one, V.fz, fzL, V.up, upL, fzL_map, fz_slr, fz_at, slr, List.cons_append, List.nil_append] | simp [mulN_one, V.fz, fzL, V.up, upL, fzL_map, fz_slr, fz_at, slr]) ?_
    conv => whnf
    refine NoOwn.o (fun _ => rfl) ?_
    conv => whnf
    refine AppQ.o (m := 1) vint (by exact fun _ => ⟨rfl, rfl⟩) (x5) ([q10_7]) (by first | rfl | simp only [mulN_one, V.fz, fzL, V.up, upL, fzL_map, fz_slr, fz_at, slr, List.cons_append, List.nil_append] | simp [mulN_one, V.fz, fzL, V.up, upL, fzL_map, fz_slr, fz_at, slr]) (by first | rfl | simp only [mulN_one, V.fz, fzL, V.up, upL, fzL_map, fz_slr, fz_at, slr, List.cons_append, List.nil_append] | simp [mulN_one, V.fz, fzL, V.up, upL, fzL_map, fz_slr, fz_at, slr]) h fun h => ?_
    conv => whnf
    refine Ask.o h fun p11 h => ?_
    conv => whnf
    cases h; exact ⟨rfl, rfl⟩
  · conv => whnf
    cases h; exact ⟨rfl, rfl⟩

noncomputable def F_spec_l6Meet (p0 : (List Int)) (q0 : (List Int)) : Option (List Int) :=
  (loopO (F_spec_l6Meet_l2 p0 q0) ((0 : Int), nilL Int)).bind fun q12_5 =>
  some q12_5
theorem t_spec_l6Meet {p0 : (List Int)} {q0 : (List Int)} {v : (List Int)} (h : F_spec_l6Meet p0 q0 = some v) : Ret Try.prog f_spec_l6Meet [(slr false 1 vint) p0, (slr false 1 vint) q0] ((slr true 1 vint) v) := by
  refine ret_vc k_spec_l6Meet (Nat.le_of_ble_eq_true rfl) ?_
  unfold F_spec_l6Meet at h
  conv => whnf
  refine BslQ.o vint (nilL Int) (by exact fun _ => ⟨rfl, rfl⟩) (by first | rfl | simp only [mulN_one, V.fz, fzL, V.up, upL, fzL_map, fz_slr, fz_at, slr, List.cons_append, List.nil_append] | simp [mulN_one, V.fz, fzL, V.up, upL, fzL_map, fz_slr, fz_at, slr]) ?_
  conv => whnf
  refine LoopQ.o [6, 5, 0, 1] (S_spec_l6Meet_l2 p0 q0) (T_spec_l6Meet_l2 p0 q0) h (fun s o h => b_spec_l6Meet_l2 s o h) (by first | rfl | simp [restrict, look, mulN_one, V.fz, fzL, V.up, upL, fzL_map, fz_slr, fz_at, slr]) (fun _ => rfl) ?_
  rintro q12_5 h
  try dsimp only at h
  conv => whnf
  cases h; exact (by first | rfl | simp only [resV, mulN_one, V.fz, fzL, V.up, upL, fzL_map, fz_slr, fz_at, slr] | simp [resV, mulN_one, V.fz, fzL, V.up, upL, fzL_map, fz_slr, fz_at, slr])

noncomputable def F_spec_l2Pow_l1 (n0 : Int) : (Int × Int) → Option ((Int × Int) ⊕ Int) := fun (x5, x1) =>
   if x1 > (0 : Int) then
    ask (InI (x5 * n0)) <|
    ask (InI (x1 - (1 : Int))) <|
    some (.inl (x5 * n0, x1 - (1 : Int)))
   else
    some (.inr x5)
def S_spec_l2Pow_l1 (n0 : Int) : (Int × Int) → St := fun s => [(5, A.val (vint s.1)), (0, A.val (vint (n0))), (1, A.val (vint s.2))]
def T_spec_l2Pow_l1 (_n0 : Int) : Int → Tgt
  | s => ((Ex.exit 0), [5], [(5, A.val (vint s))])
theorem b_spec_l2Pow_l1 {n0 : Int} (s : (Int × Int)) (o : (Int × Int) ⊕ Int) (h : F_spec_l2Pow_l1 n0 s = some o) : vc Try.prog c_spec_l2Pow_l1 (outQ [5, 0, 1] (S_spec_l2Pow_l1 n0) (T_spec_l2Pow_l1 n0) o) (S_spec_l2Pow_l1 n0 s) := by
  obtain ⟨x5, x1⟩ := s
  unfold F_spec_l2Pow_l1 at h
  try dsimp only at h
  conv => whnf
  refine Br.od h (fun p1 h => ?_) (fun p1 h => ?_)
  · conv => whnf
    refine Ask.o h fun p2 h => ?_
    conv => whnf
    refine Ask.o h fun p3 h => ?_
    conv => whnf
    cases h; exact ⟨rfl, rfl⟩
  · conv => whnf
    cases h; exact ⟨rfl, rfl⟩

noncomputable def F_spec_l2Pow (n0 : Int) (k0 : Int) : Option Int :=
  (loopO (F_spec_l2Pow_l1 n0) ((1 : Int), k0)).bind fun q4_5 =>
  some q4_5
theorem t_spec_l2Pow {n0 : Int} {k0 : Int} {v : Int} (h : F_spec_l2Pow n0 k0 = some v) : Ret Try.prog f_spec_l2Pow [vint n0, vint k0] (vint v) := by
  refine ret_vc k_spec_l2Pow (Nat.le_of_ble_eq_true rfl) ?_
  unfold F_spec_l2Pow at h
  conv => whnf
  refine LoopQ.o [5, 0, 1] (S_spec_l2Pow_l1 n0) (T_spec_l2Pow_l1 n0) h (fun s o h => b_spec_l2Pow_l1 s o h) (by first | rfl | simp [restrict, look, mulN_one, V.fz, fzL, V.up, upL, fzL_map, fz_slr, fz_at, slr]) (fun _ => rfl) ?_
  rintro q4_5 h
  try dsimp only at h
  conv => whnf
  cases h; exact (by first | rfl | simp only [resV, mulN_one, V.fz, fzL, V.up, upL, fzL_map, fz_slr, fz_at, slr] | simp [resV, mulN_one, V.fz, fzL, V.up, upL, fzL_map, fz_slr, fz_at, slr])

noncomputable def F_impl_power_l1 (n0 : Int) : (Int × Int) → Option ((Int × Int) ⊕ Int) := fun (x5, x1) =>
   if x1 > (0 : Int) then
    ask (InI (x5 * n0)) <|
    ask (InI (x1 - (1 : Int))) <|
    some (.inl (x5 * n0, x1 - (1 : Int)))
   else
    some (.inr x5)
def S_impl_power_l1 (n0 : Int) : (Int × Int) → St := fun s => [(5, A.val (vint s.1)), (0, A.val (vint (n0))), (1, A.val (vint s.2))]
def T_impl_power_l1 (_n0 : Int) : Int → Tgt
  | s => ((Ex.exit 0), [5], [(5, A.val (vint s))])
theorem b_impl_power_l1 {n0 : Int} (s : (Int × Int)) (o : (Int × Int) ⊕ Int) (h : F_impl_power_l1 n0 s = some o) : vc Try.prog c_impl_power_l1 (outQ [5, 0, 1] (S_impl_power_l1 n0) (T_impl_power_l1 n0) o) (S_impl_power_l1 n0 s) := by
  obtain ⟨x5, x1⟩ := s
  unfold F_impl_power_l1 at h
  try dsimp only at h
  conv => whnf
  refine Br.od h (fun p1 h => ?_) (fun p1 h => ?_)
  · conv => whnf
    refine Ask.o h fun p2 h => ?_
    conv => whnf
    refine Ask.o h fun p3 h => ?_
    conv => whnf
    cases h; exact ⟨rfl, rfl⟩
  · conv => whnf
    cases h; exact ⟨rfl, rfl⟩

noncomputable def F_impl_power (n0 : Int) (k0 : Int) : Option Int :=
  (loopO (F_impl_power_l1 n0) ((1 : Int), k0)).bind fun q4_5 =>
  some q4_5
theorem t_impl_power {n0 : Int} {k0 : Int} {v : Int} (h : F_impl_power n0 k0 = some v) : Ret Try.prog f_impl_power [vint n0, vint k0] (vint v) := by
  refine ret_vc k_impl_power (Nat.le_of_ble_eq_true rfl) ?_
  unfold F_impl_power at h
  conv => whnf
  refine LoopQ.o [5, 0, 1] (S_impl_power_l1 n0) (T_impl_power_l1 n0) h (fun s o h => b_impl_power_l1 s o h) (by first | rfl | simp [restrict, look, mulN_one, V.fz, fzL, V.up, upL, fzL_map, fz_slr, fz_at, slr]) (fun _ => rfl) ?_
  rintro q4_5 h
  try dsimp only at h
  conv => whnf
  cases h; exact (by first | rfl | simp only [resV, mulN_one, V.fz, fzL, V.up, upL, fzL_map, fz_slr, fz_at, slr] | simp [resV, mulN_one, V.fz, fzL, V.up, upL, fzL_map, fz_slr, fz_at, slr])

end Go.Proofs.Ytdodfnbbfkcgnaa.Ax
