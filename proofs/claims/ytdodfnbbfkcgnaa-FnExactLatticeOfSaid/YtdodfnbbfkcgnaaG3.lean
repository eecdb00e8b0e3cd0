/-
  What the functions compute, as functions on plain data, and that the program does compute it; written by program.
-/
import Derived.Test.YtdodfnbbfkcgnaaCode
import Derived.Test.YtdodfnbbfkcgnaaG1
import Derived.Test.YtdodfnbbfkcgnaaG2
namespace Go.Proofs.Ytdodfnbbfkcgnaa.Ax
open Go
set_option maxRecDepth 100000
set_option maxHeartbeats 4000000

noncomputable def F_impl_order_those_l1 (o0 : List (List Bool)) (so0 : Int → Option Bool) : (Int × (List Int)) → Option ((Int × (List Int)) ⊕ (List Int)) := fun (x10, x5) =>
   if x10 < (↑o0.length : Int) then
    (so0 (x10)).bind fun r2 =>
    if (r2) = true then
     ask ((x5).length + ([x10]).length ≤ LIM) <|
     ask (InI (x10 + (1 : Int))) <|
     some (.inl (x10 + (1 : Int), x5 ++ [x10]))
    else
     ask (InI (x10 + (1 : Int))) <|
     some (.inl (x10 + (1 : Int), x5))
   else
    some (.inr x5)
def S_impl_order_those_l1 (o0 : List (List Bool)) (f_so0 : Nat) (c_so0 : List V) : (Int × (List Int)) → St := fun s => [(10, A.val (vint s.1)), (9, A.val (vint ((↑o0.length : Int)))), (5, A.val ((slr true 1 vint) s.2)), (1, A.val (V.fclo f_so0 c_so0))]
def T_impl_order_those_l1 (_o0 : List (List Bool)) (_f_so0 : Nat) (_c_so0 : List V) : (List Int) → Tgt
  | s => ((Ex.exit 0), [5], [(5, A.val ((slr true 1 vint) s))])
theorem b_impl_order_those_l1 {o0 : List (List Bool)} {so0 : Int → Option Bool} {f_so0 : Nat} {c_so0 : List V} (h_so0 : ∀ w_0 v, so0 w_0 = some v → Ret Try.prog f_so0 ([vint w_0] ++ fzL c_so0) (V.bool v)) (s : (Int × (List Int))) (o : (Int × (List Int)) ⊕ (List Int)) (h : F_impl_order_those_l1 o0 so0 s = some o) : vc Try.prog c_impl_order_those_l1 (outQ [10, 9, 5, 1] (S_impl_order_those_l1 o0 f_so0 c_so0) (T_impl_order_those_l1 o0 f_so0 c_so0) o) (S_impl_order_those_l1 o0 f_so0 c_so0 s) := by
  obtain ⟨x10, x5⟩ := s
  unfold F_impl_order_those_l1 at h
  try dsimp only at h
  conv => whnf
  refine Br.od h (fun p1 h => ?_) (fun p1 h => ?_)
  · conv => whnf
    refine CloQ.o V.bool (by first | rfl | simp only [mulN_one, V.fz, fzL, V.up, upL, fzL_map, fz_slr, fz_at, slr, List.cons_append, List.nil_append] | simp [mulN_one, V.fz, fzL, V.up, upL, fzL_map, fz_slr, fz_at, slr]) (fun _ => by first | rfl | simp [resOk, V.noFz, noFzL, noFzL_map, NoFz.eq]) h (fun r h => h_so0 _ _ h) (fun r2 h => ?_)
    conv => whnf
    refine Br.ob h (fun p3 h => ?_) (fun p3 h => ?_)
    · conv => whnf
      refine BslQ.o vint [x10] (by exact fun _ => ⟨rfl, rfl⟩) (by first | rfl | simp only [mulN_one, V.fz, fzL, V.up, upL, fzL_map, fz_slr, fz_at, slr, List.cons_append, List.nil_append] | simp [mulN_one, V.fz, fzL, V.up, upL, fzL_map, fz_slr, fz_at, slr]) ?_
      conv => whnf
      refine NoOwn.o (fun _ => rfl) ?_
      conv => whnf
      refine AppQ.o (m := 1) vint (by exact fun _ => ⟨rfl, rfl⟩) (x5) ([x10]) (by first | rfl | simp only [mulN_one, V.fz, fzL, V.up, upL, fzL_map, fz_slr, fz_at, slr, List.cons_append, List.nil_append] | simp [mulN_one, V.fz, fzL, V.up, upL, fzL_map, fz_slr, fz_at, slr]) (by first | rfl | simp only [mulN_one, V.fz, fzL, V.up, upL, fzL_map, fz_slr, fz_at, slr, List.cons_append, List.nil_append] | simp [mulN_one, V.fz, fzL, V.up, upL, fzL_map, fz_slr, fz_at, slr]) h fun h => ?_
      conv => whnf
      refine Ask.o h fun p4 h => ?_
      conv => whnf
      cases h; exact ⟨rfl, rfl⟩
    · conv => whnf
      refine Ask.o h fun p5 h => ?_
      conv => whnf
      cases h; exact ⟨rfl, rfl⟩
  · conv => whnf
    cases h; exact ⟨rfl, rfl⟩

noncomputable def F_impl_order_those (o0 : (List (List Bool))) (so0 : (Int → Option Bool)) : Option (List Int) :=
  (loopO (F_impl_order_those_l1 o0 so0) ((0 : Int), nilL Int)).bind fun q6_5 =>
  some q6_5
theorem t_impl_order_those {o0 : (List (List Bool))} {so0 : (Int → Option Bool)} {f_so0 : Nat} {c_so0 : List V} (h_so0 : ∀ w_0 v, so0 w_0 = some v → Ret Try.prog f_so0 ([vint w_0] ++ fzL c_so0) (V.bool v)) {v : (List Int)} (h : F_impl_order_those o0 so0 = some v) : Ret Try.prog f_impl_order_those [(slr false 1 (slr false 1 V.bool)) o0, V.fclo f_so0 c_so0] ((slr true 1 vint) v) := by
  refine ret_vc k_impl_order_those (Nat.le_of_ble_eq_true rfl) ?_
  unfold F_impl_order_those at h
  conv => whnf
  refine BslQ.o vint (nilL Int) (by exact fun _ => ⟨rfl, rfl⟩) (by first | rfl | simp only [mulN_one, V.fz, fzL, V.up, upL, fzL_map, fz_slr, fz_at, slr, List.cons_append, List.nil_append] | simp [mulN_one, V.fz, fzL, V.up, upL, fzL_map, fz_slr, fz_at, slr]) ?_
  conv => whnf
  refine Len.map ?_
  conv => whnf
  refine LoopQ.o [10, 9, 5, 1] (S_impl_order_those_l1 o0 f_so0 c_so0) (T_impl_order_those_l1 o0 f_so0 c_so0) h (fun s o h => b_impl_order_those_l1 h_so0 s o h) (by first | rfl | simp [restrict, look, mulN_one, V.fz, fzL, V.up, upL, fzL_map, fz_slr, fz_at, slr]) (fun _ => rfl) ?_
  rintro q6_5 h
  try dsimp only at h
  conv => whnf
  cases h; exact (by first | rfl | simp only [resV, mulN_one, V.fz, fzL, V.up, upL, fzL_map, fz_slr, fz_at, slr] | simp [resV, mulN_one, V.fz, fzL, V.up, upL, fzL_map, fz_slr, fz_at, slr])

noncomputable def F_impl_order_meetTable_1 (z0 : Int) (a1 : (List (List Bool))) (a2 : Int) (a3 : Int) : Option Bool :=
  ask ((0 : Int) ≤ z0 ∧ z0 < (↑a1.length : Int)) <|
  ask ((0 : Int) ≤ a2 ∧ a2 < (↑(nth a1 z0.toNat).length : Int)) <|
  if (nth (nth a1 z0.toNat) a2.toNat) = true then
   ask ((0 : Int) ≤ z0 ∧ z0 < (↑a1.length : Int)) <|
   ask ((0 : Int) ≤ a3 ∧ a3 < (↑(nth a1 z0.toNat).length : Int)) <|
   some (nth (nth a1 z0.toNat) a3.toNat)
  else
   some false
theorem t_impl_order_meetTable_1 {z0 : Int} {a1 : (List (List Bool))} {a2 : Int} {a3 : Int} {v : Bool} (h : F_impl_order_meetTable_1 z0 a1 a2 a3 = some v) : Ret Try.prog f_impl_order_meetTable_1 [vint z0, (rP false (slr false 1 (slr false 1 V.bool))) a1, (rP false vint) a2, (rP false vint) a3] (V.bool v) := by
  refine ret_vc k_impl_order_meetTable_1 (Nat.le_of_ble_eq_true rfl) ?_
  unfold F_impl_order_meetTable_1 at h
  conv => whnf
  refine Len.map ?_
  conv => whnf
  refine Ask.o h fun p1 h => ?_
  conv => whnf
  refine Elem.o (by first | omega | (simp only [mulN] at *; omega) | (simp [mulN] at *; omega)) ?_
  conv => whnf
  refine Len.map ?_
  conv => whnf
  refine Ask.o h fun p2 h => ?_
  conv => whnf
  refine Elem.o (by first | omega | (simp only [mulN] at *; omega) | (simp [mulN] at *; omega)) ?_
  conv => whnf
  refine Br.ob h (fun p3 h => ?_) (fun p3 h => ?_)
  · conv => whnf
    refine Br.yes ?_
    conv => whnf
    refine Br.yes ?_
    conv => whnf
    refine Len.map ?_
    conv => whnf
    refine Ask.o h fun p4 h => ?_
    conv => whnf
    refine Elem.o (by first | omega | (simp only [mulN] at *; omega) | (simp [mulN] at *; omega)) ?_
    conv => whnf
    refine Br.yes ?_
    conv => whnf
    refine Br.yes ?_
    conv => whnf
    refine Br.yes ?_
    conv => whnf
    refine Len.map ?_
    conv => whnf
    refine Ask.o h fun p5 h => ?_
    conv => whnf
    refine Elem.o (by first | omega | (simp only [mulN] at *; omega) | (simp [mulN] at *; omega)) ?_
    conv => whnf
    refine Br.yes ?_
    conv => whnf
    refine Br.yes ?_
    conv => whnf
    cases h; exact (by first | rfl | simp only [resV, mulN_one, V.fz, fzL, V.up, upL, fzL_map, fz_slr, fz_at, slr] | simp [resV, mulN_one, V.fz, fzL, V.up, upL, fzL_map, fz_slr, fz_at, slr])
  · conv => whnf
    refine Br.no ?_
    conv => whnf
    refine Br.no ?_
    conv => whnf
    refine Br.no ?_
    conv => whnf
    refine Br.no ?_
    conv => whnf
    refine Br.no ?_
    conv => whnf
    refine Br.no ?_
    conv => whnf
    refine Br.no ?_
    conv => whnf
    cases h; exact (by first | rfl | simp only [resV, mulN_one, V.fz, fzL, V.up, upL, fzL_map, fz_slr, fz_at, slr] | simp [resV, mulN_one, V.fz, fzL, V.up, upL, fzL_map, fz_slr, fz_at, slr])

noncomputable def F_laws_eqIntSS_l1 (a0 : List (List Int)) (b0 : List (List Int)) : Int → Option (Int ⊕ (Unit ⊕ Unit)) := fun x5 =>
   if x5 < (↑a0.length : Int) then
    ask ((0 : Int) ≤ x5 ∧ x5 < (↑a0.length : Int)) <|
    ask ((0 : Int) ≤ x5 ∧ x5 < (↑b0.length : Int)) <|
    (F_laws_eqIntS (nth a0 x5.toNat) (nth b0 x5.toNat)).bind fun r5 =>
    if (r5) = true then
     ask (InI (x5 + (1 : Int))) <|
     some (.inl (x5 + (1 : Int)))
    else
     some (.inr (.inl ()))
   else
    some (.inr (.inr ()))
def S_laws_eqIntSS_l1 (a0 : List (List Int)) (b0 : List (List Int)) : Int → St := fun s => [(5, A.val (vint s)), (0, A.val ((slr false 1 (slr false 1 vint)) (a0))), (1, A.val ((slr false 1 (slr false 1 vint)) (b0)))]
def T_laws_eqIntSS_l1 (_a0 : List (List Int)) (_b0 : List (List Int)) : (Unit ⊕ Unit) → Tgt
  | (.inl _s) => (Ex.ret, [4], [(4, A.val (V.bool (false)))])
  | (.inr _s) => ((Ex.exit 0), [], [])
theorem b_laws_eqIntSS_l1 {a0 : List (List Int)} {b0 : List (List Int)} (x5 : Int) (o : Int ⊕ (Unit ⊕ Unit)) (h : F_laws_eqIntSS_l1 a0 b0 x5 = some o) : vc Try.prog c_laws_eqIntSS_l1 (outQ [5, 0, 1] (S_laws_eqIntSS_l1 a0 b0) (T_laws_eqIntSS_l1 a0 b0) o) (S_laws_eqIntSS_l1 a0 b0 x5) := by
  unfold F_laws_eqIntSS_l1 at h
  try dsimp only at h
  conv => whnf
  refine Len.map ?_
  conv => whnf
  refine Br.od h (fun p2 h => ?_) (fun p2 h => ?_)
  · conv => whnf
    refine Len.map ?_
    conv => whnf
    refine Ask.o h fun p3 h => ?_
    conv => whnf
    refine Elem.o (by first | omega | (simp only [mulN] at *; omega) | (simp [mulN] at *; omega)) ?_
    conv => whnf
    refine Len.map ?_
    conv => whnf
    refine Ask.o h fun p4 h => ?_
    conv => whnf
    refine Elem.o (by first | omega | (simp only [mulN] at *; omega) | (simp [mulN] at *; omega)) ?_
    conv => whnf
    refine CallQ.o V.bool (by first | rfl | simp only [mulN_one, V.fz, fzL, V.up, upL, fzL_map, fz_slr, fz_at, slr, List.cons_append, List.nil_append] | simp [mulN_one, V.fz, fzL, V.up, upL, fzL_map, fz_slr, fz_at, slr]) h (fun r h => t_laws_eqIntS h) (fun r5 h => ?_)
    conv => whnf
    refine Br.flip ?_
    conv => whnf
    refine Br.ob h (fun p6 h => ?_) (fun p6 h => ?_)
    · conv => whnf
      refine Ask.o h fun p7 h => ?_
      conv => whnf
      cases h; exact ⟨rfl, rfl⟩
    · conv => whnf
      cases h; exact ⟨rfl, rfl⟩
  · conv => whnf
    cases h; exact ⟨rfl, rfl⟩

noncomputable def F_laws_eqIntSS (a0 : (List (List Int))) (b0 : (List (List Int))) : Option Bool :=
  if (↑a0.length : Int) ≠ (↑b0.length : Int) then
   some false
  else
   (loopO (F_laws_eqIntSS_l1 a0 b0) (0 : Int)).bind fun t => match t with
   | (.inl _) => (some false)
   | (.inr _) => (some true)
theorem t_laws_eqIntSS {a0 : (List (List Int))} {b0 : (List (List Int))} {v : Bool} (h : F_laws_eqIntSS a0 b0 = some v) : Ret Try.prog f_laws_eqIntSS [(slr false 1 (slr false 1 vint)) a0, (slr false 1 (slr false 1 vint)) b0] (V.bool v) := by
  refine ret_vc k_laws_eqIntSS (Nat.le_of_ble_eq_true rfl) ?_
  unfold F_laws_eqIntSS at h
  conv => whnf
  refine Len.map ?_
  conv => whnf
  refine Len.map ?_
  conv => whnf
  refine Br.on h (fun p1 h => ?_) (fun p1 h => ?_)
  · conv => whnf
    cases h; exact (by first | rfl | simp only [resV, mulN_one, V.fz, fzL, V.up, upL, fzL_map, fz_slr, fz_at, slr] | simp [resV, mulN_one, V.fz, fzL, V.up, upL, fzL_map, fz_slr, fz_at, slr])
  · conv => whnf
    refine LoopQ.o [5, 0, 1] (S_laws_eqIntSS_l1 a0 b0) (T_laws_eqIntSS_l1 a0 b0) h (fun s o h => b_laws_eqIntSS_l1 s o h) (by first | rfl | simp [restrict, look, mulN_one, V.fz, fzL, V.up, upL, fzL_map, fz_slr, fz_at, slr]) (by rintro (_ | _) <;> rfl) ?_
    rintro (⟨⟩ | ⟨⟩) h
    · try dsimp only at h
      conv => whnf
      cases h; exact (by first | rfl | simp only [resV, mulN_one, V.fz, fzL, V.up, upL, fzL_map, fz_slr, fz_at, slr] | simp [resV, mulN_one, V.fz, fzL, V.up, upL, fzL_map, fz_slr, fz_at, slr])
    · try dsimp only at h
      conv => whnf
      cases h; exact (by first | rfl | simp only [resV, mulN_one, V.fz, fzL, V.up, upL, fzL_map, fz_slr, fz_at, slr] | simp [resV, mulN_one, V.fz, fzL, V.up, upL, fzL_map, fz_slr, fz_at, slr])

noncomputable def F_laws_markIntSS_l1 : (Int × (List (List Int)) × Int) → Option ((Int × (List (List Int)) × Int) ⊕ ((List (List Int)) × Int)) := fun (x5, x19, x1) =>
   if x5 < (↑x19.length : Int) then
    ask ((0 : Int) ≤ x5 ∧ x5 < (↑x19.length : Int)) <|
    (F_laws_markIntS (nth x19 x5.toNat) (x1)).bind fun (r3, u4) =>
    ask (InI (x5 + (1 : Int))) <|
    some (.inl (x5 + (1 : Int), x19.set x5.toNat u4, r3))
   else
    some (.inr (x19, x1))
def S_laws_markIntSS_l1 : (Int × (List (List Int)) × Int) → St := fun s => [(5, A.val (vint s.1)), (0, A.ref ((19 : Nat) + (0 : Nat)) []), (19, A.val ((slr true 1 (slr true 1 vint)) s.2.1)), (1, A.val (vint s.2.2))]
def T_laws_markIntSS_l1 : ((List (List Int)) × Int) → Tgt
  | s => ((Ex.exit 0), [19, 1], [(19, A.val ((slr true 1 (slr true 1 vint)) s.1)), (1, A.val (vint s.2))])
theorem b_laws_markIntSS_l1 (s : (Int × (List (List Int)) × Int)) (o : (Int × (List (List Int)) × Int) ⊕ ((List (List Int)) × Int)) (h : F_laws_markIntSS_l1 s = some o) : vc Try.prog c_laws_markIntSS_l1 (outQ [5, 0, 19, 1] (S_laws_markIntSS_l1) (T_laws_markIntSS_l1) o) (S_laws_markIntSS_l1 s) := by
  obtain ⟨x5, x19, x1⟩ := s
  unfold F_laws_markIntSS_l1 at h
  try dsimp only at h
  conv => whnf
  refine Len.map ?_
  conv => whnf
  refine Br.od h (fun p1 h => ?_) (fun p1 h => ?_)
  · conv => whnf
    refine Len.map ?_
    conv => whnf
    refine Ask.o h fun p2 h => ?_
    conv => whnf
    refine Cells.one (fun _ => ⟨rfl, rfl⟩) (by first | omega | (simp only [mulN] at *; omega) | (simp [mulN] at *; omega)) ?_
    conv => whnf
    refine Kid.one (fun _ => ⟨rfl, rfl⟩) (by first | omega | (simp only [mulN] at *; omega) | (simp [mulN] at *; omega)) ?_
    conv => whnf
    refine CallQ.io vint (slr true 1 vint) (by first | rfl | simp only [mulN_one, V.fz, fzL, V.up, upL, fzL_map, fz_slr, fz_at, slr, List.cons_append, List.nil_append] | simp [mulN_one, V.fz, fzL, V.up, upL, fzL_map, fz_slr, fz_at, slr]) rfl (fun _ => rfl) (fun _ => ⟨rfl, rfl⟩) rfl h (fun r h => t_laws_markIntS h) (fun r3 u4 h => ?_)
    conv => whnf
    refine Kid.one (fun _ => ⟨rfl, rfl⟩) (by first | omega | (simp only [mulN] at *; omega) | (simp [mulN] at *; omega)) ?_
    conv => whnf
    refine SetKids.one (fun _ => ⟨rfl, rfl⟩) (u4) (by first | rfl | simp only [mulN_one, V.fz, fzL, V.up, upL, fzL_map, fz_slr, fz_at, slr, List.cons_append, List.nil_append] | simp [mulN_one, V.fz, fzL, V.up, upL, fzL_map, fz_slr, fz_at, slr]) (by first | omega | (simp only [mulN] at *; omega) | (simp [mulN] at *; omega)) ?_
    conv => whnf
    refine Ask.o h fun p5 h => ?_
    conv => whnf
    cases h; exact ⟨rfl, rfl⟩
  · conv => whnf
    cases h; exact ⟨rfl, rfl⟩

noncomputable def F_laws_markIntSS (a0 : (List (List Int))) (k0 : Int) : Option (Int × (List (List Int))) :=
  (loopO (F_laws_markIntSS_l1) ((0 : Int), a0, k0)).bind fun (q6_19, q6_1) =>
  some (q6_1, q6_19)
theorem t_laws_markIntSS {a0 : (List (List Int))} {k0 : Int} {v : (Int × (List (List Int)))} (h : F_laws_markIntSS a0 k0 = some v) : RetO Try.prog f_laws_markIntSS [(slr true 1 (slr true 1 vint)) a0, vint k0] (vint v.1) 0 ((slr true 1 (slr true 1 vint)) v.2) := by
  refine reto_vc k_laws_markIntSS (Nat.le_of_ble_eq_true rfl) ?_
  unfold F_laws_markIntSS at h
  conv => whnf
  refine LoopQ.o [5, 0, 19, 1] (S_laws_markIntSS_l1) (T_laws_markIntSS_l1) h (fun s o h => b_laws_markIntSS_l1 s o h) (by first | rfl | simp [restrict, look, mulN_one, V.fz, fzL, V.up, upL, fzL_map, fz_slr, fz_at, slr]) (fun _ => rfl) ?_
  rintro ⟨q6_19, q6_1⟩ h
  try dsimp only at h
  conv => whnf
  cases h; exact ⟨(by first | rfl | simp only [resV, mulN_one, V.fz, fzL, V.up, upL, fzL_map, fz_slr, fz_at, slr] | simp [resV, mulN_one, V.fz, fzL, V.up, upL, fzL_map, fz_slr, fz_at, slr]), (by first | rfl | simp only [resV, mulN_one, V.fz, fzL, V.up, upL, fzL_map, fz_slr, fz_at, slr] | simp [resV, mulN_one, V.fz, fzL, V.up, upL, fzL_map, fz_slr, fz_at, slr])⟩

noncomputable def F_laws_heldIntSS_l1 (a0 : List (List Int)) : (Int × Int) → Option ((Int × Int) ⊕ (Unit ⊕ Int)) := fun (x5, x1) =>
   if x5 < (↑a0.length : Int) then
    ask ((0 : Int) ≤ x5 ∧ x5 < (↑a0.length : Int)) <|
    (F_laws_heldIntS (nth a0 x5.toNat) (x1)).bind fun r3 =>
    if r3 < (0 : Int) then
     some (.inr (.inl ()))
    else
     ask (InI (x5 + (1 : Int))) <|
     some (.inl (x5 + (1 : Int), r3))
   else
    some (.inr (.inr x1))
def S_laws_heldIntSS_l1 (a0 : List (List Int)) : (Int × Int) → St := fun s => [(5, A.val (vint s.1)), (0, A.val ((slr false 1 (slr false 1 vint)) (a0))), (1, A.val (vint s.2))]
def T_laws_heldIntSS_l1 (_a0 : List (List Int)) : (Unit ⊕ Int) → Tgt
  | (.inl _s) => (Ex.ret, [4], [(4, A.val (vint ((-1 : Int))))])
  | (.inr s) => ((Ex.exit 0), [1], [(1, A.val (vint s))])
theorem b_laws_heldIntSS_l1 {a0 : List (List Int)} (s : (Int × Int)) (o : (Int × Int) ⊕ (Unit ⊕ Int)) (h : F_laws_heldIntSS_l1 a0 s = some o) : vc Try.prog c_laws_heldIntSS_l1 (outQ [5, 0, 1] (S_laws_heldIntSS_l1 a0) (T_laws_heldIntSS_l1 a0) o) (S_laws_heldIntSS_l1 a0 s) := by
  obtain ⟨x5, x1⟩ := s
  unfold F_laws_heldIntSS_l1 at h
  try dsimp only at h
  conv => whnf
  refine Len.map ?_
  conv => whnf
  refine Br.od h (fun p1 h => ?_) (fun p1 h => ?_)
  · conv => whnf
    refine Len.map ?_
    conv => whnf
    refine Ask.o h fun p2 h => ?_
    conv => whnf
    refine Elem.o (by first | omega | (simp only [mulN] at *; omega) | (simp [mulN] at *; omega)) ?_
    conv => whnf
    refine CallQ.o vint (by first | rfl | simp only [mulN_one, V.fz, fzL, V.up, upL, fzL_map, fz_slr, fz_at, slr, List.cons_append, List.nil_append] | simp [mulN_one, V.fz, fzL, V.up, upL, fzL_map, fz_slr, fz_at, slr]) h (fun r h => t_laws_heldIntS h) (fun r3 h => ?_)
    conv => whnf
    refine Br.od h (fun p4 h => ?_) (fun p4 h => ?_)
    · conv => whnf
      cases h; exact ⟨rfl, rfl⟩
    · conv => whnf
      refine Ask.o h fun p5 h => ?_
      conv => whnf
      cases h; exact ⟨rfl, rfl⟩
  · conv => whnf
    cases h; exact ⟨rfl, rfl⟩

noncomputable def F_laws_heldIntSS (a0 : (List (List Int))) (k0 : Int) : Option Int :=
  (loopO (F_laws_heldIntSS_l1 a0) ((0 : Int), k0)).bind fun t => match t with
  | (.inl _) => (some (-1 : Int))
  | (.inr q6_1) => (some q6_1)
theorem t_laws_heldIntSS {a0 : (List (List Int))} {k0 : Int} {v : Int} (h : F_laws_heldIntSS a0 k0 = some v) : Ret Try.prog f_laws_heldIntSS [(slr false 1 (slr false 1 vint)) a0, vint k0] (vint v) := by
  refine ret_vc k_laws_heldIntSS (Nat.le_of_ble_eq_true rfl) ?_
  unfold F_laws_heldIntSS at h
  conv => whnf
  refine LoopQ.o [5, 0, 1] (S_laws_heldIntSS_l1 a0) (T_laws_heldIntSS_l1 a0) h (fun s o h => b_laws_heldIntSS_l1 s o h) (by first | rfl | simp [restrict, look, mulN_one, V.fz, fzL, V.up, upL, fzL_map, fz_slr, fz_at, slr]) (by rintro (_ | _) <;> rfl) ?_
  rintro (⟨⟩ | q6_1) h
  · try dsimp only at h
    conv => whnf
    cases h; exact (by first | rfl | simp only [resV, mulN_one, V.fz, fzL, V.up, upL, fzL_map, fz_slr, fz_at, slr] | simp [resV, mulN_one, V.fz, fzL, V.up, upL, fzL_map, fz_slr, fz_at, slr])
  · try dsimp only at h
    conv => whnf
    cases h; exact (by first | rfl | simp only [resV, mulN_one, V.fz, fzL, V.up, upL, fzL_map, fz_slr, fz_at, slr] | simp [resV, mulN_one, V.fz, fzL, V.up, upL, fzL_map, fz_slr, fz_at, slr])

noncomputable def F_laws_markOpS_l1 : (Int × (List SOp) × Int) → Option ((Int × (List SOp) × Int) ⊕ ((List SOp) × Int)) := fun (x5, x27, x1) =>
   if x5 < (↑x27.length : Int) then
    ask ((0 : Int) ≤ x5 ∧ x5 < (↑x27.length : Int)) <|
    ask (InI (x1 + (1 : Int))) <|
    ask ((0 : Int) ≤ x5 ∧ x5 < (↑(x27.set x5.toNat { Arity := x1, Table := (nth x27 x5.toNat).Table }).length : Int)) <|
    (F_laws_markIntS ((nth (x27.set x5.toNat { Arity := x1, Table := (nth x27 x5.toNat).Table }) x5.toNat).Table) (x1 + (1 : Int))).bind fun (r5, u6) =>
    ask (InI (x5 + (1 : Int))) <|
    some (.inl (x5 + (1 : Int), (x27.set x5.toNat { Arity := x1, Table := (nth x27 x5.toNat).Table }).set x5.toNat { Arity := (nth (x27.set x5.toNat { Arity := x1, Table := (nth x27 x5.toNat).Table }) x5.toNat).Arity, Table := u6 }, r5))
   else
    some (.inr (x27, x1))
def S_laws_markOpS_l1 : (Int × (List SOp) × Int) → St := fun s => [(5, A.val (vint s.1)), (0, A.ref ((27 : Nat) + (0 : Nat)) []), (27, A.val ((slr true 2 (rS_Op true)) s.2.1)), (1, A.val (vint s.2.2))]
def T_laws_markOpS_l1 : ((List SOp) × Int) → Tgt
  | s => ((Ex.exit 0), [27, 1], [(27, A.val ((slr true 2 (rS_Op true)) s.1)), (1, A.val (vint s.2))])
theorem b_laws_markOpS_l1 (s : (Int × (List SOp) × Int)) (o : (Int × (List SOp) × Int) ⊕ ((List SOp) × Int)) (h : F_laws_markOpS_l1 s = some o) : vc Try.prog c_laws_markOpS_l1 (outQ [5, 0, 27, 1] (S_laws_markOpS_l1) (T_laws_markOpS_l1) o) (S_laws_markOpS_l1 s) := by
  obtain ⟨x5, x27, x1⟩ := s
  unfold F_laws_markOpS_l1 at h
  try dsimp only at h
  conv => whnf
  refine Len.map ?_
  conv => whnf
  refine Br.od h (fun p1 h => ?_) (fun p1 h => ?_)
  · conv => whnf
    refine Len.map ?_
    conv => whnf
    refine Ask.o h fun p2 h => ?_
    conv => whnf
    refine SetKids.wide (by exact fun _ => ⟨rfl, rfl⟩) ({ Arity := x1, Table := (nth x27 x5.toNat).Table }) (by first | omega | (simp only [mulN] at *; omega) | (simp [mulN] at *; omega)) (by rfl) (by decide) ?_
    conv => whnf
    refine Ask.o h fun p3 h => ?_
    conv => whnf
    refine Len.map ?_
    conv => whnf
    refine Ask.o h fun p4 h => ?_
    conv => whnf
    refine Cells.wide (by exact fun _ => ⟨rfl, rfl⟩) (by first | omega | (simp only [mulN] at *; omega) | (simp [mulN] at *; omega)) (by decide) ?_
    conv => whnf
    refine Kid.wide (by exact fun _ => ⟨rfl, rfl⟩) (by first | omega | (simp only [mulN] at *; omega) | (simp [mulN] at *; omega)) (by rfl) ?_
    conv => whnf
    refine CallQ.io vint (slr true 1 vint) (by first | rfl | simp only [mulN_one, V.fz, fzL, V.up, upL, fzL_map, fz_slr, fz_at, slr, List.cons_append, List.nil_append] | simp [mulN_one, V.fz, fzL, V.up, upL, fzL_map, fz_slr, fz_at, slr]) rfl (fun _ => rfl) (fun _ => ⟨rfl, rfl⟩) rfl h (fun r h => t_laws_markIntS h) (fun r5 u6 h => ?_)
    conv => whnf
    refine Kid.wide (by exact fun _ => ⟨rfl, rfl⟩) (by first | omega | (simp only [mulN] at *; omega) | (simp [mulN] at *; omega)) (by rfl) ?_
    conv => whnf
    refine SetKids.wide (by exact fun _ => ⟨rfl, rfl⟩) ({ Arity := (nth (x27.set x5.toNat { Arity := x1, Table := (nth x27 x5.toNat).Table }) x5.toNat).Arity, Table := u6 }) (by first | omega | (simp only [mulN] at *; omega) | (simp [mulN] at *; omega)) (by rfl) (by decide) ?_
    conv => whnf
    refine Ask.o h fun p7 h => ?_
    conv => whnf
    cases h; exact ⟨rfl, rfl⟩
  · conv => whnf
    cases h; exact ⟨rfl, rfl⟩

noncomputable def F_laws_markOpS (a0 : (List SOp)) (k0 : Int) : Option (Int × (List SOp)) :=
  (loopO (F_laws_markOpS_l1) ((0 : Int), a0, k0)).bind fun (q8_27, q8_1) =>
  some (q8_1, q8_27)
theorem t_laws_markOpS {a0 : (List SOp)} {k0 : Int} {v : (Int × (List SOp))} (h : F_laws_markOpS a0 k0 = some v) : RetO Try.prog f_laws_markOpS [(slr true 2 (rS_Op true)) a0, vint k0] (vint v.1) 0 ((slr true 2 (rS_Op true)) v.2) := by
  refine reto_vc k_laws_markOpS (Nat.le_of_ble_eq_true rfl) ?_
  unfold F_laws_markOpS at h
  conv => whnf
  refine LoopQ.o [5, 0, 27, 1] (S_laws_markOpS_l1) (T_laws_markOpS_l1) h (fun s o h => b_laws_markOpS_l1 s o h) (by first | rfl | simp [restrict, look, mulN_one, V.fz, fzL, V.up, upL, fzL_map, fz_slr, fz_at, slr]) (fun _ => rfl) ?_
  rintro ⟨q8_27, q8_1⟩ h
  try dsimp only at h
  conv => whnf
  cases h; exact ⟨(by first | rfl | simp only [resV, mulN_one, V.fz, fzL, V.up, upL, fzL_map, fz_slr, fz_at, slr] | simp [resV, mulN_one, V.fz, fzL, V.up, upL, fzL_map, fz_slr, fz_at, slr]), (by first | rfl | simp only [resV, mulN_one, V.fz, fzL, V.up, upL, fzL_map, fz_slr, fz_at, slr] | simp [resV, mulN_one, V.fz, fzL, V.up, upL, fzL_map, fz_slr, fz_at, slr])⟩

noncomputable def F_impl_orderOf_l1 (p0 : SPoset) (x20 : Int) : (Int × (List (List Bool))) → Option ((Int × (List (List Bool))) ⊕ (List (List Bool))) := fun (x36, x5') =>
   if x36 < (↑(nth p0.Below x20.toNat).length : Int) then
    ask ((0 : Int) ≤ x36 ∧ x36 < (↑(nth p0.Below x20.toNat).length : Int)) <|
    ask ((0 : Int) ≤ nth (nth p0.Below x20.toNat) x36.toNat ∧ nth (nth p0.Below x20.toNat) x36.toNat < (↑x5'.length : Int)) <|
    ask ((0 : Int) ≤ x20 ∧ x20 < (↑(nth x5' (nth (nth p0.Below x20.toNat) x36.toNat).toNat).length : Int)) <|
    ask (InI (x36 + (1 : Int))) <|
    some (.inl (x36 + (1 : Int), x5'.set (nth (nth p0.Below x20.toNat) x36.toNat).toNat ((nth x5' (nth (nth p0.Below x20.toNat) x36.toNat).toNat).set x20.toNat true)))
   else
    some (.inr x5')
def S_impl_orderOf_l1 (p0 : SPoset) (x20 : Int) : (Int × (List (List Bool))) → St := fun s => [(36, A.val (vint s.1)), (35, A.val (vint ((↑(nth p0.Below x20.toNat).length : Int)))), (34, A.val ((slr false 1 vint) (nth p0.Below x20.toNat))), (6, A.val (vint (x20))), (20, A.val (vint (x20))), (19, A.val (vint ((↑p0.Below.length : Int)))), (18, A.val ((slr false 1 (slr false 1 vint)) (p0.Below))), (5, A.val ((slr true 1 (slr true 1 V.bool)) s.2)), (4, A.val (vint ((↑p0.Below.length : Int))))]
def T_impl_orderOf_l1 (p0 : SPoset) (x20 : Int) : (List (List Bool)) → Tgt
  | s => ((Ex.exit 2), [20, 19, 18, 5, 4], [(20, A.val (vint (x20))), (19, A.val (vint ((↑p0.Below.length : Int)))), (18, A.val ((slr false 1 (slr false 1 vint)) (p0.Below))), (5, A.val ((slr true 1 (slr true 1 V.bool)) s)), (4, A.val (vint ((↑p0.Below.length : Int))))])
theorem b_impl_orderOf_l1 {p0 : SPoset} {x20 : Int} (s : (Int × (List (List Bool)))) (o : (Int × (List (List Bool))) ⊕ (List (List Bool))) (h : F_impl_orderOf_l1 p0 x20 s = some o) : vc Try.prog c_impl_orderOf_l1 (outQ [36, 35, 34, 6, 20, 19, 18, 5, 4] (S_impl_orderOf_l1 p0 x20) (T_impl_orderOf_l1 p0 x20) o) (S_impl_orderOf_l1 p0 x20 s) := by
  obtain ⟨x36, x5'⟩ := s
  unfold F_impl_orderOf_l1 at h
  try dsimp only at h
  conv => whnf
  refine Br.od h (fun p10 h => ?_) (fun p10 h => ?_)
  · conv => whnf
    refine Len.map ?_
    conv => whnf
    refine Ask.o h fun p11 h => ?_
    conv => whnf
    refine Elem.o (by first | omega | (simp only [mulN] at *; omega) | (simp [mulN] at *; omega)) ?_
    conv => whnf
    refine Len.map ?_
    conv => whnf
    refine Ask.o h fun p12 h => ?_
    conv => whnf
    refine Cells.one (fun _ => ⟨rfl, rfl⟩) (by first | omega | (simp only [mulN] at *; omega) | (simp [mulN] at *; omega)) ?_
    conv => whnf
    refine Kid.one (fun _ => ⟨rfl, rfl⟩) (by first | omega | (simp only [mulN] at *; omega) | (simp [mulN] at *; omega)) ?_
    conv => whnf
    refine Len.map ?_
    conv => whnf
    refine Ask.o h fun p13 h => ?_
    conv => whnf
    refine Kid.one (fun _ => ⟨rfl, rfl⟩) (by first | omega | (simp only [mulN] at *; omega) | (simp [mulN] at *; omega)) ?_
    conv => whnf
    refine SetKids.one (fun _ => ⟨rfl, rfl⟩) (true) (by first | rfl | simp only [mulN_one, V.fz, fzL, V.up, upL, fzL_map, fz_slr, fz_at, slr, List.cons_append, List.nil_append] | simp [mulN_one, V.fz, fzL, V.up, upL, fzL_map, fz_slr, fz_at, slr]) (by first | omega | (simp only [mulN] at *; omega) | (simp [mulN] at *; omega)) ?_
    conv => whnf
    refine Kid.one (fun _ => ⟨rfl, rfl⟩) (by first | omega | (simp only [mulN] at *; omega) | (simp [mulN] at *; omega)) ?_
    conv => whnf
    refine SetKids.one (fun _ => ⟨rfl, rfl⟩) ((nth x5' (nth (nth p0.Below x20.toNat) x36.toNat).toNat).set x20.toNat true) (by first | rfl | simp only [mulN_one, V.fz, fzL, V.up, upL, fzL_map, fz_slr, fz_at, slr, List.cons_append, List.nil_append] | simp [mulN_one, V.fz, fzL, V.up, upL, fzL_map, fz_slr, fz_at, slr]) (by first | omega | (simp only [mulN] at *; omega) | (simp [mulN] at *; omega)) ?_
    conv => whnf
    refine Ask.o h fun p14 h => ?_
    conv => whnf
    cases h; exact ⟨rfl, rfl⟩
  · conv => whnf
    cases h; exact ⟨rfl, rfl⟩

noncomputable def F_impl_orderOf_l2 (p0 : SPoset) : (Int × (List (List Bool))) → Option ((Int × (List (List Bool))) ⊕ (Unit ⊕ (List (List Bool)))) := fun (x20, x5) =>
   if x20 < (↑p0.Below.length : Int) then
    ask ((0 : Int) ≤ x20 ∧ x20 < (↑p0.Below.length : Int)) <|
    (((F_impl_rises (nth p0.Below x20.toNat)).bind fun r5 =>
       if (r5) = true then
        (F_impl_inSize (nth p0.Below x20.toNat) ((↑p0.Below.length : Int))).bind fun r7 =>
        if (r7) = true then
         some (.inl ())
        else
         some (.inr ())
       else
        some (.inr ()) : Option (Unit ⊕ Unit))).bind fun t => match t with
    | (.inl _) => ((loopO (F_impl_orderOf_l1 p0 x20) ((0 : Int), x5)).bind fun q15_5 =>
      ask (InI (x20 + (1 : Int))) <|
      some (.inl (x20 + (1 : Int), q15_5)))
    | (.inr _) => (some (.inr (.inl ())))
   else
    some (.inr (.inr x5))
def S_impl_orderOf_l2 (p0 : SPoset) : (Int × (List (List Bool))) → St := fun s => [(20, A.val (vint s.1)), (19, A.val (vint ((↑p0.Below.length : Int)))), (18, A.val ((slr false 1 (slr false 1 vint)) (p0.Below))), (5, A.val ((slr true 1 (slr true 1 V.bool)) s.2)), (4, A.val (vint ((↑p0.Below.length : Int))))]
def T_impl_orderOf_l2 (_p0 : SPoset) : (Unit ⊕ (List (List Bool))) → Tgt
  | (.inl _s) => (Ex.ret, [3, 2], [(3, A.val (V.bool (false))), (2, A.val ((slr true 1 (slr true 1 V.bool)) (nilL (List Bool))))])
  | (.inr s) => ((Ex.exit 0), [5], [(5, A.val ((slr true 1 (slr true 1 V.bool)) s))])
theorem b_impl_orderOf_l2 {p0 : SPoset} (s : (Int × (List (List Bool)))) (o : (Int × (List (List Bool))) ⊕ (Unit ⊕ (List (List Bool)))) (h : F_impl_orderOf_l2 p0 s = some o) : vc Try.prog c_impl_orderOf_l2 (outQ [20, 19, 18, 5, 4] (S_impl_orderOf_l2 p0) (T_impl_orderOf_l2 p0) o) (S_impl_orderOf_l2 p0 s) := by
  obtain ⟨x20, x5⟩ := s
  unfold F_impl_orderOf_l2 at h
  try dsimp only at h
  conv => whnf
  refine Br.od h (fun p3 h => ?_) (fun p3 h => ?_)
  · conv => whnf
    refine Len.map ?_
    conv => whnf
    refine Ask.o h fun p4 h => ?_
    conv => whnf
    refine Elem.o (by first | omega | (simp only [mulN] at *; omega) | (simp [mulN] at *; omega)) ?_
    conv => whnf
    refine CutQ.o (fun t : (Unit ⊕ Unit) => match t with | (.inl s) => (Ex.normal, [7, 6, 20, 19, 18, 5, 4], [(7, A.val ((slr false 1 vint) (nth p0.Below x20.toNat))), (6, A.val (vint (x20))), (20, A.val (vint (x20))), (19, A.val (vint ((↑p0.Below.length : Int)))), (18, A.val ((slr false 1 (slr false 1 vint)) (p0.Below))), (5, A.val ((slr true 1 (slr true 1 V.bool)) (x5))), (4, A.val (vint ((↑p0.Below.length : Int))))]) | (.inr s) => (Ex.ret, [3, 2], [(3, A.val (V.bool (false))), (2, A.val ((slr true 1 (slr true 1 V.bool)) (nilL (List Bool))))])) h ?_ ?_
    · intro t h
      conv => whnf
      refine CallQ.o V.bool (by first | rfl | simp only [mulN_one, V.fz, fzL, V.up, upL, fzL_map, fz_slr, fz_at, slr, List.cons_append, List.nil_append] | simp [mulN_one, V.fz, fzL, V.up, upL, fzL_map, fz_slr, fz_at, slr]) h (fun r h => t_impl_rises h) (fun r5 h => ?_)
      conv => whnf
      refine Br.flip ?_
      conv => whnf
      refine Br.ob h (fun p6 h => ?_) (fun p6 h => ?_)
      · conv => whnf
        refine Br.no ?_
        conv => whnf
        refine Br.no ?_
        conv => whnf
        refine CallQ.o V.bool (by first | rfl | simp only [mulN_one, V.fz, fzL, V.up, upL, fzL_map, fz_slr, fz_at, slr, List.cons_append, List.nil_append] | simp [mulN_one, V.fz, fzL, V.up, upL, fzL_map, fz_slr, fz_at, slr]) h (fun r h => t_impl_inSize h) (fun r7 h => ?_)
        conv => whnf
        refine Br.no ?_
        conv => whnf
        refine Br.no ?_
        conv => whnf
        refine Br.flip ?_
        conv => whnf
        refine Br.ob h (fun p8 h => ?_) (fun p8 h => ?_)
        · conv => whnf
          cases h; exact ⟨rfl, rfl⟩
        · conv => whnf
          cases h; exact ⟨rfl, rfl⟩
      · conv => whnf
        refine Br.yes ?_
        conv => whnf
        refine Br.yes ?_
        conv => whnf
        refine Br.yes ?_
        conv => whnf
        refine Br.yes ?_
        conv => whnf
        refine Br.yes ?_
        conv => whnf
        cases h; exact ⟨rfl, rfl⟩
    · rintro (⟨⟩ | ⟨⟩) h
      · try dsimp only at h
        conv => whnf
        refine Len.map ?_
        conv => whnf
        refine LoopQ.o [36, 35, 34, 6, 20, 19, 18, 5, 4] (S_impl_orderOf_l1 p0 x20) (T_impl_orderOf_l1 p0 x20) h (fun s o h => b_impl_orderOf_l1 s o h) (by first | rfl | simp [restrict, look, mulN_one, V.fz, fzL, V.up, upL, fzL_map, fz_slr, fz_at, slr]) (fun _ => rfl) ?_
        rintro q15_5 h
        try dsimp only at h
        conv => whnf
        refine Ask.o h fun p16 h => ?_
        conv => whnf
        cases h; exact ⟨rfl, rfl⟩
      · try dsimp only at h
        conv => whnf
        cases h; exact ⟨rfl, rfl⟩
  · conv => whnf
    cases h; exact ⟨rfl, rfl⟩

noncomputable def F_impl_orderOf (p0 : SPoset) : Option ((List (List Bool)) × Bool) :=
  if (↑p0.Below.length : Int) > (10 : Int) then
   some (nilL (List Bool), false)
  else
   (F_impl_newOrder ((↑p0.Below.length : Int))).bind fun r2 =>
   (loopO (F_impl_orderOf_l2 p0) ((0 : Int), r2)).bind fun t => match t with
   | (.inl _) => (some (nilL (List Bool), false))
   | (.inr q17_5) => ((F_impl_order_isOrder (q17_5)).bind fun r18 =>
     some (q17_5, r18))
theorem t_impl_orderOf {p0 : SPoset} {v : ((List (List Bool)) × Bool)} (h : F_impl_orderOf p0 = some v) : Ret Try.prog f_impl_orderOf [(rS_Poset false) p0] ((fun r => V.tup [(slr true 1 (slr true 1 V.bool)) r.1, V.bool r.2]) v) := by
  refine ret_vc k_impl_orderOf (Nat.le_of_ble_eq_true rfl) ?_
  unfold F_impl_orderOf at h
  conv => whnf
  refine Cells.lit rfl rfl ?_
  conv => whnf
  refine Len.map ?_
  conv => whnf
  refine Br.od h (fun p1 h => ?_) (fun p1 h => ?_)
  · conv => whnf
    cases h; exact (by first | rfl | simp only [resV, mulN_one, V.fz, fzL, V.up, upL, fzL_map, fz_slr, fz_at, slr] | simp [resV, mulN_one, V.fz, fzL, V.up, upL, fzL_map, fz_slr, fz_at, slr])
  · conv => whnf
    refine CallQ.o (slr true 1 (slr true 1 V.bool)) (by first | rfl | simp only [mulN_one, V.fz, fzL, V.up, upL, fzL_map, fz_slr, fz_at, slr, List.cons_append, List.nil_append] | simp [mulN_one, V.fz, fzL, V.up, upL, fzL_map, fz_slr, fz_at, slr]) h (fun r h => t_impl_newOrder h) (fun r2 h => ?_)
    conv => whnf
    refine Cells.lit rfl rfl ?_
    conv => whnf
    refine Len.map ?_
    conv => whnf
    refine LoopQ.o [20, 19, 18, 5, 4] (S_impl_orderOf_l2 p0) (T_impl_orderOf_l2 p0) h (fun s o h => b_impl_orderOf_l2 s o h) (by first | rfl | simp [restrict, look, mulN_one, V.fz, fzL, V.up, upL, fzL_map, fz_slr, fz_at, slr]) (by rintro (_ | _) <;> rfl) ?_
    rintro (⟨⟩ | q17_5) h
    · try dsimp only at h
      conv => whnf
      cases h; exact (by first | rfl | simp only [resV, mulN_one, V.fz, fzL, V.up, upL, fzL_map, fz_slr, fz_at, slr] | simp [resV, mulN_one, V.fz, fzL, V.up, upL, fzL_map, fz_slr, fz_at, slr])
    · try dsimp only at h
      conv => whnf
      refine CallQ.rd V.bool (by first | rfl | simp only [V.fz, fzL_map, slr] | simp [mulN_one, V.fz, fzL, V.up, upL, fzL_map, fz_slr, fz_at, slr]) (fun _ => rfl) h (fun r h => t_impl_order_isOrder h) (fun r18 h => ?_)
      conv => whnf
      cases h; exact (by first | rfl | simp only [resV, mulN_one, V.fz, fzL, V.up, upL, fzL_map, fz_slr, fz_at, slr] | simp [resV, mulN_one, V.fz, fzL, V.up, upL, fzL_map, fz_slr, fz_at, slr])

noncomputable def F_impl_lattice_algebra (l0 : Slattice) : Option SAlgebra :=
  (F_impl_flatOp (l0.meets)).bind fun r1 =>
  (F_impl_flatOp (l0.joins)).bind fun r2 =>
  some ({ Size := (↑l0.order.length : Int), Ops := [r1, r2] })
theorem t_impl_lattice_algebra {l0 : Slattice} {v : SAlgebra} (h : F_impl_lattice_algebra l0 = some v) : Ret Try.prog f_impl_lattice_algebra [(rP false (rS_lattice false)) l0] ((rS_Algebra true) v) := by
  refine ret_vc k_impl_lattice_algebra (Nat.le_of_ble_eq_true rfl) ?_
  unfold F_impl_lattice_algebra at h
  conv => whnf
  refine Len.map ?_
  conv => whnf
  refine CallP.o (rS_Op true) (by first | rfl | simp only [mulN_one, V.fz, fzL, V.up, upL, fzL_map, fz_slr, fz_at, slr, List.cons_append, List.nil_append] | simp [mulN_one, V.fz, fzL, V.up, upL, fzL_map, fz_slr, fz_at, slr]) h (fun r h => t_impl_flatOp h) (fun r1 h => ?_)
  conv => whnf
  refine CallP.o (rS_Op true) (by first | rfl | simp only [mulN_one, V.fz, fzL, V.up, upL, fzL_map, fz_slr, fz_at, slr, List.cons_append, List.nil_append] | simp [mulN_one, V.fz, fzL, V.up, upL, fzL_map, fz_slr, fz_at, slr]) h (fun r h => t_impl_flatOp h) (fun r2 h => ?_)
  conv => whnf
  refine BslQ.o (rS_Op true) ([r1, r2]) (by exact fun _ => ⟨rfl, rfl⟩) (by first | rfl | simp only [mulN_one, V.fz, fzL, V.up, upL, fzL_map, fz_slr, fz_at, slr, List.cons_append, List.nil_append] | simp [mulN_one, V.fz, fzL, V.up, upL, fzL_map, fz_slr, fz_at, slr]) ?_
  conv => whnf
  refine SetKids.lit rfl ?_
  conv => whnf
  cases h; exact (by first | rfl | simp only [resV, mulN_one, V.fz, fzL, V.up, upL, fzL_map, fz_slr, fz_at, slr] | simp [resV, mulN_one, V.fz, fzL, V.up, upL, fzL_map, fz_slr, fz_at, slr])

noncomputable def F_spec_l23Leq (p0 : SPoset) (x0 : Int) (y0 : Int) : Option Bool :=
  ask ((0 : Int) ≤ y0 ∧ y0 < (↑p0.Below.length : Int)) <|
  (F_spec_l1Has (nth p0.Below y0.toNat) (x0)).bind fun r2 =>
  some r2
theorem t_spec_l23Leq {p0 : SPoset} {x0 : Int} {y0 : Int} {v : Bool} (h : F_spec_l23Leq p0 x0 y0 = some v) : Ret Try.prog f_spec_l23Leq [(rS_Poset false) p0, vint x0, vint y0] (V.bool v) := by
  refine ret_vc k_spec_l23Leq (Nat.le_of_ble_eq_true rfl) ?_
  unfold F_spec_l23Leq at h
  conv => whnf
  refine Cells.lit rfl rfl ?_
  conv => whnf
  refine Len.map ?_
  conv => whnf
  refine Ask.o h fun p1 h => ?_
  conv => whnf
  refine Elem.o (by first | omega | (simp only [mulN] at *; omega) | (simp [mulN] at *; omega)) ?_
  conv => whnf
  refine CallQ.o V.bool (by first | rfl | simp only [mulN_one, V.fz, fzL, V.up, upL, fzL_map, fz_slr, fz_at, slr, List.cons_append, List.nil_append] | simp [mulN_one, V.fz, fzL, V.up, upL, fzL_map, fz_slr, fz_at, slr]) h (fun r h => t_spec_l1Has h) (fun r2 h => ?_)
  conv => whnf
  cases h; exact (by first | rfl | simp only [resV, mulN_one, V.fz, fzL, V.up, upL, fzL_map, fz_slr, fz_at, slr] | simp [resV, mulN_one, V.fz, fzL, V.up, upL, fzL_map, fz_slr, fz_at, slr])

end Go.Proofs.Ytdodfnbbfkcgnaa.Ax
