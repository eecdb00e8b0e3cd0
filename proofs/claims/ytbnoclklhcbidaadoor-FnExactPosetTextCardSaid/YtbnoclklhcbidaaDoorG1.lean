/-
  What the functions compute, as functions on plain data, and that the program does compute it; written by program.
-/
import Derived.Test.YtbnoclklhcbidaaDoorCode
namespace Go.Proofs.YtbnoclklhcbidaaDoor.Ax
open Go
set_option maxRecDepth 100000
set_option maxHeartbeats 4000000

noncomputable def F_laws_szIntS (a0 : (List Int)) (left0 : Int) : Option Int :=
  ask (InI (left0 - (↑a0.length : Int))) <|
  if left0 - (↑a0.length : Int) < (0 : Int) then
   some (-1 : Int)
  else
   some (left0 - (↑a0.length : Int))
theorem t_laws_szIntS {a0 : (List Int)} {left0 : Int} {v : Int} (h : F_laws_szIntS a0 left0 = some v) : Ret Tryd.prog f_laws_szIntS [(slr false 1 vint) a0, vint left0] (vint v) := by
  refine ret_vc k_laws_szIntS (Nat.le_of_ble_eq_true rfl) ?_
  unfold F_laws_szIntS at h
  conv => whnf
  refine Len.map ?_
  conv => whnf
  refine Ask.o h fun p1 h => ?_
  conv => whnf
  refine Br.od h (fun p2 h => ?_) (fun p2 h => ?_)
  · conv => whnf
    cases h; exact (by first | rfl | simp only [resV, mulN_one, V.fz, fzL, V.up, upL, fzL_map, fz_slr, fz_at, slr] | simp [resV, mulN_one, V.fz, fzL, V.up, upL, fzL_map, fz_slr, fz_at, slr])
  · conv => whnf
    cases h; exact (by first | rfl | simp only [resV, mulN_one, V.fz, fzL, V.up, upL, fzL_map, fz_slr, fz_at, slr] | simp [resV, mulN_one, V.fz, fzL, V.up, upL, fzL_map, fz_slr, fz_at, slr])

noncomputable def F_spec_l1Has_l1 (l0 : List Int) (n0 : Int) : Int → Option (Int ⊕ (Unit ⊕ Unit)) := fun x5 =>
   if x5 < (↑l0.length : Int) then
    ask ((0 : Int) ≤ x5 ∧ x5 < (↑l0.length : Int)) <|
    if nth l0 x5.toNat = n0 then
     some (.inr (.inl ()))
    else
     ask (InI (x5 + (1 : Int))) <|
     some (.inl (x5 + (1 : Int)))
   else
    some (.inr (.inr ()))
def S_spec_l1Has_l1 (l0 : List Int) (n0 : Int) : Int → St := fun s => [(5, A.val (vint s)), (0, A.val ((slr false 1 vint) (l0))), (1, A.val (vint (n0)))]
def T_spec_l1Has_l1 (_l0 : List Int) (_n0 : Int) : (Unit ⊕ Unit) → Tgt
  | (.inl _s) => (Ex.ret, [4], [(4, A.val (V.bool (true)))])
  | (.inr _s) => ((Ex.exit 0), [], [])
theorem b_spec_l1Has_l1 {l0 : List Int} {n0 : Int} (x5 : Int) (o : Int ⊕ (Unit ⊕ Unit)) (h : F_spec_l1Has_l1 l0 n0 x5 = some o) : vc Tryd.prog c_spec_l1Has_l1 (outQ [5, 0, 1] (S_spec_l1Has_l1 l0 n0) (T_spec_l1Has_l1 l0 n0) o) (S_spec_l1Has_l1 l0 n0 x5) := by
  unfold F_spec_l1Has_l1 at h
  try dsimp only at h
  conv => whnf
  refine Len.map ?_
  conv => whnf
  refine Br.od h (fun p1 h => ?_) (fun p1 h => ?_)
  · conv => whnf
    refine Len.map ?_
    conv => whnf
    refine Ask.o h fun p2 h => ?_
    conv => whnf
    refine Elem.o (by first | omega | (simp only [mulN] at *; omega) | (simp [mulN] at *; omega)) ?_
    conv => whnf
    refine Br.oe h (fun p3 h => ?_) (fun p3 h => ?_)
    · conv => whnf
      cases h; exact ⟨rfl, rfl⟩
    · conv => whnf
      refine Ask.o h fun p4 h => ?_
      conv => whnf
      cases h; exact ⟨rfl, rfl⟩
  · conv => whnf
    cases h; exact ⟨rfl, rfl⟩

noncomputable def F_spec_l1Has (l0 : (List Int)) (n0 : Int) : Option Bool :=
  (loopO (F_spec_l1Has_l1 l0 n0) (0 : Int)).bind fun t => match t with
  | (.inl _) => (some true)
  | (.inr _) => (some false)
theorem t_spec_l1Has {l0 : (List Int)} {n0 : Int} {v : Bool} (h : F_spec_l1Has l0 n0 = some v) : Ret Tryd.prog f_spec_l1Has [(slr false 1 vint) l0, vint n0] (V.bool v) := by
  refine ret_vc k_spec_l1Has (Nat.le_of_ble_eq_true rfl) ?_
  unfold F_spec_l1Has at h
  conv => whnf
  refine LoopQ.o [5, 0, 1] (S_spec_l1Has_l1 l0 n0) (T_spec_l1Has_l1 l0 n0) h (fun s o h => b_spec_l1Has_l1 s o h) (by first | rfl | simp [restrict, look, mulN_one, V.fz, fzL, V.up, upL, fzL_map, fz_slr, fz_at, slr]) (by rintro (_ | _) <;> rfl) ?_
  rintro (⟨⟩ | ⟨⟩) h
  · try dsimp only at h
    conv => whnf
    cases h; exact (by first | rfl | simp only [resV, mulN_one, V.fz, fzL, V.up, upL, fzL_map, fz_slr, fz_at, slr] | simp [resV, mulN_one, V.fz, fzL, V.up, upL, fzL_map, fz_slr, fz_at, slr])
  · try dsimp only at h
    conv => whnf
    cases h; exact (by first | rfl | simp only [resV, mulN_one, V.fz, fzL, V.up, upL, fzL_map, fz_slr, fz_at, slr] | simp [resV, mulN_one, V.fz, fzL, V.up, upL, fzL_map, fz_slr, fz_at, slr])

noncomputable def F_spec_l1Num_s (self : Int → Option ByteArray) (n0 : Int) : Option ByteArray :=
  if n0 < (0 : Int) then
   (self (IntKind.i64.wrap ((0 : Int) - n0))).bind fun r2 =>
   ask ((ByteArray.mk #[45]).size + r2.size ≤ (9223372036854775807 : Nat)) <|
   some ((ByteArray.mk #[45]) ++ r2)
  else
   if n0 < (10 : Int) then
    ask (InI (n0 + (1 : Int))) <|
    ask ((0 : Int) ≤ n0 ∧ n0 ≤ n0 + (1 : Int) ∧ n0 + (1 : Int) ≤ (↑(ByteArray.mk #[48, 49, 50, 51, 52, 53, 54, 55, 56, 57]).size : Int)) <|
    some ((ByteArray.mk #[48, 49, 50, 51, 52, 53, 54, 55, 56, 57]).extract n0.toNat (n0 + (1 : Int)).toNat)
   else
    ask ((10 : Int) ≠ (0 : Int) ∧ InI (n0.tdiv (10 : Int))) <|
    (self (n0.tdiv (10 : Int))).bind fun r8 =>
    ask (InI (n0.tmod (10 : Int) + (1 : Int))) <|
    ask ((0 : Int) ≤ n0.tmod (10 : Int) ∧ n0.tmod (10 : Int) ≤ n0.tmod (10 : Int) + (1 : Int) ∧ n0.tmod (10 : Int) + (1 : Int) ≤ (↑(ByteArray.mk #[48, 49, 50, 51, 52, 53, 54, 55, 56, 57]).size : Int)) <|
    ask (r8.size + ((ByteArray.mk #[48, 49, 50, 51, 52, 53, 54, 55, 56, 57]).extract (n0.tmod (10 : Int)).toNat (n0.tmod (10 : Int) + (1 : Int)).toNat).size ≤ (9223372036854775807 : Nat)) <|
    some (r8 ++ (ByteArray.mk #[48, 49, 50, 51, 52, 53, 54, 55, 56, 57]).extract (n0.tmod (10 : Int)).toNat (n0.tmod (10 : Int) + (1 : Int)).toNat)
noncomputable def F_spec_l1Num : Nat → Int → Option ByteArray
  | 0 => fun _ => none
  | n + 1 => F_spec_l1Num_s (F_spec_l1Num n)
theorem t_spec_l1Num_s {self : Int → Option ByteArray} (hself : ∀ {w_0 v}, self w_0 = some v → Ret Tryd.prog f_spec_l1Num [vint w_0] (V.str v)) {n0 : Int} {v : ByteArray} (h : F_spec_l1Num_s self n0 = some v) : Ret Tryd.prog f_spec_l1Num [vint n0] (V.str v) := by
  refine ret_vc k_spec_l1Num (Nat.le_of_ble_eq_true rfl) ?_
  unfold F_spec_l1Num_s at h
  conv => whnf
  refine Br.od h (fun p1 h => ?_) (fun p1 h => ?_)
  · conv => whnf
    refine CallQ.o V.str (by first | rfl | simp only [mulN_one, V.fz, fzL, V.up, upL, fzL_map, fz_slr, fz_at, slr, List.cons_append, List.nil_append] | simp [mulN_one, V.fz, fzL, V.up, upL, fzL_map, fz_slr, fz_at, slr]) h (fun r h => hself h) (fun r2 h => ?_)
    conv => whnf
    refine Ask.o h fun p3 h => ?_
    conv => whnf
    cases h; exact (by first | rfl | simp only [resV, mulN_one, V.fz, fzL, V.up, upL, fzL_map, fz_slr, fz_at, slr] | simp [resV, mulN_one, V.fz, fzL, V.up, upL, fzL_map, fz_slr, fz_at, slr])
  · conv => whnf
    refine Br.od h (fun p4 h => ?_) (fun p4 h => ?_)
    · conv => whnf
      refine Ask.o h fun p5 h => ?_
      conv => whnf
      refine Ask.o h fun p6 h => ?_
      conv => whnf
      cases h; exact (by first | rfl | simp only [resV, mulN_one, V.fz, fzL, V.up, upL, fzL_map, fz_slr, fz_at, slr] | simp [resV, mulN_one, V.fz, fzL, V.up, upL, fzL_map, fz_slr, fz_at, slr])
    · conv => whnf
      refine Ask.o h fun p7 h => ?_
      conv => whnf
      refine CallP.o V.str (by first | rfl | simp only [mulN_one, V.fz, fzL, V.up, upL, fzL_map, fz_slr, fz_at, slr, List.cons_append, List.nil_append] | simp [mulN_one, V.fz, fzL, V.up, upL, fzL_map, fz_slr, fz_at, slr]) h (fun r h => hself h) (fun r8 h => ?_)
      conv => whnf
      refine Ask.mk (by decide) ?_
      conv => whnf
      refine Ask.mk (by decide) ?_
      conv => whnf
      refine Ask.o h fun p9 h => ?_
      conv => whnf
      refine Ask.o h fun p10 h => ?_
      conv => whnf
      refine Ask.o h fun p11 h => ?_
      conv => whnf
      cases h; exact (by first | rfl | simp only [resV, mulN_one, V.fz, fzL, V.up, upL, fzL_map, fz_slr, fz_at, slr] | simp [resV, mulN_one, V.fz, fzL, V.up, upL, fzL_map, fz_slr, fz_at, slr])
theorem t_spec_l1Num_n : ∀ (n : Nat) {n0 : Int} {v : ByteArray}, F_spec_l1Num n n0 = some v → Ret Tryd.prog f_spec_l1Num [vint n0] (V.str v)
  | 0, _, _, h => by cases h
  | n + 1, _, _, h => t_spec_l1Num_s (fun h => t_spec_l1Num_n n h) h
theorem t_spec_l1Num {n0 : Int} {v : ByteArray} (h : (limO fun n => F_spec_l1Num n n0) = some v) : Ret Tryd.prog f_spec_l1Num [vint n0] (V.str v) := by
  obtain ⟨n, hn⟩ := limO_some h
  exact t_spec_l1Num_n n hn

noncomputable def F_laws_toIntS_l1 (a0 : List Int) : (Int × (List Int)) → Option ((Int × (List Int)) ⊕ (List Int)) := fun (x4, x3) =>
   if x4 < (↑a0.length : Int) then
    ask ((0 : Int) ≤ x4 ∧ x4 < (↑a0.length : Int)) <|
    ask ((0 : Int) ≤ x4 ∧ x4 < (↑x3.length : Int)) <|
    ask (InI (x4 + (1 : Int))) <|
    some (.inl (x4 + (1 : Int), x3.set x4.toNat (nth a0 x4.toNat)))
   else
    some (.inr x3)
def S_laws_toIntS_l1 (a0 : List Int) : (Int × (List Int)) → St := fun s => [(4, A.val (vint s.1)), (3, A.val ((slr true 1 vint) s.2)), (0, A.val ((slr false 1 vint) (a0)))]
def T_laws_toIntS_l1 (_a0 : List Int) : (List Int) → Tgt
  | s => ((Ex.exit 0), [3], [(3, A.val ((slr true 1 vint) s))])
theorem b_laws_toIntS_l1 {a0 : List Int} (s : (Int × (List Int))) (o : (Int × (List Int)) ⊕ (List Int)) (h : F_laws_toIntS_l1 a0 s = some o) : vc Tryd.prog c_laws_toIntS_l1 (outQ [4, 3, 0] (S_laws_toIntS_l1 a0) (T_laws_toIntS_l1 a0) o) (S_laws_toIntS_l1 a0 s) := by
  obtain ⟨x4, x3⟩ := s
  unfold F_laws_toIntS_l1 at h
  try dsimp only at h
  conv => whnf
  refine Len.map ?_
  conv => whnf
  refine Br.od h (fun p2 h => ?_) (fun p2 h => ?_)
  · conv => whnf
    refine Len.map ?_
    conv => whnf
    refine Ask.o h fun p3 h => ?_
    conv => whnf
    refine Elem.o (by first | omega | (simp only [mulN] at *; omega) | (simp [mulN] at *; omega)) ?_
    conv => whnf
    refine Len.map ?_
    conv => whnf
    refine Ask.o h fun p4 h => ?_
    conv => whnf
    refine SetKids.one (fun _ => ⟨rfl, rfl⟩) (nth a0 x4.toNat) (by first | rfl | simp only [mulN_one, V.fz, fzL, V.up, upL, fzL_map, fz_slr, fz_at, slr, List.cons_append, List.nil_append] | simp [mulN_one, V.fz, fzL, V.up, upL, fzL_map, fz_slr, fz_at, slr]) (by first | omega | (simp only [mulN] at *; omega) | (simp [mulN] at *; omega)) ?_
    conv => whnf
    refine Ask.o h fun p5 h => ?_
    conv => whnf
    cases h; exact ⟨rfl, rfl⟩
  · conv => whnf
    cases h; exact ⟨rfl, rfl⟩

noncomputable def F_laws_toIntS (a0 : (List Int)) : Option (List Int) :=
  ask ((0 : Int) ≤ (↑a0.length : Int) ∧ (↑a0.length : Int) ≤ (↑LIM : Int)) <|
  (loopO (F_laws_toIntS_l1 a0) ((0 : Int), List.replicate (↑a0.length : Int).toNat (0 : Int))).bind fun q6_3 =>
  some q6_3
theorem t_laws_toIntS {a0 : (List Int)} {v : (List Int)} (h : F_laws_toIntS a0 = some v) : Ret Tryd.prog f_laws_toIntS [(slr false 1 vint) a0] ((slr true 1 vint) v) := by
  refine ret_vc k_laws_toIntS (Nat.le_of_ble_eq_true rfl) ?_
  unfold F_laws_toIntS at h
  conv => whnf
  refine Len.map ?_
  conv => whnf
  refine Ask.o h fun p1 h => ?_
  conv => whnf
  refine MkQ.o vint ((0 : Int)) rfl ?_
  conv => whnf
  refine LoopQ.o [4, 3, 0] (S_laws_toIntS_l1 a0) (T_laws_toIntS_l1 a0) h (fun s o h => b_laws_toIntS_l1 s o h) (by first | rfl | simp [restrict, look, mulN_one, V.fz, fzL, V.up, upL, fzL_map, fz_slr, fz_at, slr]) (fun _ => rfl) ?_
  rintro q6_3 h
  try dsimp only at h
  conv => whnf
  cases h; exact (by first | rfl | simp only [resV, mulN_one, V.fz, fzL, V.up, upL, fzL_map, fz_slr, fz_at, slr] | simp [resV, mulN_one, V.fz, fzL, V.up, upL, fzL_map, fz_slr, fz_at, slr])

noncomputable def F_impl_newOrder_l1 (n0 : Int) : (Int × (List (List Bool))) → Option ((Int × (List (List Bool))) ⊕ (List (List Bool))) := fun (x9, x3) =>
   if x9 < (↑n0.toNat : Int) then
    ask ((0 : Int) ≤ n0 ∧ n0 ≤ (↑LIM : Int)) <|
    ask ((0 : Int) ≤ x9 ∧ x9 < (↑x3.length : Int)) <|
    ask (InI (x9 + (1 : Int))) <|
    some (.inl (x9 + (1 : Int), x3.set x9.toNat (List.replicate n0.toNat false)))
   else
    some (.inr x3)
def S_impl_newOrder_l1 (n0 : Int) : (Int × (List (List Bool))) → St := fun s => [(9, A.val (vint s.1)), (8, A.val (vint ((↑n0.toNat : Int)))), (3, A.val ((slr true 1 (slr true 1 V.bool)) s.2)), (0, A.val (vint (n0)))]
def T_impl_newOrder_l1 (_n0 : Int) : (List (List Bool)) → Tgt
  | s => ((Ex.exit 0), [3], [(3, A.val ((slr true 1 (slr true 1 V.bool)) s))])
theorem b_impl_newOrder_l1 {n0 : Int} (s : (Int × (List (List Bool)))) (o : (Int × (List (List Bool))) ⊕ (List (List Bool))) (h : F_impl_newOrder_l1 n0 s = some o) : vc Tryd.prog c_impl_newOrder_l1 (outQ [9, 8, 3, 0] (S_impl_newOrder_l1 n0) (T_impl_newOrder_l1 n0) o) (S_impl_newOrder_l1 n0 s) := by
  obtain ⟨x9, x3⟩ := s
  unfold F_impl_newOrder_l1 at h
  try dsimp only at h
  conv => whnf
  refine Br.od h (fun p2 h => ?_) (fun p2 h => ?_)
  · conv => whnf
    refine Ask.o h fun p3 h => ?_
    conv => whnf
    refine MkQ.o V.bool (false) rfl ?_
    conv => whnf
    refine Len.map ?_
    conv => whnf
    refine Ask.o h fun p4 h => ?_
    conv => whnf
    refine SetKids.one (fun _ => ⟨rfl, rfl⟩) (List.replicate n0.toNat false) (by first | rfl | simp only [mulN_one, V.fz, fzL, V.up, upL, fzL_map, fz_slr, fz_at, slr, List.cons_append, List.nil_append] | simp [mulN_one, V.fz, fzL, V.up, upL, fzL_map, fz_slr, fz_at, slr]) (by first | omega | (simp only [mulN] at *; omega) | (simp [mulN] at *; omega)) ?_
    conv => whnf
    refine Ask.o h fun p5 h => ?_
    conv => whnf
    cases h; exact ⟨rfl, rfl⟩
  · conv => whnf
    cases h; exact ⟨rfl, rfl⟩

noncomputable def F_impl_newOrder (n0 : Int) : Option (List (List Bool)) :=
  ask ((0 : Int) ≤ n0 ∧ n0 ≤ (↑LIM : Int)) <|
  (loopO (F_impl_newOrder_l1 n0) ((0 : Int), List.replicate n0.toNat (nilL Bool))).bind fun q6_3 =>
  some q6_3
theorem t_impl_newOrder {n0 : Int} {v : (List (List Bool))} (h : F_impl_newOrder n0 = some v) : Ret Tryd.prog f_impl_newOrder [vint n0] ((slr true 1 (slr true 1 V.bool)) v) := by
  refine ret_vc k_impl_newOrder (Nat.le_of_ble_eq_true rfl) ?_
  unfold F_impl_newOrder at h
  conv => whnf
  refine Ask.o h fun p1 h => ?_
  conv => whnf
  refine MkQ.o (slr true 1 V.bool) (nilL Bool) rfl ?_
  conv => whnf
  refine Len.mrep ?_
  conv => whnf
  refine LoopQ.o [9, 8, 3, 0] (S_impl_newOrder_l1 n0) (T_impl_newOrder_l1 n0) h (fun s o h => b_impl_newOrder_l1 s o h) (by first | rfl | simp [restrict, look, mulN_one, V.fz, fzL, V.up, upL, fzL_map, fz_slr, fz_at, slr]) (fun _ => rfl) ?_
  rintro q6_3 h
  try dsimp only at h
  conv => whnf
  cases h; exact (by first | rfl | simp only [resV, mulN_one, V.fz, fzL, V.up, upL, fzL_map, fz_slr, fz_at, slr] | simp [resV, mulN_one, V.fz, fzL, V.up, upL, fzL_map, fz_slr, fz_at, slr])

noncomputable def F_impl_rises_l1 (list0 : List Int) : Int → Option (Int ⊕ (Unit ⊕ Unit)) := fun x3 =>
   if x3 < (↑list0.length : Int) then
    ask (InI (x3 - (1 : Int))) <|
    ask ((0 : Int) ≤ x3 - (1 : Int) ∧ x3 - (1 : Int) < (↑list0.length : Int)) <|
    ask ((0 : Int) ≤ x3 ∧ x3 < (↑list0.length : Int)) <|
    if nth list0 (x3 - (1 : Int)).toNat ≥ nth list0 x3.toNat then
     some (.inr (.inl ()))
    else
     ask (InI (x3 + (1 : Int))) <|
     some (.inl (x3 + (1 : Int)))
   else
    some (.inr (.inr ()))
def S_impl_rises_l1 (list0 : List Int) : Int → St := fun s => [(3, A.val (vint s)), (0, A.val ((slr false 1 vint) (list0)))]
def T_impl_rises_l1 (_list0 : List Int) : (Unit ⊕ Unit) → Tgt
  | (.inl _s) => (Ex.ret, [2], [(2, A.val (V.bool (false)))])
  | (.inr _s) => ((Ex.exit 0), [], [])
theorem b_impl_rises_l1 {list0 : List Int} (x3 : Int) (o : Int ⊕ (Unit ⊕ Unit)) (h : F_impl_rises_l1 list0 x3 = some o) : vc Tryd.prog c_impl_rises_l1 (outQ [3, 0] (S_impl_rises_l1 list0) (T_impl_rises_l1 list0) o) (S_impl_rises_l1 list0 x3) := by
  unfold F_impl_rises_l1 at h
  try dsimp only at h
  conv => whnf
  refine Len.map ?_
  conv => whnf
  refine Br.od h (fun p1 h => ?_) (fun p1 h => ?_)
  · conv => whnf
    refine Ask.o h fun p2 h => ?_
    conv => whnf
    refine Len.map ?_
    conv => whnf
    refine Ask.o h fun p3 h => ?_
    conv => whnf
    refine Elem.o (by first | omega | (simp only [mulN] at *; omega) | (simp [mulN] at *; omega)) ?_
    conv => whnf
    refine Len.map ?_
    conv => whnf
    refine Ask.o h fun p4 h => ?_
    conv => whnf
    refine Elem.o (by first | omega | (simp only [mulN] at *; omega) | (simp [mulN] at *; omega)) ?_
    conv => whnf
    refine Br.od h (fun p5 h => ?_) (fun p5 h => ?_)
    · conv => whnf
      cases h; exact ⟨rfl, rfl⟩
    · conv => whnf
      refine Ask.o h fun p6 h => ?_
      conv => whnf
      cases h; exact ⟨rfl, rfl⟩
  · conv => whnf
    cases h; exact ⟨rfl, rfl⟩

noncomputable def F_impl_rises (list0 : (List Int)) : Option Bool :=
  (loopO (F_impl_rises_l1 list0) (1 : Int)).bind fun t => match t with
  | (.inl _) => (some false)
  | (.inr _) => (some true)
theorem t_impl_rises {list0 : (List Int)} {v : Bool} (h : F_impl_rises list0 = some v) : Ret Tryd.prog f_impl_rises [(slr false 1 vint) list0] (V.bool v) := by
  refine ret_vc k_impl_rises (Nat.le_of_ble_eq_true rfl) ?_
  unfold F_impl_rises at h
  conv => whnf
  refine LoopQ.o [3, 0] (S_impl_rises_l1 list0) (T_impl_rises_l1 list0) h (fun s o h => b_impl_rises_l1 s o h) (by first | rfl | simp [restrict, look, mulN_one, V.fz, fzL, V.up, upL, fzL_map, fz_slr, fz_at, slr]) (by rintro (_ | _) <;> rfl) ?_
  rintro (⟨⟩ | ⟨⟩) h
  · try dsimp only at h
    conv => whnf
    cases h; exact (by first | rfl | simp only [resV, mulN_one, V.fz, fzL, V.up, upL, fzL_map, fz_slr, fz_at, slr] | simp [resV, mulN_one, V.fz, fzL, V.up, upL, fzL_map, fz_slr, fz_at, slr])
  · try dsimp only at h
    conv => whnf
    cases h; exact (by first | rfl | simp only [resV, mulN_one, V.fz, fzL, V.up, upL, fzL_map, fz_slr, fz_at, slr] | simp [resV, mulN_one, V.fz, fzL, V.up, upL, fzL_map, fz_slr, fz_at, slr])

noncomputable def F_impl_inSize_l1 (list0 : List Int) (n0 : Int) : Int → Option (Int ⊕ (Unit ⊕ Unit)) := fun x9 =>
   if x9 < (↑list0.length : Int) then
    ask ((0 : Int) ≤ x9 ∧ x9 < (↑list0.length : Int)) <|
    if nth list0 x9.toNat < (0 : Int) then
     some (.inr (.inl ()))
    else
     if nth list0 x9.toNat ≥ n0 then
      some (.inr (.inl ()))
     else
      ask (InI (x9 + (1 : Int))) <|
      some (.inl (x9 + (1 : Int)))
   else
    some (.inr (.inr ()))
def S_impl_inSize_l1 (list0 : List Int) (n0 : Int) : Int → St := fun s => [(9, A.val (vint s)), (8, A.val (vint ((↑list0.length : Int)))), (7, A.val ((slr false 1 vint) (list0))), (1, A.val (vint (n0)))]
def T_impl_inSize_l1 (_list0 : List Int) (_n0 : Int) : (Unit ⊕ Unit) → Tgt
  | (.inl _s) => (Ex.ret, [4], [(4, A.val (V.bool (false)))])
  | (.inr _s) => ((Ex.exit 0), [], [])
theorem b_impl_inSize_l1 {list0 : List Int} {n0 : Int} (x9 : Int) (o : Int ⊕ (Unit ⊕ Unit)) (h : F_impl_inSize_l1 list0 n0 x9 = some o) : vc Tryd.prog c_impl_inSize_l1 (outQ [9, 8, 7, 1] (S_impl_inSize_l1 list0 n0) (T_impl_inSize_l1 list0 n0) o) (S_impl_inSize_l1 list0 n0 x9) := by
  unfold F_impl_inSize_l1 at h
  try dsimp only at h
  conv => whnf
  refine Br.od h (fun p1 h => ?_) (fun p1 h => ?_)
  · conv => whnf
    refine Len.map ?_
    conv => whnf
    refine Ask.o h fun p2 h => ?_
    conv => whnf
    refine Elem.o (by first | omega | (simp only [mulN] at *; omega) | (simp [mulN] at *; omega)) ?_
    conv => whnf
    refine Br.od h (fun p3 h => ?_) (fun p3 h => ?_)
    · conv => whnf
      refine Br.yes ?_
      conv => whnf
      refine Br.yes ?_
      conv => whnf
      refine Br.yes ?_
      conv => whnf
      refine Br.yes ?_
      conv => whnf
      cases h; exact ⟨rfl, rfl⟩
    · conv => whnf
      refine Br.no ?_
      conv => whnf
      refine Br.no ?_
      conv => whnf
      refine Br.no ?_
      conv => whnf
      refine Br.od h (fun p4 h => ?_) (fun p4 h => ?_)
      · conv => whnf
        cases h; exact ⟨rfl, rfl⟩
      · conv => whnf
        refine Ask.o h fun p5 h => ?_
        conv => whnf
        cases h; exact ⟨rfl, rfl⟩
  · conv => whnf
    cases h; exact ⟨rfl, rfl⟩

noncomputable def F_impl_inSize (list0 : (List Int)) (n0 : Int) : Option Bool :=
  (loopO (F_impl_inSize_l1 list0 n0) (0 : Int)).bind fun t => match t with
  | (.inl _) => (some false)
  | (.inr _) => (some true)
theorem t_impl_inSize {list0 : (List Int)} {n0 : Int} {v : Bool} (h : F_impl_inSize list0 n0 = some v) : Ret Tryd.prog f_impl_inSize [(slr false 1 vint) list0, vint n0] (V.bool v) := by
  refine ret_vc k_impl_inSize (Nat.le_of_ble_eq_true rfl) ?_
  unfold F_impl_inSize at h
  conv => whnf
  refine Len.map ?_
  conv => whnf
  refine LoopQ.o [9, 8, 7, 1] (S_impl_inSize_l1 list0 n0) (T_impl_inSize_l1 list0 n0) h (fun s o h => b_impl_inSize_l1 s o h) (by first | rfl | simp [restrict, look, mulN_one, V.fz, fzL, V.up, upL, fzL_map, fz_slr, fz_at, slr]) (by rintro (_ | _) <;> rfl) ?_
  rintro (⟨⟩ | ⟨⟩) h
  · try dsimp only at h
    conv => whnf
    cases h; exact (by first | rfl | simp only [resV, mulN_one, V.fz, fzL, V.up, upL, fzL_map, fz_slr, fz_at, slr] | simp [resV, mulN_one, V.fz, fzL, V.up, upL, fzL_map, fz_slr, fz_at, slr])
  · try dsimp only at h
    conv => whnf
    cases h; exact (by first | rfl | simp only [resV, mulN_one, V.fz, fzL, V.up, upL, fzL_map, fz_slr, fz_at, slr] | simp [resV, mulN_one, V.fz, fzL, V.up, upL, fzL_map, fz_slr, fz_at, slr])

noncomputable def F_impl_order_isOrder_l1 (o0 : List (List Bool)) (x8 : Int) (x21 : Int) : Int → Option (Int ⊕ (Unit ⊕ Unit)) := fun x47 =>
   if x47 < (↑o0.length : Int) then
    ask ((0 : Int) ≤ x8 ∧ x8 < (↑o0.length : Int)) <|
    ask ((0 : Int) ≤ x21 ∧ x21 < (↑(nth o0 x8.toNat).length : Int)) <|
    if (nth (nth o0 x8.toNat) x21.toNat) = true then
     ask ((0 : Int) ≤ x21 ∧ x21 < (↑o0.length : Int)) <|
     ask ((0 : Int) ≤ x47 ∧ x47 < (↑(nth o0 x21.toNat).length : Int)) <|
     if (nth (nth o0 x21.toNat) x47.toNat) = true then
      ask ((0 : Int) ≤ x8 ∧ x8 < (↑o0.length : Int)) <|
      ask ((0 : Int) ≤ x47 ∧ x47 < (↑(nth o0 x8.toNat).length : Int)) <|
      if (nth (nth o0 x8.toNat) x47.toNat) = true then
       ask (InI (x47 + (1 : Int))) <|
       some (.inl (x47 + (1 : Int)))
      else
       some (.inr (.inl ()))
     else
      ask (InI (x47 + (1 : Int))) <|
      some (.inl (x47 + (1 : Int)))
    else
     ask (InI (x47 + (1 : Int))) <|
     some (.inl (x47 + (1 : Int)))
   else
    some (.inr (.inr ()))
def S_impl_order_isOrder_l1 (o0 : List (List Bool)) (x8 : Int) (x21 : Int) : Int → St := fun s => [(47, A.val (vint s)), (46, A.val (vint ((↑o0.length : Int)))), (4, A.val (vint (x21))), (21, A.val (vint (x21))), (20, A.val (vint ((↑o0.length : Int)))), (3, A.val (vint (x8))), (8, A.val (vint (x8))), (7, A.val (vint ((↑o0.length : Int)))), (0, A.val ((slr false 1 (slr false 1 V.bool)) (o0)))]
def T_impl_order_isOrder_l1 (o0 : List (List Bool)) (x8 : Int) (x21 : Int) : (Unit ⊕ Unit) → Tgt
  | (.inl _s) => (Ex.ret, [2], [(2, A.val (V.bool (false)))])
  | (.inr _s) => ((Ex.exit 4), [21, 20, 3, 8, 7, 0], [(21, A.val (vint (x21))), (20, A.val (vint ((↑o0.length : Int)))), (3, A.val (vint (x8))), (8, A.val (vint (x8))), (7, A.val (vint ((↑o0.length : Int)))), (0, A.val ((slr false 1 (slr false 1 V.bool)) (o0)))])
theorem b_impl_order_isOrder_l1 {o0 : List (List Bool)} {x8 : Int} {x21 : Int} (x47 : Int) (o : Int ⊕ (Unit ⊕ Unit)) (h : F_impl_order_isOrder_l1 o0 x8 x21 x47 = some o) : vc Tryd.prog c_impl_order_isOrder_l1 (outQ [47, 46, 4, 21, 20, 3, 8, 7, 0] (S_impl_order_isOrder_l1 o0 x8 x21) (T_impl_order_isOrder_l1 o0 x8 x21) o) (S_impl_order_isOrder_l1 o0 x8 x21 x47) := by
  unfold F_impl_order_isOrder_l1 at h
  try dsimp only at h
  conv => whnf
  refine Br.od h (fun p14 h => ?_) (fun p14 h => ?_)
  · conv => whnf
    refine Len.map ?_
    conv => whnf
    refine Ask.o h fun p15 h => ?_
    conv => whnf
    refine Elem.o (by first | omega | (simp only [mulN] at *; omega) | (simp [mulN] at *; omega)) ?_
    conv => whnf
    refine Len.map ?_
    conv => whnf
    refine Ask.o h fun p16 h => ?_
    conv => whnf
    refine Elem.o (by first | omega | (simp only [mulN] at *; omega) | (simp [mulN] at *; omega)) ?_
    conv => whnf
    refine Br.ob h (fun p17 h => ?_) (fun p17 h => ?_)
    · conv => whnf
      refine Br.yes ?_
      conv => whnf
      refine Br.yes ?_
      conv => whnf
      refine Len.map ?_
      conv => whnf
      refine Ask.o h fun p18 h => ?_
      conv => whnf
      refine Elem.o (by first | omega | (simp only [mulN] at *; omega) | (simp [mulN] at *; omega)) ?_
      conv => whnf
      refine Br.yes ?_
      conv => whnf
      refine Br.yes ?_
      conv => whnf
      refine Br.yes ?_
      conv => whnf
      refine Len.map ?_
      conv => whnf
      refine Ask.o h fun p19 h => ?_
      conv => whnf
      refine Elem.o (by first | omega | (simp only [mulN] at *; omega) | (simp [mulN] at *; omega)) ?_
      conv => whnf
      refine Br.yes ?_
      conv => whnf
      refine Br.yes ?_
      conv => whnf
      refine Br.ob h (fun p20 h => ?_) (fun p20 h => ?_)
      · conv => whnf
        refine Br.yes ?_
        conv => whnf
        refine Br.yes ?_
        conv => whnf
        refine Len.map ?_
        conv => whnf
        refine Ask.o h fun p21 h => ?_
        conv => whnf
        refine Elem.o (by first | omega | (simp only [mulN] at *; omega) | (simp [mulN] at *; omega)) ?_
        conv => whnf
        refine Br.yes ?_
        conv => whnf
        refine Br.yes ?_
        conv => whnf
        refine Br.yes ?_
        conv => whnf
        refine Len.map ?_
        conv => whnf
        refine Ask.o h fun p22 h => ?_
        conv => whnf
        refine Elem.o (by first | omega | (simp only [mulN] at *; omega) | (simp [mulN] at *; omega)) ?_
        conv => whnf
        refine Br.yes ?_
        conv => whnf
        refine Br.yes ?_
        conv => whnf
        refine Br.yes ?_
        conv => whnf
        refine Br.flip ?_
        conv => whnf
        refine Br.ob h (fun p23 h => ?_) (fun p23 h => ?_)
        · conv => whnf
          refine Ask.o h fun p24 h => ?_
          conv => whnf
          cases h; exact ⟨rfl, rfl⟩
        · conv => whnf
          cases h; exact ⟨rfl, rfl⟩
      · conv => whnf
        refine Br.no ?_
        conv => whnf
        refine Br.no ?_
        conv => whnf
        refine Br.no ?_
        conv => whnf
        refine Br.no ?_
        conv => whnf
        refine Br.no ?_
        conv => whnf
        refine Br.no ?_
        conv => whnf
        refine Br.no ?_
        conv => whnf
        refine Br.no ?_
        conv => whnf
        refine Br.no ?_
        conv => whnf
        refine Ask.o h fun p25 h => ?_
        conv => whnf
        cases h; exact ⟨rfl, rfl⟩
    · conv => whnf
      refine Br.no ?_
      conv => whnf
      refine Br.no ?_
      conv => whnf
      refine Br.no ?_
      conv => whnf
      refine Br.no ?_
      conv => whnf
      refine Br.no ?_
      conv => whnf
      refine Br.no ?_
      conv => whnf
      refine Br.no ?_
      conv => whnf
      refine Br.no ?_
      conv => whnf
      refine Br.no ?_
      conv => whnf
      refine Br.no ?_
      conv => whnf
      refine Br.no ?_
      conv => whnf
      refine Br.no ?_
      conv => whnf
      refine Br.no ?_
      conv => whnf
      refine Br.no ?_
      conv => whnf
      refine Br.no ?_
      conv => whnf
      refine Br.no ?_
      conv => whnf
      refine Br.no ?_
      conv => whnf
      refine Ask.o h fun p26 h => ?_
      conv => whnf
      cases h; exact ⟨rfl, rfl⟩
  · conv => whnf
    cases h; exact ⟨rfl, rfl⟩

noncomputable def F_impl_order_isOrder_l2 (o0 : List (List Bool)) (x8 : Int) : Int → Option (Int ⊕ (Unit ⊕ Unit)) := fun x21 =>
   if x21 < (↑o0.length : Int) then
    ((if x8 ≠ x21 then
        ask ((0 : Int) ≤ x8 ∧ x8 < (↑o0.length : Int)) <|
        ask ((0 : Int) ≤ x21 ∧ x21 < (↑(nth o0 x8.toNat).length : Int)) <|
        if (nth (nth o0 x8.toNat) x21.toNat) = true then
         ask ((0 : Int) ≤ x21 ∧ x21 < (↑o0.length : Int)) <|
         ask ((0 : Int) ≤ x8 ∧ x8 < (↑(nth o0 x21.toNat).length : Int)) <|
         if (nth (nth o0 x21.toNat) x8.toNat) = true then
          some (.inl ())
         else
          some (.inr ())
        else
         some (.inr ())
       else
        some (.inr ()) : Option (Unit ⊕ Unit))).bind fun t => match t with
    | (.inl _) => (some (.inr (.inl ())))
    | (.inr _) => ((loopO (F_impl_order_isOrder_l1 o0 x8 x21) (0 : Int)).bind fun t => match t with
      | (.inl _) => (some (.inr (.inl ())))
      | (.inr _) => (ask (InI (x21 + (1 : Int))) <|
        some (.inl (x21 + (1 : Int)))))
   else
    some (.inr (.inr ()))
def S_impl_order_isOrder_l2 (o0 : List (List Bool)) (x8 : Int) : Int → St := fun s => [(21, A.val (vint s)), (20, A.val (vint ((↑o0.length : Int)))), (3, A.val (vint (x8))), (8, A.val (vint (x8))), (7, A.val (vint ((↑o0.length : Int)))), (0, A.val ((slr false 1 (slr false 1 V.bool)) (o0)))]
def T_impl_order_isOrder_l2 (o0 : List (List Bool)) (x8 : Int) : (Unit ⊕ Unit) → Tgt
  | (.inl _s) => (Ex.ret, [2], [(2, A.val (V.bool (false)))])
  | (.inr _s) => ((Ex.exit 2), [8, 7, 0], [(8, A.val (vint (x8))), (7, A.val (vint ((↑o0.length : Int)))), (0, A.val ((slr false 1 (slr false 1 V.bool)) (o0)))])
theorem b_impl_order_isOrder_l2 {o0 : List (List Bool)} {x8 : Int} (x21 : Int) (o : Int ⊕ (Unit ⊕ Unit)) (h : F_impl_order_isOrder_l2 o0 x8 x21 = some o) : vc Tryd.prog c_impl_order_isOrder_l2 (outQ [21, 20, 3, 8, 7, 0] (S_impl_order_isOrder_l2 o0 x8) (T_impl_order_isOrder_l2 o0 x8) o) (S_impl_order_isOrder_l2 o0 x8 x21) := by
  unfold F_impl_order_isOrder_l2 at h
  try dsimp only at h
  conv => whnf
  refine Br.od h (fun p5 h => ?_) (fun p5 h => ?_)
  · conv => whnf
    refine CutQ.o (fun t : (Unit ⊕ Unit) => match t with | (.inl s) => (Ex.ret, [2], [(2, A.val (V.bool (false)))]) | (.inr s) => (Ex.normal, [4, 21, 20, 3, 8, 7, 0], [(4, A.val (vint (x21))), (21, A.val (vint (x21))), (20, A.val (vint ((↑o0.length : Int)))), (3, A.val (vint (x8))), (8, A.val (vint (x8))), (7, A.val (vint ((↑o0.length : Int)))), (0, A.val ((slr false 1 (slr false 1 V.bool)) (o0)))])) h ?_ ?_
    · intro t h
      conv => whnf
      refine Br.on h (fun p6 h => ?_) (fun p6 h => ?_)
      · conv => whnf
        refine Br.yes ?_
        conv => whnf
        refine Br.yes ?_
        conv => whnf
        refine Len.map ?_
        conv => whnf
        refine Ask.o h fun p7 h => ?_
        conv => whnf
        refine Elem.o (by first | omega | (simp only [mulN] at *; omega) | (simp [mulN] at *; omega)) ?_
        conv => whnf
        refine Br.yes ?_
        conv => whnf
        refine Br.yes ?_
        conv => whnf
        refine Br.yes ?_
        conv => whnf
        refine Len.map ?_
        conv => whnf
        refine Ask.o h fun p8 h => ?_
        conv => whnf
        refine Elem.o (by first | omega | (simp only [mulN] at *; omega) | (simp [mulN] at *; omega)) ?_
        conv => whnf
        refine Br.yes ?_
        conv => whnf
        refine Br.yes ?_
        conv => whnf
        refine Br.ob h (fun p9 h => ?_) (fun p9 h => ?_)
        · conv => whnf
          refine Br.yes ?_
          conv => whnf
          refine Br.yes ?_
          conv => whnf
          refine Len.map ?_
          conv => whnf
          refine Ask.o h fun p10 h => ?_
          conv => whnf
          refine Elem.o (by first | omega | (simp only [mulN] at *; omega) | (simp [mulN] at *; omega)) ?_
          conv => whnf
          refine Br.yes ?_
          conv => whnf
          refine Br.yes ?_
          conv => whnf
          refine Br.yes ?_
          conv => whnf
          refine Len.map ?_
          conv => whnf
          refine Ask.o h fun p11 h => ?_
          conv => whnf
          refine Elem.o (by first | omega | (simp only [mulN] at *; omega) | (simp [mulN] at *; omega)) ?_
          conv => whnf
          refine Br.yes ?_
          conv => whnf
          refine Br.yes ?_
          conv => whnf
          refine Br.ob h (fun p12 h => ?_) (fun p12 h => ?_)
          · conv => whnf
            cases h; exact ⟨rfl, rfl⟩
          · conv => whnf
            cases h; exact ⟨rfl, rfl⟩
        · conv => whnf
          refine Br.no ?_
          conv => whnf
          refine Br.no ?_
          conv => whnf
          refine Br.no ?_
          conv => whnf
          refine Br.no ?_
          conv => whnf
          refine Br.no ?_
          conv => whnf
          refine Br.no ?_
          conv => whnf
          refine Br.no ?_
          conv => whnf
          refine Br.no ?_
          conv => whnf
          cases h; exact ⟨rfl, rfl⟩
      · conv => whnf
        refine Br.no ?_
        conv => whnf
        refine Br.no ?_
        conv => whnf
        refine Br.no ?_
        conv => whnf
        refine Br.no ?_
        conv => whnf
        refine Br.no ?_
        conv => whnf
        refine Br.no ?_
        conv => whnf
        refine Br.no ?_
        conv => whnf
        refine Br.no ?_
        conv => whnf
        refine Br.no ?_
        conv => whnf
        refine Br.no ?_
        conv => whnf
        refine Br.no ?_
        conv => whnf
        refine Br.no ?_
        conv => whnf
        refine Br.no ?_
        conv => whnf
        refine Br.no ?_
        conv => whnf
        refine Br.no ?_
        conv => whnf
        refine Br.no ?_
        conv => whnf
        cases h; exact ⟨rfl, rfl⟩
    · rintro (⟨⟩ | ⟨⟩) h
      · try dsimp only at h
        conv => whnf
        cases h; exact ⟨rfl, rfl⟩
      · try dsimp only at h
        conv => whnf
        refine Len.map ?_
        conv => whnf
        refine LoopQ.o [47, 46, 4, 21, 20, 3, 8, 7, 0] (S_impl_order_isOrder_l1 o0 x8 x21) (T_impl_order_isOrder_l1 o0 x8 x21) h (fun s o h => b_impl_order_isOrder_l1 s o h) (by first | rfl | simp [restrict, look, mulN_one, V.fz, fzL, V.up, upL, fzL_map, fz_slr, fz_at, slr]) (by rintro (_ | _) <;> rfl) ?_
        rintro (⟨⟩ | ⟨⟩) h
        · try dsimp only at h
          conv => whnf
          cases h; exact ⟨rfl, rfl⟩
        · try dsimp only at h
          conv => whnf
          refine Ask.o h fun p28 h => ?_
          conv => whnf
          cases h; exact ⟨rfl, rfl⟩
  · conv => whnf
    cases h; exact ⟨rfl, rfl⟩

noncomputable def F_impl_order_isOrder_l3 (o0 : List (List Bool)) : Int → Option (Int ⊕ (Unit ⊕ Unit)) := fun x8 =>
   if x8 < (↑o0.length : Int) then
    ask ((0 : Int) ≤ x8 ∧ x8 < (↑o0.length : Int)) <|
    ask ((0 : Int) ≤ x8 ∧ x8 < (↑(nth o0 x8.toNat).length : Int)) <|
    if (nth (nth o0 x8.toNat) x8.toNat) = true then
     (loopO (F_impl_order_isOrder_l2 o0 x8) (0 : Int)).bind fun t => match t with
     | (.inl _) => (some (.inr (.inl ())))
     | (.inr _) => (ask (InI (x8 + (1 : Int))) <|
       some (.inl (x8 + (1 : Int))))
    else
     some (.inr (.inl ()))
   else
    some (.inr (.inr ()))
def S_impl_order_isOrder_l3 (o0 : List (List Bool)) : Int → St := fun s => [(8, A.val (vint s)), (7, A.val (vint ((↑o0.length : Int)))), (0, A.val ((slr false 1 (slr false 1 V.bool)) (o0)))]
def T_impl_order_isOrder_l3 (_o0 : List (List Bool)) : (Unit ⊕ Unit) → Tgt
  | (.inl _s) => (Ex.ret, [2], [(2, A.val (V.bool (false)))])
  | (.inr _s) => ((Ex.exit 0), [], [])
theorem b_impl_order_isOrder_l3 {o0 : List (List Bool)} (x8 : Int) (o : Int ⊕ (Unit ⊕ Unit)) (h : F_impl_order_isOrder_l3 o0 x8 = some o) : vc Tryd.prog c_impl_order_isOrder_l3 (outQ [8, 7, 0] (S_impl_order_isOrder_l3 o0) (T_impl_order_isOrder_l3 o0) o) (S_impl_order_isOrder_l3 o0 x8) := by
  unfold F_impl_order_isOrder_l3 at h
  try dsimp only at h
  conv => whnf
  refine Br.od h (fun p1 h => ?_) (fun p1 h => ?_)
  · conv => whnf
    refine Len.map ?_
    conv => whnf
    refine Ask.o h fun p2 h => ?_
    conv => whnf
    refine Elem.o (by first | omega | (simp only [mulN] at *; omega) | (simp [mulN] at *; omega)) ?_
    conv => whnf
    refine Len.map ?_
    conv => whnf
    refine Ask.o h fun p3 h => ?_
    conv => whnf
    refine Elem.o (by first | omega | (simp only [mulN] at *; omega) | (simp [mulN] at *; omega)) ?_
    conv => whnf
    refine Br.flip ?_
    conv => whnf
    refine Br.ob h (fun p4 h => ?_) (fun p4 h => ?_)
    · conv => whnf
      refine Len.map ?_
      conv => whnf
      refine LoopQ.o [21, 20, 3, 8, 7, 0] (S_impl_order_isOrder_l2 o0 x8) (T_impl_order_isOrder_l2 o0 x8) h (fun s o h => b_impl_order_isOrder_l2 s o h) (by first | rfl | simp [restrict, look, mulN_one, V.fz, fzL, V.up, upL, fzL_map, fz_slr, fz_at, slr]) (by rintro (_ | _) <;> rfl) ?_
      rintro (⟨⟩ | ⟨⟩) h
      · try dsimp only at h
        conv => whnf
        cases h; exact ⟨rfl, rfl⟩
      · try dsimp only at h
        conv => whnf
        refine Ask.o h fun p30 h => ?_
        conv => whnf
        cases h; exact ⟨rfl, rfl⟩
    · conv => whnf
      cases h; exact ⟨rfl, rfl⟩
  · conv => whnf
    cases h; exact ⟨rfl, rfl⟩

noncomputable def F_impl_order_isOrder (o0 : (List (List Bool))) : Option Bool :=
  (loopO (F_impl_order_isOrder_l3 o0) (0 : Int)).bind fun t => match t with
  | (.inl _) => (some false)
  | (.inr _) => (some true)
theorem t_impl_order_isOrder {o0 : (List (List Bool))} {v : Bool} (h : F_impl_order_isOrder o0 = some v) : Ret Tryd.prog f_impl_order_isOrder [(slr false 1 (slr false 1 V.bool)) o0] (V.bool v) := by
  refine ret_vc k_impl_order_isOrder (Nat.le_of_ble_eq_true rfl) ?_
  unfold F_impl_order_isOrder at h
  conv => whnf
  refine Len.map ?_
  conv => whnf
  refine LoopQ.o [8, 7, 0] (S_impl_order_isOrder_l3 o0) (T_impl_order_isOrder_l3 o0) h (fun s o h => b_impl_order_isOrder_l3 s o h) (by first | rfl | simp [restrict, look, mulN_one, V.fz, fzL, V.up, upL, fzL_map, fz_slr, fz_at, slr]) (by rintro (_ | _) <;> rfl) ?_
  rintro (⟨⟩ | ⟨⟩) h
  · try dsimp only at h
    conv => whnf
    cases h; exact (by first | rfl | simp only [resV, mulN_one, V.fz, fzL, V.up, upL, fzL_map, fz_slr, fz_at, slr] | simp [resV, mulN_one, V.fz, fzL, V.up, upL, fzL_map, fz_slr, fz_at, slr])
  · try dsimp only at h
    conv => whnf
    cases h; exact (by first | rfl | simp only [resV, mulN_one, V.fz, fzL, V.up, upL, fzL_map, fz_slr, fz_at, slr] | simp [resV, mulN_one, V.fz, fzL, V.up, upL, fzL_map, fz_slr, fz_at, slr])

noncomputable def F_laws_eqIntS_l1 (a0 : List Int) (b0 : List Int) : Int → Option (Int ⊕ (Unit ⊕ Unit)) := fun x5 =>
   if x5 < (↑a0.length : Int) then
    ask ((0 : Int) ≤ x5 ∧ x5 < (↑a0.length : Int)) <|
    ask ((0 : Int) ≤ x5 ∧ x5 < (↑b0.length : Int)) <|
    if nth a0 x5.toNat ≠ nth b0 x5.toNat then
     some (.inr (.inl ()))
    else
     ask (InI (x5 + (1 : Int))) <|
     some (.inl (x5 + (1 : Int)))
   else
    some (.inr (.inr ()))
def S_laws_eqIntS_l1 (a0 : List Int) (b0 : List Int) : Int → St := fun s => [(5, A.val (vint s)), (0, A.val ((slr false 1 vint) (a0))), (1, A.val ((slr false 1 vint) (b0)))]
def T_laws_eqIntS_l1 (_a0 : List Int) (_b0 : List Int) : (Unit ⊕ Unit) → Tgt
  | (.inl _s) => (Ex.ret, [4], [(4, A.val (V.bool (false)))])
  | (.inr _s) => ((Ex.exit 0), [], [])
theorem b_laws_eqIntS_l1 {a0 : List Int} {b0 : List Int} (x5 : Int) (o : Int ⊕ (Unit ⊕ Unit)) (h : F_laws_eqIntS_l1 a0 b0 x5 = some o) : vc Tryd.prog c_laws_eqIntS_l1 (outQ [5, 0, 1] (S_laws_eqIntS_l1 a0 b0) (T_laws_eqIntS_l1 a0 b0) o) (S_laws_eqIntS_l1 a0 b0 x5) := by
  unfold F_laws_eqIntS_l1 at h
  try dsimp only at h
  conv => whnf
  refine Len.map ?_
  conv => whnf
  refine Br.od h (fun p2 h => ?_) (fun p2 h => ?_)
  · conv => whnf
    refine Len.map ?_
    conv => whnf
    refine Ask.o h fun p3 h => ?_
    conv => whnf
    refine Elem.o (by first | omega | (simp only [mulN] at *; omega) | (simp [mulN] at *; omega)) ?_
    conv => whnf
    refine Len.map ?_
    conv => whnf
    refine Ask.o h fun p4 h => ?_
    conv => whnf
    refine Elem.o (by first | omega | (simp only [mulN] at *; omega) | (simp [mulN] at *; omega)) ?_
    conv => whnf
    refine Br.on h (fun p5 h => ?_) (fun p5 h => ?_)
    · conv => whnf
      cases h; exact ⟨rfl, rfl⟩
    · conv => whnf
      refine Ask.o h fun p6 h => ?_
      conv => whnf
      cases h; exact ⟨rfl, rfl⟩
  · conv => whnf
    cases h; exact ⟨rfl, rfl⟩

noncomputable def F_laws_eqIntS (a0 : (List Int)) (b0 : (List Int)) : Option Bool :=
  if (↑a0.length : Int) ≠ (↑b0.length : Int) then
   some false
  else
   (loopO (F_laws_eqIntS_l1 a0 b0) (0 : Int)).bind fun t => match t with
   | (.inl _) => (some false)
   | (.inr _) => (some true)
theorem t_laws_eqIntS {a0 : (List Int)} {b0 : (List Int)} {v : Bool} (h : F_laws_eqIntS a0 b0 = some v) : Ret Tryd.prog f_laws_eqIntS [(slr false 1 vint) a0, (slr false 1 vint) b0] (V.bool v) := by
  refine ret_vc k_laws_eqIntS (Nat.le_of_ble_eq_true rfl) ?_
  unfold F_laws_eqIntS at h
  conv => whnf
  refine Len.map ?_
  conv => whnf
  refine Len.map ?_
  conv => whnf
  refine Br.on h (fun p1 h => ?_) (fun p1 h => ?_)
  · conv => whnf
    cases h; exact (by first | rfl | simp only [resV, mulN_one, V.fz, fzL, V.up, upL, fzL_map, fz_slr, fz_at, slr] | simp [resV, mulN_one, V.fz, fzL, V.up, upL, fzL_map, fz_slr, fz_at, slr])
  · conv => whnf
    refine LoopQ.o [5, 0, 1] (S_laws_eqIntS_l1 a0 b0) (T_laws_eqIntS_l1 a0 b0) h (fun s o h => b_laws_eqIntS_l1 s o h) (by first | rfl | simp [restrict, look, mulN_one, V.fz, fzL, V.up, upL, fzL_map, fz_slr, fz_at, slr]) (by rintro (_ | _) <;> rfl) ?_
    rintro (⟨⟩ | ⟨⟩) h
    · try dsimp only at h
      conv => whnf
      cases h; exact (by first | rfl | simp only [resV, mulN_one, V.fz, fzL, V.up, upL, fzL_map, fz_slr, fz_at, slr] | simp [resV, mulN_one, V.fz, fzL, V.up, upL, fzL_map, fz_slr, fz_at, slr])
    · try dsimp only at h
      conv => whnf
      cases h; exact (by first | rfl | simp only [resV, mulN_one, V.fz, fzL, V.up, upL, fzL_map, fz_slr, fz_at, slr] | simp [resV, mulN_one, V.fz, fzL, V.up, upL, fzL_map, fz_slr, fz_at, slr])

noncomputable def F_spec_l1In (x0 : Int) (a0 : Int) (b0 : Int) : Option Bool :=
  if x0 ≥ a0 then
   some (decide (x0 ≤ b0))
  else
   some false
theorem t_spec_l1In {x0 : Int} {a0 : Int} {b0 : Int} {v : Bool} (h : F_spec_l1In x0 a0 b0 = some v) : Ret Tryd.prog f_spec_l1In [vint x0, vint a0, vint b0] (V.bool v) := by
  refine ret_vc k_spec_l1In (Nat.le_of_ble_eq_true rfl) ?_
  unfold F_spec_l1In at h
  conv => whnf
  refine Br.od h (fun p1 h => ?_) (fun p1 h => ?_)
  · conv => whnf
    refine Br.yes ?_
    conv => whnf
    refine Br.yes ?_
    conv => whnf
    refine Br.yes ?_
    conv => whnf
    cases h; exact (by first | rfl | simp only [resV, mulN_one, V.fz, fzL, V.up, upL, fzL_map, fz_slr, fz_at, slr] | simp [resV, mulN_one, V.fz, fzL, V.up, upL, fzL_map, fz_slr, fz_at, slr])
  · conv => whnf
    refine Br.no ?_
    conv => whnf
    refine Br.no ?_
    conv => whnf
    refine Br.no ?_
    conv => whnf
    cases h; exact (by first | rfl | simp only [resV, mulN_one, V.fz, fzL, V.up, upL, fzL_map, fz_slr, fz_at, slr] | simp [resV, mulN_one, V.fz, fzL, V.up, upL, fzL_map, fz_slr, fz_at, slr])

noncomputable def F_impl_order_less (o0 : (List (List Bool))) (x0 : Int) (y0 : Int) : Option Bool :=
  if x0 ≠ y0 then
   ask ((0 : Int) ≤ x0 ∧ x0 < (↑o0.length : Int)) <|
   ask ((0 : Int) ≤ y0 ∧ y0 < (↑(nth o0 x0.toNat).length : Int)) <|
   some (nth (nth o0 x0.toNat) y0.toNat)
  else
   some false
theorem t_impl_order_less {o0 : (List (List Bool))} {x0 : Int} {y0 : Int} {v : Bool} (h : F_impl_order_less o0 x0 y0 = some v) : Ret Tryd.prog f_impl_order_less [(slr false 1 (slr false 1 V.bool)) o0, vint x0, vint y0] (V.bool v) := by
  refine ret_vc k_impl_order_less (Nat.le_of_ble_eq_true rfl) ?_
  unfold F_impl_order_less at h
  conv => whnf
  refine Br.on h (fun p1 h => ?_) (fun p1 h => ?_)
  · conv => whnf
    refine Br.yes ?_
    conv => whnf
    refine Br.yes ?_
    conv => whnf
    refine Len.map ?_
    conv => whnf
    refine Ask.o h fun p2 h => ?_
    conv => whnf
    refine Elem.o (by first | omega | (simp only [mulN] at *; omega) | (simp [mulN] at *; omega)) ?_
    conv => whnf
    refine Br.yes ?_
    conv => whnf
    refine Br.yes ?_
    conv => whnf
    refine Br.yes ?_
    conv => whnf
    refine Len.map ?_
    conv => whnf
    refine Ask.o h fun p3 h => ?_
    conv => whnf
    refine Elem.o (by first | omega | (simp only [mulN] at *; omega) | (simp [mulN] at *; omega)) ?_
    conv => whnf
    refine Br.yes ?_
    conv => whnf
    refine Br.yes ?_
    conv => whnf
    cases h; exact (by first | rfl | simp only [resV, mulN_one, V.fz, fzL, V.up, upL, fzL_map, fz_slr, fz_at, slr] | simp [resV, mulN_one, V.fz, fzL, V.up, upL, fzL_map, fz_slr, fz_at, slr])
  · conv => whnf
    refine Br.no ?_
    conv => whnf
    refine Br.no ?_
    conv => whnf
    refine Br.no ?_
    conv => whnf
    refine Br.no ?_
    conv => whnf
    refine Br.no ?_
    conv => whnf
    refine Br.no ?_
    conv => whnf
    refine Br.no ?_
    conv => whnf
    cases h; exact (by first | rfl | simp only [resV, mulN_one, V.fz, fzL, V.up, upL, fzL_map, fz_slr, fz_at, slr] | simp [resV, mulN_one, V.fz, fzL, V.up, upL, fzL_map, fz_slr, fz_at, slr])

end Go.Proofs.YtbnoclklhcbidaaDoor.Ax
