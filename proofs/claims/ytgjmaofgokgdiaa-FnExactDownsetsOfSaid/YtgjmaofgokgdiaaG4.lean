/-
  What the functions compute, as functions on plain data, and that the program does compute it; written by program.
-/
import Derived.Test.YtgjmaofgokgdiaaCode
import Derived.Test.YtgjmaofgokgdiaaSo5
import Derived.Test.YtgjmaofgokgdiaaG1
import Derived.Test.YtgjmaofgokgdiaaG2
import Derived.Test.YtgjmaofgokgdiaaG3
namespace Go.Proofs.Ytgjmaofgokgdiaa.Ax
open Go
set_option maxRecDepth 100000
set_option maxHeartbeats 4000000

noncomputable def F_impl_order_isDownset_l1 (o0 : List (List Bool)) (set0 : List Int) (r1 : List Bool) (x15 : Int) : Int → Option (Int ⊕ (Unit ⊕ Unit)) := fun x21 =>
   if x21 < (↑o0.length : Int) then
    ask ((0 : Int) ≤ x21 ∧ x21 < (↑o0.length : Int)) <|
    ask ((0 : Int) ≤ nth set0 x15.toNat ∧ nth set0 x15.toNat < (↑(nth o0 x21.toNat).length : Int)) <|
    if (nth (nth o0 x21.toNat) (nth set0 x15.toNat).toNat) = true then
     ask ((0 : Int) ≤ x21 ∧ x21 < (↑r1.length : Int)) <|
     if (nth r1 x21.toNat) = true then
      ask (InI (x21 + (1 : Int))) <|
      some (.inl (x21 + (1 : Int)))
     else
      some (.inr (.inl ()))
    else
     ask (InI (x21 + (1 : Int))) <|
     some (.inl (x21 + (1 : Int)))
   else
    some (.inr (.inr ()))
def S_impl_order_isDownset_l1 (o0 : List (List Bool)) (set0 : List Int) (r1 : List Bool) (x15 : Int) : Int → St := fun s => [(21, A.val (vint s)), (20, A.val (vint ((↑o0.length : Int)))), (7, A.val (vint (nth set0 x15.toNat))), (15, A.val (vint (x15))), (14, A.val (vint ((↑set0.length : Int)))), (13, A.val ((slr false 1 vint) (set0))), (5, A.val ((slr true 1 V.bool) (r1))), (0, A.val ((slr false 1 (slr false 1 V.bool)) (o0)))]
def T_impl_order_isDownset_l1 (o0 : List (List Bool)) (set0 : List Int) (r1 : List Bool) (x15 : Int) : (Unit ⊕ Unit) → Tgt
  | (.inl _s) => (Ex.ret, [4], [(4, A.val (V.bool (false)))])
  | (.inr _s) => ((Ex.exit 2), [15, 14, 13, 5, 0], [(15, A.val (vint (x15))), (14, A.val (vint ((↑set0.length : Int)))), (13, A.val ((slr false 1 vint) (set0))), (5, A.val ((slr true 1 V.bool) (r1))), (0, A.val ((slr false 1 (slr false 1 V.bool)) (o0)))])
theorem b_impl_order_isDownset_l1 {o0 : List (List Bool)} {set0 : List Int} {r1 : List Bool} {x15 : Int} (x21 : Int) (o : Int ⊕ (Unit ⊕ Unit)) (h : F_impl_order_isDownset_l1 o0 set0 r1 x15 x21 = some o) : vc Try.prog c_impl_order_isDownset_l1 (outQ [21, 20, 7, 15, 14, 13, 5, 0] (S_impl_order_isDownset_l1 o0 set0 r1 x15) (T_impl_order_isDownset_l1 o0 set0 r1 x15) o) (S_impl_order_isDownset_l1 o0 set0 r1 x15 x21) := by
  unfold F_impl_order_isDownset_l1 at h
  try dsimp only at h
  conv => whnf
  refine Br.od h (fun p4 h => ?_) (fun p4 h => ?_)
  · conv => whnf
    refine Len.map ?_
    conv => whnf
    refine Ask.o h fun p5 h => ?_
    conv => whnf
    refine Elem.o (by first | omega | (simp only [mulN] at *; omega) | (simp [mulN] at *; omega)) ?_
    conv => whnf
    refine Len.map ?_
    conv => whnf
    refine Ask.o h fun p6 h => ?_
    conv => whnf
    refine Elem.o (by first | omega | (simp only [mulN] at *; omega) | (simp [mulN] at *; omega)) ?_
    conv => whnf
    refine Br.ob h (fun p7 h => ?_) (fun p7 h => ?_)
    · conv => whnf
      refine Br.yes ?_
      conv => whnf
      refine Br.yes ?_
      conv => whnf
      refine Len.map ?_
      conv => whnf
      refine Ask.o h fun p8 h => ?_
      conv => whnf
      refine Br.yes ?_
      conv => whnf
      refine Cells.one (fun _ => ⟨rfl, rfl⟩) (by first | omega | (simp only [mulN] at *; omega) | (simp [mulN] at *; omega)) ?_
      conv => whnf
      refine Br.yes ?_
      conv => whnf
      refine Br.yes ?_
      conv => whnf
      refine Br.flip ?_
      conv => whnf
      refine Br.ob h (fun p9 h => ?_) (fun p9 h => ?_)
      · conv => whnf
        refine Ask.o h fun p10 h => ?_
        conv => whnf
        cases h; exact ⟨rfl, rfl⟩
      · conv => whnf
        cases h; exact ⟨rfl, rfl⟩
    · conv => whnf
      refine Br.no ?_
      conv => whnf
      refine Br.no ?_
      conv => whnf
      refine Br.no ?_
      conv => whnf
      refine Br.no ?_
      conv => whnf
      refine Br.no ?_
      conv => whnf
      refine Br.no ?_
      conv => whnf
      refine Ask.o h fun p11 h => ?_
      conv => whnf
      cases h; exact ⟨rfl, rfl⟩
  · conv => whnf
    cases h; exact ⟨rfl, rfl⟩

noncomputable def F_impl_order_isDownset_l2 (o0 : List (List Bool)) (set0 : List Int) (r1 : List Bool) : Int → Option (Int ⊕ (Unit ⊕ Unit)) := fun x15 =>
   if x15 < (↑set0.length : Int) then
    ask ((0 : Int) ≤ x15 ∧ x15 < (↑set0.length : Int)) <|
    (loopO (F_impl_order_isDownset_l1 o0 set0 r1 x15) (0 : Int)).bind fun t => match t with
    | (.inl _) => (some (.inr (.inl ())))
    | (.inr _) => (ask (InI (x15 + (1 : Int))) <|
      some (.inl (x15 + (1 : Int))))
   else
    some (.inr (.inr ()))
def S_impl_order_isDownset_l2 (o0 : List (List Bool)) (set0 : List Int) (r1 : List Bool) : Int → St := fun s => [(15, A.val (vint s)), (14, A.val (vint ((↑set0.length : Int)))), (13, A.val ((slr false 1 vint) (set0))), (5, A.val ((slr true 1 V.bool) (r1))), (0, A.val ((slr false 1 (slr false 1 V.bool)) (o0)))]
def T_impl_order_isDownset_l2 (_o0 : List (List Bool)) (_set0 : List Int) (_r1 : List Bool) : (Unit ⊕ Unit) → Tgt
  | (.inl _s) => (Ex.ret, [4], [(4, A.val (V.bool (false)))])
  | (.inr _s) => ((Ex.exit 0), [], [])
theorem b_impl_order_isDownset_l2 {o0 : List (List Bool)} {set0 : List Int} {r1 : List Bool} (x15 : Int) (o : Int ⊕ (Unit ⊕ Unit)) (h : F_impl_order_isDownset_l2 o0 set0 r1 x15 = some o) : vc Try.prog c_impl_order_isDownset_l2 (outQ [15, 14, 13, 5, 0] (S_impl_order_isDownset_l2 o0 set0 r1) (T_impl_order_isDownset_l2 o0 set0 r1) o) (S_impl_order_isDownset_l2 o0 set0 r1 x15) := by
  unfold F_impl_order_isDownset_l2 at h
  try dsimp only at h
  conv => whnf
  refine Br.od h (fun p2 h => ?_) (fun p2 h => ?_)
  · conv => whnf
    refine Len.map ?_
    conv => whnf
    refine Ask.o h fun p3 h => ?_
    conv => whnf
    refine Elem.o (by first | omega | (simp only [mulN] at *; omega) | (simp [mulN] at *; omega)) ?_
    conv => whnf
    refine Len.map ?_
    conv => whnf
    refine LoopQ.o [21, 20, 7, 15, 14, 13, 5, 0] (S_impl_order_isDownset_l1 o0 set0 r1 x15) (T_impl_order_isDownset_l1 o0 set0 r1 x15) h (fun s o h => b_impl_order_isDownset_l1 s o h) (by first | rfl | simp [restrict, look, mulN_one, V.fz, fzL, V.up, upL, fzL_map, fz_slr, fz_at, slr]) (by rintro (_ | _) <;> rfl) ?_
    rintro (⟨⟩ | ⟨⟩) h
    · try dsimp only at h
      conv => whnf
      cases h; exact ⟨rfl, rfl⟩
    · try dsimp only at h
      conv => whnf
      refine Ask.o h fun p13 h => ?_
      conv => whnf
      cases h; exact ⟨rfl, rfl⟩
  · conv => whnf
    cases h; exact ⟨rfl, rfl⟩

noncomputable def F_impl_order_isDownset (o0 : (List (List Bool))) (set0 : (List Int)) : Option Bool :=
  (F_impl_marks (set0) ((↑o0.length : Int))).bind fun r1 =>
  (loopO (F_impl_order_isDownset_l2 o0 set0 r1) (0 : Int)).bind fun t => match t with
  | (.inl _) => (some false)
  | (.inr _) => (some true)
theorem t_impl_order_isDownset {o0 : (List (List Bool))} {set0 : (List Int)} {v : Bool} (h : F_impl_order_isDownset o0 set0 = some v) : Ret Try.prog f_impl_order_isDownset [(slr false 1 (slr false 1 V.bool)) o0, (slr false 1 vint) set0] (V.bool v) := by
  refine ret_vc k_impl_order_isDownset (Nat.le_of_ble_eq_true rfl) ?_
  unfold F_impl_order_isDownset at h
  conv => whnf
  refine Len.map ?_
  conv => whnf
  refine CallQ.o (slr true 1 V.bool) (by first | rfl | simp only [mulN_one, V.fz, fzL, V.up, upL, fzL_map, fz_slr, fz_at, slr, List.cons_append, List.nil_append] | simp [mulN_one, V.fz, fzL, V.up, upL, fzL_map, fz_slr, fz_at, slr]) h (fun r h => t_impl_marks h) (fun r1 h => ?_)
  conv => whnf
  refine Len.map ?_
  conv => whnf
  refine LoopQ.o [15, 14, 13, 5, 0] (S_impl_order_isDownset_l2 o0 set0 r1) (T_impl_order_isDownset_l2 o0 set0 r1) h (fun s o h => b_impl_order_isDownset_l2 s o h) (by first | rfl | simp [restrict, look, mulN_one, V.fz, fzL, V.up, upL, fzL_map, fz_slr, fz_at, slr]) (by rintro (_ | _) <;> rfl) ?_
  rintro (⟨⟩ | ⟨⟩) h
  · try dsimp only at h
    conv => whnf
    cases h; exact (by first | rfl | simp only [resV, mulN_one, V.fz, fzL, V.up, upL, fzL_map, fz_slr, fz_at, slr] | simp [resV, mulN_one, V.fz, fzL, V.up, upL, fzL_map, fz_slr, fz_at, slr])
  · try dsimp only at h
    conv => whnf
    cases h; exact (by first | rfl | simp only [resV, mulN_one, V.fz, fzL, V.up, upL, fzL_map, fz_slr, fz_at, slr] | simp [resV, mulN_one, V.fz, fzL, V.up, upL, fzL_map, fz_slr, fz_at, slr])

noncomputable def F_laws_szPoset (a0 : SPoset) (left0 : Int) : Option Int :=
  (F_laws_szIntSS (a0.Below) (left0)).bind fun r1 =>
  if r1 < (0 : Int) then
   some (-1 : Int)
  else
   some r1
theorem t_laws_szPoset {a0 : SPoset} {left0 : Int} {v : Int} (h : F_laws_szPoset a0 left0 = some v) : Ret Try.prog f_laws_szPoset [(rS_Poset false) a0, vint left0] (vint v) := by
  refine ret_vc k_laws_szPoset (Nat.le_of_ble_eq_true rfl) ?_
  unfold F_laws_szPoset at h
  conv => whnf
  refine Cells.lit rfl rfl ?_
  conv => whnf
  refine CallQ.o vint (by first | rfl | simp only [mulN_one, V.fz, fzL, V.up, upL, fzL_map, fz_slr, fz_at, slr, List.cons_append, List.nil_append] | simp [mulN_one, V.fz, fzL, V.up, upL, fzL_map, fz_slr, fz_at, slr]) h (fun r h => t_laws_szIntSS h) (fun r1 h => ?_)
  conv => whnf
  refine Br.od h (fun p2 h => ?_) (fun p2 h => ?_)
  · conv => whnf
    cases h; exact (by first | rfl | simp only [resV, mulN_one, V.fz, fzL, V.up, upL, fzL_map, fz_slr, fz_at, slr] | simp [resV, mulN_one, V.fz, fzL, V.up, upL, fzL_map, fz_slr, fz_at, slr])
  · conv => whnf
    cases h; exact (by first | rfl | simp only [resV, mulN_one, V.fz, fzL, V.up, upL, fzL_map, fz_slr, fz_at, slr] | simp [resV, mulN_one, V.fz, fzL, V.up, upL, fzL_map, fz_slr, fz_at, slr])

noncomputable def F_laws_toPoset (a0 : SPoset) : Option SPoset :=
  (F_laws_toIntSS (a0.Below)).bind fun r1 =>
  some ({ Below := r1 })
theorem t_laws_toPoset {a0 : SPoset} {v : SPoset} (h : F_laws_toPoset a0 = some v) : Ret Try.prog f_laws_toPoset [(rS_Poset false) a0] ((rS_Poset true) v) := by
  refine ret_vc k_laws_toPoset (Nat.le_of_ble_eq_true rfl) ?_
  unfold F_laws_toPoset at h
  conv => whnf
  refine Cells.lit rfl rfl ?_
  conv => whnf
  refine CallQ.o (slr true 1 (slr true 1 vint)) (by first | rfl | simp only [mulN_one, V.fz, fzL, V.up, upL, fzL_map, fz_slr, fz_at, slr, List.cons_append, List.nil_append] | simp [mulN_one, V.fz, fzL, V.up, upL, fzL_map, fz_slr, fz_at, slr]) h (fun r h => t_laws_toIntSS h) (fun r1 h => ?_)
  conv => whnf
  refine SetKids.lit rfl ?_
  conv => whnf
  refine Cells.lit rfl rfl ?_
  conv => whnf
  refine SetKids.lit rfl ?_
  conv => whnf
  cases h; exact (by first | rfl | simp only [resV, mulN_one, V.fz, fzL, V.up, upL, fzL_map, fz_slr, fz_at, slr] | simp [resV, mulN_one, V.fz, fzL, V.up, upL, fzL_map, fz_slr, fz_at, slr])

noncomputable def F_laws_eqPoset (a0 : SPoset) (b0 : SPoset) : Option Bool :=
  (F_laws_eqIntSS (a0.Below) (b0.Below)).bind fun r1 =>
  if (r1) = true then
   some true
  else
   some false
theorem t_laws_eqPoset {a0 : SPoset} {b0 : SPoset} {v : Bool} (h : F_laws_eqPoset a0 b0 = some v) : Ret Try.prog f_laws_eqPoset [(rS_Poset false) a0, (rS_Poset false) b0] (V.bool v) := by
  refine ret_vc k_laws_eqPoset (Nat.le_of_ble_eq_true rfl) ?_
  unfold F_laws_eqPoset at h
  conv => whnf
  refine Cells.lit rfl rfl ?_
  conv => whnf
  refine Cells.lit rfl rfl ?_
  conv => whnf
  refine CallQ.o V.bool (by first | rfl | simp only [mulN_one, V.fz, fzL, V.up, upL, fzL_map, fz_slr, fz_at, slr, List.cons_append, List.nil_append] | simp [mulN_one, V.fz, fzL, V.up, upL, fzL_map, fz_slr, fz_at, slr]) h (fun r h => t_laws_eqIntSS h) (fun r1 h => ?_)
  conv => whnf
  refine Br.flip ?_
  conv => whnf
  refine Br.ob h (fun p2 h => ?_) (fun p2 h => ?_)
  · conv => whnf
    cases h; exact (by first | rfl | simp only [resV, mulN_one, V.fz, fzL, V.up, upL, fzL_map, fz_slr, fz_at, slr] | simp [resV, mulN_one, V.fz, fzL, V.up, upL, fzL_map, fz_slr, fz_at, slr])
  · conv => whnf
    cases h; exact (by first | rfl | simp only [resV, mulN_one, V.fz, fzL, V.up, upL, fzL_map, fz_slr, fz_at, slr] | simp [resV, mulN_one, V.fz, fzL, V.up, upL, fzL_map, fz_slr, fz_at, slr])

noncomputable def F_laws_markPoset (a0 : SPoset) (k0 : Int) : Option (Int × SPoset) :=
  (F_laws_markIntSS (a0.Below) (k0)).bind fun (r1, u2) =>
  some (r1, { Below := u2 })
theorem t_laws_markPoset {a0 : SPoset} {k0 : Int} {v : (Int × SPoset)} (h : F_laws_markPoset a0 k0 = some v) : RetO Try.prog f_laws_markPoset [(rS_Poset true) a0, vint k0] (vint v.1) 0 ((rS_Poset true) v.2) := by
  refine reto_vc k_laws_markPoset (Nat.le_of_ble_eq_true rfl) ?_
  unfold F_laws_markPoset at h
  conv => whnf
  refine Cells.lit rfl rfl ?_
  conv => whnf
  refine Kid.lit rfl rfl ?_
  conv => whnf
  refine CallQ.io vint (slr true 1 (slr true 1 vint)) (by first | rfl | simp only [mulN_one, V.fz, fzL, V.up, upL, fzL_map, fz_slr, fz_at, slr, List.cons_append, List.nil_append] | simp [mulN_one, V.fz, fzL, V.up, upL, fzL_map, fz_slr, fz_at, slr]) rfl (fun _ => rfl) (fun _ => ⟨rfl, rfl⟩) rfl h (fun r h => t_laws_markIntSS h) (fun r1 u2 h => ?_)
  conv => whnf
  refine Kid.lit rfl rfl ?_
  conv => whnf
  refine SetKids.lit rfl ?_
  conv => whnf
  cases h; exact ⟨(by first | rfl | simp only [resV, mulN_one, V.fz, fzL, V.up, upL, fzL_map, fz_slr, fz_at, slr] | simp [resV, mulN_one, V.fz, fzL, V.up, upL, fzL_map, fz_slr, fz_at, slr]), (by first | rfl | simp only [resV, mulN_one, V.fz, fzL, V.up, upL, fzL_map, fz_slr, fz_at, slr] | simp [resV, mulN_one, V.fz, fzL, V.up, upL, fzL_map, fz_slr, fz_at, slr])⟩

noncomputable def F_spec_l23Good_l1 (p0 : SPoset) : Int → Option (Int ⊕ (Unit ⊕ Unit)) := fun x4 =>
   if x4 < (↑p0.Below.length : Int) then
    ask ((0 : Int) ≤ x4 ∧ x4 < (↑p0.Below.length : Int)) <|
    ask (InI ((↑p0.Below.length : Int) - (1 : Int))) <|
    (F_spec_l1Rising (nth p0.Below x4.toNat) ((0 : Int)) ((↑p0.Below.length : Int) - (1 : Int))).bind fun r5 =>
    if (r5) = true then
     ask ((0 : Int) ≤ x4 ∧ x4 < (↑p0.Below.length : Int)) <|
     (F_spec_l1Has (nth p0.Below x4.toNat) (x4)).bind fun r8 =>
     if (r8) = true then
      ask (InI (x4 + (1 : Int))) <|
      some (.inl (x4 + (1 : Int)))
     else
      some (.inr (.inl ()))
    else
     some (.inr (.inl ()))
   else
    some (.inr (.inr ()))
def S_spec_l23Good_l1 (p0 : SPoset) : Int → St := fun s => [(4, A.val (vint s)), (3, A.val (vint ((↑p0.Below.length : Int)))), (1, A.val ((rP true (rS_Poset false)) (p0)))]
def T_spec_l23Good_l1 (p0 : SPoset) : (Unit ⊕ Unit) → Tgt
  | (.inl _s) => (Ex.ret, [2], [(2, A.val (V.bool (false)))])
  | (.inr _s) => ((Ex.exit 0), [3, 1], [(3, A.val (vint ((↑p0.Below.length : Int)))), (1, A.val ((rP true (rS_Poset false)) (p0)))])
theorem b_spec_l23Good_l1 {p0 : SPoset} (x4 : Int) (o : Int ⊕ (Unit ⊕ Unit)) (h : F_spec_l23Good_l1 p0 x4 = some o) : vc Try.prog c_spec_l23Good_l1 (outQ [4, 3, 1] (S_spec_l23Good_l1 p0) (T_spec_l23Good_l1 p0) o) (S_spec_l23Good_l1 p0 x4) := by
  unfold F_spec_l23Good_l1 at h
  try dsimp only at h
  conv => whnf
  refine Br.od h (fun p2 h => ?_) (fun p2 h => ?_)
  · conv => whnf
    refine Cells.lit rfl rfl ?_
    conv => whnf
    refine Len.map ?_
    conv => whnf
    refine Ask.o h fun p3 h => ?_
    conv => whnf
    refine Elem.o (by first | omega | (simp only [mulN] at *; omega) | (simp [mulN] at *; omega)) ?_
    conv => whnf
    refine Ask.o h fun p4 h => ?_
    conv => whnf
    refine CallQ.o V.bool (by first | rfl | simp only [mulN_one, V.fz, fzL, V.up, upL, fzL_map, fz_slr, fz_at, slr, List.cons_append, List.nil_append] | simp [mulN_one, V.fz, fzL, V.up, upL, fzL_map, fz_slr, fz_at, slr]) h (fun r h => t_spec_l1Rising h) (fun r5 h => ?_)
    conv => whnf
    refine Br.flip ?_
    conv => whnf
    refine Br.ob h (fun p6 h => ?_) (fun p6 h => ?_)
    · conv => whnf
      refine Br.no ?_
      conv => whnf
      refine Cells.lit rfl rfl ?_
      conv => whnf
      refine Br.no ?_
      conv => whnf
      refine Br.no ?_
      conv => whnf
      refine Len.map ?_
      conv => whnf
      refine Ask.o h fun p7 h => ?_
      conv => whnf
      refine Elem.o (by first | omega | (simp only [mulN] at *; omega) | (simp [mulN] at *; omega)) ?_
      conv => whnf
      refine Br.no ?_
      conv => whnf
      refine Br.no ?_
      conv => whnf
      refine Br.no ?_
      conv => whnf
      refine CallQ.o V.bool (by first | rfl | simp only [mulN_one, V.fz, fzL, V.up, upL, fzL_map, fz_slr, fz_at, slr, List.cons_append, List.nil_append] | simp [mulN_one, V.fz, fzL, V.up, upL, fzL_map, fz_slr, fz_at, slr]) h (fun r h => t_spec_l1Has h) (fun r8 h => ?_)
      conv => whnf
      refine Br.no ?_
      conv => whnf
      refine Br.no ?_
      conv => whnf
      refine Br.flip ?_
      conv => whnf
      refine Br.ob h (fun p9 h => ?_) (fun p9 h => ?_)
      · conv => whnf
        refine Ask.o h fun p10 h => ?_
        conv => whnf
        cases h; exact ⟨rfl, rfl⟩
      · conv => whnf
        cases h; exact ⟨rfl, rfl⟩
    · conv => whnf
      refine Br.yes ?_
      conv => whnf
      refine Br.yes ?_
      conv => whnf
      refine Br.yes ?_
      conv => whnf
      refine Br.yes ?_
      conv => whnf
      refine Br.yes ?_
      conv => whnf
      refine Br.yes ?_
      conv => whnf
      refine Br.yes ?_
      conv => whnf
      refine Br.yes ?_
      conv => whnf
      refine Br.yes ?_
      conv => whnf
      cases h; exact ⟨rfl, rfl⟩
  · conv => whnf
    cases h; exact ⟨rfl, rfl⟩

noncomputable def F_spec_l23Good_l2 (p0 : SPoset) (x5 : Int) : Int → Option (Int ⊕ (Unit ⊕ Unit)) := fun x6 =>
   ask ((0 : Int) ≤ x5 ∧ x5 < (↑p0.Below.length : Int)) <|
   if x6 < (↑(nth p0.Below x5.toNat).length : Int) then
    ask ((0 : Int) ≤ x5 ∧ x5 < (↑p0.Below.length : Int)) <|
    ask ((0 : Int) ≤ x6 ∧ x6 < (↑(nth p0.Below x5.toNat).length : Int)) <|
    if nth (nth p0.Below x5.toNat) x6.toNat ≠ x5 then
     ask ((0 : Int) ≤ nth (nth p0.Below x5.toNat) x6.toNat ∧ nth (nth p0.Below x5.toNat) x6.toNat < (↑p0.Below.length : Int)) <|
     (F_spec_l1Has (nth p0.Below (nth (nth p0.Below x5.toNat) x6.toNat).toNat) (x5)).bind fun r19 =>
     if (r19) = true then
      some (.inr (.inl ()))
     else
      ask ((0 : Int) ≤ nth (nth p0.Below x5.toNat) x6.toNat ∧ nth (nth p0.Below x5.toNat) x6.toNat < (↑p0.Below.length : Int)) <|
      ask ((0 : Int) ≤ x5 ∧ x5 < (↑p0.Below.length : Int)) <|
      (F_spec_l5Within (nth p0.Below (nth (nth p0.Below x5.toNat) x6.toNat).toNat) (nth p0.Below x5.toNat)).bind fun r23 =>
      if (r23) = true then
       ask (InI (x6 + (1 : Int))) <|
       some (.inl (x6 + (1 : Int)))
      else
       some (.inr (.inl ()))
    else
     ask ((0 : Int) ≤ nth (nth p0.Below x5.toNat) x6.toNat ∧ nth (nth p0.Below x5.toNat) x6.toNat < (↑p0.Below.length : Int)) <|
     ask ((0 : Int) ≤ x5 ∧ x5 < (↑p0.Below.length : Int)) <|
     (F_spec_l5Within (nth p0.Below (nth (nth p0.Below x5.toNat) x6.toNat).toNat) (nth p0.Below x5.toNat)).bind fun r28 =>
     if (r28) = true then
      ask (InI (x6 + (1 : Int))) <|
      some (.inl (x6 + (1 : Int)))
     else
      some (.inr (.inl ()))
   else
    some (.inr (.inr ()))
def S_spec_l23Good_l2 (p0 : SPoset) (x5 : Int) : Int → St := fun s => [(6, A.val (vint s)), (5, A.val (vint (x5))), (3, A.val (vint ((↑p0.Below.length : Int)))), (1, A.val ((rP true (rS_Poset false)) (p0)))]
def T_spec_l23Good_l2 (p0 : SPoset) (x5 : Int) : (Unit ⊕ Unit) → Tgt
  | (.inl _s) => (Ex.ret, [2], [(2, A.val (V.bool (false)))])
  | (.inr _s) => ((Ex.exit 4), [5, 3, 1], [(5, A.val (vint (x5))), (3, A.val (vint ((↑p0.Below.length : Int)))), (1, A.val ((rP true (rS_Poset false)) (p0)))])
theorem b_spec_l23Good_l2 {p0 : SPoset} {x5 : Int} (x6 : Int) (o : Int ⊕ (Unit ⊕ Unit)) (h : F_spec_l23Good_l2 p0 x5 x6 = some o) : vc Try.prog c_spec_l23Good_l2 (outQ [6, 5, 3, 1] (S_spec_l23Good_l2 p0 x5) (T_spec_l23Good_l2 p0 x5) o) (S_spec_l23Good_l2 p0 x5 x6) := by
  unfold F_spec_l23Good_l2 at h
  try dsimp only at h
  conv => whnf
  refine Cells.lit rfl rfl ?_
  conv => whnf
  refine Len.map ?_
  conv => whnf
  refine Ask.o h fun p13 h => ?_
  conv => whnf
  refine Elem.o (by first | omega | (simp only [mulN] at *; omega) | (simp [mulN] at *; omega)) ?_
  conv => whnf
  refine Len.map ?_
  conv => whnf
  refine Br.od h (fun p14 h => ?_) (fun p14 h => ?_)
  · conv => whnf
    refine Cells.lit rfl rfl ?_
    conv => whnf
    refine Len.map ?_
    conv => whnf
    refine Ask.o h fun p15 h => ?_
    conv => whnf
    refine Elem.o (by first | omega | (simp only [mulN] at *; omega) | (simp [mulN] at *; omega)) ?_
    conv => whnf
    refine Len.map ?_
    conv => whnf
    refine Ask.o h fun p16 h => ?_
    conv => whnf
    refine Elem.o (by first | omega | (simp only [mulN] at *; omega) | (simp [mulN] at *; omega)) ?_
    conv => whnf
    refine Br.on h (fun p17 h => ?_) (fun p17 h => ?_)
    · conv => whnf
      refine Br.yes ?_
      conv => whnf
      refine Cells.lit rfl rfl ?_
      conv => whnf
      refine Br.yes ?_
      conv => whnf
      refine Br.yes ?_
      conv => whnf
      refine Len.map ?_
      conv => whnf
      refine Ask.o h fun p18 h => ?_
      conv => whnf
      refine Elem.o (by first | omega | (simp only [mulN] at *; omega) | (simp [mulN] at *; omega)) ?_
      conv => whnf
      refine Br.yes ?_
      conv => whnf
      refine Br.yes ?_
      conv => whnf
      refine Br.yes ?_
      conv => whnf
      refine CallP.o V.bool (by first | rfl | simp only [mulN_one, V.fz, fzL, V.up, upL, fzL_map, fz_slr, fz_at, slr, List.cons_append, List.nil_append] | simp [mulN_one, V.fz, fzL, V.up, upL, fzL_map, fz_slr, fz_at, slr]) h (fun r h => t_spec_l1Has h) (fun r19 h => ?_)
      conv => whnf
      refine Br.yes ?_
      conv => whnf
      refine Br.ob h (fun p20 h => ?_) (fun p20 h => ?_)
      · conv => whnf
        refine Br.yes ?_
        conv => whnf
        refine Br.yes ?_
        conv => whnf
        refine Br.yes ?_
        conv => whnf
        refine Br.yes ?_
        conv => whnf
        refine Br.yes ?_
        conv => whnf
        refine Br.yes ?_
        conv => whnf
        refine Br.yes ?_
        conv => whnf
        refine Br.yes ?_
        conv => whnf
        refine Br.yes ?_
        conv => whnf
        refine Br.yes ?_
        conv => whnf
        refine Br.yes ?_
        conv => whnf
        refine Br.yes ?_
        conv => whnf
        refine Br.yes ?_
        conv => whnf
        cases h; exact ⟨rfl, rfl⟩
      · conv => whnf
        refine Br.no ?_
        conv => whnf
        refine Cells.lit rfl rfl ?_
        conv => whnf
        refine Br.no ?_
        conv => whnf
        refine Br.no ?_
        conv => whnf
        refine Len.map ?_
        conv => whnf
        refine Ask.o h fun p21 h => ?_
        conv => whnf
        refine Elem.o (by first | omega | (simp only [mulN] at *; omega) | (simp [mulN] at *; omega)) ?_
        conv => whnf
        refine Br.no ?_
        conv => whnf
        refine Br.no ?_
        conv => whnf
        refine Br.no ?_
        conv => whnf
        refine Cells.lit rfl rfl ?_
        conv => whnf
        refine Br.no ?_
        conv => whnf
        refine Br.no ?_
        conv => whnf
        refine Len.map ?_
        conv => whnf
        refine Ask.o h fun p22 h => ?_
        conv => whnf
        refine Elem.o (by first | omega | (simp only [mulN] at *; omega) | (simp [mulN] at *; omega)) ?_
        conv => whnf
        refine Br.no ?_
        conv => whnf
        refine Br.no ?_
        conv => whnf
        refine CallQ.o V.bool (by first | rfl | simp only [mulN_one, V.fz, fzL, V.up, upL, fzL_map, fz_slr, fz_at, slr, List.cons_append, List.nil_append] | simp [mulN_one, V.fz, fzL, V.up, upL, fzL_map, fz_slr, fz_at, slr]) h (fun r h => t_spec_l5Within h) (fun r23 h => ?_)
        conv => whnf
        refine Br.no ?_
        conv => whnf
        refine Br.no ?_
        conv => whnf
        refine Br.flip ?_
        conv => whnf
        refine Br.ob h (fun p24 h => ?_) (fun p24 h => ?_)
        · conv => whnf
          refine Ask.o h fun p25 h => ?_
          conv => whnf
          cases h; exact ⟨rfl, rfl⟩
        · conv => whnf
          cases h; exact ⟨rfl, rfl⟩
    · conv => whnf
      refine Br.no ?_
      conv => whnf
      refine Br.no ?_
      conv => whnf
      refine Br.no ?_
      conv => whnf
      refine Br.no ?_
      conv => whnf
      refine Br.no ?_
      conv => whnf
      refine Br.no ?_
      conv => whnf
      refine Br.no ?_
      conv => whnf
      refine Br.no ?_
      conv => whnf
      refine Br.no ?_
      conv => whnf
      refine Cells.lit rfl rfl ?_
      conv => whnf
      refine Br.no ?_
      conv => whnf
      refine Br.no ?_
      conv => whnf
      refine Len.map ?_
      conv => whnf
      refine Ask.o h fun p26 h => ?_
      conv => whnf
      refine Elem.o (by first | omega | (simp only [mulN] at *; omega) | (simp [mulN] at *; omega)) ?_
      conv => whnf
      refine Br.no ?_
      conv => whnf
      refine Br.no ?_
      conv => whnf
      refine Br.no ?_
      conv => whnf
      refine Cells.lit rfl rfl ?_
      conv => whnf
      refine Br.no ?_
      conv => whnf
      refine Br.no ?_
      conv => whnf
      refine Len.map ?_
      conv => whnf
      refine Ask.o h fun p27 h => ?_
      conv => whnf
      refine Elem.o (by first | omega | (simp only [mulN] at *; omega) | (simp [mulN] at *; omega)) ?_
      conv => whnf
      refine Br.no ?_
      conv => whnf
      refine Br.no ?_
      conv => whnf
      refine CallQ.o V.bool (by first | rfl | simp only [mulN_one, V.fz, fzL, V.up, upL, fzL_map, fz_slr, fz_at, slr, List.cons_append, List.nil_append] | simp [mulN_one, V.fz, fzL, V.up, upL, fzL_map, fz_slr, fz_at, slr]) h (fun r h => t_spec_l5Within h) (fun r28 h => ?_)
      conv => whnf
      refine Br.no ?_
      conv => whnf
      refine Br.no ?_
      conv => whnf
      refine Br.flip ?_
      conv => whnf
      refine Br.ob h (fun p29 h => ?_) (fun p29 h => ?_)
      · conv => whnf
        refine Ask.o h fun p30 h => ?_
        conv => whnf
        cases h; exact ⟨rfl, rfl⟩
      · conv => whnf
        cases h; exact ⟨rfl, rfl⟩
  · conv => whnf
    cases h; exact ⟨rfl, rfl⟩

noncomputable def F_spec_l23Good_l3 (p0 : SPoset) : Int → Option (Int ⊕ (Unit ⊕ Unit)) := fun x5 =>
   if x5 < (↑p0.Below.length : Int) then
    (loopO (F_spec_l23Good_l2 p0 x5) (0 : Int)).bind fun t => match t with
    | (.inl _) => (some (.inr (.inl ())))
    | (.inr _) => (ask (InI (x5 + (1 : Int))) <|
      some (.inl (x5 + (1 : Int))))
   else
    some (.inr (.inr ()))
def S_spec_l23Good_l3 (p0 : SPoset) : Int → St := fun s => [(5, A.val (vint s)), (3, A.val (vint ((↑p0.Below.length : Int)))), (1, A.val ((rP true (rS_Poset false)) (p0)))]
def T_spec_l23Good_l3 (_p0 : SPoset) : (Unit ⊕ Unit) → Tgt
  | (.inl _s) => (Ex.ret, [2], [(2, A.val (V.bool (false)))])
  | (.inr _s) => ((Ex.exit 2), [], [])
theorem b_spec_l23Good_l3 {p0 : SPoset} (x5 : Int) (o : Int ⊕ (Unit ⊕ Unit)) (h : F_spec_l23Good_l3 p0 x5 = some o) : vc Try.prog c_spec_l23Good_l3 (outQ [5, 3, 1] (S_spec_l23Good_l3 p0) (T_spec_l23Good_l3 p0) o) (S_spec_l23Good_l3 p0 x5) := by
  unfold F_spec_l23Good_l3 at h
  try dsimp only at h
  conv => whnf
  refine Br.od h (fun p12 h => ?_) (fun p12 h => ?_)
  · conv => whnf
    refine LoopQ.o [6, 5, 3, 1] (S_spec_l23Good_l2 p0 x5) (T_spec_l23Good_l2 p0 x5) h (fun s o h => b_spec_l23Good_l2 s o h) (by first | rfl | simp [restrict, look, mulN_one, V.fz, fzL, V.up, upL, fzL_map, fz_slr, fz_at, slr]) (by rintro (_ | _) <;> rfl) ?_
    rintro (⟨⟩ | ⟨⟩) h
    · try dsimp only at h
      conv => whnf
      cases h; exact ⟨rfl, rfl⟩
    · try dsimp only at h
      conv => whnf
      refine Ask.o h fun p32 h => ?_
      conv => whnf
      cases h; exact ⟨rfl, rfl⟩
  · conv => whnf
    cases h; exact ⟨rfl, rfl⟩

noncomputable def F_spec_l23Good (p0 : SPoset) : Option Bool :=
  if (↑p0.Below.length : Int) > (10 : Int) then
   some false
  else
   (loopO (F_spec_l23Good_l1 p0) (0 : Int)).bind fun t => match t with
   | (.inl _) => (some false)
   | (.inr _) => ((loopO (F_spec_l23Good_l3 p0) (0 : Int)).bind fun t => match t with
     | (.inl _) => (some false)
     | (.inr _) => (some true))
theorem t_spec_l23Good {p0 : SPoset} {v : Bool} (h : F_spec_l23Good p0 = some v) : Ret Try.prog f_spec_l23Good [(rS_Poset false) p0] (V.bool v) := by
  refine ret_vc k_spec_l23Good (Nat.le_of_ble_eq_true rfl) ?_
  unfold F_spec_l23Good at h
  conv => whnf
  refine Cells.lit rfl rfl ?_
  conv => whnf
  refine Len.map ?_
  conv => whnf
  refine Br.od h (fun p1 h => ?_) (fun p1 h => ?_)
  · conv => whnf
    cases h; exact (by first | rfl | simp only [resV, mulN_one, V.fz, fzL, V.up, upL, fzL_map, fz_slr, fz_at, slr] | simp [resV, mulN_one, V.fz, fzL, V.up, upL, fzL_map, fz_slr, fz_at, slr])
  · conv => whnf
    refine LoopQ.o [4, 3, 1] (S_spec_l23Good_l1 p0) (T_spec_l23Good_l1 p0) h (fun s o h => b_spec_l23Good_l1 s o h) (by first | rfl | simp [restrict, look, mulN_one, V.fz, fzL, V.up, upL, fzL_map, fz_slr, fz_at, slr]) (by rintro (_ | _) <;> rfl) ?_
    rintro (⟨⟩ | ⟨⟩) h
    · try dsimp only at h
      conv => whnf
      cases h; exact (by first | rfl | simp only [resV, mulN_one, V.fz, fzL, V.up, upL, fzL_map, fz_slr, fz_at, slr] | simp [resV, mulN_one, V.fz, fzL, V.up, upL, fzL_map, fz_slr, fz_at, slr])
    · try dsimp only at h
      conv => whnf
      refine LoopQ.o [5, 3, 1] (S_spec_l23Good_l3 p0) (T_spec_l23Good_l3 p0) h (fun s o h => b_spec_l23Good_l3 s o h) (by first | rfl | simp [restrict, look, mulN_one, V.fz, fzL, V.up, upL, fzL_map, fz_slr, fz_at, slr]) (by rintro (_ | _) <;> rfl) ?_
      rintro (⟨⟩ | ⟨⟩) h
      · try dsimp only at h
        conv => whnf
        cases h; exact (by first | rfl | simp only [resV, mulN_one, V.fz, fzL, V.up, upL, fzL_map, fz_slr, fz_at, slr] | simp [resV, mulN_one, V.fz, fzL, V.up, upL, fzL_map, fz_slr, fz_at, slr])
      · try dsimp only at h
        conv => whnf
        cases h; exact (by first | rfl | simp only [resV, mulN_one, V.fz, fzL, V.up, upL, fzL_map, fz_slr, fz_at, slr] | simp [resV, mulN_one, V.fz, fzL, V.up, upL, fzL_map, fz_slr, fz_at, slr])

noncomputable def F_spec_l23Downsets_l1 (p0 : SPoset) : (Int × (List (List Int))) → Option ((Int × (List (List Int))) ⊕ (List (List Int))) := fun (x4, x3) =>
   ask ((0 : Int) ≤ (↑p0.Below.length : Int)) <|
   if x4 < shlI (1 : Int) (↑p0.Below.length : Int) then
    (F_spec_l5Bits (x4)).bind fun r3 =>
    (F_spec_l23Down (p0) (r3)).bind fun r4 =>
    (F_spec_l1Same (r4) (r3)).bind fun r5 =>
    if (r5) = true then
     (F_spec_l5Sort (x3) (r3)).bind fun r7 =>
     ask (InI (x4 + (1 : Int))) <|
     some (.inl (x4 + (1 : Int), r7))
    else
     ask (InI (x4 + (1 : Int))) <|
     some (.inl (x4 + (1 : Int), x3))
   else
    some (.inr x3)
def S_spec_l23Downsets_l1 (p0 : SPoset) : (Int × (List (List Int))) → St := fun s => [(4, A.val (vint s.1)), (3, A.val ((slr true 1 (slr false 1 vint)) s.2)), (1, A.val ((rP true (rS_Poset false)) (p0)))]
def T_spec_l23Downsets_l1 (_p0 : SPoset) : (List (List Int)) → Tgt
  | s => ((Ex.exit 0), [3], [(3, A.val ((slr true 1 (slr false 1 vint)) s))])
theorem b_spec_l23Downsets_l1 {p0 : SPoset} (s : (Int × (List (List Int)))) (o : (Int × (List (List Int))) ⊕ (List (List Int))) (h : F_spec_l23Downsets_l1 p0 s = some o) : vc Try.prog c_spec_l23Downsets_l1 (outQ [4, 3, 1] (S_spec_l23Downsets_l1 p0) (T_spec_l23Downsets_l1 p0) o) (S_spec_l23Downsets_l1 p0 s) := by
  obtain ⟨x4, x3⟩ := s
  unfold F_spec_l23Downsets_l1 at h
  try dsimp only at h
  conv => whnf
  refine Cells.lit rfl rfl ?_
  conv => whnf
  refine Len.map ?_
  conv => whnf
  refine Ask.o h fun p1 h => ?_
  conv => whnf
  refine Br.od h (fun p2 h => ?_) (fun p2 h => ?_)
  · conv => whnf
    refine CallQ.o (slr true 1 vint) (by first | rfl | simp only [mulN_one, V.fz, fzL, V.up, upL, fzL_map, fz_slr, fz_at, slr, List.cons_append, List.nil_append] | simp [mulN_one, V.fz, fzL, V.up, upL, fzL_map, fz_slr, fz_at, slr]) h (fun r h => t_spec_l5Bits h) (fun r3 h => ?_)
    conv => whnf
    refine Cells.lit rfl rfl ?_
    conv => whnf
    refine CallQ.rd (slr true 1 vint) (by first | rfl | simp only [V.fz, fzL, fzL_map, slr] | simp [mulN_one, V.fz, fzL, V.up, upL, fzL_map, fz_slr, fz_at, slr]) (fun _ => by simp [V.noFz, noFzL_map]) h (fun r h => t_spec_l23Down h) (fun r4 h => ?_)
    conv => whnf
    refine CallQ.rd V.bool (by first | rfl | simp only [V.fz, fzL_map, slr] | simp [mulN_one, V.fz, fzL, V.up, upL, fzL_map, fz_slr, fz_at, slr]) (fun _ => rfl) h (fun r h => t_spec_l1Same h) (fun r5 h => ?_)
    conv => whnf
    refine Br.ob h (fun p6 h => ?_) (fun p6 h => ?_)
    · conv => whnf
      refine FrzQ.z ?_
      conv => whnf
      refine FrzQ.z ?_
      conv => whnf
      refine CallQ.o (slr true 1 (slr false 1 vint)) (by first | rfl | simp only [V.fz, V.up, fzL_map, slr] | simp [mulN_one, V.fz, fzL, V.up, upL, fzL_map, fz_slr, fz_at, slr]) h (fun r h => t_spec_l5Sort h) (fun r7 h => ?_)
      conv => whnf
      refine Ask.o h fun p8 h => ?_
      conv => whnf
      cases h; exact ⟨rfl, rfl⟩
    · conv => whnf
      refine Ask.o h fun p9 h => ?_
      conv => whnf
      cases h; exact ⟨rfl, rfl⟩
  · conv => whnf
    cases h; exact ⟨rfl, rfl⟩

noncomputable def F_spec_l23Downsets (p0 : SPoset) : Option (List (List Int)) :=
  (loopO (F_spec_l23Downsets_l1 p0) ((0 : Int), nilL (List Int))).bind fun q10_3 =>
  some q10_3
theorem t_spec_l23Downsets {p0 : SPoset} {v : (List (List Int))} (h : F_spec_l23Downsets p0 = some v) : Ret Try.prog f_spec_l23Downsets [(rS_Poset false) p0] ((slr true 1 (slr false 1 vint)) v) := by
  refine ret_vc k_spec_l23Downsets (Nat.le_of_ble_eq_true rfl) ?_
  unfold F_spec_l23Downsets at h
  conv => whnf
  refine BslQ.o (slr true 1 vint) (nilL (List Int)) (by exact fun _ => ⟨rfl, rfl⟩) (by first | rfl | simp only [mulN_one, V.fz, fzL, V.up, upL, fzL_map, fz_slr, fz_at, slr, List.cons_append, List.nil_append] | simp [mulN_one, V.fz, fzL, V.up, upL, fzL_map, fz_slr, fz_at, slr]) ?_
  conv => whnf
  refine LoopQ.o [4, 3, 1] (S_spec_l23Downsets_l1 p0) (T_spec_l23Downsets_l1 p0) h (fun s o h => b_spec_l23Downsets_l1 s o h) (by first | rfl | simp [restrict, look, mulN_one, V.fz, fzL, V.up, upL, fzL_map, fz_slr, fz_at, slr]) (fun _ => rfl) ?_
  rintro q10_3 h
  try dsimp only at h
  conv => whnf
  cases h; exact (by first | rfl | simp only [resV, mulN_one, V.fz, fzL, V.up, upL, fzL_map, fz_slr, fz_at, slr] | simp [resV, mulN_one, V.fz, fzL, V.up, upL, fzL_map, fz_slr, fz_at, slr])

noncomputable def F_impl_order_downsets_l1 (o0 : List (List Bool)) : (Int × (List (List Int))) → Option ((Int × (List (List Int))) ⊕ (List (List Int))) := fun (x4, x3) =>
   ask ((0 : Int) ≤ (↑o0.length : Int)) <|
   if x4 < shlI (1 : Int) (↑o0.length : Int) then
    (F_impl_bitsOf (x4)).bind fun r3 =>
    (F_impl_order_isDownset (o0) (r3)).bind fun r4 =>
    if (r4) = true then
     ask ((x3).length + ([r3]).length ≤ LIM) <|
     ask (InI (x4 + (1 : Int))) <|
     some (.inl (x4 + (1 : Int), x3 ++ [r3]))
    else
     ask (InI (x4 + (1 : Int))) <|
     some (.inl (x4 + (1 : Int), x3))
   else
    some (.inr x3)
def S_impl_order_downsets_l1 (o0 : List (List Bool)) : (Int × (List (List Int))) → St := fun s => [(4, A.val (vint s.1)), (3, A.val ((slr true 1 (slr true 1 vint)) s.2)), (0, A.val ((slr false 1 (slr false 1 V.bool)) (o0)))]
def T_impl_order_downsets_l1 (_o0 : List (List Bool)) : (List (List Int)) → Tgt
  | s => ((Ex.exit 0), [3], [(3, A.val ((slr true 1 (slr true 1 vint)) s))])
theorem b_impl_order_downsets_l1 {o0 : List (List Bool)} (s : (Int × (List (List Int)))) (o : (Int × (List (List Int))) ⊕ (List (List Int))) (h : F_impl_order_downsets_l1 o0 s = some o) : vc Try.prog c_impl_order_downsets_l1 (outQ [4, 3, 0] (S_impl_order_downsets_l1 o0) (T_impl_order_downsets_l1 o0) o) (S_impl_order_downsets_l1 o0 s) := by
  obtain ⟨x4, x3⟩ := s
  unfold F_impl_order_downsets_l1 at h
  try dsimp only at h
  conv => whnf
  refine Len.map ?_
  conv => whnf
  refine Ask.o h fun p1 h => ?_
  conv => whnf
  refine Br.od h (fun p2 h => ?_) (fun p2 h => ?_)
  · conv => whnf
    refine CallQ.o (slr true 1 vint) (by first | rfl | simp only [mulN_one, V.fz, fzL, V.up, upL, fzL_map, fz_slr, fz_at, slr, List.cons_append, List.nil_append] | simp [mulN_one, V.fz, fzL, V.up, upL, fzL_map, fz_slr, fz_at, slr]) h (fun r h => t_impl_bitsOf h) (fun r3 h => ?_)
    conv => whnf
    refine CallQ.rd V.bool (by first | rfl | simp only [V.fz, V.up, fzL_map, slr] | simp [mulN_one, V.fz, fzL, V.up, upL, fzL_map, fz_slr, fz_at, slr]) (fun _ => rfl) h (fun r h => t_impl_order_isDownset h) (fun r4 h => ?_)
    conv => whnf
    refine Br.ob h (fun p5 h => ?_) (fun p5 h => ?_)
    · conv => whnf
      refine BslQ.o (slr true 1 vint) [r3] (by exact fun _ => ⟨rfl, rfl⟩) (by first | rfl | simp only [mulN_one, V.fz, fzL, V.up, upL, fzL_map, fz_slr, fz_at, slr, List.cons_append, List.nil_append] | simp [mulN_one, V.fz, fzL, V.up, upL, fzL_map, fz_slr, fz_at, slr]) ?_
      conv => whnf
      refine NoOwn.own rfl ?_
      conv => whnf
      refine AppQ.o (m := 1) (slr true 1 vint) (by exact fun _ => ⟨rfl, rfl⟩) (x3) ([r3]) (by first | rfl | simp only [mulN_one, V.fz, fzL, V.up, upL, fzL_map, fz_slr, fz_at, slr, List.cons_append, List.nil_append] | simp [mulN_one, V.fz, fzL, V.up, upL, fzL_map, fz_slr, fz_at, slr]) (by first | rfl | simp only [mulN_one, V.fz, fzL, V.up, upL, fzL_map, fz_slr, fz_at, slr, List.cons_append, List.nil_append] | simp [mulN_one, V.fz, fzL, V.up, upL, fzL_map, fz_slr, fz_at, slr]) h fun h => ?_
      conv => whnf
      refine Ask.o h fun p6 h => ?_
      conv => whnf
      cases h; exact ⟨rfl, rfl⟩
    · conv => whnf
      refine Ask.o h fun p7 h => ?_
      conv => whnf
      cases h; exact ⟨rfl, rfl⟩
  · conv => whnf
    cases h; exact ⟨rfl, rfl⟩

noncomputable def F_impl_order_downsets (o0 : (List (List Bool))) : Option (List (List Int)) :=
  (loopO (F_impl_order_downsets_l1 o0) ((0 : Int), nilL (List Int))).bind fun q8_3 =>
  (F_impl_sortRows (q8_3) (fun w_0 w_1 => F_impl_compareTerms w_0 w_1)).bind fun (_r9, u10) =>
  some u10
theorem t_impl_order_downsets {o0 : (List (List Bool))} {v : (List (List Int))} (h : F_impl_order_downsets o0 = some v) : Ret Try.prog f_impl_order_downsets [(slr false 1 (slr false 1 V.bool)) o0] ((slr true 1 (slr true 1 vint)) v) := by
  refine ret_vc k_impl_order_downsets (Nat.le_of_ble_eq_true rfl) ?_
  unfold F_impl_order_downsets at h
  conv => whnf
  refine BslQ.o (slr true 1 vint) (nilL (List Int)) (by exact fun _ => ⟨rfl, rfl⟩) (by first | rfl | simp only [mulN_one, V.fz, fzL, V.up, upL, fzL_map, fz_slr, fz_at, slr, List.cons_append, List.nil_append] | simp [mulN_one, V.fz, fzL, V.up, upL, fzL_map, fz_slr, fz_at, slr]) ?_
  conv => whnf
  refine LoopQ.o [4, 3, 0] (S_impl_order_downsets_l1 o0) (T_impl_order_downsets_l1 o0) h (fun s o h => b_impl_order_downsets_l1 s o h) (by first | rfl | simp [restrict, look, mulN_one, V.fz, fzL, V.up, upL, fzL_map, fz_slr, fz_at, slr]) (fun _ => rfl) ?_
  rintro q8_3 h
  try dsimp only at h
  conv => whnf
  refine CallQ.io (fun r => V.tup []) (slr true 1 (slr true 1 vint)) (by first | rfl | simp only [mulN_one, V.fz, fzL, V.up, upL, fzL_map, fz_slr, fz_at, slr, List.cons_append, List.nil_append] | simp [mulN_one, V.fz, fzL, V.up, upL, fzL_map, fz_slr, fz_at, slr]) rfl (fun _ => rfl) (fun _ => ⟨rfl, rfl⟩) rfl h (fun r h => t_impl_sortRows (f_order0 := f_impl_compareTerms) (c_order0 := []) (fun w_0 w_1 v h => Ret.cast (by first | rfl | simp only [mulN_one, V.fz, fzL, V.up, upL, fzL_map, fz_slr, fz_at, slr, List.cons_append, List.nil_append] | simp [mulN_one, V.fz, fzL, V.up, upL, fzL_map, fz_slr, fz_at, slr]) (t_impl_compareTerms h)) h) (fun r9 u10 h => ?_)
  conv => whnf
  cases h; exact (by first | rfl | simp only [resV, mulN_one, V.fz, fzL, V.up, upL, fzL_map, fz_slr, fz_at, slr] | simp [resV, mulN_one, V.fz, fzL, V.up, upL, fzL_map, fz_slr, fz_at, slr])

noncomputable def F_spec_DownsetsOf (p0 : SPoset) : Option ((List (List Int)) × Bool) :=
  (F_spec_l23Good (p0)).bind fun r1 =>
  if (r1) = true then
   (F_spec_l23Downsets (p0)).bind fun r3 =>
   some (r3, true)
  else
   some (nilL (List Int), false)
theorem t_spec_DownsetsOf {p0 : SPoset} {v : ((List (List Int)) × Bool)} (h : F_spec_DownsetsOf p0 = some v) : Ret Try.prog f_spec_DownsetsOf [(rS_Poset false) p0] ((fun r => V.tup [(slr false 1 (slr false 1 vint)) r.1, V.bool r.2]) v) := by
  refine retfz_vc k_spec_DownsetsOf (Nat.le_of_ble_eq_true rfl) ?_
  unfold F_spec_DownsetsOf at h
  conv => whnf
  refine Cells.lit rfl rfl ?_
  conv => whnf
  refine CallQ.o V.bool (by first | rfl | simp only [mulN_one, V.fz, fzL, V.up, upL, fzL_map, fz_slr, fz_at, slr, List.cons_append, List.nil_append] | simp [mulN_one, V.fz, fzL, V.up, upL, fzL_map, fz_slr, fz_at, slr]) h (fun r h => t_spec_l23Good h) (fun r1 h => ?_)
  conv => whnf
  refine Br.flip ?_
  conv => whnf
  refine Br.ob h (fun p2 h => ?_) (fun p2 h => ?_)
  · conv => whnf
    refine Cells.lit rfl rfl ?_
    conv => whnf
    refine CallQ.o (slr true 1 (slr false 1 vint)) (by first | rfl | simp only [mulN_one, V.fz, fzL, V.up, upL, fzL_map, fz_slr, fz_at, slr, List.cons_append, List.nil_append] | simp [mulN_one, V.fz, fzL, V.up, upL, fzL_map, fz_slr, fz_at, slr]) h (fun r h => t_spec_l23Downsets h) (fun r3 h => ?_)
    conv => whnf
    cases h; exact (by first | rfl | simp only [resV, V.fz, fzL, V.up, fzL_map, slr] | simp [resV, mulN_one, V.fz, fzL, V.up, upL, fzL_map, fz_slr, fz_at, slr])
  · conv => whnf
    refine BslQ.o (slr true 1 vint) (nilL (List Int)) (by exact fun _ => ⟨rfl, rfl⟩) (by first | rfl | simp only [mulN_one, V.fz, fzL, V.up, upL, fzL_map, fz_slr, fz_at, slr, List.cons_append, List.nil_append] | simp [mulN_one, V.fz, fzL, V.up, upL, fzL_map, fz_slr, fz_at, slr]) ?_
    conv => whnf
    cases h; exact (by first | rfl | simp only [resV, mulN_one, V.fz, fzL, V.up, upL, fzL_map, fz_slr, fz_at, slr] | simp [resV, mulN_one, V.fz, fzL, V.up, upL, fzL_map, fz_slr, fz_at, slr])

noncomputable def F_impl_DownsetsOf (p0 : SPoset) : Option ((List (List Int)) × Bool) :=
  (F_impl_orderOf (p0)).bind fun r1 =>
  if (r1.snd) = true then
   (F_impl_order_downsets (r1.fst)).bind fun r3 =>
   some (r3, true)
  else
   some (nilL (List Int), false)
theorem t_impl_DownsetsOf {p0 : SPoset} {v : ((List (List Int)) × Bool)} (h : F_impl_DownsetsOf p0 = some v) : Ret Try.prog f_impl_DownsetsOf [(rS_Poset false) p0] ((fun r => V.tup [(slr true 1 (slr true 1 vint)) r.1, V.bool r.2]) v) := by
  refine ret_vc k_impl_DownsetsOf (Nat.le_of_ble_eq_true rfl) ?_
  unfold F_impl_DownsetsOf at h
  conv => whnf
  refine Cells.lit rfl rfl ?_
  conv => whnf
  refine CallQ.o (fun r => V.tup [(slr true 1 (slr true 1 V.bool)) r.1, V.bool r.2]) (by first | rfl | simp only [mulN_one, V.fz, fzL, V.up, upL, fzL_map, fz_slr, fz_at, slr, List.cons_append, List.nil_append] | simp [mulN_one, V.fz, fzL, V.up, upL, fzL_map, fz_slr, fz_at, slr]) h (fun r h => t_impl_orderOf h) (fun r1 h => ?_)
  conv => whnf
  refine Br.flip ?_
  conv => whnf
  refine Br.ob h (fun p2 h => ?_) (fun p2 h => ?_)
  · conv => whnf
    refine CallQ.rd (slr true 1 (slr true 1 vint)) (by first | rfl | simp only [V.fz, fzL_map, slr] | simp [mulN_one, V.fz, fzL, V.up, upL, fzL_map, fz_slr, fz_at, slr]) (fun _ => by simp [V.noFz, noFzL_map]) h (fun r h => t_impl_order_downsets h) (fun r3 h => ?_)
    conv => whnf
    cases h; exact (by first | rfl | simp only [resV, mulN_one, V.fz, fzL, V.up, upL, fzL_map, fz_slr, fz_at, slr] | simp [resV, mulN_one, V.fz, fzL, V.up, upL, fzL_map, fz_slr, fz_at, slr])
  · conv => whnf
    refine BslQ.o (slr true 1 vint) (nilL (List Int)) (by exact fun _ => ⟨rfl, rfl⟩) (by first | rfl | simp only [mulN_one, V.fz, fzL, V.up, upL, fzL_map, fz_slr, fz_at, slr, List.cons_append, List.nil_append] | simp [mulN_one, V.fz, fzL, V.up, upL, fzL_map, fz_slr, fz_at, slr]) ?_
    conv => whnf
    cases h; exact (by first | rfl | simp only [resV, mulN_one, V.fz, fzL, V.up, upL, fzL_map, fz_slr, fz_at, slr] | simp [resV, mulN_one, V.fz, fzL, V.up, upL, fzL_map, fz_slr, fz_at, slr])

end Go.Proofs.Ytgjmaofgokgdiaa.Ax
