/-
  What the functions compute, as functions on plain data, and that the program does compute it; written by program.
-/
import Derived.Test.YtoikbcagaanhgaaCode
import Derived.Test.YtoikbcagaanhgaaG1
import Derived.Test.YtoikbcagaanhgaaG2
import Derived.Test.YtoikbcagaanhgaaG4
import Derived.Test.YtoikbcagaanhgaaG5
import Derived.Test.YtoikbcagaanhgaaG6
namespace Go.Proofs.Ytoikbcagaanhgaa.Ax
open Go
set_option maxRecDepth 100000
set_option maxHeartbeats 4000000

noncomputable def F_impl_order_meetTable_l1 (o0 : List (List Bool)) (x12 : Int) (_x4 : List (List Int)) : (Int × (List Int)) → Option ((Int × (List Int)) ⊕ (Unit ⊕ (List Int))) := fun (x18, x6) =>
 if x18 < (↑o0.length : Int) then
 (F_impl_order_those (o0) (fun w_0 => F_impl_order_meetTable_1 w_0 (o0) (x12) (x18))).bind fun r3 =>
 (F_impl_order_greatest (o0) (r3)).bind fun r4 =>
 if r4 < (0 : Int) then
 some (.inr (.inl ()))
 else
 ask ((x6).length + ([r4]).length ≤ LIM) <|
 ask (InI (x18 + (1 : Int))) <|
 some (.inl (x18 + (1 : Int), x6 ++ [r4]))
 else
 some (.inr (.inr x6))
def S_impl_order_meetTable_l1 (o0 : List (List Bool)) (x12 : Int) (x4 : List (List Int)) : (Int × (List Int)) → St := fun s => [(18, A.val (vint s.1)), (17, A.val (vint ((↑o0.length : Int)))), (6, A.val ((slr true 1 vint) s.2)), (5, A.val ((rP true vint) (x12))), (12, A.val (vint (x12))), (11, A.val (vint ((↑o0.length : Int)))), (4, A.val ((slr true 1 (slr true 1 vint)) (x4))), (1, A.val ((rP true (slr false 1 (slr false 1 V.bool))) (o0)))]
def T_impl_order_meetTable_l1 (o0 : List (List Bool)) (x12 : Int) (x4 : List (List Int)) : (Unit ⊕ (List Int)) → Tgt
 | (.inl _s) => (Ex.ret, [3, 2], [(3, A.val (V.bool (false))), (2, A.val ((slr true 1 (slr true 1 vint)) (nilL (List Int))))])
 | (.inr s) => ((Ex.exit 2), [6, 12, 11, 4, 1], [(6, A.val ((slr true 1 vint) s)), (12, A.val (vint (x12))), (11, A.val (vint ((↑o0.length : Int)))), (4, A.val ((slr true 1 (slr true 1 vint)) (x4))), (1, A.val ((rP true (slr false 1 (slr false 1 V.bool))) (o0)))])
theorem b_impl_order_meetTable_l1 {o0 : List (List Bool)} {x12 : Int} {x4 : List (List Int)} (s : (Int × (List Int))) (o : (Int × (List Int)) ⊕ (Unit ⊕ (List Int))) (h : F_impl_order_meetTable_l1 o0 x12 x4 s = some o) : vc Try.prog c_impl_order_meetTable_l1 (outQ [18, 17, 6, 5, 12, 11, 4, 1] (S_impl_order_meetTable_l1 o0 x12 x4) (T_impl_order_meetTable_l1 o0 x12 x4) o) (S_impl_order_meetTable_l1 o0 x12 x4 s) := by
  obtain ⟨x18, x6⟩ := s
  unfold F_impl_order_meetTable_l1 at h
  try dsimp only at h
  refine Br.od h (fun p2 h => ?_) (fun p2 h => ?_)
  · refine SetKids.lit rfl ?_
    refine Cells.lit rfl rfl ?_
    refine Cells.lit rfl rfl ?_
    refine CallP.rd (slr true 1 vint) (by rfl) (fun _ => by simp [V.noFz, noFzL_map]) h (fun r h => t_impl_order_those (f_so0 := f_impl_order_meetTable_1) (c_so0 := [(rP false (slr false 1 (slr false 1 V.bool))) (o0), (rP false vint) (x12), (rP false vint) (x18)]) (fun w_0 v h => Ret.cast (by rfl) (t_impl_order_meetTable_1 h)) h) (fun r3 h => ?_)
    refine CallQ.rd vint (by first | rfl | simp only [V.fz, fzL_map, slr] | simp [mulN_one, V.fz, fzL, V.up, upL, fzL_map, fz_slr, fz_at, slr]) (fun _ => rfl) h (fun r h => t_impl_order_greatest h) (fun r4 h => ?_)
    refine Br.od h (fun p5 h => ?_) (fun p5 h => ?_)
    · cases h; exact ⟨rfl, rfl⟩
    refine BslQ.o vint [r4] (by exact fun _ => ⟨rfl, rfl⟩) (by rfl) ?_
    refine NoOwn.o (fun _ => rfl) ?_
    refine AppQ.o (m := 1) vint (by exact fun _ => ⟨rfl, rfl⟩) (x6) ([r4]) (by rfl) (by rfl) h fun h => ?_
    refine Ask.o h fun p6 h => ?_
    cases h; exact ⟨rfl, rfl⟩
  cases h; exact ⟨rfl, rfl⟩

noncomputable def F_impl_order_meetTable_l2 (o0 : List (List Bool)) : (Int × (List (List Int))) → Option ((Int × (List (List Int))) ⊕ (Unit ⊕ (List (List Int)))) := fun (x12, x4) =>
 if x12 < (↑o0.length : Int) then
 (loopO (F_impl_order_meetTable_l1 o0 x12 x4) ((0 : Int), nilL Int)).bind fun t => match t with
 | (.inl _) => (some (.inr (.inl ())))
 | (.inr q7_6) => (ask ((x4).length + ([q7_6]).length ≤ LIM) <|
 ask (InI (x12 + (1 : Int))) <|
 some (.inl (x12 + (1 : Int), x4 ++ [q7_6])))
 else
 some (.inr (.inr x4))
def S_impl_order_meetTable_l2 (o0 : List (List Bool)) : (Int × (List (List Int))) → St := fun s => [(12, A.val (vint s.1)), (11, A.val (vint ((↑o0.length : Int)))), (4, A.val ((slr true 1 (slr true 1 vint)) s.2)), (1, A.val ((rP true (slr false 1 (slr false 1 V.bool))) (o0)))]
def T_impl_order_meetTable_l2 (_o0 : List (List Bool)) : (Unit ⊕ (List (List Int))) → Tgt
 | (.inl _s) => (Ex.ret, [3, 2], [(3, A.val (V.bool (false))), (2, A.val ((slr true 1 (slr true 1 vint)) (nilL (List Int))))])
 | (.inr s) => ((Ex.exit 0), [4], [(4, A.val ((slr true 1 (slr true 1 vint)) s))])
theorem b_impl_order_meetTable_l2 {o0 : List (List Bool)} (s : (Int × (List (List Int)))) (o : (Int × (List (List Int))) ⊕ (Unit ⊕ (List (List Int)))) (h : F_impl_order_meetTable_l2 o0 s = some o) : vc Try.prog c_impl_order_meetTable_l2 (outQ [12, 11, 4, 1] (S_impl_order_meetTable_l2 o0) (T_impl_order_meetTable_l2 o0) o) (S_impl_order_meetTable_l2 o0 s) := by
  obtain ⟨x12, x4⟩ := s
  unfold F_impl_order_meetTable_l2 at h
  try dsimp only at h
  refine Br.od h (fun p1 h => ?_) (fun p1 h => ?_)
  · refine SetKids.lit rfl ?_
    refine BslQ.o vint (nilL Int) (by exact fun _ => ⟨rfl, rfl⟩) (by rfl) ?_
    refine Cells.lit rfl rfl ?_
    refine Len.map ?_
    refine LoopQ.o [18, 17, 6, 5, 12, 11, 4, 1] (S_impl_order_meetTable_l1 o0 x12 x4) (T_impl_order_meetTable_l1 o0 x12 x4) h (fun s o h => b_impl_order_meetTable_l1 s o h) (by first | rfl | simp [restrict, look, mulN_one, V.fz, fzL, V.up, upL, fzL_map, fz_slr, fz_at, slr]) (by rintro (_ | _) <;> rfl) ?_
    rintro (⟨⟩ | q7_6) h
    · try dsimp only at h
      cases h; exact ⟨rfl, rfl⟩
    try dsimp only at h
    refine BslQ.o (slr true 1 vint) [q7_6] (by exact fun _ => ⟨rfl, rfl⟩) (by rfl) ?_
    refine NoOwn.own rfl ?_
    refine AppQ.o (m := 1) (slr true 1 vint) (by exact fun _ => ⟨rfl, rfl⟩) (x4) ([q7_6]) (by rfl) (by rfl) h fun h => ?_
    refine Ask.o h fun p8 h => ?_
    cases h; exact ⟨rfl, rfl⟩
  cases h; exact ⟨rfl, rfl⟩

noncomputable def F_impl_order_meetTable (o0 : (List (List Bool))) : Option ((List (List Int)) × Bool) :=
 (loopO (F_impl_order_meetTable_l2 o0) ((0 : Int), nilL (List Int))).bind fun t => match t with
 | (.inl _) => (some (nilL (List Int), false))
 | (.inr q9_4) => (some (q9_4, true))
theorem t_impl_order_meetTable {o0 : (List (List Bool))} {v : ((List (List Int)) × Bool)} (h : F_impl_order_meetTable o0 = some v) : Ret Try.prog f_impl_order_meetTable [(slr false 1 (slr false 1 V.bool)) o0] ((fun r => V.tup [(slr true 1 (slr true 1 vint)) r.1, V.bool r.2]) v) := by
  refine ret_vc k_impl_order_meetTable (Nat.le_of_ble_eq_true rfl) ?_
  unfold F_impl_order_meetTable at h
  refine BslQ.o (slr true 1 vint) (nilL (List Int)) (by exact fun _ => ⟨rfl, rfl⟩) (by rfl) ?_
  refine Cells.lit rfl rfl ?_
  refine Len.map ?_
  refine LoopQ.o [12, 11, 4, 1] (S_impl_order_meetTable_l2 o0) (T_impl_order_meetTable_l2 o0) h (fun s o h => b_impl_order_meetTable_l2 s o h) (by first | rfl | simp [restrict, look, mulN_one, V.fz, fzL, V.up, upL, fzL_map, fz_slr, fz_at, slr]) (by rintro (_ | _) <;> rfl) ?_
  rintro (⟨⟩ | q9_4) h
  · try dsimp only at h
    cases h; exact (by rfl)
  try dsimp only at h
  cases h; exact (by rfl)

noncomputable def F_laws_rOp (a0 : SOp) (b0 : SOp) : Option Bool :=
 if a0.Arity = b0.Arity then
 (F_laws_rInts (a0.Table) (b0.Table)).bind fun r2 =>
 some r2
 else
 some false
theorem t_laws_rOp {a0 : SOp} {b0 : SOp} {v : Bool} (h : F_laws_rOp a0 b0 = some v) : Ret Try.prog f_laws_rOp [(rS_Op false) a0, (rS_Op false) b0] (V.bool v) := by
  refine ret_vc k_laws_rOp (Nat.le_of_ble_eq_true rfl) ?_
  unfold F_laws_rOp at h
  refine Cells.lit rfl rfl ?_
  refine Cells.lit rfl rfl ?_
  refine Br.oe h (fun p1 h => ?_) (fun p1 h => ?_)
  · refine Br.yes ?_
    refine Cells.lit rfl rfl ?_
    refine Br.yes ?_
    refine Br.yes ?_
    refine Cells.lit rfl rfl ?_
    refine Br.yes ?_
    refine CallQ.o V.bool (by rfl) h (fun r h => t_laws_rInts h) (fun r2 h => ?_)
    refine Br.yes ?_
    cases h; exact (by rfl)
  refine Br.no ?_
  refine Br.no ?_
  refine Br.no ?_
  refine Br.no ?_
  refine Br.no ?_
  cases h; exact (by rfl)

noncomputable def F_impl_order_covers_l1 (o0 : List (List Bool)) (x0 : Int) (y0 : Int) : Int → Option (Int ⊕ (Unit ⊕ Unit)) := fun x15 =>
 if x15 < (↑o0.length : Int) then
 (F_impl_order_less (o0) (x0) (x15)).bind fun r4 =>
 if (r4) = true then
 (F_impl_order_less (o0) (x15) (y0)).bind fun r6 =>
 if (r6) = true then
 some (.inr (.inl ()))
 else
 ask (InI (x15 + (1 : Int))) <|
 some (.inl (x15 + (1 : Int)))
 else
 ask (InI (x15 + (1 : Int))) <|
 some (.inl (x15 + (1 : Int)))
 else
 some (.inr (.inr ()))
def S_impl_order_covers_l1 (o0 : List (List Bool)) (x0 : Int) (y0 : Int) : Int → St := fun s => [(15, A.val (vint s)), (14, A.val (vint ((↑o0.length : Int)))), (0, A.val ((slr false 1 (slr false 1 V.bool)) (o0))), (1, A.val (vint (x0))), (2, A.val (vint (y0)))]
def T_impl_order_covers_l1 (_o0 : List (List Bool)) (_x0 : Int) (_y0 : Int) : (Unit ⊕ Unit) → Tgt
 | (.inl _s) => (Ex.ret, [6], [(6, A.val (V.bool (false)))])
 | (.inr _s) => ((Ex.exit 0), [], [])
theorem b_impl_order_covers_l1 {o0 : List (List Bool)} {x0 : Int} {y0 : Int} (x15 : Int) (o : Int ⊕ (Unit ⊕ Unit)) (h : F_impl_order_covers_l1 o0 x0 y0 x15 = some o) : vc Try.prog c_impl_order_covers_l1 (outQ [15, 14, 0, 1, 2] (S_impl_order_covers_l1 o0 x0 y0) (T_impl_order_covers_l1 o0 x0 y0) o) (S_impl_order_covers_l1 o0 x0 y0 x15) := by
  unfold F_impl_order_covers_l1 at h
  try dsimp only at h
  refine Br.od h (fun p3 h => ?_) (fun p3 h => ?_)
  · refine CallQ.o V.bool (by rfl) h (fun r h => t_impl_order_less h) (fun r4 h => ?_)
    refine Br.ob h (fun p5 h => ?_) (fun p5 h => ?_)
    · refine Br.yes ?_
      refine Br.yes ?_
      refine Br.yes ?_
      refine CallQ.o V.bool (by rfl) h (fun r h => t_impl_order_less h) (fun r6 h => ?_)
      refine Br.yes ?_
      refine Br.ob h (fun p7 h => ?_) (fun p7 h => ?_)
      · cases h; exact ⟨rfl, rfl⟩
      refine Ask.o h fun p8 h => ?_
      cases h; exact ⟨rfl, rfl⟩
    refine Br.no ?_
    refine Br.no ?_
    refine Br.no ?_
    refine Br.no ?_
    refine Br.no ?_
    refine Ask.o h fun p9 h => ?_
    cases h; exact ⟨rfl, rfl⟩
  cases h; exact ⟨rfl, rfl⟩

noncomputable def F_impl_order_covers (o0 : (List (List Bool))) (x0 : Int) (y0 : Int) : Option Bool :=
 (F_impl_order_less (o0) (x0) (y0)).bind fun r1 =>
 if (r1) = true then
 (loopO (F_impl_order_covers_l1 o0 x0 y0) (0 : Int)).bind fun t => match t with
 | (.inl _) => (some false)
 | (.inr _) => (some true)
 else
 some false
theorem t_impl_order_covers {o0 : (List (List Bool))} {x0 : Int} {y0 : Int} {v : Bool} (h : F_impl_order_covers o0 x0 y0 = some v) : Ret Try.prog f_impl_order_covers [(slr false 1 (slr false 1 V.bool)) o0, vint x0, vint y0] (V.bool v) := by
  refine ret_vc k_impl_order_covers (Nat.le_of_ble_eq_true rfl) ?_
  unfold F_impl_order_covers at h
  refine CallQ.o V.bool (by rfl) h (fun r h => t_impl_order_less h) (fun r1 h => ?_)
  refine Br.flip ?_
  refine Br.ob h (fun p2 h => ?_) (fun p2 h => ?_)
  · refine Len.map ?_
    refine LoopQ.o [15, 14, 0, 1, 2] (S_impl_order_covers_l1 o0 x0 y0) (T_impl_order_covers_l1 o0 x0 y0) h (fun s o h => b_impl_order_covers_l1 s o h) (by first | rfl | simp [restrict, look, mulN_one, V.fz, fzL, V.up, upL, fzL_map, fz_slr, fz_at, slr]) (by rintro (_ | _) <;> rfl) ?_
    rintro (⟨⟩ | ⟨⟩) h
    · try dsimp only at h
      cases h; exact (by rfl)
    try dsimp only at h
    cases h; exact (by rfl)
  cases h; exact (by rfl)

noncomputable def F_spec_l1Rising_l1 (l0 : List Int) (lo0 : Int) (hi0 : Int) : Int → Option (Int ⊕ (Unit ⊕ Unit)) := fun x7 =>
 if x7 < (↑l0.length : Int) then
 ask ((0 : Int) ≤ x7 ∧ x7 < (↑l0.length : Int)) <|
 (F_spec_l1In (nth l0 x7.toNat) (lo0) (hi0)).bind fun r3 =>
 if (r3) = true then
 if x7 > (0 : Int) then
 ask (InI (x7 - (1 : Int))) <|
 ask ((0 : Int) ≤ x7 - (1 : Int) ∧ x7 - (1 : Int) < (↑l0.length : Int)) <|
 ask ((0 : Int) ≤ x7 ∧ x7 < (↑l0.length : Int)) <|
 if nth l0 (x7 - (1 : Int)).toNat ≥ nth l0 x7.toNat then
 some (.inr (.inl ()))
 else
 ask (InI (x7 + (1 : Int))) <|
 some (.inl (x7 + (1 : Int)))
 else
 ask (InI (x7 + (1 : Int))) <|
 some (.inl (x7 + (1 : Int)))
 else
 some (.inr (.inl ()))
 else
 some (.inr (.inr ()))
def S_spec_l1Rising_l1 (l0 : List Int) (lo0 : Int) (hi0 : Int) : Int → St := fun s => [(7, A.val (vint s)), (0, A.val ((slr false 1 vint) (l0))), (1, A.val (vint (lo0))), (2, A.val (vint (hi0)))]
def T_spec_l1Rising_l1 (_l0 : List Int) (_lo0 : Int) (_hi0 : Int) : (Unit ⊕ Unit) → Tgt
 | (.inl _s) => (Ex.ret, [6], [(6, A.val (V.bool (false)))])
 | (.inr _s) => ((Ex.exit 0), [], [])
theorem b_spec_l1Rising_l1 {l0 : List Int} {lo0 : Int} {hi0 : Int} (x7 : Int) (o : Int ⊕ (Unit ⊕ Unit)) (h : F_spec_l1Rising_l1 l0 lo0 hi0 x7 = some o) : vc Try.prog c_spec_l1Rising_l1 (outQ [7, 0, 1, 2] (S_spec_l1Rising_l1 l0 lo0 hi0) (T_spec_l1Rising_l1 l0 lo0 hi0) o) (S_spec_l1Rising_l1 l0 lo0 hi0 x7) := by
  unfold F_spec_l1Rising_l1 at h
  try dsimp only at h
  refine Len.map ?_
  refine Br.od h (fun p1 h => ?_) (fun p1 h => ?_)
  · refine Len.map ?_
    refine Ask.o h fun p2 h => ?_
    refine Elem.o (by first | omega | (simp [mulN] at *; omega)) ?_
    refine CallP.o V.bool (by rfl) h (fun r h => t_spec_l1In h) (fun r3 h => ?_)
    refine Br.flip ?_
    refine Br.ob h (fun p4 h => ?_) (fun p4 h => ?_)
    · refine Br.no ?_
      refine Br.no ?_
      refine Br.od h (fun p5 h => ?_) (fun p5 h => ?_)
      · refine Br.yes ?_
        refine Br.yes ?_
        refine Ask.o h fun p6 h => ?_
        refine Br.yes ?_
        refine Len.map ?_
        refine Ask.o h fun p7 h => ?_
        refine Elem.o (by first | omega | (simp [mulN] at *; omega)) ?_
        refine Br.yes ?_
        refine Br.yes ?_
        refine Br.yes ?_
        refine Br.yes ?_
        refine Len.map ?_
        refine Ask.o h fun p8 h => ?_
        refine Elem.o (by first | omega | (simp [mulN] at *; omega)) ?_
        refine Br.yes ?_
        refine Br.yes ?_
        refine Br.no ?_
        refine Br.yes ?_
        refine Br.no ?_
        refine Br.od h (fun p9 h => ?_) (fun p9 h => ?_)
        · cases h; exact ⟨rfl, rfl⟩
        refine Ask.o h fun p10 h => ?_
        cases h; exact ⟨rfl, rfl⟩
      refine Br.no ?_
      refine Br.no ?_
      refine Br.no ?_
      refine Br.no ?_
      refine Br.no ?_
      refine Br.no ?_
      refine Br.no ?_
      refine Br.no ?_
      refine Br.no ?_
      refine Br.no ?_
      refine Br.no ?_
      refine Br.no ?_
      refine Br.no ?_
      refine Ask.o h fun p11 h => ?_
      cases h; exact ⟨rfl, rfl⟩
    refine Br.yes ?_
    refine Br.yes ?_
    refine Br.yes ?_
    refine Br.yes ?_
    refine Br.yes ?_
    cases h; exact ⟨rfl, rfl⟩
  cases h; exact ⟨rfl, rfl⟩

noncomputable def F_spec_l1Rising (l0 : (List Int)) (lo0 : Int) (hi0 : Int) : Option Bool :=
 (loopO (F_spec_l1Rising_l1 l0 lo0 hi0) (0 : Int)).bind fun t => match t with
 | (.inl _) => (some false)
 | (.inr _) => (some true)
theorem t_spec_l1Rising {l0 : (List Int)} {lo0 : Int} {hi0 : Int} {v : Bool} (h : F_spec_l1Rising l0 lo0 hi0 = some v) : Ret Try.prog f_spec_l1Rising [(slr false 1 vint) l0, vint lo0, vint hi0] (V.bool v) := by
  refine ret_vc k_spec_l1Rising (Nat.le_of_ble_eq_true rfl) ?_
  unfold F_spec_l1Rising at h
  refine LoopQ.o [7, 0, 1, 2] (S_spec_l1Rising_l1 l0 lo0 hi0) (T_spec_l1Rising_l1 l0 lo0 hi0) h (fun s o h => b_spec_l1Rising_l1 s o h) (by first | rfl | simp [restrict, look, mulN_one, V.fz, fzL, V.up, upL, fzL_map, fz_slr, fz_at, slr]) (by rintro (_ | _) <;> rfl) ?_
  rintro (⟨⟩ | ⟨⟩) h
  · try dsimp only at h
    cases h; exact (by rfl)
  try dsimp only at h
  cases h; exact (by rfl)

noncomputable def F_spec_l5Within_l1 (x0 : List Int) (y0 : List Int) : Int → Option (Int ⊕ (Unit ⊕ Unit)) := fun x5 =>
 if x5 < (↑x0.length : Int) then
 ask ((0 : Int) ≤ x5 ∧ x5 < (↑x0.length : Int)) <|
 (F_spec_l1Has (y0) (nth x0 x5.toNat)).bind fun r3 =>
 if (r3) = true then
 ask (InI (x5 + (1 : Int))) <|
 some (.inl (x5 + (1 : Int)))
 else
 some (.inr (.inl ()))
 else
 some (.inr (.inr ()))
def S_spec_l5Within_l1 (x0 : List Int) (y0 : List Int) : Int → St := fun s => [(5, A.val (vint s)), (0, A.val ((slr false 1 vint) (x0))), (1, A.val ((slr false 1 vint) (y0)))]
def T_spec_l5Within_l1 (_x0 : List Int) (_y0 : List Int) : (Unit ⊕ Unit) → Tgt
 | (.inl _s) => (Ex.ret, [4], [(4, A.val (V.bool (false)))])
 | (.inr _s) => ((Ex.exit 0), [], [])
theorem b_spec_l5Within_l1 {x0 : List Int} {y0 : List Int} (x5 : Int) (o : Int ⊕ (Unit ⊕ Unit)) (h : F_spec_l5Within_l1 x0 y0 x5 = some o) : vc Try.prog c_spec_l5Within_l1 (outQ [5, 0, 1] (S_spec_l5Within_l1 x0 y0) (T_spec_l5Within_l1 x0 y0) o) (S_spec_l5Within_l1 x0 y0 x5) := by
  unfold F_spec_l5Within_l1 at h
  try dsimp only at h
  refine Len.map ?_
  refine Br.od h (fun p1 h => ?_) (fun p1 h => ?_)
  · refine Len.map ?_
    refine Ask.o h fun p2 h => ?_
    refine Elem.o (by first | omega | (simp [mulN] at *; omega)) ?_
    refine CallQ.o V.bool (by rfl) h (fun r h => t_spec_l1Has h) (fun r3 h => ?_)
    refine Br.flip ?_
    refine Br.ob h (fun p4 h => ?_) (fun p4 h => ?_)
    · refine Ask.o h fun p5 h => ?_
      cases h; exact ⟨rfl, rfl⟩
    cases h; exact ⟨rfl, rfl⟩
  cases h; exact ⟨rfl, rfl⟩

noncomputable def F_spec_l5Within (x0 : (List Int)) (y0 : (List Int)) : Option Bool :=
 (loopO (F_spec_l5Within_l1 x0 y0) (0 : Int)).bind fun t => match t with
 | (.inl _) => (some false)
 | (.inr _) => (some true)
theorem t_spec_l5Within {x0 : (List Int)} {y0 : (List Int)} {v : Bool} (h : F_spec_l5Within x0 y0 = some v) : Ret Try.prog f_spec_l5Within [(slr false 1 vint) x0, (slr false 1 vint) y0] (V.bool v) := by
  refine ret_vc k_spec_l5Within (Nat.le_of_ble_eq_true rfl) ?_
  unfold F_spec_l5Within at h
  refine LoopQ.o [5, 0, 1] (S_spec_l5Within_l1 x0 y0) (T_spec_l5Within_l1 x0 y0) h (fun s o h => b_spec_l5Within_l1 s o h) (by first | rfl | simp [restrict, look, mulN_one, V.fz, fzL, V.up, upL, fzL_map, fz_slr, fz_at, slr]) (by rintro (_ | _) <;> rfl) ?_
  rintro (⟨⟩ | ⟨⟩) h
  · try dsimp only at h
    cases h; exact (by rfl)
  try dsimp only at h
  cases h; exact (by rfl)

noncomputable def F_impl_DualPoset (p0 : SPoset) : Option (SPoset × Bool) :=
 (F_impl_orderOf (p0)).bind fun r1 =>
 if (r1.snd) = true then
 (F_impl_order_dual (r1.fst)).bind fun r3 =>
 (F_impl_order_poset (r3)).bind fun r4 =>
 some (r4, true)
 else
 some ({ Below := nilL (List Int) }, false)
theorem t_impl_DualPoset {p0 : SPoset} {v : (SPoset × Bool)} (h : F_impl_DualPoset p0 = some v) : Ret Try.prog f_impl_DualPoset [(rS_Poset false) p0] ((fun r => V.tup [(rS_Poset true) r.1, V.bool r.2]) v) := by
  refine ret_vc k_impl_DualPoset (Nat.le_of_ble_eq_true rfl) ?_
  unfold F_impl_DualPoset at h
  refine Cells.lit rfl rfl ?_
  refine CallQ.o (fun r => V.tup [(slr true 1 (slr true 1 V.bool)) r.1, V.bool r.2]) (by rfl) h (fun r h => t_impl_orderOf h) (fun r1 h => ?_)
  refine Br.flip ?_
  refine Br.ob h (fun p2 h => ?_) (fun p2 h => ?_)
  · refine CallQ.rd (slr true 1 (slr true 1 V.bool)) (by first | rfl | simp only [V.fz, fzL_map, slr] | simp [mulN_one, V.fz, fzL, V.up, upL, fzL_map, fz_slr, fz_at, slr]) (fun _ => by simp [V.noFz, noFzL_map]) h (fun r h => t_impl_order_dual h) (fun r3 h => ?_)
    refine CallQ.rd (rS_Poset true) (by first | rfl | simp only [V.fz, fzL_map, slr] | simp [mulN_one, V.fz, fzL, V.up, upL, fzL_map, fz_slr, fz_at, slr]) (fun _ => by simp [V.noFz, noFzL, noFzL_map]) h (fun r h => t_impl_order_poset h) (fun r4 h => ?_)
    refine SetKids.lit rfl ?_
    cases h; exact (by rfl)
  refine SetKids.lit rfl ?_
  cases h; exact (by rfl)

noncomputable def F_impl_IsAtMost (p0 : SPoset) (x0 : Int) (y0 : Int) : Option (Bool × Bool) :=
 (F_impl_orderOf (p0)).bind fun r1 =>
 ((if (r1.snd) = true then
 (F_impl_order_has (r1.fst) ([x0, y0])).bind fun r3 =>
 if (r3) = true then
 some (.inl ())
 else
 some (.inr ())
 else
 some (.inr ()) : Option (Unit ⊕ Unit))).bind fun t => match t with
 | (.inl _) => (ask ((0 : Int) ≤ x0 ∧ x0 < (↑r1.fst.length : Int)) <|
 ask ((0 : Int) ≤ y0 ∧ y0 < (↑(nth r1.fst x0.toNat).length : Int)) <|
 some (nth (nth r1.fst x0.toNat) y0.toNat, true))
 | (.inr _) => (some (false, false))
theorem t_impl_IsAtMost {p0 : SPoset} {x0 : Int} {y0 : Int} {v : (Bool × Bool)} (h : F_impl_IsAtMost p0 x0 y0 = some v) : Ret Try.prog f_impl_IsAtMost [(rS_Poset false) p0, vint x0, vint y0] ((fun r => V.tup [V.bool r.1, V.bool r.2]) v) := by
  refine ret_vc k_impl_IsAtMost (Nat.le_of_ble_eq_true rfl) ?_
  unfold F_impl_IsAtMost at h
  refine Cells.lit rfl rfl ?_
  refine CallQ.o (fun r => V.tup [(slr true 1 (slr true 1 V.bool)) r.1, V.bool r.2]) (by rfl) h (fun r h => t_impl_orderOf h) (fun r1 h => ?_)
  refine CutQ.o (fun t : (Unit ⊕ Unit) => match t with | (.inl s) => (Ex.normal, [8, 1, 2], [(8, A.val ((slr true 1 (slr true 1 V.bool)) (r1.fst))), (1, A.val (vint (x0))), (2, A.val (vint (y0)))]) | (.inr s) => (Ex.ret, [7, 6], [(7, A.val (V.bool (false))), (6, A.val (V.bool (false)))])) h ?_ ?_
  · intro t h
    refine Br.flip ?_
    refine Br.ob h (fun p2 h => ?_) (fun p2 h => ?_)
    · refine Br.no ?_
      refine Br.no ?_
      refine Br.no ?_
      refine BslQ.o vint ([x0, y0]) (by exact fun _ => ⟨rfl, rfl⟩) (by rfl) ?_
      refine Br.no ?_
      refine CallQ.rd V.bool (by first | rfl | simp only [V.fz, fzL_map, slr] | simp [mulN_one, V.fz, fzL, V.up, upL, fzL_map, fz_slr, fz_at, slr]) (fun _ => rfl) h (fun r h => t_impl_order_has h) (fun r3 h => ?_)
      refine Br.no ?_
      refine Br.no ?_
      refine Br.flip ?_
      refine Br.ob h (fun p4 h => ?_) (fun p4 h => ?_)
      · cases h; exact ⟨rfl, rfl⟩
      cases h; exact ⟨rfl, rfl⟩
    refine Br.yes ?_
    refine Br.yes ?_
    refine Br.yes ?_
    refine Br.yes ?_
    refine Br.yes ?_
    refine Br.yes ?_
    refine Br.yes ?_
    cases h; exact ⟨rfl, rfl⟩
  rintro (⟨⟩ | ⟨⟩) h
  · try dsimp only at h
    refine Len.map ?_
    refine Ask.o h fun p6 h => ?_
    refine Cells.one (fun _ => ⟨rfl, rfl⟩) (by first | omega | (simp [mulN] at *; omega)) ?_
    refine Kid.one (fun _ => ⟨rfl, rfl⟩) (by first | omega | (simp [mulN] at *; omega)) ?_
    refine Len.map ?_
    refine Ask.o h fun p7 h => ?_
    refine Kid.one (fun _ => ⟨rfl, rfl⟩) (by first | omega | (simp [mulN] at *; omega)) ?_
    refine Cells.one (fun _ => ⟨rfl, rfl⟩) (by first | omega | (simp [mulN] at *; omega)) ?_
    cases h; exact (by rfl)
  try dsimp only at h
  cases h; exact (by rfl)

noncomputable def F_spec_l1Cur_one (c0 : Sl1Cur) (n0 : Int) : Option (Bool × Sl1Cur) :=
 (F_spec_l1Cur_pick (c0) (n0)).bind fun (r1, u2) =>
 some (r1 == (0 : Int), u2)
theorem t_spec_l1Cur_one {c0 : Sl1Cur} {n0 : Int} {v : (Bool × Sl1Cur)} (h : F_spec_l1Cur_one c0 n0 = some v) : RetO Try.prog f_spec_l1Cur_one [(rP true (rS_l1Cur false)) c0, vint n0] (V.bool v.1) 0 ((rP true (rS_l1Cur false)) v.2) := by
  refine reto_vc k_spec_l1Cur_one (Nat.le_of_ble_eq_true rfl) ?_
  unfold F_spec_l1Cur_one at h
  refine CallQ.io vint (rP true (rS_l1Cur false)) (by rfl) rfl (fun _ => rfl) (fun _ => ⟨rfl, rfl⟩) rfl h (fun r h => t_spec_l1Cur_pick h) (fun r1 u2 h => ?_)
  cases h; exact ⟨(by rfl), (by rfl)⟩

noncomputable def F_spec_l1Cur_among (c0 : Sl1Cur) (list0 : (List Int)) : Option (Int × Sl1Cur) :=
 (F_spec_l1Cur_pick (c0) ((↑list0.length : Int))).bind fun (r1, u2) =>
 ask ((0 : Int) ≤ r1 ∧ r1 < (↑list0.length : Int)) <|
 some (nth list0 r1.toNat, u2)
theorem t_spec_l1Cur_among {c0 : Sl1Cur} {list0 : (List Int)} {v : (Int × Sl1Cur)} (h : F_spec_l1Cur_among c0 list0 = some v) : RetO Try.prog f_spec_l1Cur_among [(rP true (rS_l1Cur false)) c0, (slr false 1 vint) list0] (vint v.1) 0 ((rP true (rS_l1Cur false)) v.2) := by
  refine reto_vc k_spec_l1Cur_among (Nat.le_of_ble_eq_true rfl) ?_
  unfold F_spec_l1Cur_among at h
  refine Len.map ?_
  refine CallQ.io vint (rP true (rS_l1Cur false)) (by rfl) rfl (fun _ => rfl) (fun _ => ⟨rfl, rfl⟩) rfl h (fun r h => t_spec_l1Cur_pick h) (fun r1 u2 h => ?_)
  refine Len.map ?_
  refine Ask.o h fun p3 h => ?_
  refine Elem.o (by first | omega | (simp [mulN] at *; omega)) ?_
  cases h; exact ⟨(by rfl), (by rfl)⟩

noncomputable def F_impl_latticeOf (p0 : SPoset) : Option ((Option Slattice) × Bool) :=
 (F_impl_orderOf (p0)).bind fun r1 =>
 ((if (r1.snd) = true then
 if (↑r1.fst.length : Int) = (0 : Int) then
 some (.inl ())
 else
 some (.inr ())
 else
 some (.inl ()) : Option (Unit ⊕ Unit))).bind fun t => match t with
 | (.inl _) => (some (none, false))
 | (.inr _) => ((F_impl_order_meetTable (r1.fst)).bind fun r5 =>
 (F_impl_order_dual (r1.fst)).bind fun r6 =>
 (F_impl_order_meetTable (r6)).bind fun r7 =>
 if (r5.snd) = true then
 some (some { order := r1.fst, meets := r5.fst, joins := r7.fst }, r7.snd)
 else
 some (some { order := r1.fst, meets := r5.fst, joins := r7.fst }, false))
theorem t_impl_latticeOf {p0 : SPoset} {v : ((Option Slattice) × Bool)} (h : F_impl_latticeOf p0 = some v) : Ret Try.prog f_impl_latticeOf [(rS_Poset false) p0] ((fun r => V.tup [(rO true (rS_lattice true)) r.1, V.bool r.2]) v) := by
  refine ret_vc k_impl_latticeOf (Nat.le_of_ble_eq_true rfl) ?_
  unfold F_impl_latticeOf at h
  refine Cells.lit rfl rfl ?_
  refine CallQ.o (fun r => V.tup [(slr true 1 (slr true 1 V.bool)) r.1, V.bool r.2]) (by rfl) h (fun r h => t_impl_orderOf h) (fun r1 h => ?_)
  refine CutQ.o (fun t : (Unit ⊕ Unit) => match t with | (.inl s) => (Ex.ret, [3, 2], [(3, A.val (V.bool (false))), (2, A.val V.nilp.up)]) | (.inr s) => (Ex.normal, [4], [(4, A.val ((slr true 1 (slr true 1 V.bool)) (r1.fst)))])) h ?_ ?_
  · intro t h
    refine Br.flip ?_
    refine Br.ob h (fun p2 h => ?_) (fun p2 h => ?_)
    · refine Br.no ?_
      refine Len.map ?_
      refine Br.no ?_
      refine Br.no ?_
      refine Br.oe h (fun p3 h => ?_) (fun p3 h => ?_)
      · cases h; exact ⟨rfl, rfl⟩
      cases h; exact ⟨rfl, rfl⟩
    refine Br.yes ?_
    refine Br.yes ?_
    refine Br.yes ?_
    refine Br.yes ?_
    cases h; exact ⟨rfl, rfl⟩
  rintro (⟨⟩ | ⟨⟩) h
  · try dsimp only at h
    cases h; exact (by rfl)
  try dsimp only at h
  refine CallQ.rd (fun r => V.tup [(slr true 1 (slr true 1 vint)) r.1, V.bool r.2]) (by first | rfl | simp only [V.fz, fzL_map, slr] | simp [mulN_one, V.fz, fzL, V.up, upL, fzL_map, fz_slr, fz_at, slr]) (fun _ => by simp [V.noFz, noFzL, noFzL_map]) h (fun r h => t_impl_order_meetTable h) (fun r5 h => ?_)
  refine CallQ.rd (slr true 1 (slr true 1 V.bool)) (by first | rfl | simp only [V.fz, fzL_map, slr] | simp [mulN_one, V.fz, fzL, V.up, upL, fzL_map, fz_slr, fz_at, slr]) (fun _ => by simp [V.noFz, noFzL_map]) h (fun r h => t_impl_order_dual h) (fun r6 h => ?_)
  refine CallQ.rd (fun r => V.tup [(slr true 1 (slr true 1 vint)) r.1, V.bool r.2]) (by first | rfl | simp only [V.fz, fzL_map, slr] | simp [mulN_one, V.fz, fzL, V.up, upL, fzL_map, fz_slr, fz_at, slr]) (fun _ => by simp [V.noFz, noFzL, noFzL_map]) h (fun r h => t_impl_order_meetTable h) (fun r7 h => ?_)
  refine Br.ob h (fun p8 h => ?_) (fun p8 h => ?_)
  · refine Br.yes ?_
    cases h; exact (by rfl)
  refine Br.no ?_
  cases h; exact (by rfl)

noncomputable def F_laws_rOps_l1 (a0 : List SOp) (b0 : List SOp) : Int → Option (Int ⊕ (Unit ⊕ Unit)) := fun x5 =>
 if x5 < (↑a0.length : Int) then
 ask ((0 : Int) ≤ x5 ∧ x5 < (↑a0.length : Int)) <|
 ask ((0 : Int) ≤ x5 ∧ x5 < (↑b0.length : Int)) <|
 (F_laws_rOp (nth a0 x5.toNat) (nth b0 x5.toNat)).bind fun r5 =>
 if (r5) = true then
 ask (InI (x5 + (1 : Int))) <|
 some (.inl (x5 + (1 : Int)))
 else
 some (.inr (.inl ()))
 else
 some (.inr (.inr ()))
def S_laws_rOps_l1 (a0 : List SOp) (b0 : List SOp) : Int → St := fun s => [(5, A.val (vint s)), (0, A.val ((slr false 2 (rS_Op false)) (a0))), (1, A.val ((slr false 2 (rS_Op false)) (b0)))]
def T_laws_rOps_l1 (_a0 : List SOp) (_b0 : List SOp) : (Unit ⊕ Unit) → Tgt
 | (.inl _s) => (Ex.ret, [4], [(4, A.val (V.bool (false)))])
 | (.inr _s) => ((Ex.exit 0), [], [])
theorem b_laws_rOps_l1 {a0 : List SOp} {b0 : List SOp} (x5 : Int) (o : Int ⊕ (Unit ⊕ Unit)) (h : F_laws_rOps_l1 a0 b0 x5 = some o) : vc Try.prog c_laws_rOps_l1 (outQ [5, 0, 1] (S_laws_rOps_l1 a0 b0) (T_laws_rOps_l1 a0 b0) o) (S_laws_rOps_l1 a0 b0 x5) := by
  unfold F_laws_rOps_l1 at h
  try dsimp only at h
  refine Len.map ?_
  refine Br.od h (fun p2 h => ?_) (fun p2 h => ?_)
  · refine Len.map ?_
    refine Ask.o h fun p3 h => ?_
    refine Elem.o (by first | omega | (simp [mulN] at *; omega)) ?_
    refine Len.map ?_
    refine Ask.o h fun p4 h => ?_
    refine Elem.o (by first | omega | (simp [mulN] at *; omega)) ?_
    refine CallQ.o V.bool (by rfl) h (fun r h => t_laws_rOp h) (fun r5 h => ?_)
    refine Br.flip ?_
    refine Br.ob h (fun p6 h => ?_) (fun p6 h => ?_)
    · refine Ask.o h fun p7 h => ?_
      cases h; exact ⟨rfl, rfl⟩
    cases h; exact ⟨rfl, rfl⟩
  cases h; exact ⟨rfl, rfl⟩

noncomputable def F_laws_rOps (a0 : (List SOp)) (b0 : (List SOp)) : Option Bool :=
 if (↑a0.length : Int) ≠ (↑b0.length : Int) then
 some false
 else
 (loopO (F_laws_rOps_l1 a0 b0) (0 : Int)).bind fun t => match t with
 | (.inl _) => (some false)
 | (.inr _) => (some true)
theorem t_laws_rOps {a0 : (List SOp)} {b0 : (List SOp)} {v : Bool} (h : F_laws_rOps a0 b0 = some v) : Ret Try.prog f_laws_rOps [(slr false 2 (rS_Op false)) a0, (slr false 2 (rS_Op false)) b0] (V.bool v) := by
  refine ret_vc k_laws_rOps (Nat.le_of_ble_eq_true rfl) ?_
  unfold F_laws_rOps at h
  refine Len.map ?_
  refine Len.map ?_
  refine Br.on h (fun p1 h => ?_) (fun p1 h => ?_)
  · cases h; exact (by rfl)
  refine LoopQ.o [5, 0, 1] (S_laws_rOps_l1 a0 b0) (T_laws_rOps_l1 a0 b0) h (fun s o h => b_laws_rOps_l1 s o h) (by first | rfl | simp [restrict, look, mulN_one, V.fz, fzL, V.up, upL, fzL_map, fz_slr, fz_at, slr]) (by rintro (_ | _) <;> rfl) ?_
  rintro (⟨⟩ | ⟨⟩) h
  · try dsimp only at h
    cases h; exact (by rfl)
  try dsimp only at h
  cases h; exact (by rfl)

end Go.Proofs.Ytoikbcagaanhgaa.Ax
