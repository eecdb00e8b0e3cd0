/-
  What the functions compute, as functions on plain data, and that the program does compute it; written by program.
-/
import Derived.Test.YtoikbcagaanhgaaCode
import Derived.Test.YtoikbcagaanhgaaG2
import Derived.Test.YtoikbcagaanhgaaG5
import Derived.Test.YtoikbcagaanhgaaG7
import Derived.Test.YtoikbcagaanhgaaG8
import Derived.Test.YtoikbcagaanhgaaG9
import Derived.Test.YtoikbcagaanhgaaG10
namespace Go.Proofs.Ytoikbcagaanhgaa.Ax
open Go
set_option maxRecDepth 100000
set_option maxHeartbeats 4000000

noncomputable def F_spec_l24Algebra_l1 (p0 : SPoset) (r1 : SPoset) (x7 : Int) : (Int × SOp × SOp) → Option ((Int × SOp × SOp) ⊕ (SOp × SOp)) := fun (x8, x6', x5') =>
 if x8 < (↑p0.Below.length : Int) then
 (F_spec_l24Bound (p0) ([x7, x8])).bind fun r4 =>
 ask ((x5'.Table).length + ([r4]).length ≤ LIM) <|
 (F_spec_l24Bound (r1) ([x7, x8])).bind fun r5 =>
 ask ((x6'.Table).length + ([r5]).length ≤ LIM) <|
 ask (InI (x8 + (1 : Int))) <|
 some (.inl (x8 + (1 : Int), { Arity := x6'.Arity, Table := x6'.Table ++ [r5] }, { Arity := x5'.Arity, Table := x5'.Table ++ [r4] }))
 else
 some (.inr (x6', x5'))
def S_spec_l24Algebra_l1 (p0 : SPoset) (r1 : SPoset) (x7 : Int) : (Int × SOp × SOp) → St := fun s => [(8, A.val (vint s.1)), (7, A.val (vint (x7))), (6, A.val ((rP true (rS_Op true)) s.2.1)), (5, A.val ((rP true (rS_Op true)) s.2.2)), (4, A.val ((rP true (rS_Poset true)) (r1))), (3, A.val (vint ((↑p0.Below.length : Int)))), (2, A.val ((rP true (rS_Algebra true)) ({ Size := (0 : Int), Ops := nilL SOp }))), (1, A.val ((rP true (rS_Poset false)) (p0)))]
def T_spec_l24Algebra_l1 (p0 : SPoset) (r1 : SPoset) (x7 : Int) : (SOp × SOp) → Tgt
 | s => ((Ex.exit 2), [7, 6, 5, 4, 3, 2, 1], [(7, A.val (vint (x7))), (6, A.val ((rP true (rS_Op true)) s.1)), (5, A.val ((rP true (rS_Op true)) s.2)), (4, A.val ((rP true (rS_Poset true)) (r1))), (3, A.val (vint ((↑p0.Below.length : Int)))), (2, A.val ((rP true (rS_Algebra true)) ({ Size := (0 : Int), Ops := nilL SOp }))), (1, A.val ((rP true (rS_Poset false)) (p0)))])
theorem b_spec_l24Algebra_l1 {p0 : SPoset} {r1 : SPoset} {x7 : Int} (s : (Int × SOp × SOp)) (o : (Int × SOp × SOp) ⊕ (SOp × SOp)) (h : F_spec_l24Algebra_l1 p0 r1 x7 s = some o) : vc Try.prog c_spec_l24Algebra_l1 (outQ [8, 7, 6, 5, 4, 3, 2, 1] (S_spec_l24Algebra_l1 p0 r1 x7) (T_spec_l24Algebra_l1 p0 r1 x7) o) (S_spec_l24Algebra_l1 p0 r1 x7 s) := by
  obtain ⟨x8, x6', x5'⟩ := s
  unfold F_spec_l24Algebra_l1 at h
  try dsimp only at h
  refine Br.od h (fun p3 h => ?_) (fun p3 h => ?_)
  · refine Cells.lit rfl rfl ?_
    refine Cells.lit rfl rfl ?_
    refine BslQ.o vint ([x7, x8]) (by exact fun _ => ⟨rfl, rfl⟩) (by rfl) ?_
    refine CallP.rd vint (by rfl) (fun _ => rfl) h (fun r h => t_spec_l24Bound h) (fun r4 h => ?_)
    refine BslQ.o vint [r4] (by exact fun _ => ⟨rfl, rfl⟩) (by rfl) ?_
    refine NoOwn.o (fun _ => rfl) ?_
    refine Kid.lit rfl rfl ?_
    refine Kid.lit rfl rfl ?_
    refine SetKids.lit rfl ?_
    refine AppQ.o (m := 1) vint (by exact fun _ => ⟨rfl, rfl⟩) (x5'.Table) ([r4]) (by rfl) (by rfl) h fun h => ?_
    refine SetKids.lit rfl ?_
    refine Cells.lit rfl rfl ?_
    refine Cells.lit rfl rfl ?_
    refine BslQ.o vint ([x7, x8]) (by exact fun _ => ⟨rfl, rfl⟩) (by rfl) ?_
    refine CallP.rd vint (by first | rfl | simp only [V.fz, fzL_map, slr] | simp [mulN_one, V.fz, fzL, V.up, upL, fzL_map, fz_slr, fz_at, slr]) (fun _ => rfl) h (fun r h => t_spec_l24Bound h) (fun r5 h => ?_)
    refine BslQ.o vint [r5] (by exact fun _ => ⟨rfl, rfl⟩) (by rfl) ?_
    refine NoOwn.o (fun _ => rfl) ?_
    refine Kid.lit rfl rfl ?_
    refine Kid.lit rfl rfl ?_
    refine SetKids.lit rfl ?_
    refine AppQ.o (m := 1) vint (by exact fun _ => ⟨rfl, rfl⟩) (x6'.Table) ([r5]) (by rfl) (by rfl) h fun h => ?_
    refine SetKids.lit rfl ?_
    refine Ask.o h fun p6 h => ?_
    cases h; exact ⟨rfl, rfl⟩
  cases h; exact ⟨rfl, rfl⟩

noncomputable def F_spec_l24Algebra_l2 (p0 : SPoset) (r1 : SPoset) : (Int × SOp × SOp) → Option ((Int × SOp × SOp) ⊕ (SOp × SOp)) := fun (x7, x6, x5) =>
 if x7 < (↑p0.Below.length : Int) then
 (loopO (F_spec_l24Algebra_l1 p0 r1 x7) ((0 : Int), x6, x5)).bind fun (q7_6, q7_5) =>
 ask (InI (x7 + (1 : Int))) <|
 some (.inl (x7 + (1 : Int), q7_6, q7_5))
 else
 some (.inr (x6, x5))
def S_spec_l24Algebra_l2 (p0 : SPoset) (r1 : SPoset) : (Int × SOp × SOp) → St := fun s => [(7, A.val (vint s.1)), (6, A.val ((rP true (rS_Op true)) s.2.1)), (5, A.val ((rP true (rS_Op true)) s.2.2)), (4, A.val ((rP true (rS_Poset true)) (r1))), (3, A.val (vint ((↑p0.Below.length : Int)))), (2, A.val ((rP true (rS_Algebra true)) ({ Size := (0 : Int), Ops := nilL SOp }))), (1, A.val ((rP true (rS_Poset false)) (p0)))]
def T_spec_l24Algebra_l2 (p0 : SPoset) (_r1 : SPoset) : (SOp × SOp) → Tgt
 | s => ((Ex.exit 0), [6, 5, 3, 2], [(6, A.val ((rP true (rS_Op true)) s.1)), (5, A.val ((rP true (rS_Op true)) s.2)), (3, A.val (vint ((↑p0.Below.length : Int)))), (2, A.val ((rP true (rS_Algebra true)) ({ Size := (0 : Int), Ops := nilL SOp })))])
theorem b_spec_l24Algebra_l2 {p0 : SPoset} {r1 : SPoset} (s : (Int × SOp × SOp)) (o : (Int × SOp × SOp) ⊕ (SOp × SOp)) (h : F_spec_l24Algebra_l2 p0 r1 s = some o) : vc Try.prog c_spec_l24Algebra_l2 (outQ [7, 6, 5, 4, 3, 2, 1] (S_spec_l24Algebra_l2 p0 r1) (T_spec_l24Algebra_l2 p0 r1) o) (S_spec_l24Algebra_l2 p0 r1 s) := by
  obtain ⟨x7, x6, x5⟩ := s
  unfold F_spec_l24Algebra_l2 at h
  try dsimp only at h
  refine Br.od h (fun p2 h => ?_) (fun p2 h => ?_)
  · refine LoopQ.o [8, 7, 6, 5, 4, 3, 2, 1] (S_spec_l24Algebra_l1 p0 r1 x7) (T_spec_l24Algebra_l1 p0 r1 x7) h (fun s o h => b_spec_l24Algebra_l1 s o h) (by first | rfl | simp [restrict, look, mulN_one, V.fz, fzL, V.up, upL, fzL_map, fz_slr, fz_at, slr]) (fun _ => rfl) ?_
    rintro ⟨q7_6, q7_5⟩ h
    try dsimp only at h
    refine Ask.o h fun p8 h => ?_
    cases h; exact ⟨rfl, rfl⟩
  cases h; exact ⟨rfl, rfl⟩

noncomputable def F_spec_l24Algebra (p0 : SPoset) : Option SAlgebra :=
 (F_spec_l23Dual (p0)).bind fun r1 =>
 (loopO (F_spec_l24Algebra_l2 p0 r1) ((0 : Int), { Arity := (2 : Int), Table := nilL Int }, { Arity := (2 : Int), Table := nilL Int })).bind fun (q9_6, q9_5) =>
 some ({ Size := (↑p0.Below.length : Int), Ops := [q9_5, q9_6] })
theorem t_spec_l24Algebra {p0 : SPoset} {v : SAlgebra} (h : F_spec_l24Algebra p0 = some v) : Ret Try.prog f_spec_l24Algebra [(rS_Poset false) p0] ((rS_Algebra true) v) := by
  refine ret_vc k_spec_l24Algebra (Nat.le_of_ble_eq_true rfl) ?_
  unfold F_spec_l24Algebra at h
  refine Cells.lit rfl rfl ?_
  refine Len.map ?_
  refine Cells.lit rfl rfl ?_
  refine CallQ.o (rS_Poset true) (by rfl) h (fun r h => t_spec_l23Dual h) (fun r1 h => ?_)
  refine SetKids.lit rfl ?_
  refine SetKids.lit rfl ?_
  refine SetKids.lit rfl ?_
  refine LoopQ.o [7, 6, 5, 4, 3, 2, 1] (S_spec_l24Algebra_l2 p0 r1) (T_spec_l24Algebra_l2 p0 r1) h (fun s o h => b_spec_l24Algebra_l2 s o h) (by first | rfl | simp [restrict, look, mulN_one, V.fz, fzL, V.up, upL, fzL_map, fz_slr, fz_at, slr]) (fun _ => rfl) ?_
  rintro ⟨q9_6, q9_5⟩ h
  try dsimp only at h
  refine Cells.lit rfl rfl ?_
  refine Cells.lit rfl rfl ?_
  refine BslQ.o (rS_Op true) ([q9_5, q9_6]) (by exact fun _ => ⟨rfl, rfl⟩) (by rfl) ?_
  refine SetKids.lit rfl ?_
  cases h; exact (by rfl)

noncomputable def F_impl_order_upperCovers (o0 : (List (List Bool))) (x0 : Int) : Option (List Int) :=
 (F_impl_order_those (o0) (fun w_0 => F_impl_order_upperCovers_1 w_0 (o0) (x0))).bind fun r1 =>
 some r1
theorem t_impl_order_upperCovers {o0 : (List (List Bool))} {x0 : Int} {v : (List Int)} (h : F_impl_order_upperCovers o0 x0 = some v) : Ret Try.prog f_impl_order_upperCovers [(slr false 1 (slr false 1 V.bool)) o0, vint x0] ((slr true 1 vint) v) := by
  refine ret_vc k_impl_order_upperCovers (Nat.le_of_ble_eq_true rfl) ?_
  unfold F_impl_order_upperCovers at h
  refine Cells.lit rfl rfl ?_
  refine CallQ.rd (slr true 1 vint) (by rfl) (fun _ => by simp [V.noFz, noFzL_map]) h (fun r h => t_impl_order_those (f_so0 := f_impl_order_upperCovers_1) (c_so0 := [(rP false (slr false 1 (slr false 1 V.bool))) (o0), (rP false vint) (x0)]) (fun w_0 v h => Ret.cast (by rfl) (t_impl_order_upperCovers_1 h)) h) (fun r1 h => ?_)
  cases h; exact (by rfl)

noncomputable def F_spec_l1Cur_names2_l1 (n0 : Int) : (Int × (List Int) × Sl1Cur) → Option ((Int × (List Int) × Sl1Cur) ⊕ ((List Int) × Sl1Cur)) := fun (x6, x5, x53) =>
 if x6 < n0 then
 ask (InI ((↑x5.length : Int) + (1 : Int))) <|
 (F_spec_l1Cur_pick (x53) ((↑x5.length : Int) + (1 : Int))).bind fun (r3, u4) =>
 ask (0 ≤ (0 : Int) ∧ (0 : Int) ≤ r3 ∧ r3 ≤ ((x5.length : Nat) : Int)) <|
 ask ((nilL Int).length + (List.take (r3.toNat - Int.toNat (0 : Int)) (List.drop (Int.toNat (0 : Int)) x5)).length ≤ LIM) <|
 ask ((nilL Int ++ List.take (r3.toNat - Int.toNat (0 : Int)) (List.drop (Int.toNat (0 : Int)) x5)).length + ([x6]).length ≤ LIM) <|
 ask (0 ≤ r3 ∧ r3 ≤ (↑x5.length : Int) ∧ (↑x5.length : Int) ≤ ((x5.length : Nat) : Int)) <|
 ask ((nilL Int ++ List.take (r3.toNat - Int.toNat (0 : Int)) (List.drop (Int.toNat (0 : Int)) x5) ++ [x6]).length + (List.take ((↑x5.length : Int).toNat - r3.toNat) (List.drop r3.toNat x5)).length ≤ LIM) <|
 ask (InI (x6 + (1 : Int))) <|
 some (.inl (x6 + (1 : Int), nilL Int ++ List.take (r3.toNat - Int.toNat (0 : Int)) (List.drop (Int.toNat (0 : Int)) x5) ++ [x6] ++ List.take ((↑x5.length : Int).toNat - r3.toNat) (List.drop r3.toNat x5), u4))
 else
 some (.inr (x5, x53))
def S_spec_l1Cur_names2_l1 (n0 : Int) : (Int × (List Int) × Sl1Cur) → St := fun s => [(6, A.val (vint s.1)), (5, A.val ((slr true 1 vint) s.2.1)), (0, A.ref 53 []), (53, A.val ((rP true (rS_l1Cur false)) s.2.2)), (1, A.val (vint (n0)))]
def T_spec_l1Cur_names2_l1 (n0 : Int) : ((List Int) × Sl1Cur) → Tgt
 | s => ((Ex.exit 0), [5, 0, 53, 1], [(5, A.val ((slr true 1 vint) s.1)), (0, A.ref 53 []), (53, A.val ((rP true (rS_l1Cur false)) s.2)), (1, A.val (vint (n0)))])
theorem b_spec_l1Cur_names2_l1 {n0 : Int} (s : (Int × (List Int) × Sl1Cur)) (o : (Int × (List Int) × Sl1Cur) ⊕ ((List Int) × Sl1Cur)) (h : F_spec_l1Cur_names2_l1 n0 s = some o) : vc Try.prog c_spec_l1Cur_names2_l1 (outQ [6, 5, 0, 53, 1] (S_spec_l1Cur_names2_l1 n0) (T_spec_l1Cur_names2_l1 n0) o) (S_spec_l1Cur_names2_l1 n0 s) := by
  obtain ⟨x6, x5, x53⟩ := s
  unfold F_spec_l1Cur_names2_l1 at h
  try dsimp only at h
  refine Br.od h (fun p1 h => ?_) (fun p1 h => ?_)
  · refine Len.map ?_
    refine Ask.o h fun p2 h => ?_
    refine CallQ.io vint (rP true (rS_l1Cur false)) (by rfl) rfl (fun _ => rfl) (fun _ => ⟨rfl, rfl⟩) rfl h (fun r h => t_spec_l1Cur_pick h) (fun r3 u4 h => ?_)
    refine FrzQ.z ?_
    refine BslQ.o vint (nilL Int) (by exact fun _ => ⟨rfl, rfl⟩) (by rfl) ?_
    refine SlcQ.lst (xs := x5) vint (by first | rfl | simp only [fzL_map] | simp [mulN_one, V.fz, fzL, V.up, upL, fzL_map, fz_slr, fz_at, slr]) h fun h => ?_
    refine AppQ.o (m := 1) vint (by exact fun _ => ⟨rfl, rfl⟩) (nilL Int) (List.take (r3.toNat - Int.toNat (0 : Int)) (List.drop (Int.toNat (0 : Int)) x5)) (by rfl) (by rfl) h fun h => ?_
    refine BslQ.o vint [x6] (by exact fun _ => ⟨rfl, rfl⟩) (by rfl) ?_
    refine NoOwn.o (fun _ => rfl) ?_
    refine AppQ.o (m := 1) vint (by exact fun _ => ⟨rfl, rfl⟩) (nilL Int ++ List.take (r3.toNat - Int.toNat (0 : Int)) (List.drop (Int.toNat (0 : Int)) x5)) ([x6]) (by rfl) (by rfl) h fun h => ?_
    refine Len.fzmap ?_
    refine SlcQ.lst (xs := x5) vint (by first | rfl | simp only [fzL_map] | simp [mulN_one, V.fz, fzL, V.up, upL, fzL_map, fz_slr, fz_at, slr]) h fun h => ?_
    refine AppQ.o (m := 1) vint (by exact fun _ => ⟨rfl, rfl⟩) (nilL Int ++ List.take (r3.toNat - Int.toNat (0 : Int)) (List.drop (Int.toNat (0 : Int)) x5) ++ [x6]) (List.take ((↑x5.length : Int).toNat - r3.toNat) (List.drop r3.toNat x5)) (by rfl) (by rfl) h fun h => ?_
    refine Ask.o h fun p5 h => ?_
    cases h; exact ⟨rfl, rfl⟩
  cases h; exact ⟨rfl, rfl⟩

noncomputable def F_spec_l1Cur_names2 (c0 : Sl1Cur) (n0 : Int) : Option ((List Int) × Sl1Cur) :=
 (loopO (F_spec_l1Cur_names2_l1 n0) ((0 : Int), nilL Int, c0)).bind fun (q6_5, q6_53) =>
 (F_spec_l1Cur_pick (q6_53) ((24 : Int))).bind fun (r7, u8) =>
 if r7 = (0 : Int) then
 ask ((q6_5).length + ([n0]).length ≤ LIM) <|
 some (q6_5 ++ [n0], u8)
 else
 if r7 = (1 : Int) then
 if n0 > (0 : Int) then
 (F_spec_l1Cur_pick (u8) (n0)).bind fun (r12, u13) =>
 (F_spec_l1Cur_among (u13) ([(0 : Int), (-1 : Int), n0])).bind fun (r14, u15) =>
 ask ((0 : Int) ≤ r12 ∧ r12 < (↑q6_5.length : Int)) <|
 some (q6_5.set r12.toNat r14, u15)
 else
 some (q6_5, u8)
 else
 some (q6_5, u8)
theorem t_spec_l1Cur_names2 {c0 : Sl1Cur} {n0 : Int} {v : ((List Int) × Sl1Cur)} (h : F_spec_l1Cur_names2 c0 n0 = some v) : RetO Try.prog f_spec_l1Cur_names2 [(rP true (rS_l1Cur false)) c0, vint n0] ((slr true 1 vint) v.1) 0 ((rP true (rS_l1Cur false)) v.2) := by
  refine reto_vc k_spec_l1Cur_names2 (Nat.le_of_ble_eq_true rfl) ?_
  unfold F_spec_l1Cur_names2 at h
  refine BslQ.o vint (nilL Int) (by exact fun _ => ⟨rfl, rfl⟩) (by rfl) ?_
  refine LoopQ.o [6, 5, 0, 53, 1] (S_spec_l1Cur_names2_l1 n0) (T_spec_l1Cur_names2_l1 n0) h (fun s o h => b_spec_l1Cur_names2_l1 s o h) (by first | rfl | simp [restrict, look, mulN_one, V.fz, fzL, V.up, upL, fzL_map, fz_slr, fz_at, slr]) (fun _ => rfl) ?_
  rintro ⟨q6_5, q6_53⟩ h
  try dsimp only at h
  refine CallQ.io vint (rP true (rS_l1Cur false)) (by rfl) rfl (fun _ => rfl) (fun _ => ⟨rfl, rfl⟩) rfl h (fun r h => t_spec_l1Cur_pick h) (fun r7 u8 h => ?_)
  refine Br.oe h (fun p9 h => ?_) (fun p9 h => ?_)
  · refine BslQ.o vint [n0] (by exact fun _ => ⟨rfl, rfl⟩) (by rfl) ?_
    refine NoOwn.o (fun _ => rfl) ?_
    refine AppQ.o (m := 1) vint (by exact fun _ => ⟨rfl, rfl⟩) (q6_5) ([n0]) (by rfl) (by rfl) h fun h => ?_
    cases h; exact ⟨(by rfl), (by rfl)⟩
  refine Br.oe h (fun p10 h => ?_) (fun p10 h => ?_)
  · refine Br.od h (fun p11 h => ?_) (fun p11 h => ?_)
    · refine CallQ.io vint (rP true (rS_l1Cur false)) (by rfl) rfl (fun _ => rfl) (fun _ => ⟨rfl, rfl⟩) rfl h (fun r h => t_spec_l1Cur_pick h) (fun r12 u13 h => ?_)
      refine BslQ.o vint ([(0 : Int), (-1 : Int), n0]) (by exact fun _ => ⟨rfl, rfl⟩) (by rfl) ?_
      refine CallQ.io vint (rP true (rS_l1Cur false)) (by rfl) rfl (fun _ => rfl) (fun _ => ⟨rfl, rfl⟩) rfl h (fun r h => t_spec_l1Cur_among h) (fun r14 u15 h => ?_)
      refine Len.map ?_
      refine Ask.o h fun p16 h => ?_
      refine SetKids.one (fun _ => ⟨rfl, rfl⟩) (r14) (by rfl) (by first | omega | (simp [mulN] at *; omega)) ?_
      cases h; exact ⟨(by rfl), (by rfl)⟩
    cases h; exact ⟨(by rfl), (by rfl)⟩
  cases h; exact ⟨(by rfl), (by rfl)⟩

noncomputable def F_spec_l23Covers_l1 (p0 : SPoset) (x0 : Int) (y0 : Int) : Int → Option (Int ⊕ (Unit ⊕ Unit)) := fun x7 =>
 if x7 < (↑p0.Below.length : Int) then
 (F_spec_l23Less (p0) (x0) (x7)).bind fun r4 =>
 if (r4) = true then
 (F_spec_l23Less (p0) (x7) (y0)).bind fun r6 =>
 if (r6) = true then
 some (.inr (.inl ()))
 else
 ask (InI (x7 + (1 : Int))) <|
 some (.inl (x7 + (1 : Int)))
 else
 ask (InI (x7 + (1 : Int))) <|
 some (.inl (x7 + (1 : Int)))
 else
 some (.inr (.inr ()))
def S_spec_l23Covers_l1 (p0 : SPoset) (x0 : Int) (y0 : Int) : Int → St := fun s => [(7, A.val (vint s)), (3, A.val ((rP true (rS_Poset false)) (p0))), (1, A.val (vint (x0))), (2, A.val (vint (y0)))]
def T_spec_l23Covers_l1 (_p0 : SPoset) (_x0 : Int) (_y0 : Int) : (Unit ⊕ Unit) → Tgt
 | (.inl _s) => (Ex.ret, [6], [(6, A.val (V.bool (false)))])
 | (.inr _s) => ((Ex.exit 0), [], [])
theorem b_spec_l23Covers_l1 {p0 : SPoset} {x0 : Int} {y0 : Int} (x7 : Int) (o : Int ⊕ (Unit ⊕ Unit)) (h : F_spec_l23Covers_l1 p0 x0 y0 x7 = some o) : vc Try.prog c_spec_l23Covers_l1 (outQ [7, 3, 1, 2] (S_spec_l23Covers_l1 p0 x0 y0) (T_spec_l23Covers_l1 p0 x0 y0) o) (S_spec_l23Covers_l1 p0 x0 y0 x7) := by
  unfold F_spec_l23Covers_l1 at h
  try dsimp only at h
  refine Cells.lit rfl rfl ?_
  refine Len.map ?_
  refine Br.od h (fun p3 h => ?_) (fun p3 h => ?_)
  · refine Cells.lit rfl rfl ?_
    refine CallQ.o V.bool (by rfl) h (fun r h => t_spec_l23Less h) (fun r4 h => ?_)
    refine Br.ob h (fun p5 h => ?_) (fun p5 h => ?_)
    · refine Cells.lit rfl rfl ?_
      refine Br.yes ?_
      refine Br.yes ?_
      refine Br.yes ?_
      refine CallQ.o V.bool (by rfl) h (fun r h => t_spec_l23Less h) (fun r6 h => ?_)
      refine Br.yes ?_
      refine Br.ob h (fun p7 h => ?_) (fun p7 h => ?_)
      · cases h; exact ⟨rfl, rfl⟩
      refine Ask.o h fun p8 h => ?_
      cases h; exact ⟨rfl, rfl⟩
    refine Br.no ?_
    refine Br.no ?_
    refine Br.no ?_
    refine Br.no ?_
    refine Br.no ?_
    refine Ask.o h fun p9 h => ?_
    cases h; exact ⟨rfl, rfl⟩
  cases h; exact ⟨rfl, rfl⟩

noncomputable def F_spec_l23Covers (p0 : SPoset) (x0 : Int) (y0 : Int) : Option Bool :=
 (F_spec_l23Less (p0) (x0) (y0)).bind fun r1 =>
 if (r1) = true then
 (loopO (F_spec_l23Covers_l1 p0 x0 y0) (0 : Int)).bind fun t => match t with
 | (.inl _) => (some false)
 | (.inr _) => (some true)
 else
 some false
theorem t_spec_l23Covers {p0 : SPoset} {x0 : Int} {y0 : Int} {v : Bool} (h : F_spec_l23Covers p0 x0 y0 = some v) : Ret Try.prog f_spec_l23Covers [(rS_Poset false) p0, vint x0, vint y0] (V.bool v) := by
  refine ret_vc k_spec_l23Covers (Nat.le_of_ble_eq_true rfl) ?_
  unfold F_spec_l23Covers at h
  refine Cells.lit rfl rfl ?_
  refine CallQ.o V.bool (by rfl) h (fun r h => t_spec_l23Less h) (fun r1 h => ?_)
  refine Br.flip ?_
  refine Br.ob h (fun p2 h => ?_) (fun p2 h => ?_)
  · refine LoopQ.o [7, 3, 1, 2] (S_spec_l23Covers_l1 p0 x0 y0) (T_spec_l23Covers_l1 p0 x0 y0) h (fun s o h => b_spec_l23Covers_l1 s o h) (by first | rfl | simp [restrict, look, mulN_one, V.fz, fzL, V.up, upL, fzL_map, fz_slr, fz_at, slr]) (by rintro (_ | _) <;> rfl) ?_
    rintro (⟨⟩ | ⟨⟩) h
    · try dsimp only at h
      cases h; exact (by rfl)
    try dsimp only at h
    cases h; exact (by rfl)
  cases h; exact (by rfl)

noncomputable def F_impl_order_lowerCovers (o0 : (List (List Bool))) (x0 : Int) : Option (List Int) :=
 (F_impl_order_those (o0) (fun w_0 => F_impl_order_lowerCovers_1 w_0 (o0) (x0))).bind fun r1 =>
 some r1
theorem t_impl_order_lowerCovers {o0 : (List (List Bool))} {x0 : Int} {v : (List Int)} (h : F_impl_order_lowerCovers o0 x0 = some v) : Ret Try.prog f_impl_order_lowerCovers [(slr false 1 (slr false 1 V.bool)) o0, vint x0] ((slr true 1 vint) v) := by
  refine ret_vc k_impl_order_lowerCovers (Nat.le_of_ble_eq_true rfl) ?_
  unfold F_impl_order_lowerCovers at h
  refine Cells.lit rfl rfl ?_
  refine CallQ.rd (slr true 1 vint) (by rfl) (fun _ => by simp [V.noFz, noFzL_map]) h (fun r h => t_impl_order_those (f_so0 := f_impl_order_lowerCovers_1) (c_so0 := [(rP false (slr false 1 (slr false 1 V.bool))) (o0), (rP false vint) (x0)]) (fun w_0 v h => Ret.cast (by rfl) (t_impl_order_lowerCovers_1 h)) h) (fun r1 h => ?_)
  cases h; exact (by rfl)

noncomputable def F_spec_LatticeAlgebra (p0 : SPoset) : Option (SAlgebra × Bool) :=
 (F_spec_l24Good (p0)).bind fun r1 =>
 if (r1) = true then
 if (↑p0.Below.length : Int) > (8 : Int) then
 some ({ Size := (0 : Int), Ops := nilL SOp }, false)
 else
 (F_spec_l24Algebra (p0)).bind fun r4 =>
 some (r4, true)
 else
 some ({ Size := (0 : Int), Ops := nilL SOp }, false)
theorem t_spec_LatticeAlgebra {p0 : SPoset} {v : (SAlgebra × Bool)} (h : F_spec_LatticeAlgebra p0 = some v) : Ret Try.prog f_spec_LatticeAlgebra [(rS_Poset false) p0] ((fun r => V.tup [(rS_Algebra true) r.1, V.bool r.2]) v) := by
  refine ret_vc k_spec_LatticeAlgebra (Nat.le_of_ble_eq_true rfl) ?_
  unfold F_spec_LatticeAlgebra at h
  refine Cells.lit rfl rfl ?_
  refine CallQ.o V.bool (by rfl) h (fun r h => t_spec_l24Good h) (fun r1 h => ?_)
  refine Br.flip ?_
  refine Br.ob h (fun p2 h => ?_) (fun p2 h => ?_)
  · refine Br.no ?_
    refine Cells.lit rfl rfl ?_
    refine Br.no ?_
    refine Len.map ?_
    refine Br.no ?_
    refine Br.no ?_
    refine Br.od h (fun p3 h => ?_) (fun p3 h => ?_)
    · refine SetKids.lit rfl ?_
      cases h; exact (by rfl)
    refine Cells.lit rfl rfl ?_
    refine CallQ.o (rS_Algebra true) (by rfl) h (fun r h => t_spec_l24Algebra h) (fun r4 h => ?_)
    refine SetKids.lit rfl ?_
    cases h; exact (by rfl)
  refine Br.yes ?_
  refine Br.yes ?_
  refine Br.yes ?_
  refine Br.yes ?_
  refine Br.yes ?_
  refine SetKids.lit rfl ?_
  cases h; exact (by rfl)

noncomputable def F_spec_IsLattice (p0 : SPoset) : Option Bool :=
 (F_spec_l24Good (p0)).bind fun r1 =>
 some r1
theorem t_spec_IsLattice {p0 : SPoset} {v : Bool} (h : F_spec_IsLattice p0 = some v) : Ret Try.prog f_spec_IsLattice [(rS_Poset false) p0] (V.bool v) := by
  refine ret_vc k_spec_IsLattice (Nat.le_of_ble_eq_true rfl) ?_
  unfold F_spec_IsLattice at h
  refine Cells.lit rfl rfl ?_
  refine CallQ.o V.bool (by rfl) h (fun r h => t_spec_l24Good h) (fun r1 h => ?_)
  cases h; exact (by rfl)

noncomputable def F_spec_l24Irreducibles_l1 (p0 : SPoset) (x4 : Int) (_x3 : List Int) : (Int × Int) → Option ((Int × Int) ⊕ Int) := fun (x6, x5) =>
 if x6 < (↑p0.Below.length : Int) then
 (F_spec_l23Covers (p0) (x6) (x4)).bind fun r3 =>
 if (r3) = true then
 ask (InI (x5 + (1 : Int))) <|
 ask (InI (x6 + (1 : Int))) <|
 some (.inl (x6 + (1 : Int), x5 + (1 : Int)))
 else
 ask (InI (x6 + (1 : Int))) <|
 some (.inl (x6 + (1 : Int), x5))
 else
 some (.inr x5)
def S_spec_l24Irreducibles_l1 (p0 : SPoset) (x4 : Int) (x3 : List Int) : (Int × Int) → St := fun s => [(6, A.val (vint s.1)), (5, A.val (vint s.2)), (4, A.val (vint (x4))), (3, A.val ((slr true 1 vint) (x3))), (1, A.val ((rP true (rS_Poset false)) (p0)))]
def T_spec_l24Irreducibles_l1 (p0 : SPoset) (x4 : Int) (x3 : List Int) : Int → Tgt
 | s => ((Ex.exit 2), [5, 4, 3, 1], [(5, A.val (vint s)), (4, A.val (vint (x4))), (3, A.val ((slr true 1 vint) (x3))), (1, A.val ((rP true (rS_Poset false)) (p0)))])
theorem b_spec_l24Irreducibles_l1 {p0 : SPoset} {x4 : Int} {x3 : List Int} (s : (Int × Int)) (o : (Int × Int) ⊕ Int) (h : F_spec_l24Irreducibles_l1 p0 x4 x3 s = some o) : vc Try.prog c_spec_l24Irreducibles_l1 (outQ [6, 5, 4, 3, 1] (S_spec_l24Irreducibles_l1 p0 x4 x3) (T_spec_l24Irreducibles_l1 p0 x4 x3) o) (S_spec_l24Irreducibles_l1 p0 x4 x3 s) := by
  obtain ⟨x6, x5⟩ := s
  unfold F_spec_l24Irreducibles_l1 at h
  try dsimp only at h
  refine Cells.lit rfl rfl ?_
  refine Len.map ?_
  refine Br.od h (fun p2 h => ?_) (fun p2 h => ?_)
  · refine Cells.lit rfl rfl ?_
    refine CallQ.o V.bool (by rfl) h (fun r h => t_spec_l23Covers h) (fun r3 h => ?_)
    refine Br.ob h (fun p4 h => ?_) (fun p4 h => ?_)
    · refine Ask.o h fun p5 h => ?_
      refine Ask.o h fun p6 h => ?_
      cases h; exact ⟨rfl, rfl⟩
    refine Ask.o h fun p7 h => ?_
    cases h; exact ⟨rfl, rfl⟩
  cases h; exact ⟨rfl, rfl⟩

noncomputable def F_spec_l24Irreducibles_l2 (p0 : SPoset) : (Int × (List Int)) → Option ((Int × (List Int)) ⊕ (List Int)) := fun (x4, x3) =>
 if x4 < (↑p0.Below.length : Int) then
 (loopO (F_spec_l24Irreducibles_l1 p0 x4 x3) ((0 : Int), (0 : Int))).bind fun q8_5 =>
 if q8_5 = (1 : Int) then
 ask ((x3).length + ([x4]).length ≤ LIM) <|
 ask (InI (x4 + (1 : Int))) <|
 some (.inl (x4 + (1 : Int), x3 ++ [x4]))
 else
 ask (InI (x4 + (1 : Int))) <|
 some (.inl (x4 + (1 : Int), x3))
 else
 some (.inr x3)
def S_spec_l24Irreducibles_l2 (p0 : SPoset) : (Int × (List Int)) → St := fun s => [(4, A.val (vint s.1)), (3, A.val ((slr true 1 vint) s.2)), (1, A.val ((rP true (rS_Poset false)) (p0)))]
def T_spec_l24Irreducibles_l2 (_p0 : SPoset) : (List Int) → Tgt
 | s => ((Ex.exit 0), [3], [(3, A.val ((slr true 1 vint) s))])
theorem b_spec_l24Irreducibles_l2 {p0 : SPoset} (s : (Int × (List Int))) (o : (Int × (List Int)) ⊕ (List Int)) (h : F_spec_l24Irreducibles_l2 p0 s = some o) : vc Try.prog c_spec_l24Irreducibles_l2 (outQ [4, 3, 1] (S_spec_l24Irreducibles_l2 p0) (T_spec_l24Irreducibles_l2 p0) o) (S_spec_l24Irreducibles_l2 p0 s) := by
  obtain ⟨x4, x3⟩ := s
  unfold F_spec_l24Irreducibles_l2 at h
  try dsimp only at h
  refine Cells.lit rfl rfl ?_
  refine Len.map ?_
  refine Br.od h (fun p1 h => ?_) (fun p1 h => ?_)
  · refine LoopQ.o [6, 5, 4, 3, 1] (S_spec_l24Irreducibles_l1 p0 x4 x3) (T_spec_l24Irreducibles_l1 p0 x4 x3) h (fun s o h => b_spec_l24Irreducibles_l1 s o h) (by first | rfl | simp [restrict, look, mulN_one, V.fz, fzL, V.up, upL, fzL_map, fz_slr, fz_at, slr]) (fun _ => rfl) ?_
    rintro q8_5 h
    try dsimp only at h
    refine Br.oe h (fun p9 h => ?_) (fun p9 h => ?_)
    · refine BslQ.o vint [x4] (by exact fun _ => ⟨rfl, rfl⟩) (by rfl) ?_
      refine NoOwn.o (fun _ => rfl) ?_
      refine AppQ.o (m := 1) vint (by exact fun _ => ⟨rfl, rfl⟩) (x3) ([x4]) (by rfl) (by rfl) h fun h => ?_
      refine Ask.o h fun p10 h => ?_
      cases h; exact ⟨rfl, rfl⟩
    refine Ask.o h fun p11 h => ?_
    cases h; exact ⟨rfl, rfl⟩
  cases h; exact ⟨rfl, rfl⟩

noncomputable def F_spec_l24Irreducibles (p0 : SPoset) : Option (List Int) :=
 (loopO (F_spec_l24Irreducibles_l2 p0) ((0 : Int), nilL Int)).bind fun q12_3 =>
 some q12_3
theorem t_spec_l24Irreducibles {p0 : SPoset} {v : (List Int)} (h : F_spec_l24Irreducibles p0 = some v) : Ret Try.prog f_spec_l24Irreducibles [(rS_Poset false) p0] ((slr true 1 vint) v) := by
  refine ret_vc k_spec_l24Irreducibles (Nat.le_of_ble_eq_true rfl) ?_
  unfold F_spec_l24Irreducibles at h
  refine BslQ.o vint (nilL Int) (by exact fun _ => ⟨rfl, rfl⟩) (by rfl) ?_
  refine LoopQ.o [4, 3, 1] (S_spec_l24Irreducibles_l2 p0) (T_spec_l24Irreducibles_l2 p0) h (fun s o h => b_spec_l24Irreducibles_l2 s o h) (by first | rfl | simp [restrict, look, mulN_one, V.fz, fzL, V.up, upL, fzL_map, fz_slr, fz_at, slr]) (fun _ => rfl) ?_
  rintro q12_3 h
  try dsimp only at h
  cases h; exact (by rfl)

noncomputable def F_impl_MeetIrreducibles_1_1 (x0 : Int) (a1 : Slattice) : Option Bool :=
 (F_impl_order_upperCovers (a1.order) (x0)).bind fun r1 =>
 some ((↑r1.length : Int) == (1 : Int))
theorem t_impl_MeetIrreducibles_1_1 {x0 : Int} {a1 : Slattice} {v : Bool} (h : F_impl_MeetIrreducibles_1_1 x0 a1 = some v) : Ret Try.prog f_impl_MeetIrreducibles_1_1 [vint x0, (rP false (rP false (rS_lattice false))) a1] (V.bool v) := by
  refine ret_vc k_impl_MeetIrreducibles_1_1 (Nat.le_of_ble_eq_true rfl) ?_
  unfold F_impl_MeetIrreducibles_1_1 at h
  refine CallQ.o (slr true 1 vint) (by rfl) h (fun r h => t_impl_order_upperCovers h) (fun r1 h => ?_)
  refine Len.map ?_
  cases h; exact (by rfl)

end Go.Proofs.Ytoikbcagaanhgaa.Ax
