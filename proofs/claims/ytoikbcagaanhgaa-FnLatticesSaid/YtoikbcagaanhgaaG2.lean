/-
  What the functions compute, as functions on plain data, and that the program does compute it; written by program.
-/
import Derived.Test.YtoikbcagaanhgaaCode
namespace Go.Proofs.Ytoikbcagaanhgaa.Ax
open Go
set_option maxRecDepth 100000
set_option maxHeartbeats 4000000

noncomputable def F_impl_sameList_l1 (a0 : List Int) (b0 : List Int) : Int → Option (Int ⊕ (Unit ⊕ Unit)) := fun x14 =>
 if x14 < (↑a0.length : Int) then
 ask ((0 : Int) ≤ x14 ∧ x14 < (↑a0.length : Int)) <|
 ask ((0 : Int) ≤ x14 ∧ x14 < (↑b0.length : Int)) <|
 if nth b0 x14.toNat ≠ nth a0 x14.toNat then
 some (.inr (.inl ()))
 else
 ask (InI (x14 + (1 : Int))) <|
 some (.inl (x14 + (1 : Int)))
 else
 some (.inr (.inr ()))
def S_impl_sameList_l1 (a0 : List Int) (b0 : List Int) : Int → St := fun s => [(14, A.val (vint s)), (13, A.val (vint ((↑a0.length : Int)))), (12, A.val ((slr false 1 vint) (a0))), (1, A.val ((slr false 1 vint) (b0)))]
def T_impl_sameList_l1 (_a0 : List Int) (_b0 : List Int) : (Unit ⊕ Unit) → Tgt
 | (.inl _s) => (Ex.ret, [4], [(4, A.val (V.bool (false)))])
 | (.inr _s) => ((Ex.exit 0), [], [])
theorem b_impl_sameList_l1 {a0 : List Int} {b0 : List Int} (x14 : Int) (o : Int ⊕ (Unit ⊕ Unit)) (h : F_impl_sameList_l1 a0 b0 x14 = some o) : vc Try.prog c_impl_sameList_l1 (outQ [14, 13, 12, 1] (S_impl_sameList_l1 a0 b0) (T_impl_sameList_l1 a0 b0) o) (S_impl_sameList_l1 a0 b0 x14) := by
  unfold F_impl_sameList_l1 at h
  try dsimp only at h
  refine Br.od h (fun p2 h => ?_) (fun p2 h => ?_)
  · refine Len.map ?_
    refine Ask.o h fun p3 h => ?_
    refine Elem.o (by first | omega | (simp [mulN] at *; omega)) ?_
    refine Len.map ?_
    refine Ask.o h fun p4 h => ?_
    refine Elem.o (by first | omega | (simp [mulN] at *; omega)) ?_
    refine Br.on h (fun p5 h => ?_) (fun p5 h => ?_)
    · cases h; exact ⟨rfl, rfl⟩
    refine Ask.o h fun p6 h => ?_
    cases h; exact ⟨rfl, rfl⟩
  cases h; exact ⟨rfl, rfl⟩

noncomputable def F_impl_sameList (a0 : (List Int)) (b0 : (List Int)) : Option Bool :=
 if (↑a0.length : Int) ≠ (↑b0.length : Int) then
 some false
 else
 (loopO (F_impl_sameList_l1 a0 b0) (0 : Int)).bind fun t => match t with
 | (.inl _) => (some false)
 | (.inr _) => (some true)
theorem t_impl_sameList {a0 : (List Int)} {b0 : (List Int)} {v : Bool} (h : F_impl_sameList a0 b0 = some v) : Ret Try.prog f_impl_sameList [(slr false 1 vint) a0, (slr false 1 vint) b0] (V.bool v) := by
  refine ret_vc k_impl_sameList (Nat.le_of_ble_eq_true rfl) ?_
  unfold F_impl_sameList at h
  refine Len.map ?_
  refine Len.map ?_
  refine Br.on h (fun p1 h => ?_) (fun p1 h => ?_)
  · cases h; exact (by rfl)
  refine Len.map ?_
  refine LoopQ.o [14, 13, 12, 1] (S_impl_sameList_l1 a0 b0) (T_impl_sameList_l1 a0 b0) h (fun s o h => b_impl_sameList_l1 s o h) (by first | rfl | simp [restrict, look, mulN_one, V.fz, fzL, V.up, upL, fzL_map, fz_slr, fz_at, slr]) (by rintro (_ | _) <;> rfl) ?_
  rintro (⟨⟩ | ⟨⟩) h
  · try dsimp only at h
    cases h; exact (by rfl)
  try dsimp only at h
  cases h; exact (by rfl)

noncomputable def F_impl_typeOf_l1 (a0 : SAlgebra) : (Int × (List Int)) → Option ((Int × (List Int)) ⊕ (List Int)) := fun (x10, x3) =>
 if x10 < (↑a0.Ops.length : Int) then
 ask ((0 : Int) ≤ x10 ∧ x10 < (↑a0.Ops.length : Int)) <|
 ask ((x3).length + ([(nth a0.Ops x10.toNat).Arity]).length ≤ LIM) <|
 ask (InI (x10 + (1 : Int))) <|
 some (.inl (x10 + (1 : Int), x3 ++ [(nth a0.Ops x10.toNat).Arity]))
 else
 some (.inr x3)
def S_impl_typeOf_l1 (a0 : SAlgebra) : (Int × (List Int)) → St := fun s => [(10, A.val (vint s.1)), (9, A.val (vint ((↑a0.Ops.length : Int)))), (8, A.val ((slr false 2 (rS_Op false)) (a0.Ops))), (3, A.val ((slr true 1 vint) s.2))]
def T_impl_typeOf_l1 (_a0 : SAlgebra) : (List Int) → Tgt
 | s => ((Ex.exit 0), [3], [(3, A.val ((slr true 1 vint) s))])
theorem b_impl_typeOf_l1 {a0 : SAlgebra} (s : (Int × (List Int))) (o : (Int × (List Int)) ⊕ (List Int)) (h : F_impl_typeOf_l1 a0 s = some o) : vc Try.prog c_impl_typeOf_l1 (outQ [10, 9, 8, 3] (S_impl_typeOf_l1 a0) (T_impl_typeOf_l1 a0) o) (S_impl_typeOf_l1 a0 s) := by
  obtain ⟨x10, x3⟩ := s
  unfold F_impl_typeOf_l1 at h
  try dsimp only at h
  refine Br.od h (fun p1 h => ?_) (fun p1 h => ?_)
  · refine Len.map ?_
    refine Ask.o h fun p2 h => ?_
    refine Elem.o (by first | omega | (simp [mulN] at *; omega)) ?_
    refine SetKids.lit rfl ?_
    refine Cells.lit rfl rfl ?_
    refine BslQ.o vint ([(nth a0.Ops x10.toNat).Arity]) (by exact fun _ => ⟨rfl, rfl⟩) (by rfl) ?_
    refine NoOwn.o (fun _ => rfl) ?_
    refine AppQ.o (m := 1) vint (by exact fun _ => ⟨rfl, rfl⟩) (x3) ([(nth a0.Ops x10.toNat).Arity]) (by rfl) (by rfl) h fun h => ?_
    refine Ask.o h fun p3 h => ?_
    cases h; exact ⟨rfl, rfl⟩
  cases h; exact ⟨rfl, rfl⟩

noncomputable def F_impl_typeOf (a0 : SAlgebra) : Option (List Int) :=
 (loopO (F_impl_typeOf_l1 a0) ((0 : Int), nilL Int)).bind fun q4_3 =>
 some q4_3
theorem t_impl_typeOf {a0 : SAlgebra} {v : (List Int)} (h : F_impl_typeOf a0 = some v) : Ret Try.prog f_impl_typeOf [(rS_Algebra false) a0] ((slr true 1 vint) v) := by
  refine ret_vc k_impl_typeOf (Nat.le_of_ble_eq_true rfl) ?_
  unfold F_impl_typeOf at h
  refine BslQ.o vint (nilL Int) (by exact fun _ => ⟨rfl, rfl⟩) (by rfl) ?_
  refine Cells.lit rfl rfl ?_
  refine Len.map ?_
  refine LoopQ.o [10, 9, 8, 3] (S_impl_typeOf_l1 a0) (T_impl_typeOf_l1 a0) h (fun s o h => b_impl_typeOf_l1 s o h) (by first | rfl | simp [restrict, look, mulN_one, V.fz, fzL, V.up, upL, fzL_map, fz_slr, fz_at, slr]) (fun _ => rfl) ?_
  rintro q4_3 h
  try dsimp only at h
  cases h; exact (by rfl)

noncomputable def F_impl_order_those_l1 (o0 : List (List Bool)) (so0 : Int → Option Bool) : (Int × (List Int)) → Option ((Int × (List Int)) ⊕ (List Int)) := fun (x10, x5) =>
 if x10 < (↑o0.length : Int) then
 (so0 (x10)).bind fun r2 =>
 if (r2) = true then
 ask ((x5).length + ([x10]).length ≤ LIM) <|
 ask (InI (x10 + (1 : Int))) <|
 some (.inl (x10 + (1 : Int), x5 ++ [x10]))
 else
 ask (InI (x10 + (1 : Int))) <|
 some (.inl (x10 + (1 : Int), x5))
 else
 some (.inr x5)
def S_impl_order_those_l1 (o0 : List (List Bool)) (f_so0 : Nat) (c_so0 : List V) : (Int × (List Int)) → St := fun s => [(10, A.val (vint s.1)), (9, A.val (vint ((↑o0.length : Int)))), (5, A.val ((slr true 1 vint) s.2)), (1, A.val (V.fclo f_so0 c_so0))]
def T_impl_order_those_l1 (_o0 : List (List Bool)) (_f_so0 : Nat) (_c_so0 : List V) : (List Int) → Tgt
 | s => ((Ex.exit 0), [5], [(5, A.val ((slr true 1 vint) s))])
theorem b_impl_order_those_l1 {o0 : List (List Bool)} {so0 : Int → Option Bool} {f_so0 : Nat} {c_so0 : List V} (h_so0 : ∀ w_0 v, so0 w_0 = some v → Ret Try.prog f_so0 ([vint w_0] ++ fzL c_so0) (V.bool v)) (s : (Int × (List Int))) (o : (Int × (List Int)) ⊕ (List Int)) (h : F_impl_order_those_l1 o0 so0 s = some o) : vc Try.prog c_impl_order_those_l1 (outQ [10, 9, 5, 1] (S_impl_order_those_l1 o0 f_so0 c_so0) (T_impl_order_those_l1 o0 f_so0 c_so0) o) (S_impl_order_those_l1 o0 f_so0 c_so0 s) := by
  obtain ⟨x10, x5⟩ := s
  unfold F_impl_order_those_l1 at h
  try dsimp only at h
  refine Br.od h (fun p1 h => ?_) (fun p1 h => ?_)
  · refine CloQ.o V.bool (by rfl) (fun _ => by first | rfl | simp [resOk, V.noFz, noFzL, noFzL_map, NoFz.eq]) h (fun r h => h_so0 _ _ h) (fun r2 h => ?_)
    refine Br.ob h (fun p3 h => ?_) (fun p3 h => ?_)
    · refine BslQ.o vint [x10] (by exact fun _ => ⟨rfl, rfl⟩) (by rfl) ?_
      refine NoOwn.o (fun _ => rfl) ?_
      refine AppQ.o (m := 1) vint (by exact fun _ => ⟨rfl, rfl⟩) (x5) ([x10]) (by rfl) (by rfl) h fun h => ?_
      refine Ask.o h fun p4 h => ?_
      cases h; exact ⟨rfl, rfl⟩
    refine Ask.o h fun p5 h => ?_
    cases h; exact ⟨rfl, rfl⟩
  cases h; exact ⟨rfl, rfl⟩

noncomputable def F_impl_order_those (o0 : (List (List Bool))) (so0 : (Int → Option Bool)) : Option (List Int) :=
 (loopO (F_impl_order_those_l1 o0 so0) ((0 : Int), nilL Int)).bind fun q6_5 =>
 some q6_5
theorem t_impl_order_those {o0 : (List (List Bool))} {so0 : (Int → Option Bool)} {f_so0 : Nat} {c_so0 : List V} (h_so0 : ∀ w_0 v, so0 w_0 = some v → Ret Try.prog f_so0 ([vint w_0] ++ fzL c_so0) (V.bool v)) {v : (List Int)} (h : F_impl_order_those o0 so0 = some v) : Ret Try.prog f_impl_order_those [(slr false 1 (slr false 1 V.bool)) o0, V.fclo f_so0 c_so0] ((slr true 1 vint) v) := by
  refine ret_vc k_impl_order_those (Nat.le_of_ble_eq_true rfl) ?_
  unfold F_impl_order_those at h
  refine BslQ.o vint (nilL Int) (by exact fun _ => ⟨rfl, rfl⟩) (by rfl) ?_
  refine Len.map ?_
  refine LoopQ.o [10, 9, 5, 1] (S_impl_order_those_l1 o0 f_so0 c_so0) (T_impl_order_those_l1 o0 f_so0 c_so0) h (fun s o h => b_impl_order_those_l1 h_so0 s o h) (by first | rfl | simp [restrict, look, mulN_one, V.fz, fzL, V.up, upL, fzL_map, fz_slr, fz_at, slr]) (fun _ => rfl) ?_
  rintro q6_5 h
  try dsimp only at h
  cases h; exact (by rfl)

noncomputable def F_spec_l1Cur_next (c0 : Sl1Cur) : Option (Int × Sl1Cur) :=
 ((if c0.at_ < (↑c0.code.length : Int) then
 ask ((0 : Int) ≤ c0.at_ ∧ c0.at_ < (↑c0.code.length : Int)) <|
 some (IntKind.i64.wrap (nth c0.code c0.at_.toNat))
 else
 some (0 : Int) : Option Int)).bind fun q3_3 =>
 ask (InI (c0.at_ + (1 : Int))) <|
 if c0.at_ + (1 : Int) ≤ (↑c0.code.length : Int) then
 some (q3_3, { code := c0.code, at_ := c0.at_ + (1 : Int), seed := IntKind.u64.wrap (IntKind.u64.wrap (IntKind.u64.wrap (c0.seed * (6364136223846793005 : Int)) + IntKind.u64.wrap q3_3) + (550289 : Int)) })
 else
 some (IntKind.i64.wrap (IntKind.u64.wrap (↑(BitVec.ofInt IntKind.u64.bits ((IntKind.u64.wrap (IntKind.u64.wrap (IntKind.u64.wrap (c0.seed * (6364136223846793005 : Int)) + IntKind.u64.wrap q3_3) + (550289 : Int))).fdiv ((2 : Int) ^ min (Int.toNat (40 : Int)) IntKind.u64.bits)) &&& BitVec.ofInt IntKind.u64.bits (255 : Int)).toNat : Int)), { code := c0.code, at_ := c0.at_ + (1 : Int), seed := IntKind.u64.wrap (IntKind.u64.wrap (IntKind.u64.wrap (c0.seed * (6364136223846793005 : Int)) + IntKind.u64.wrap q3_3) + (550289 : Int)) })
theorem t_spec_l1Cur_next {c0 : Sl1Cur} {v : (Int × Sl1Cur)} (h : F_spec_l1Cur_next c0 = some v) : RetO Try.prog f_spec_l1Cur_next [(rP true (rS_l1Cur false)) c0] (vint v.1) 0 ((rP true (rS_l1Cur false)) v.2) := by
  refine reto_vc k_spec_l1Cur_next (Nat.le_of_ble_eq_true rfl) ?_
  unfold F_spec_l1Cur_next at h
  refine CutQ.o (fun t : Int => match t with | s => (Ex.normal, [3, 0, 62], [(3, A.val (vint s)), (0, A.ref 62 []), (62, A.val ((rP true (rS_l1Cur false)) (c0)))])) h ?_ ?_
  · intro t h
    refine Cells.lit rfl rfl ?_
    refine Cells.lit rfl rfl ?_
    refine Len.map ?_
    refine Br.od h (fun p1 h => ?_) (fun p1 h => ?_)
    · refine Cells.lit rfl rfl ?_
      refine Cells.lit rfl rfl ?_
      refine Len.map ?_
      refine Ask.o h fun p2 h => ?_
      refine Elem.o (by first | omega | (simp [mulN] at *; omega)) ?_
      cases h; exact ⟨rfl, rfl⟩
    cases h; exact ⟨rfl, rfl⟩
  rintro q3_3 h
  try dsimp only at h
  refine Cells.lit rfl rfl ?_
  refine Ask.o h fun p4 h => ?_
  refine SetKids.lit rfl ?_
  refine Cells.lit rfl rfl ?_
  refine SetKids.lit rfl ?_
  refine Cells.lit rfl rfl ?_
  refine Cells.lit rfl rfl ?_
  refine Len.map ?_
  refine Br.od h (fun p5 h => ?_) (fun p5 h => ?_)
  · cases h; exact ⟨(by rfl), (by rfl)⟩
  refine Cells.lit rfl rfl ?_
  cases h; exact ⟨(by rfl), (by rfl)⟩

end Go.Proofs.Ytoikbcagaanhgaa.Ax
