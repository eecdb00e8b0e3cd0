/-
  What the functions compute, as functions on plain data, and that the program does compute it; written by program.
-/
import Derived.Test.YtdodfnbbfkcgnaaCode
import Derived.Test.YtdodfnbbfkcgnaaG1
import Derived.Test.YtdodfnbbfkcgnaaG2
import Derived.Test.YtdodfnbbfkcgnaaG3
import Derived.Test.YtdodfnbbfkcgnaaG4
namespace Go.Proofs.Ytdodfnbbfkcgnaa.Ax
open Go
set_option maxRecDepth 100000
set_option maxHeartbeats 4000000

noncomputable def F_impl_order_meetTable_l1 (o0 : List (List Bool)) (x12 : Int) (_x4 : List (List Int)) : (Int × (List Int)) → Option ((Int × (List Int)) ⊕ (Unit ⊕ (List Int))) := fun (x18, x6) =>
   if x18 < (↑o0.length : Int) then
    (F_impl_order_those (o0) (fun w_0 => F_impl_order_meetTable_1 w_0 (o0) (x12) (x18))).bind fun r3 =>
    (F_impl_order_greatest (o0) (r3)).bind fun r4 =>
    if r4 < (0 : Int) then
     some (.inr (.inl ()))
    else
     ask ((x6).length + ([r4]).length ≤ LIM) <|
     ask (InI (x18 + (1 : Int))) <|
     some (.inl (x18 + (1 : Int), x6 ++ [r4]))
   else
    some (.inr (.inr x6))
def S_impl_order_meetTable_l1 (o0 : List (List Bool)) (x12 : Int) (x4 : List (List Int)) : (Int × (List Int)) → St := fun s => [(18, A.val (vint s.1)), (17, A.val (vint ((↑o0.length : Int)))), (6, A.val ((slr true 1 vint) s.2)), (5, A.val ((rP true vint) (x12))), (12, A.val (vint (x12))), (11, A.val (vint ((↑o0.length : Int)))), (4, A.val ((slr true 1 (slr true 1 vint)) (x4))), (1, A.val ((rP true (slr false 1 (slr false 1 V.bool))) (o0)))]
def T_impl_order_meetTable_l1 (o0 : List (List Bool)) (x12 : Int) (x4 : List (List Int)) : (Unit ⊕ (List Int)) → Tgt
  | (.inl _s) => (Ex.ret, [3, 2], [(3, A.val (V.bool (false))), (2, A.val ((slr true 1 (slr true 1 vint)) (nilL (List Int))))])
  | (.inr s) => ((Ex.exit 2), [6, 12, 11, 4, 1], [(6, A.val ((slr true 1 vint) s)), (12, A.val (vint (x12))), (11, A.val (vint ((↑o0.length : Int)))), (4, A.val ((slr true 1 (slr true 1 vint)) (x4))), (1, A.val ((rP true (slr false 1 (slr false 1 V.bool))) (o0)))])
theorem b_impl_order_meetTable_l1 {o0 : List (List Bool)} {x12 : Int} {x4 : List (List Int)} (s : (Int × (List Int))) (o : (Int × (List Int)) ⊕ (Unit ⊕ (List Int))) (h : F_impl_order_meetTable_l1 o0 x12 x4 s = some o) : vc Try.prog c_impl_order_meetTable_l1 (outQ [18, 17, 6, 5, 12, 11, 4, 1] (S_impl_order_meetTable_l1 o0 x12 x4) (T_impl_order_meetTable_l1 o0 x12 x4) o) (S_impl_order_meetTable_l1 o0 x12 x4 s) := by
  obtain ⟨x18, x6⟩ := s
  unfold F_impl_order_meetTable_l1 at h
  try dsimp only at h
  conv => whnf
  refine Br.od h (fun p2 h => ?_) (fun p2 h => ?_)
  · conv => whnf
    refine SetKids.lit rfl ?_
    conv => whnf
    refine Cells.lit rfl rfl ?_
    conv => whnf
    refine Cells.lit rfl rfl ?_
    conv => whnf
    refine CallP.rd (slr true 1 vint) (by first | rfl | simp only [mulN_one, V.fz, fzL, V.up, upL, fzL_map, fz_slr, fz_at, slr, List.cons_append, List.nil_append] | simp [mulN_one, V.fz, fzL, V.up, upL, fzL_map, fz_slr, fz_at, slr]) (fun _ => by simp [V.noFz, noFzL_map]) h (fun r h => t_impl_order_those (f_so0 := f_impl_order_meetTable_1) (c_so0 := [(rP false (slr false 1 (slr false 1 V.bool))) (o0), (rP false vint) (x12), (rP false vint) (x18)]) (fun w_0 v h => Ret.cast (by first | rfl | simp only [mulN_one, V.fz, fzL, V.up, upL, fzL_map, fz_slr, fz_at, slr, List.cons_append, List.nil_append] | simp [mulN_one, V.fz, fzL, V.up, upL, fzL_map, fz_slr, fz_at, slr]) (t_impl_order_meetTable_1 h)) h) (fun r3 h => ?_)
    conv => whnf
    refine CallQ.rd vint (by first | rfl | simp only [V.fz, fzL_map, slr] | simp [mulN_one, V.fz, fzL, V.up, upL, fzL_map, fz_slr, fz_at, slr]) (fun _ => rfl) h (fun r h => t_impl_order_greatest h) (fun r4 h => ?_)
    conv => whnf
    refine Br.od h (fun p5 h => ?_) (fun p5 h => ?_)
    · conv => whnf
      cases h; exact ⟨rfl, rfl⟩
    · conv => whnf
      refine BslQ.o vint [r4] (by exact fun _ => ⟨rfl, rfl⟩) (by first | rfl | simp only [mulN_one, V.fz, fzL, V.up, upL, fzL_map, fz_slr, fz_at, slr, List.cons_append, List.nil_append] | simp [mulN_one, V.fz, fzL, V.up, upL, fzL_map, fz_slr, fz_at, slr]) ?_
      conv => whnf
      refine NoOwn.o (fun _ => rfl) ?_
      conv => whnf
      refine AppQ.o (m := 1) vint (by exact fun _ => ⟨rfl, rfl⟩) (x6) ([r4]) (by first | rfl | simp only [mulN_one, V.fz, fzL, V.up, upL, fzL_map, fz_slr, fz_at, slr, List.cons_append, List.nil_append] | simp [mulN_one, V.fz, fzL, V.up, upL, fzL_map, fz_slr, fz_at, slr]) (by first | rfl | simp only [mulN_one, V.fz, fzL, V.up, upL, fzL_map, fz_slr, fz_at, slr, List.cons_append, List.nil_append] | simp [mulN_one, V.fz, fzL, V.up, upL, fzL_map, fz_slr, fz_at, slr]) h fun h => ?_
      conv => whnf
      refine Ask.o h fun p6 h => ?_
      conv => whnf
      cases h; exact ⟨rfl, rfl⟩
  · conv => whnf
    cases h; exact ⟨rfl, rfl⟩

noncomputable def F_impl_order_meetTable_l2 (o0 : List (List Bool)) : (Int × (List (List Int))) → Option ((Int × (List (List Int))) ⊕ (Unit ⊕ (List (List Int)))) := fun (x12, x4) =>
   if x12 < (↑o0.length : Int) then
    (loopO (F_impl_order_meetTable_l1 o0 x12 x4) ((0 : Int), nilL Int)).bind fun t => match t with
    | (.inl _) => (some (.inr (.inl ())))
    | (.inr q7_6) => (ask ((x4).length + ([q7_6]).length ≤ LIM) <|
      ask (InI (x12 + (1 : Int))) <|
      some (.inl (x12 + (1 : Int), x4 ++ [q7_6])))
   else
    some (.inr (.inr x4))
def S_impl_order_meetTable_l2 (o0 : List (List Bool)) : (Int × (List (List Int))) → St := fun s => [(12, A.val (vint s.1)), (11, A.val (vint ((↑o0.length : Int)))), (4, A.val ((slr true 1 (slr true 1 vint)) s.2)), (1, A.val ((rP true (slr false 1 (slr false 1 V.bool))) (o0)))]
def T_impl_order_meetTable_l2 (_o0 : List (List Bool)) : (Unit ⊕ (List (List Int))) → Tgt
  | (.inl _s) => (Ex.ret, [3, 2], [(3, A.val (V.bool (false))), (2, A.val ((slr true 1 (slr true 1 vint)) (nilL (List Int))))])
  | (.inr s) => ((Ex.exit 0), [4], [(4, A.val ((slr true 1 (slr true 1 vint)) s))])
theorem b_impl_order_meetTable_l2 {o0 : List (List Bool)} (s : (Int × (List (List Int)))) (o : (Int × (List (List Int))) ⊕ (Unit ⊕ (List (List Int)))) (h : F_impl_order_meetTable_l2 o0 s = some o) : vc Try.prog c_impl_order_meetTable_l2 (outQ [12, 11, 4, 1] (S_impl_order_meetTable_l2 o0) (T_impl_order_meetTable_l2 o0) o) (S_impl_order_meetTable_l2 o0 s) := by
  obtain ⟨x12, x4⟩ := s
  unfold F_impl_order_meetTable_l2 at h
  try dsimp only at h
  conv => whnf
  refine Br.od h (fun p1 h => ?_) (fun p1 h => ?_)
  · conv => whnf
    refine SetKids.lit rfl ?_
    conv => whnf
    refine BslQ.o vint (nilL Int) (by exact fun _ => ⟨rfl, rfl⟩) (by first | rfl | simp only [mulN_one, V.fz, fzL, V.up, upL, fzL_map, fz_slr, fz_at, slr, List.cons_append, List.nil_append] | simp [mulN_one, V.fz, fzL, V.up, upL, fzL_map, fz_slr, fz_at, slr]) ?_
    conv => whnf
    refine Cells.lit rfl rfl ?_
    conv => whnf
    refine Len.map ?_
    conv => whnf
    refine LoopQ.o [18, 17, 6, 5, 12, 11, 4, 1] (S_impl_order_meetTable_l1 o0 x12 x4) (T_impl_order_meetTable_l1 o0 x12 x4) h (fun s o h => b_impl_order_meetTable_l1 s o h) (by first | rfl | simp [restrict, look, mulN_one, V.fz, fzL, V.up, upL, fzL_map, fz_slr, fz_at, slr]) (by rintro (_ | _) <;> rfl) ?_
    rintro (⟨⟩ | q7_6) h
    · try dsimp only at h
      conv => whnf
      cases h; exact ⟨rfl, rfl⟩
    · try dsimp only at h
      conv => whnf
      refine BslQ.o (slr true 1 vint) [q7_6] (by exact fun _ => ⟨rfl, rfl⟩) (by first | rfl | simp only [mulN_one, V.fz, fzL, V.up, upL, fzL_map, fz_slr, fz_at, slr, List.cons_append, List.nil_append] | simp [mulN_one, V.fz, fzL, V.up, upL, fzL_map, fz_slr, fz_at, slr]) ?_
      conv => whnf
      refine NoOwn.own rfl ?_
      conv => whnf
      refine AppQ.o (m := 1) (slr true 1 vint) (by exact fun _ => ⟨rfl, rfl⟩) (x4) ([q7_6]) (by first | rfl | simp only [mulN_one, V.fz, fzL, V.up, upL, fzL_map, fz_slr, fz_at, slr, List.cons_append, List.nil_append] | simp [mulN_one, V.fz, fzL, V.up, upL, fzL_map, fz_slr, fz_at, slr]) (by first | rfl | simp only [mulN_one, V.fz, fzL, V.up, upL, fzL_map, fz_slr, fz_at, slr, List.cons_append, List.nil_append] | simp [mulN_one, V.fz, fzL, V.up, upL, fzL_map, fz_slr, fz_at, slr]) h fun h => ?_
      conv => whnf
      refine Ask.o h fun p8 h => ?_
      conv => whnf
      cases h; exact ⟨rfl, rfl⟩
  · conv => whnf
    cases h; exact ⟨rfl, rfl⟩

noncomputable def F_impl_order_meetTable (o0 : (List (List Bool))) : Option ((List (List Int)) × Bool) :=
  (loopO (F_impl_order_meetTable_l2 o0) ((0 : Int), nilL (List Int))).bind fun t => match t with
  | (.inl _) => (some (nilL (List Int), false))
  | (.inr q9_4) => (some (q9_4, true))
theorem t_impl_order_meetTable {o0 : (List (List Bool))} {v : ((List (List Int)) × Bool)} (h : F_impl_order_meetTable o0 = some v) : Ret Try.prog f_impl_order_meetTable [(slr false 1 (slr false 1 V.bool)) o0] ((fun r => V.tup [(slr true 1 (slr true 1 vint)) r.1, V.bool r.2]) v) := by
  refine ret_vc k_impl_order_meetTable (Nat.le_of_ble_eq_true rfl) ?_
  unfold F_impl_order_meetTable at h
  conv => whnf
  refine BslQ.o (slr true 1 vint) (nilL (List Int)) (by exact fun _ => ⟨rfl, rfl⟩) (by first | rfl | simp only [mulN_one, V.fz, fzL, V.up, upL, fzL_map, fz_slr, fz_at, slr, List.cons_append, List.nil_append] | simp [mulN_one, V.fz, fzL, V.up, upL, fzL_map, fz_slr, fz_at, slr]) ?_
  conv => whnf
  refine Cells.lit rfl rfl ?_
  conv => whnf
  refine Len.map ?_
  conv => whnf
  refine LoopQ.o [12, 11, 4, 1] (S_impl_order_meetTable_l2 o0) (T_impl_order_meetTable_l2 o0) h (fun s o h => b_impl_order_meetTable_l2 s o h) (by first | rfl | simp [restrict, look, mulN_one, V.fz, fzL, V.up, upL, fzL_map, fz_slr, fz_at, slr]) (by rintro (_ | _) <;> rfl) ?_
  rintro (⟨⟩ | q9_4) h
  · try dsimp only at h
    conv => whnf
    cases h; exact (by first | rfl | simp only [resV, mulN_one, V.fz, fzL, V.up, upL, fzL_map, fz_slr, fz_at, slr] | simp [resV, mulN_one, V.fz, fzL, V.up, upL, fzL_map, fz_slr, fz_at, slr])
  · try dsimp only at h
    conv => whnf
    cases h; exact (by first | rfl | simp only [resV, mulN_one, V.fz, fzL, V.up, upL, fzL_map, fz_slr, fz_at, slr] | simp [resV, mulN_one, V.fz, fzL, V.up, upL, fzL_map, fz_slr, fz_at, slr])

noncomputable def F_impl_order_dual_l1 (o0 : List (List Bool)) (x11 : Int) : (Int × (List (List Bool))) → Option ((Int × (List (List Bool))) ⊕ (List (List Bool))) := fun (x16, x3') =>
   if x16 < (↑o0.length : Int) then
    ask ((0 : Int) ≤ x11 ∧ x11 < (↑x3'.length : Int)) <|
    ask ((0 : Int) ≤ x16 ∧ x16 < (↑o0.length : Int)) <|
    ask ((0 : Int) ≤ x11 ∧ x11 < (↑(nth o0 x16.toNat).length : Int)) <|
    ask ((0 : Int) ≤ x16 ∧ x16 < (↑(nth x3' x11.toNat).length : Int)) <|
    ask (InI (x16 + (1 : Int))) <|
    some (.inl (x16 + (1 : Int), x3'.set x11.toNat ((nth x3' x11.toNat).set x16.toNat (nth (nth o0 x16.toNat) x11.toNat))))
   else
    some (.inr x3')
def S_impl_order_dual_l1 (o0 : List (List Bool)) (x11 : Int) : (Int × (List (List Bool))) → St := fun s => [(16, A.val (vint s.1)), (15, A.val (vint ((↑o0.length : Int)))), (4, A.val (vint (x11))), (11, A.val (vint (x11))), (10, A.val (vint ((↑o0.length : Int)))), (3, A.val ((slr true 1 (slr true 1 V.bool)) s.2)), (0, A.val ((slr false 1 (slr false 1 V.bool)) (o0)))]
def T_impl_order_dual_l1 (o0 : List (List Bool)) (x11 : Int) : (List (List Bool)) → Tgt
  | s => ((Ex.exit 2), [11, 10, 3, 0], [(11, A.val (vint (x11))), (10, A.val (vint ((↑o0.length : Int)))), (3, A.val ((slr true 1 (slr true 1 V.bool)) s)), (0, A.val ((slr false 1 (slr false 1 V.bool)) (o0)))])
theorem b_impl_order_dual_l1 {o0 : List (List Bool)} {x11 : Int} (s : (Int × (List (List Bool)))) (o : (Int × (List (List Bool))) ⊕ (List (List Bool))) (h : F_impl_order_dual_l1 o0 x11 s = some o) : vc Try.prog c_impl_order_dual_l1 (outQ [16, 15, 4, 11, 10, 3, 0] (S_impl_order_dual_l1 o0 x11) (T_impl_order_dual_l1 o0 x11) o) (S_impl_order_dual_l1 o0 x11 s) := by
  obtain ⟨x16, x3'⟩ := s
  unfold F_impl_order_dual_l1 at h
  try dsimp only at h
  conv => whnf
  refine Br.od h (fun p3 h => ?_) (fun p3 h => ?_)
  · conv => whnf
    refine Len.map ?_
    conv => whnf
    refine Ask.o h fun p4 h => ?_
    conv => whnf
    refine Cells.one (fun _ => ⟨rfl, rfl⟩) (by first | omega | (simp only [mulN] at *; omega) | (simp [mulN] at *; omega)) ?_
    conv => whnf
    refine Len.map ?_
    conv => whnf
    refine Ask.o h fun p5 h => ?_
    conv => whnf
    refine Elem.o (by first | omega | (simp only [mulN] at *; omega) | (simp [mulN] at *; omega)) ?_
    conv => whnf
    refine Len.map ?_
    conv => whnf
    refine Ask.o h fun p6 h => ?_
    conv => whnf
    refine Elem.o (by first | omega | (simp only [mulN] at *; omega) | (simp [mulN] at *; omega)) ?_
    conv => whnf
    refine Kid.one (fun _ => ⟨rfl, rfl⟩) (by first | omega | (simp only [mulN] at *; omega) | (simp [mulN] at *; omega)) ?_
    conv => whnf
    refine Len.map ?_
    conv => whnf
    refine Ask.o h fun p7 h => ?_
    conv => whnf
    refine Kid.one (fun _ => ⟨rfl, rfl⟩) (by first | omega | (simp only [mulN] at *; omega) | (simp [mulN] at *; omega)) ?_
    conv => whnf
    refine SetKids.one (fun _ => ⟨rfl, rfl⟩) (nth (nth o0 x16.toNat) x11.toNat) (by first | rfl | simp only [mulN_one, V.fz, fzL, V.up, upL, fzL_map, fz_slr, fz_at, slr, List.cons_append, List.nil_append] | simp [mulN_one, V.fz, fzL, V.up, upL, fzL_map, fz_slr, fz_at, slr]) (by first | omega | (simp only [mulN] at *; omega) | (simp [mulN] at *; omega)) ?_
    conv => whnf
    refine Kid.one (fun _ => ⟨rfl, rfl⟩) (by first | omega | (simp only [mulN] at *; omega) | (simp [mulN] at *; omega)) ?_
    conv => whnf
    refine SetKids.one (fun _ => ⟨rfl, rfl⟩) ((nth x3' x11.toNat).set x16.toNat (nth (nth o0 x16.toNat) x11.toNat)) (by first | rfl | simp only [mulN_one, V.fz, fzL, V.up, upL, fzL_map, fz_slr, fz_at, slr, List.cons_append, List.nil_append] | simp [mulN_one, V.fz, fzL, V.up, upL, fzL_map, fz_slr, fz_at, slr]) (by first | omega | (simp only [mulN] at *; omega) | (simp [mulN] at *; omega)) ?_
    conv => whnf
    refine Ask.o h fun p8 h => ?_
    conv => whnf
    cases h; exact ⟨rfl, rfl⟩
  · conv => whnf
    cases h; exact ⟨rfl, rfl⟩

noncomputable def F_impl_order_dual_l2 (o0 : List (List Bool)) : (Int × (List (List Bool))) → Option ((Int × (List (List Bool))) ⊕ (List (List Bool))) := fun (x11, x3) =>
   if x11 < (↑o0.length : Int) then
    (loopO (F_impl_order_dual_l1 o0 x11) ((0 : Int), x3)).bind fun q9_3 =>
    ask (InI (x11 + (1 : Int))) <|
    some (.inl (x11 + (1 : Int), q9_3))
   else
    some (.inr x3)
def S_impl_order_dual_l2 (o0 : List (List Bool)) : (Int × (List (List Bool))) → St := fun s => [(11, A.val (vint s.1)), (10, A.val (vint ((↑o0.length : Int)))), (3, A.val ((slr true 1 (slr true 1 V.bool)) s.2)), (0, A.val ((slr false 1 (slr false 1 V.bool)) (o0)))]
def T_impl_order_dual_l2 (_o0 : List (List Bool)) : (List (List Bool)) → Tgt
  | s => ((Ex.exit 0), [3], [(3, A.val ((slr true 1 (slr true 1 V.bool)) s))])
theorem b_impl_order_dual_l2 {o0 : List (List Bool)} (s : (Int × (List (List Bool)))) (o : (Int × (List (List Bool))) ⊕ (List (List Bool))) (h : F_impl_order_dual_l2 o0 s = some o) : vc Try.prog c_impl_order_dual_l2 (outQ [11, 10, 3, 0] (S_impl_order_dual_l2 o0) (T_impl_order_dual_l2 o0) o) (S_impl_order_dual_l2 o0 s) := by
  obtain ⟨x11, x3⟩ := s
  unfold F_impl_order_dual_l2 at h
  try dsimp only at h
  conv => whnf
  refine Br.od h (fun p2 h => ?_) (fun p2 h => ?_)
  · conv => whnf
    refine Len.map ?_
    conv => whnf
    refine LoopQ.o [16, 15, 4, 11, 10, 3, 0] (S_impl_order_dual_l1 o0 x11) (T_impl_order_dual_l1 o0 x11) h (fun s o h => b_impl_order_dual_l1 s o h) (by first | rfl | simp [restrict, look, mulN_one, V.fz, fzL, V.up, upL, fzL_map, fz_slr, fz_at, slr]) (fun _ => rfl) ?_
    rintro q9_3 h
    try dsimp only at h
    conv => whnf
    refine Ask.o h fun p10 h => ?_
    conv => whnf
    cases h; exact ⟨rfl, rfl⟩
  · conv => whnf
    cases h; exact ⟨rfl, rfl⟩

noncomputable def F_impl_order_dual (o0 : (List (List Bool))) : Option (List (List Bool)) :=
  (F_impl_newOrder ((↑o0.length : Int))).bind fun r1 =>
  (loopO (F_impl_order_dual_l2 o0) ((0 : Int), r1)).bind fun q11_3 =>
  some q11_3
theorem t_impl_order_dual {o0 : (List (List Bool))} {v : (List (List Bool))} (h : F_impl_order_dual o0 = some v) : Ret Try.prog f_impl_order_dual [(slr false 1 (slr false 1 V.bool)) o0] ((slr true 1 (slr true 1 V.bool)) v) := by
  refine ret_vc k_impl_order_dual (Nat.le_of_ble_eq_true rfl) ?_
  unfold F_impl_order_dual at h
  conv => whnf
  refine Len.map ?_
  conv => whnf
  refine CallQ.o (slr true 1 (slr true 1 V.bool)) (by first | rfl | simp only [mulN_one, V.fz, fzL, V.up, upL, fzL_map, fz_slr, fz_at, slr, List.cons_append, List.nil_append] | simp [mulN_one, V.fz, fzL, V.up, upL, fzL_map, fz_slr, fz_at, slr]) h (fun r h => t_impl_newOrder h) (fun r1 h => ?_)
  conv => whnf
  refine Len.map ?_
  conv => whnf
  refine LoopQ.o [11, 10, 3, 0] (S_impl_order_dual_l2 o0) (T_impl_order_dual_l2 o0) h (fun s o h => b_impl_order_dual_l2 s o h) (by first | rfl | simp [restrict, look, mulN_one, V.fz, fzL, V.up, upL, fzL_map, fz_slr, fz_at, slr]) (fun _ => rfl) ?_
  rintro q11_3 h
  try dsimp only at h
  conv => whnf
  cases h; exact (by first | rfl | simp only [resV, mulN_one, V.fz, fzL, V.up, upL, fzL_map, fz_slr, fz_at, slr] | simp [resV, mulN_one, V.fz, fzL, V.up, upL, fzL_map, fz_slr, fz_at, slr])

noncomputable def F_laws_markAlgebra (a0 : SAlgebra) (k0 : Int) : Option (Int × SAlgebra) :=
  (F_laws_markOpS (a0.Ops) (k0)).bind fun (r1, u2) =>
  some (r1, { Size := a0.Size, Ops := u2 })
theorem t_laws_markAlgebra {a0 : SAlgebra} {k0 : Int} {v : (Int × SAlgebra)} (h : F_laws_markAlgebra a0 k0 = some v) : RetO Try.prog f_laws_markAlgebra [(rS_Algebra true) a0, vint k0] (vint v.1) 0 ((rS_Algebra true) v.2) := by
  refine reto_vc k_laws_markAlgebra (Nat.le_of_ble_eq_true rfl) ?_
  unfold F_laws_markAlgebra at h
  conv => whnf
  refine Cells.lit rfl rfl ?_
  conv => whnf
  refine Kid.lit rfl rfl ?_
  conv => whnf
  refine CallQ.io vint (slr true 2 (rS_Op true)) (by first | rfl | simp only [mulN_one, V.fz, fzL, V.up, upL, fzL_map, fz_slr, fz_at, slr, List.cons_append, List.nil_append] | simp [mulN_one, V.fz, fzL, V.up, upL, fzL_map, fz_slr, fz_at, slr]) rfl (fun _ => rfl) (fun _ => ⟨rfl, rfl⟩) rfl h (fun r h => t_laws_markOpS h) (fun r1 u2 h => ?_)
  conv => whnf
  refine Kid.lit rfl rfl ?_
  conv => whnf
  refine SetKids.lit rfl ?_
  conv => whnf
  cases h; exact ⟨(by first | rfl | simp only [resV, mulN_one, V.fz, fzL, V.up, upL, fzL_map, fz_slr, fz_at, slr] | simp [resV, mulN_one, V.fz, fzL, V.up, upL, fzL_map, fz_slr, fz_at, slr]), (by first | rfl | simp only [resV, mulN_one, V.fz, fzL, V.up, upL, fzL_map, fz_slr, fz_at, slr] | simp [resV, mulN_one, V.fz, fzL, V.up, upL, fzL_map, fz_slr, fz_at, slr])⟩

noncomputable def F_laws_eqPoset (a0 : SPoset) (b0 : SPoset) : Option Bool :=
  (F_laws_eqIntSS (a0.Below) (b0.Below)).bind fun r1 =>
  if (r1) = true then
   some true
  else
   some false
theorem t_laws_eqPoset {a0 : SPoset} {b0 : SPoset} {v : Bool} (h : F_laws_eqPoset a0 b0 = some v) : Ret Try.prog f_laws_eqPoset [(rS_Poset false) a0, (rS_Poset false) b0] (V.bool v) := by
  refine ret_vc k_laws_eqPoset (Nat.le_of_ble_eq_true rfl) ?_
  unfold F_laws_eqPoset at h
  conv => whnf
  refine Cells.lit rfl rfl ?_
  conv => whnf
  refine Cells.lit rfl rfl ?_
  conv => whnf
  refine CallQ.o V.bool (by first | rfl | simp only [mulN_one, V.fz, fzL, V.up, upL, fzL_map, fz_slr, fz_at, slr, List.cons_append, List.nil_append] | simp [mulN_one, V.fz, fzL, V.up, upL, fzL_map, fz_slr, fz_at, slr]) h (fun r h => t_laws_eqIntSS h) (fun r1 h => ?_)
  conv => whnf
  refine Br.flip ?_
  conv => whnf
  refine Br.ob h (fun p2 h => ?_) (fun p2 h => ?_)
  · conv => whnf
    cases h; exact (by first | rfl | simp only [resV, mulN_one, V.fz, fzL, V.up, upL, fzL_map, fz_slr, fz_at, slr] | simp [resV, mulN_one, V.fz, fzL, V.up, upL, fzL_map, fz_slr, fz_at, slr])
  · conv => whnf
    cases h; exact (by first | rfl | simp only [resV, mulN_one, V.fz, fzL, V.up, upL, fzL_map, fz_slr, fz_at, slr] | simp [resV, mulN_one, V.fz, fzL, V.up, upL, fzL_map, fz_slr, fz_at, slr])

noncomputable def F_laws_markPoset (a0 : SPoset) (k0 : Int) : Option (Int × SPoset) :=
  (F_laws_markIntSS (a0.Below) (k0)).bind fun (r1, u2) =>
  some (r1, { Below := u2 })
theorem t_laws_markPoset {a0 : SPoset} {k0 : Int} {v : (Int × SPoset)} (h : F_laws_markPoset a0 k0 = some v) : RetO Try.prog f_laws_markPoset [(rS_Poset true) a0, vint k0] (vint v.1) 0 ((rS_Poset true) v.2) := by
  refine reto_vc k_laws_markPoset (Nat.le_of_ble_eq_true rfl) ?_
  unfold F_laws_markPoset at h
  conv => whnf
  refine Cells.lit rfl rfl ?_
  conv => whnf
  refine Kid.lit rfl rfl ?_
  conv => whnf
  refine CallQ.io vint (slr true 1 (slr true 1 vint)) (by first | rfl | simp only [mulN_one, V.fz, fzL, V.up, upL, fzL_map, fz_slr, fz_at, slr, List.cons_append, List.nil_append] | simp [mulN_one, V.fz, fzL, V.up, upL, fzL_map, fz_slr, fz_at, slr]) rfl (fun _ => rfl) (fun _ => ⟨rfl, rfl⟩) rfl h (fun r h => t_laws_markIntSS h) (fun r1 u2 h => ?_)
  conv => whnf
  refine Kid.lit rfl rfl ?_
  conv => whnf
  refine SetKids.lit rfl ?_
  conv => whnf
  cases h; exact ⟨(by first | rfl | simp only [resV, mulN_one, V.fz, fzL, V.up, upL, fzL_map, fz_slr, fz_at, slr] | simp [resV, mulN_one, V.fz, fzL, V.up, upL, fzL_map, fz_slr, fz_at, slr]), (by first | rfl | simp only [resV, mulN_one, V.fz, fzL, V.up, upL, fzL_map, fz_slr, fz_at, slr] | simp [resV, mulN_one, V.fz, fzL, V.up, upL, fzL_map, fz_slr, fz_at, slr])⟩

noncomputable def F_laws_heldPoset (a0 : SPoset) (k0 : Int) : Option Int :=
  (F_laws_heldIntSS (a0.Below) (k0)).bind fun r1 =>
  if r1 < (0 : Int) then
   some (-1 : Int)
  else
   some r1
theorem t_laws_heldPoset {a0 : SPoset} {k0 : Int} {v : Int} (h : F_laws_heldPoset a0 k0 = some v) : Ret Try.prog f_laws_heldPoset [(rS_Poset false) a0, vint k0] (vint v) := by
  refine ret_vc k_laws_heldPoset (Nat.le_of_ble_eq_true rfl) ?_
  unfold F_laws_heldPoset at h
  conv => whnf
  refine Cells.lit rfl rfl ?_
  conv => whnf
  refine CallQ.o vint (by first | rfl | simp only [mulN_one, V.fz, fzL, V.up, upL, fzL_map, fz_slr, fz_at, slr, List.cons_append, List.nil_append] | simp [mulN_one, V.fz, fzL, V.up, upL, fzL_map, fz_slr, fz_at, slr]) h (fun r h => t_laws_heldIntSS h) (fun r1 h => ?_)
  conv => whnf
  refine Br.od h (fun p2 h => ?_) (fun p2 h => ?_)
  · conv => whnf
    cases h; exact (by first | rfl | simp only [resV, mulN_one, V.fz, fzL, V.up, upL, fzL_map, fz_slr, fz_at, slr] | simp [resV, mulN_one, V.fz, fzL, V.up, upL, fzL_map, fz_slr, fz_at, slr])
  · conv => whnf
    cases h; exact (by first | rfl | simp only [resV, mulN_one, V.fz, fzL, V.up, upL, fzL_map, fz_slr, fz_at, slr] | simp [resV, mulN_one, V.fz, fzL, V.up, upL, fzL_map, fz_slr, fz_at, slr])

noncomputable def F_laws_szOpS_l1 (a0 : List SOp) : (Int × Int) → Option ((Int × Int) ⊕ (Unit ⊕ Int)) := fun (x5, x1) =>
   if x5 < (↑a0.length : Int) then
    ask ((0 : Int) ≤ x5 ∧ x5 < (↑a0.length : Int)) <|
    (F_laws_szOp (nth a0 x5.toNat) (x1)).bind fun r5 =>
    if r5 < (0 : Int) then
     some (.inr (.inl ()))
    else
     ask (InI (x5 + (1 : Int))) <|
     some (.inl (x5 + (1 : Int), r5))
   else
    some (.inr (.inr x1))
def S_laws_szOpS_l1 (a0 : List SOp) : (Int × Int) → St := fun s => [(5, A.val (vint s.1)), (1, A.val (vint s.2)), (0, A.val ((slr false 2 (rS_Op false)) (a0)))]
def T_laws_szOpS_l1 (_a0 : List SOp) : (Unit ⊕ Int) → Tgt
  | (.inl _s) => (Ex.ret, [4], [(4, A.val (vint ((-1 : Int))))])
  | (.inr s) => ((Ex.exit 0), [1], [(1, A.val (vint s))])
theorem b_laws_szOpS_l1 {a0 : List SOp} (s : (Int × Int)) (o : (Int × Int) ⊕ (Unit ⊕ Int)) (h : F_laws_szOpS_l1 a0 s = some o) : vc Try.prog c_laws_szOpS_l1 (outQ [5, 1, 0] (S_laws_szOpS_l1 a0) (T_laws_szOpS_l1 a0) o) (S_laws_szOpS_l1 a0 s) := by
  obtain ⟨x5, x1⟩ := s
  unfold F_laws_szOpS_l1 at h
  try dsimp only at h
  conv => whnf
  refine Len.map ?_
  conv => whnf
  refine Br.od h (fun p3 h => ?_) (fun p3 h => ?_)
  · conv => whnf
    refine Len.map ?_
    conv => whnf
    refine Ask.o h fun p4 h => ?_
    conv => whnf
    refine Elem.o (by first | omega | (simp only [mulN] at *; omega) | (simp [mulN] at *; omega)) ?_
    conv => whnf
    refine CallQ.o vint (by first | rfl | simp only [mulN_one, V.fz, fzL, V.up, upL, fzL_map, fz_slr, fz_at, slr, List.cons_append, List.nil_append] | simp [mulN_one, V.fz, fzL, V.up, upL, fzL_map, fz_slr, fz_at, slr]) h (fun r h => t_laws_szOp h) (fun r5 h => ?_)
    conv => whnf
    refine Br.od h (fun p6 h => ?_) (fun p6 h => ?_)
    · conv => whnf
      cases h; exact ⟨rfl, rfl⟩
    · conv => whnf
      refine Ask.o h fun p7 h => ?_
      conv => whnf
      cases h; exact ⟨rfl, rfl⟩
  · conv => whnf
    cases h; exact ⟨rfl, rfl⟩

noncomputable def F_laws_szOpS (a0 : (List SOp)) (left0 : Int) : Option Int :=
  ask (InI (left0 - (↑a0.length : Int))) <|
  if left0 - (↑a0.length : Int) < (0 : Int) then
   some (-1 : Int)
  else
   (loopO (F_laws_szOpS_l1 a0) ((0 : Int), left0 - (↑a0.length : Int))).bind fun t => match t with
   | (.inl _) => (some (-1 : Int))
   | (.inr q8_1) => (some q8_1)
theorem t_laws_szOpS {a0 : (List SOp)} {left0 : Int} {v : Int} (h : F_laws_szOpS a0 left0 = some v) : Ret Try.prog f_laws_szOpS [(slr false 2 (rS_Op false)) a0, vint left0] (vint v) := by
  refine ret_vc k_laws_szOpS (Nat.le_of_ble_eq_true rfl) ?_
  unfold F_laws_szOpS at h
  conv => whnf
  refine Len.map ?_
  conv => whnf
  refine Ask.o h fun p1 h => ?_
  conv => whnf
  refine Br.od h (fun p2 h => ?_) (fun p2 h => ?_)
  · conv => whnf
    cases h; exact (by first | rfl | simp only [resV, mulN_one, V.fz, fzL, V.up, upL, fzL_map, fz_slr, fz_at, slr] | simp [resV, mulN_one, V.fz, fzL, V.up, upL, fzL_map, fz_slr, fz_at, slr])
  · conv => whnf
    refine LoopQ.o [5, 1, 0] (S_laws_szOpS_l1 a0) (T_laws_szOpS_l1 a0) h (fun s o h => b_laws_szOpS_l1 s o h) (by first | rfl | simp [restrict, look, mulN_one, V.fz, fzL, V.up, upL, fzL_map, fz_slr, fz_at, slr]) (by rintro (_ | _) <;> rfl) ?_
    rintro (⟨⟩ | q8_1) h
    · try dsimp only at h
      conv => whnf
      cases h; exact (by first | rfl | simp only [resV, mulN_one, V.fz, fzL, V.up, upL, fzL_map, fz_slr, fz_at, slr] | simp [resV, mulN_one, V.fz, fzL, V.up, upL, fzL_map, fz_slr, fz_at, slr])
    · try dsimp only at h
      conv => whnf
      cases h; exact (by first | rfl | simp only [resV, mulN_one, V.fz, fzL, V.up, upL, fzL_map, fz_slr, fz_at, slr] | simp [resV, mulN_one, V.fz, fzL, V.up, upL, fzL_map, fz_slr, fz_at, slr])

noncomputable def F_spec_l2Good_l1 (a0 : SAlgebra) : Int → Option (Int ⊕ (Unit ⊕ Unit)) := fun x3 =>
   if x3 < (↑a0.Ops.length : Int) then
    ask ((0 : Int) ≤ x3 ∧ x3 < (↑a0.Ops.length : Int)) <|
    (F_spec_l2Op (a0.Size) (nth a0.Ops x3.toNat)).bind fun r7 =>
    if (r7) = true then
     ask (InI (x3 + (1 : Int))) <|
     some (.inl (x3 + (1 : Int)))
    else
     some (.inr (.inl ()))
   else
    some (.inr (.inr ()))
def S_spec_l2Good_l1 (a0 : SAlgebra) : Int → St := fun s => [(3, A.val (vint s)), (1, A.val ((rP true (rS_Algebra false)) (a0)))]
def T_spec_l2Good_l1 (_a0 : SAlgebra) : (Unit ⊕ Unit) → Tgt
  | (.inl _s) => (Ex.ret, [2], [(2, A.val (V.bool (false)))])
  | (.inr _s) => ((Ex.exit 0), [], [])
theorem b_spec_l2Good_l1 {a0 : SAlgebra} (x3 : Int) (o : Int ⊕ (Unit ⊕ Unit)) (h : F_spec_l2Good_l1 a0 x3 = some o) : vc Try.prog c_spec_l2Good_l1 (outQ [3, 1] (S_spec_l2Good_l1 a0) (T_spec_l2Good_l1 a0) o) (S_spec_l2Good_l1 a0 x3) := by
  unfold F_spec_l2Good_l1 at h
  try dsimp only at h
  conv => whnf
  refine Cells.lit rfl rfl ?_
  conv => whnf
  refine Len.map ?_
  conv => whnf
  refine Br.od h (fun p5 h => ?_) (fun p5 h => ?_)
  · conv => whnf
    refine Cells.lit rfl rfl ?_
    conv => whnf
    refine Cells.lit rfl rfl ?_
    conv => whnf
    refine Len.map ?_
    conv => whnf
    refine Ask.o h fun p6 h => ?_
    conv => whnf
    refine Elem.o (by first | omega | (simp only [mulN] at *; omega) | (simp [mulN] at *; omega)) ?_
    conv => whnf
    refine CallQ.o V.bool (by first | rfl | simp only [mulN_one, V.fz, fzL, V.up, upL, fzL_map, fz_slr, fz_at, slr, List.cons_append, List.nil_append] | simp [mulN_one, V.fz, fzL, V.up, upL, fzL_map, fz_slr, fz_at, slr]) h (fun r h => t_spec_l2Op h) (fun r7 h => ?_)
    conv => whnf
    refine Br.flip ?_
    conv => whnf
    refine Br.ob h (fun p8 h => ?_) (fun p8 h => ?_)
    · conv => whnf
      refine Ask.o h fun p9 h => ?_
      conv => whnf
      cases h; exact ⟨rfl, rfl⟩
    · conv => whnf
      cases h; exact ⟨rfl, rfl⟩
  · conv => whnf
    cases h; exact ⟨rfl, rfl⟩

noncomputable def F_spec_l2Good (a0 : SAlgebra) : Option Bool :=
  (((F_spec_l1In (a0.Size) ((1 : Int)) ((8 : Int))).bind fun r1 =>
     if (r1) = true then
      if (↑a0.Ops.length : Int) > (4 : Int) then
       some (.inl ())
      else
       some (.inr ())
     else
      some (.inl ()) : Option (Unit ⊕ Unit))).bind fun t => match t with
  | (.inl _) => (some false)
  | (.inr _) => ((loopO (F_spec_l2Good_l1 a0) (0 : Int)).bind fun t => match t with
    | (.inl _) => (some false)
    | (.inr _) => (some true))
theorem t_spec_l2Good {a0 : SAlgebra} {v : Bool} (h : F_spec_l2Good a0 = some v) : Ret Try.prog f_spec_l2Good [(rS_Algebra false) a0] (V.bool v) := by
  refine ret_vc k_spec_l2Good (Nat.le_of_ble_eq_true rfl) ?_
  unfold F_spec_l2Good at h
  conv => whnf
  refine CutQ.o (fun t : (Unit ⊕ Unit) => match t with | (.inl s) => (Ex.ret, [2], [(2, A.val (V.bool (false)))]) | (.inr s) => (Ex.normal, [1], [(1, A.val ((rP true (rS_Algebra false)) (a0)))])) h ?_ ?_
  · intro t h
    conv => whnf
    refine Cells.lit rfl rfl ?_
    conv => whnf
    refine CallQ.o V.bool (by first | rfl | simp only [mulN_one, V.fz, fzL, V.up, upL, fzL_map, fz_slr, fz_at, slr, List.cons_append, List.nil_append] | simp [mulN_one, V.fz, fzL, V.up, upL, fzL_map, fz_slr, fz_at, slr]) h (fun r h => t_spec_l1In h) (fun r1 h => ?_)
    conv => whnf
    refine Br.flip ?_
    conv => whnf
    refine Br.ob h (fun p2 h => ?_) (fun p2 h => ?_)
    · conv => whnf
      refine Br.no ?_
      conv => whnf
      refine Cells.lit rfl rfl ?_
      conv => whnf
      refine Br.no ?_
      conv => whnf
      refine Len.map ?_
      conv => whnf
      refine Br.no ?_
      conv => whnf
      refine Br.no ?_
      conv => whnf
      refine Br.od h (fun p3 h => ?_) (fun p3 h => ?_)
      · conv => whnf
        cases h; exact ⟨rfl, rfl⟩
      · conv => whnf
        cases h; exact ⟨rfl, rfl⟩
    · conv => whnf
      refine Br.yes ?_
      conv => whnf
      refine Br.yes ?_
      conv => whnf
      refine Br.yes ?_
      conv => whnf
      refine Br.yes ?_
      conv => whnf
      refine Br.yes ?_
      conv => whnf
      cases h; exact ⟨rfl, rfl⟩
  · rintro (⟨⟩ | ⟨⟩) h
    · try dsimp only at h
      conv => whnf
      cases h; exact (by first | rfl | simp only [resV, mulN_one, V.fz, fzL, V.up, upL, fzL_map, fz_slr, fz_at, slr] | simp [resV, mulN_one, V.fz, fzL, V.up, upL, fzL_map, fz_slr, fz_at, slr])
    · try dsimp only at h
      conv => whnf
      refine LoopQ.o [3, 1] (S_spec_l2Good_l1 a0) (T_spec_l2Good_l1 a0) h (fun s o h => b_spec_l2Good_l1 s o h) (by first | rfl | simp [restrict, look, mulN_one, V.fz, fzL, V.up, upL, fzL_map, fz_slr, fz_at, slr]) (by rintro (_ | _) <;> rfl) ?_
      rintro (⟨⟩ | ⟨⟩) h
      · try dsimp only at h
        conv => whnf
        cases h; exact (by first | rfl | simp only [resV, mulN_one, V.fz, fzL, V.up, upL, fzL_map, fz_slr, fz_at, slr] | simp [resV, mulN_one, V.fz, fzL, V.up, upL, fzL_map, fz_slr, fz_at, slr])
      · try dsimp only at h
        conv => whnf
        cases h; exact (by first | rfl | simp only [resV, mulN_one, V.fz, fzL, V.up, upL, fzL_map, fz_slr, fz_at, slr] | simp [resV, mulN_one, V.fz, fzL, V.up, upL, fzL_map, fz_slr, fz_at, slr])

noncomputable def F_laws_toOpS_l1 (a0 : List SOp) : (Int × (List SOp)) → Option ((Int × (List SOp)) ⊕ (List SOp)) := fun (x4, x3) =>
   if x4 < (↑a0.length : Int) then
    ask ((0 : Int) ≤ x4 ∧ x4 < (↑a0.length : Int)) <|
    (F_laws_toOp (nth a0 x4.toNat)).bind fun r4 =>
    ask ((0 : Int) ≤ x4 ∧ x4 < (↑x3.length : Int)) <|
    ask (InI (x4 + (1 : Int))) <|
    some (.inl (x4 + (1 : Int), x3.set x4.toNat r4))
   else
    some (.inr x3)
def S_laws_toOpS_l1 (a0 : List SOp) : (Int × (List SOp)) → St := fun s => [(4, A.val (vint s.1)), (3, A.val ((slr true 2 (rS_Op true)) s.2)), (0, A.val ((slr false 2 (rS_Op false)) (a0)))]
def T_laws_toOpS_l1 (_a0 : List SOp) : (List SOp) → Tgt
  | s => ((Ex.exit 0), [3], [(3, A.val ((slr true 2 (rS_Op true)) s))])
theorem b_laws_toOpS_l1 {a0 : List SOp} (s : (Int × (List SOp))) (o : (Int × (List SOp)) ⊕ (List SOp)) (h : F_laws_toOpS_l1 a0 s = some o) : vc Try.prog c_laws_toOpS_l1 (outQ [4, 3, 0] (S_laws_toOpS_l1 a0) (T_laws_toOpS_l1 a0) o) (S_laws_toOpS_l1 a0 s) := by
  obtain ⟨x4, x3⟩ := s
  unfold F_laws_toOpS_l1 at h
  try dsimp only at h
  conv => whnf
  refine Len.map ?_
  conv => whnf
  refine Br.od h (fun p2 h => ?_) (fun p2 h => ?_)
  · conv => whnf
    refine Len.map ?_
    conv => whnf
    refine Ask.o h fun p3 h => ?_
    conv => whnf
    refine Elem.o (by first | omega | (simp only [mulN] at *; omega) | (simp [mulN] at *; omega)) ?_
    conv => whnf
    refine CallQ.o (rS_Op true) (by first | rfl | simp only [mulN_one, V.fz, fzL, V.up, upL, fzL_map, fz_slr, fz_at, slr, List.cons_append, List.nil_append] | simp [mulN_one, V.fz, fzL, V.up, upL, fzL_map, fz_slr, fz_at, slr]) h (fun r h => t_laws_toOp h) (fun r4 h => ?_)
    conv => whnf
    refine Len.map ?_
    conv => whnf
    refine Ask.o h fun p5 h => ?_
    conv => whnf
    refine SetKids.wide0 (by exact fun _ => ⟨rfl, rfl⟩) (r4) (by first | omega | (simp only [mulN] at *; omega) | (simp [mulN] at *; omega)) (by rfl) (by decide) ?_
    conv => whnf
    refine Ask.o h fun p6 h => ?_
    conv => whnf
    cases h; exact ⟨rfl, rfl⟩
  · conv => whnf
    cases h; exact ⟨rfl, rfl⟩

noncomputable def F_laws_toOpS (a0 : (List SOp)) : Option (List SOp) :=
  ask ((0 : Int) ≤ (↑a0.length : Int) ∧ (↑a0.length : Int) ≤ (↑LIM : Int)) <|
  (loopO (F_laws_toOpS_l1 a0) ((0 : Int), List.replicate (↑a0.length : Int).toNat { Arity := (0 : Int), Table := nilL Int })).bind fun q7_3 =>
  some q7_3
theorem t_laws_toOpS {a0 : (List SOp)} {v : (List SOp)} (h : F_laws_toOpS a0 = some v) : Ret Try.prog f_laws_toOpS [(slr false 2 (rS_Op false)) a0] ((slr true 2 (rS_Op true)) v) := by
  refine ret_vc k_laws_toOpS (Nat.le_of_ble_eq_true rfl) ?_
  unfold F_laws_toOpS at h
  conv => whnf
  refine Len.map ?_
  conv => whnf
  refine Ask.o h fun p1 h => ?_
  conv => whnf
  refine MkQ.o (rS_Op true) ({ Arity := (0 : Int), Table := nilL Int }) rfl ?_
  conv => whnf
  refine LoopQ.o [4, 3, 0] (S_laws_toOpS_l1 a0) (T_laws_toOpS_l1 a0) h (fun s o h => b_laws_toOpS_l1 s o h) (by first | rfl | simp [restrict, look, mulN_one, V.fz, fzL, V.up, upL, fzL_map, fz_slr, fz_at, slr]) (fun _ => rfl) ?_
  rintro q7_3 h
  try dsimp only at h
  conv => whnf
  cases h; exact (by first | rfl | simp only [resV, mulN_one, V.fz, fzL, V.up, upL, fzL_map, fz_slr, fz_at, slr] | simp [resV, mulN_one, V.fz, fzL, V.up, upL, fzL_map, fz_slr, fz_at, slr])

noncomputable def F_impl_IsAlgebra_l1 (a0 : SAlgebra) : Int → Option (Int ⊕ (Unit ⊕ Unit)) := fun x22 =>
   if x22 < (↑a0.Ops.length : Int) then
    ask ((0 : Int) ≤ x22 ∧ x22 < (↑a0.Ops.length : Int)) <|
    (F_impl_isOp (nth a0.Ops x22.toNat) (a0.Size)).bind fun r7 =>
    if (r7) = true then
     ask (InI (x22 + (1 : Int))) <|
     some (.inl (x22 + (1 : Int)))
    else
     some (.inr (.inl ()))
   else
    some (.inr (.inr ()))
def S_impl_IsAlgebra_l1 (a0 : SAlgebra) : Int → St := fun s => [(22, A.val (vint s)), (21, A.val (vint ((↑a0.Ops.length : Int)))), (20, A.val ((slr false 2 (rS_Op false)) (a0.Ops))), (1, A.val ((rP true (rS_Algebra false)) (a0)))]
def T_impl_IsAlgebra_l1 (_a0 : SAlgebra) : (Unit ⊕ Unit) → Tgt
  | (.inl _s) => (Ex.ret, [2], [(2, A.val (V.bool (false)))])
  | (.inr _s) => ((Ex.exit 0), [], [])
theorem b_impl_IsAlgebra_l1 {a0 : SAlgebra} (x22 : Int) (o : Int ⊕ (Unit ⊕ Unit)) (h : F_impl_IsAlgebra_l1 a0 x22 = some o) : vc Try.prog c_impl_IsAlgebra_l1 (outQ [22, 21, 20, 1] (S_impl_IsAlgebra_l1 a0) (T_impl_IsAlgebra_l1 a0) o) (S_impl_IsAlgebra_l1 a0 x22) := by
  unfold F_impl_IsAlgebra_l1 at h
  try dsimp only at h
  conv => whnf
  refine Br.od h (fun p5 h => ?_) (fun p5 h => ?_)
  · conv => whnf
    refine Len.map ?_
    conv => whnf
    refine Ask.o h fun p6 h => ?_
    conv => whnf
    refine Elem.o (by first | omega | (simp only [mulN] at *; omega) | (simp [mulN] at *; omega)) ?_
    conv => whnf
    refine SetKids.lit rfl ?_
    conv => whnf
    refine Cells.lit rfl rfl ?_
    conv => whnf
    refine Cells.lit rfl rfl ?_
    conv => whnf
    refine CallQ.o V.bool (by first | rfl | simp only [mulN_one, V.fz, fzL, V.up, upL, fzL_map, fz_slr, fz_at, slr, List.cons_append, List.nil_append] | simp [mulN_one, V.fz, fzL, V.up, upL, fzL_map, fz_slr, fz_at, slr]) h (fun r h => t_impl_isOp h) (fun r7 h => ?_)
    conv => whnf
    refine Br.flip ?_
    conv => whnf
    refine Br.ob h (fun p8 h => ?_) (fun p8 h => ?_)
    · conv => whnf
      refine Ask.o h fun p9 h => ?_
      conv => whnf
      cases h; exact ⟨rfl, rfl⟩
    · conv => whnf
      cases h; exact ⟨rfl, rfl⟩
  · conv => whnf
    cases h; exact ⟨rfl, rfl⟩

noncomputable def F_impl_IsAlgebra (a0 : SAlgebra) : Option Bool :=
  ((if a0.Size < (1 : Int) then
      some (.inl ())
     else
      if a0.Size > (8 : Int) then
       some (.inl ())
      else
       if (↑a0.Ops.length : Int) > (4 : Int) then
        some (.inl ())
       else
        some (.inr ()) : Option (Unit ⊕ Unit))).bind fun t => match t with
  | (.inl _) => (some false)
  | (.inr _) => ((loopO (F_impl_IsAlgebra_l1 a0) (0 : Int)).bind fun t => match t with
    | (.inl _) => (some false)
    | (.inr _) => (some true))
theorem t_impl_IsAlgebra {a0 : SAlgebra} {v : Bool} (h : F_impl_IsAlgebra a0 = some v) : Ret Try.prog f_impl_IsAlgebra [(rS_Algebra false) a0] (V.bool v) := by
  refine ret_vc k_impl_IsAlgebra (Nat.le_of_ble_eq_true rfl) ?_
  unfold F_impl_IsAlgebra at h
  conv => whnf
  refine CutQ.o (fun t : (Unit ⊕ Unit) => match t with | (.inl s) => (Ex.ret, [2], [(2, A.val (V.bool (false)))]) | (.inr s) => (Ex.normal, [1], [(1, A.val ((rP true (rS_Algebra false)) (a0)))])) h ?_ ?_
  · intro t h
    conv => whnf
    refine Cells.lit rfl rfl ?_
    conv => whnf
    refine Br.od h (fun p1 h => ?_) (fun p1 h => ?_)
    · conv => whnf
      refine Br.yes ?_
      conv => whnf
      refine Br.yes ?_
      conv => whnf
      refine Br.yes ?_
      conv => whnf
      refine Br.yes ?_
      conv => whnf
      refine Br.yes ?_
      conv => whnf
      refine Br.yes ?_
      conv => whnf
      refine Br.yes ?_
      conv => whnf
      refine Br.yes ?_
      conv => whnf
      refine Br.yes ?_
      conv => whnf
      cases h; exact ⟨rfl, rfl⟩
    · conv => whnf
      refine Br.no ?_
      conv => whnf
      refine Cells.lit rfl rfl ?_
      conv => whnf
      refine Br.no ?_
      conv => whnf
      refine Br.no ?_
      conv => whnf
      refine Br.od h (fun p2 h => ?_) (fun p2 h => ?_)
      · conv => whnf
        refine Br.yes ?_
        conv => whnf
        refine Br.yes ?_
        conv => whnf
        refine Br.yes ?_
        conv => whnf
        refine Br.yes ?_
        conv => whnf
        refine Br.yes ?_
        conv => whnf
        cases h; exact ⟨rfl, rfl⟩
      · conv => whnf
        refine Br.no ?_
        conv => whnf
        refine Cells.lit rfl rfl ?_
        conv => whnf
        refine Br.no ?_
        conv => whnf
        refine Len.map ?_
        conv => whnf
        refine Br.no ?_
        conv => whnf
        refine Br.no ?_
        conv => whnf
        refine Br.od h (fun p3 h => ?_) (fun p3 h => ?_)
        · conv => whnf
          cases h; exact ⟨rfl, rfl⟩
        · conv => whnf
          cases h; exact ⟨rfl, rfl⟩
  · rintro (⟨⟩ | ⟨⟩) h
    · try dsimp only at h
      conv => whnf
      cases h; exact (by first | rfl | simp only [resV, mulN_one, V.fz, fzL, V.up, upL, fzL_map, fz_slr, fz_at, slr] | simp [resV, mulN_one, V.fz, fzL, V.up, upL, fzL_map, fz_slr, fz_at, slr])
    · try dsimp only at h
      conv => whnf
      refine Cells.lit rfl rfl ?_
      conv => whnf
      refine Len.map ?_
      conv => whnf
      refine LoopQ.o [22, 21, 20, 1] (S_impl_IsAlgebra_l1 a0) (T_impl_IsAlgebra_l1 a0) h (fun s o h => b_impl_IsAlgebra_l1 s o h) (by first | rfl | simp [restrict, look, mulN_one, V.fz, fzL, V.up, upL, fzL_map, fz_slr, fz_at, slr]) (by rintro (_ | _) <;> rfl) ?_
      rintro (⟨⟩ | ⟨⟩) h
      · try dsimp only at h
        conv => whnf
        cases h; exact (by first | rfl | simp only [resV, mulN_one, V.fz, fzL, V.up, upL, fzL_map, fz_slr, fz_at, slr] | simp [resV, mulN_one, V.fz, fzL, V.up, upL, fzL_map, fz_slr, fz_at, slr])
      · try dsimp only at h
        conv => whnf
        cases h; exact (by first | rfl | simp only [resV, mulN_one, V.fz, fzL, V.up, upL, fzL_map, fz_slr, fz_at, slr] | simp [resV, mulN_one, V.fz, fzL, V.up, upL, fzL_map, fz_slr, fz_at, slr])

noncomputable def F_laws_eqOpS_l1 (a0 : List SOp) (b0 : List SOp) : Int → Option (Int ⊕ (Unit ⊕ Unit)) := fun x5 =>
   if x5 < (↑a0.length : Int) then
    ask ((0 : Int) ≤ x5 ∧ x5 < (↑a0.length : Int)) <|
    ask ((0 : Int) ≤ x5 ∧ x5 < (↑b0.length : Int)) <|
    (F_laws_eqOp (nth a0 x5.toNat) (nth b0 x5.toNat)).bind fun r5 =>
    if (r5) = true then
     ask (InI (x5 + (1 : Int))) <|
     some (.inl (x5 + (1 : Int)))
    else
     some (.inr (.inl ()))
   else
    some (.inr (.inr ()))
def S_laws_eqOpS_l1 (a0 : List SOp) (b0 : List SOp) : Int → St := fun s => [(5, A.val (vint s)), (0, A.val ((slr false 2 (rS_Op false)) (a0))), (1, A.val ((slr false 2 (rS_Op false)) (b0)))]
def T_laws_eqOpS_l1 (_a0 : List SOp) (_b0 : List SOp) : (Unit ⊕ Unit) → Tgt
  | (.inl _s) => (Ex.ret, [4], [(4, A.val (V.bool (false)))])
  | (.inr _s) => ((Ex.exit 0), [], [])
theorem b_laws_eqOpS_l1 {a0 : List SOp} {b0 : List SOp} (x5 : Int) (o : Int ⊕ (Unit ⊕ Unit)) (h : F_laws_eqOpS_l1 a0 b0 x5 = some o) : vc Try.prog c_laws_eqOpS_l1 (outQ [5, 0, 1] (S_laws_eqOpS_l1 a0 b0) (T_laws_eqOpS_l1 a0 b0) o) (S_laws_eqOpS_l1 a0 b0 x5) := by
  unfold F_laws_eqOpS_l1 at h
  try dsimp only at h
  conv => whnf
  refine Len.map ?_
  conv => whnf
  refine Br.od h (fun p2 h => ?_) (fun p2 h => ?_)
  · conv => whnf
    refine Len.map ?_
    conv => whnf
    refine Ask.o h fun p3 h => ?_
    conv => whnf
    refine Elem.o (by first | omega | (simp only [mulN] at *; omega) | (simp [mulN] at *; omega)) ?_
    conv => whnf
    refine Len.map ?_
    conv => whnf
    refine Ask.o h fun p4 h => ?_
    conv => whnf
    refine Elem.o (by first | omega | (simp only [mulN] at *; omega) | (simp [mulN] at *; omega)) ?_
    conv => whnf
    refine CallQ.o V.bool (by first | rfl | simp only [mulN_one, V.fz, fzL, V.up, upL, fzL_map, fz_slr, fz_at, slr, List.cons_append, List.nil_append] | simp [mulN_one, V.fz, fzL, V.up, upL, fzL_map, fz_slr, fz_at, slr]) h (fun r h => t_laws_eqOp h) (fun r5 h => ?_)
    conv => whnf
    refine Br.flip ?_
    conv => whnf
    refine Br.ob h (fun p6 h => ?_) (fun p6 h => ?_)
    · conv => whnf
      refine Ask.o h fun p7 h => ?_
      conv => whnf
      cases h; exact ⟨rfl, rfl⟩
    · conv => whnf
      cases h; exact ⟨rfl, rfl⟩
  · conv => whnf
    cases h; exact ⟨rfl, rfl⟩

noncomputable def F_laws_eqOpS (a0 : (List SOp)) (b0 : (List SOp)) : Option Bool :=
  if (↑a0.length : Int) ≠ (↑b0.length : Int) then
   some false
  else
   (loopO (F_laws_eqOpS_l1 a0 b0) (0 : Int)).bind fun t => match t with
   | (.inl _) => (some false)
   | (.inr _) => (some true)
theorem t_laws_eqOpS {a0 : (List SOp)} {b0 : (List SOp)} {v : Bool} (h : F_laws_eqOpS a0 b0 = some v) : Ret Try.prog f_laws_eqOpS [(slr false 2 (rS_Op false)) a0, (slr false 2 (rS_Op false)) b0] (V.bool v) := by
  refine ret_vc k_laws_eqOpS (Nat.le_of_ble_eq_true rfl) ?_
  unfold F_laws_eqOpS at h
  conv => whnf
  refine Len.map ?_
  conv => whnf
  refine Len.map ?_
  conv => whnf
  refine Br.on h (fun p1 h => ?_) (fun p1 h => ?_)
  · conv => whnf
    cases h; exact (by first | rfl | simp only [resV, mulN_one, V.fz, fzL, V.up, upL, fzL_map, fz_slr, fz_at, slr] | simp [resV, mulN_one, V.fz, fzL, V.up, upL, fzL_map, fz_slr, fz_at, slr])
  · conv => whnf
    refine LoopQ.o [5, 0, 1] (S_laws_eqOpS_l1 a0 b0) (T_laws_eqOpS_l1 a0 b0) h (fun s o h => b_laws_eqOpS_l1 s o h) (by first | rfl | simp [restrict, look, mulN_one, V.fz, fzL, V.up, upL, fzL_map, fz_slr, fz_at, slr]) (by rintro (_ | _) <;> rfl) ?_
    rintro (⟨⟩ | ⟨⟩) h
    · try dsimp only at h
      conv => whnf
      cases h; exact (by first | rfl | simp only [resV, mulN_one, V.fz, fzL, V.up, upL, fzL_map, fz_slr, fz_at, slr] | simp [resV, mulN_one, V.fz, fzL, V.up, upL, fzL_map, fz_slr, fz_at, slr])
    · try dsimp only at h
      conv => whnf
      cases h; exact (by first | rfl | simp only [resV, mulN_one, V.fz, fzL, V.up, upL, fzL_map, fz_slr, fz_at, slr] | simp [resV, mulN_one, V.fz, fzL, V.up, upL, fzL_map, fz_slr, fz_at, slr])

end Go.Proofs.Ytdodfnbbfkcgnaa.Ax
