/-
  What the functions compute, as functions on plain data, and that the program does compute it; written by program.
-/
import Derived.Test.YtbnoclklhcbidaaDoorCode
import Derived.Test.YtbnoclklhcbidaaDoorG1
import Derived.Test.YtbnoclklhcbidaaDoorG3
namespace Go.Proofs.YtbnoclklhcbidaaDoor.Ax
open Go
set_option maxRecDepth 100000
set_option maxHeartbeats 4000000

noncomputable def F_spec_l23Text_l1 (r2 : List (Int × Int)) : (Int × ByteArray) → Option ((Int × ByteArray) ⊕ ByteArray) := fun (x5, x3) =>
   if x5 < (↑r2.length : Int) then
    ask (x3.size + (ByteArray.mk #[32]).size ≤ (9223372036854775807 : Nat)) <|
    ask ((0 : Int) ≤ x5 ∧ x5 < (↑r2.length : Int)) <|
    (limO fun n => F_spec_l1Num n ((nth r2 x5.toNat).fst)).bind fun r6 =>
    ask ((x3 ++ (ByteArray.mk #[32])).size + r6.size ≤ (9223372036854775807 : Nat)) <|
    ask ((x3 ++ (ByteArray.mk #[32]) ++ r6).size + (ByteArray.mk #[60]).size ≤ (9223372036854775807 : Nat)) <|
    ask ((0 : Int) ≤ x5 ∧ x5 < (↑r2.length : Int)) <|
    (limO fun n => F_spec_l1Num n ((nth r2 x5.toNat).snd)).bind fun r10 =>
    ask ((x3 ++ (ByteArray.mk #[32]) ++ r6 ++ (ByteArray.mk #[60])).size + r10.size ≤ (9223372036854775807 : Nat)) <|
    ask (InI (x5 + (1 : Int))) <|
    some (.inl (x5 + (1 : Int), x3 ++ (ByteArray.mk #[32]) ++ r6 ++ (ByteArray.mk #[60]) ++ r10))
   else
    some (.inr x3)
def S_spec_l23Text_l1 (r2 : List (Int × Int)) : (Int × ByteArray) → St := fun s => [(5, A.val (vint s.1)), (4, A.val ((slr true 2 (rA2 vint)) (r2))), (3, A.val (V.str s.2))]
def T_spec_l23Text_l1 (_r2 : List (Int × Int)) : ByteArray → Tgt
  | s => ((Ex.exit 0), [3], [(3, A.val (V.str s))])
theorem b_spec_l23Text_l1 {r2 : List (Int × Int)} (s : (Int × ByteArray)) (o : (Int × ByteArray) ⊕ ByteArray) (h : F_spec_l23Text_l1 r2 s = some o) : vc Tryd.prog c_spec_l23Text_l1 (outQ [5, 4, 3] (S_spec_l23Text_l1 r2) (T_spec_l23Text_l1 r2) o) (S_spec_l23Text_l1 r2 s) := by
  obtain ⟨x5, x3⟩ := s
  unfold F_spec_l23Text_l1 at h
  try dsimp only at h
  conv => whnf
  refine Len.map ?_
  conv => whnf
  refine Br.od h (fun p3 h => ?_) (fun p3 h => ?_)
  · conv => whnf
    refine Ask.o h fun p4 h => ?_
    conv => whnf
    refine Len.map ?_
    conv => whnf
    refine Ask.o h fun p5 h => ?_
    conv => whnf
    refine Ask.mk (by decide) ?_
    conv => whnf
    refine Idx.lit ?_
    conv => whnf
    refine Cells.wide (by exact fun _ => ⟨rfl, rfl⟩) (by first | omega | (simp only [mulN] at *; omega) | (simp [mulN] at *; omega)) (by decide) ?_
    conv => whnf
    refine CallP.o V.str (by first | rfl | simp only [mulN_one, V.fz, fzL, V.up, upL, fzL_map, fz_slr, fz_at, slr, List.cons_append, List.nil_append] | simp [mulN_one, V.fz, fzL, V.up, upL, fzL_map, fz_slr, fz_at, slr]) h (fun r h => t_spec_l1Num h) (fun r6 h => ?_)
    conv => whnf
    refine Ask.o h fun p7 h => ?_
    conv => whnf
    refine Ask.o h fun p8 h => ?_
    conv => whnf
    refine Len.map ?_
    conv => whnf
    refine Ask.o h fun p9 h => ?_
    conv => whnf
    refine Ask.mk (by decide) ?_
    conv => whnf
    refine Idx.lit ?_
    conv => whnf
    refine Cells.wide (by exact fun _ => ⟨rfl, rfl⟩) (by first | omega | (simp only [mulN] at *; omega) | (simp [mulN] at *; omega)) (by decide) ?_
    conv => whnf
    refine CallP.o V.str (by first | rfl | simp only [mulN_one, V.fz, fzL, V.up, upL, fzL_map, fz_slr, fz_at, slr, List.cons_append, List.nil_append] | simp [mulN_one, V.fz, fzL, V.up, upL, fzL_map, fz_slr, fz_at, slr]) h (fun r h => t_spec_l1Num h) (fun r10 h => ?_)
    conv => whnf
    refine Ask.o h fun p11 h => ?_
    conv => whnf
    refine Ask.o h fun p12 h => ?_
    conv => whnf
    cases h; exact ⟨rfl, rfl⟩
  · conv => whnf
    cases h; exact ⟨rfl, rfl⟩

noncomputable def F_spec_l23Text (p0 : SPoset) : Option ByteArray :=
  (limO fun n => F_spec_l1Num n ((↑p0.Below.length : Int))).bind fun r1 =>
  (F_spec_l23Pairs (p0)).bind fun r2 =>
  (loopO (F_spec_l23Text_l1 r2) ((0 : Int), r1)).bind fun q13_3 =>
  some q13_3
theorem t_spec_l23Text {p0 : SPoset} {v : ByteArray} (h : F_spec_l23Text p0 = some v) : Ret Tryd.prog f_spec_l23Text [(rS_Poset false) p0] (V.str v) := by
  refine ret_vc k_spec_l23Text (Nat.le_of_ble_eq_true rfl) ?_
  unfold F_spec_l23Text at h
  conv => whnf
  refine Cells.lit rfl rfl ?_
  conv => whnf
  refine Len.map ?_
  conv => whnf
  refine CallQ.o V.str (by first | rfl | simp only [mulN_one, V.fz, fzL, V.up, upL, fzL_map, fz_slr, fz_at, slr, List.cons_append, List.nil_append] | simp [mulN_one, V.fz, fzL, V.up, upL, fzL_map, fz_slr, fz_at, slr]) h (fun r h => t_spec_l1Num h) (fun r1 h => ?_)
  conv => whnf
  refine Cells.lit rfl rfl ?_
  conv => whnf
  refine CallQ.o (slr true 2 (rA2 vint)) (by first | rfl | simp only [mulN_one, V.fz, fzL, V.up, upL, fzL_map, fz_slr, fz_at, slr, List.cons_append, List.nil_append] | simp [mulN_one, V.fz, fzL, V.up, upL, fzL_map, fz_slr, fz_at, slr]) h (fun r h => t_spec_l23Pairs h) (fun r2 h => ?_)
  conv => whnf
  refine LoopQ.o [5, 4, 3] (S_spec_l23Text_l1 r2) (T_spec_l23Text_l1 r2) h (fun s o h => b_spec_l23Text_l1 s o h) (by first | rfl | simp [restrict, look, mulN_one, V.fz, fzL, V.up, upL, fzL_map, fz_slr, fz_at, slr]) (fun _ => rfl) ?_
  rintro q13_3 h
  try dsimp only at h
  conv => whnf
  cases h; exact (by first | rfl | simp only [resV, mulN_one, V.fz, fzL, V.up, upL, fzL_map, fz_slr, fz_at, slr] | simp [resV, mulN_one, V.fz, fzL, V.up, upL, fzL_map, fz_slr, fz_at, slr])

noncomputable def F_spec_PosetText (p0 : SPoset) : Option (ByteArray × Bool) :=
  (F_spec_l23Good (p0)).bind fun r1 =>
  if (r1) = true then
   (F_spec_l23Text (p0)).bind fun r3 =>
   some (r3, true)
  else
   some ((ByteArray.mk #[]), false)
theorem t_spec_PosetText {p0 : SPoset} {v : (ByteArray × Bool)} (h : F_spec_PosetText p0 = some v) : Ret Tryd.prog f_spec_PosetText [(rS_Poset false) p0] ((fun r => V.tup [V.str r.1, V.bool r.2]) v) := by
  refine ret_vc k_spec_PosetText (Nat.le_of_ble_eq_true rfl) ?_
  unfold F_spec_PosetText at h
  conv => whnf
  refine Cells.lit rfl rfl ?_
  conv => whnf
  refine CallQ.o V.bool (by first | rfl | simp only [mulN_one, V.fz, fzL, V.up, upL, fzL_map, fz_slr, fz_at, slr, List.cons_append, List.nil_append] | simp [mulN_one, V.fz, fzL, V.up, upL, fzL_map, fz_slr, fz_at, slr]) h (fun r h => t_spec_l23Good h) (fun r1 h => ?_)
  conv => whnf
  refine Br.flip ?_
  conv => whnf
  refine Br.ob h (fun p2 h => ?_) (fun p2 h => ?_)
  · conv => whnf
    refine Cells.lit rfl rfl ?_
    conv => whnf
    refine CallQ.o V.str (by first | rfl | simp only [mulN_one, V.fz, fzL, V.up, upL, fzL_map, fz_slr, fz_at, slr, List.cons_append, List.nil_append] | simp [mulN_one, V.fz, fzL, V.up, upL, fzL_map, fz_slr, fz_at, slr]) h (fun r h => t_spec_l23Text h) (fun r3 h => ?_)
    conv => whnf
    cases h; exact (by first | rfl | simp only [resV, mulN_one, V.fz, fzL, V.up, upL, fzL_map, fz_slr, fz_at, slr] | simp [resV, mulN_one, V.fz, fzL, V.up, upL, fzL_map, fz_slr, fz_at, slr])
  · conv => whnf
    cases h; exact (by first | rfl | simp only [resV, mulN_one, V.fz, fzL, V.up, upL, fzL_map, fz_slr, fz_at, slr] | simp [resV, mulN_one, V.fz, fzL, V.up, upL, fzL_map, fz_slr, fz_at, slr])

end Go.Proofs.YtbnoclklhcbidaaDoor.Ax
