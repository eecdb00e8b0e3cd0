/-
  What the functions compute, as functions on plain data, and that the program does compute it; written by program.
-/
import Derived.Test.YthcnmahjhahafaaCode
import Derived.Test.YthcnmahjhahafaaG2
import Derived.Test.YthcnmahjhahafaaG3
namespace Go.Proofs.Ythcnmahjhahafaa.Ax
open Go
set_option maxRecDepth 100000
set_option maxHeartbeats 4000000

noncomputable def F_spec_l23First_l1 (p0 : SPoset) (x3 : List Int) : Int → Option (Int ⊕ Int) := fun x4 =>
   (F_spec_l1Has (x3) (x4)).bind fun r2 =>
   if (r2) = true then
    ask (InI (x4 + (1 : Int))) <|
    some (.inl (x4 + (1 : Int)))
   else
    ask ((0 : Int) ≤ x4 ∧ x4 < (↑p0.Below.length : Int)) <|
    (F_spec_l1Own (x3)).bind fun r6 =>
    ask ((r6).length + ([x4]).length ≤ LIM) <|
    (F_spec_l5Within (nth p0.Below x4.toNat) (r6 ++ [x4])).bind fun r7 =>
    if (r7) = true then
     some (.inr x4)
    else
     ask (InI (x4 + (1 : Int))) <|
     some (.inl (x4 + (1 : Int)))
def S_spec_l23First_l1 (p0 : SPoset) (x3 : List Int) : Int → St := fun s => [(4, A.val (vint s)), (3, A.val ((slr true 1 vint) (x3))), (1, A.val ((rP true (rS_Poset false)) (p0)))]
def T_spec_l23First_l1 (p0 : SPoset) (x3 : List Int) : Int → Tgt
  | s => ((Ex.exit 2), [4, 3, 1], [(4, A.val (vint s)), (3, A.val ((slr true 1 vint) (x3))), (1, A.val ((rP true (rS_Poset false)) (p0)))])
theorem b_spec_l23First_l1 {p0 : SPoset} {x3 : List Int} (x4 : Int) (o : Int ⊕ Int) (h : F_spec_l23First_l1 p0 x3 x4 = some o) : vc Try.prog c_spec_l23First_l1 (outQ [4, 3, 1] (S_spec_l23First_l1 p0 x3) (T_spec_l23First_l1 p0 x3) o) (S_spec_l23First_l1 p0 x3 x4) := by
  unfold F_spec_l23First_l1 at h
  try dsimp only at h
  conv => whnf
  refine CallP.rd V.bool (by first | rfl | simp only [V.fz, V.up, fzL_map, fz_at, slr] | simp [mulN_one, V.fz, fzL, V.up, upL, fzL_map, fz_slr, fz_at, slr]) (fun _ => rfl) h (fun r h => t_spec_l1Has h) (fun r2 h => ?_)
  conv => whnf
  refine Br.ob h (fun p3 h => ?_) (fun p3 h => ?_)
  · conv => whnf
    refine Br.yes ?_
    conv => whnf
    refine Br.yes ?_
    conv => whnf
    refine Br.yes ?_
    conv => whnf
    refine Br.yes ?_
    conv => whnf
    refine Br.yes ?_
    conv => whnf
    refine Br.yes ?_
    conv => whnf
    refine Br.yes ?_
    conv => whnf
    refine Br.yes ?_
    conv => whnf
    refine Br.yes ?_
    conv => whnf
    refine Br.yes ?_
    conv => whnf
    refine Br.yes ?_
    conv => whnf
    refine Br.yes ?_
    conv => whnf
    refine Br.yes ?_
    conv => whnf
    refine Ask.o h fun p4 h => ?_
    conv => whnf
    cases h; exact ⟨rfl, rfl⟩
  · conv => whnf
    refine Br.no ?_
    conv => whnf
    refine Cells.lit rfl rfl ?_
    conv => whnf
    refine Br.no ?_
    conv => whnf
    refine Br.no ?_
    conv => whnf
    refine Len.map ?_
    conv => whnf
    refine Ask.o h fun p5 h => ?_
    conv => whnf
    refine Elem.o (by first | omega | (simp only [mulN] at *; omega) | (simp [mulN] at *; omega)) ?_
    conv => whnf
    refine Br.no ?_
    conv => whnf
    refine Br.no ?_
    conv => whnf
    refine Br.no ?_
    conv => whnf
    refine CallP.rd (slr true 1 vint) (by first | rfl | simp only [V.fz, fzL_map, slr] | simp [mulN_one, V.fz, fzL, V.up, upL, fzL_map, fz_slr, fz_at, slr]) (fun _ => by simp [V.noFz, noFzL_map]) h (fun r h => t_spec_l1Own h) (fun r6 h => ?_)
    conv => whnf
    refine Br.no ?_
    conv => whnf
    refine Br.no ?_
    conv => whnf
    refine BslQ.o vint [x4] (by exact fun _ => ⟨rfl, rfl⟩) (by first | rfl | simp only [mulN_one, V.fz, fzL, V.up, upL, fzL_map, fz_slr, fz_at, slr, List.cons_append, List.nil_append] | simp [mulN_one, V.fz, fzL, V.up, upL, fzL_map, fz_slr, fz_at, slr]) ?_
    conv => whnf
    refine Br.no ?_
    conv => whnf
    refine NoOwn.o (fun _ => rfl) ?_
    conv => whnf
    refine AppQ.o (m := 1) vint (by exact fun _ => ⟨rfl, rfl⟩) (r6) ([x4]) (by first | rfl | simp only [mulN_one, V.fz, fzL, V.up, upL, fzL_map, fz_slr, fz_at, slr, List.cons_append, List.nil_append] | simp [mulN_one, V.fz, fzL, V.up, upL, fzL_map, fz_slr, fz_at, slr]) (by first | rfl | simp only [mulN_one, V.fz, fzL, V.up, upL, fzL_map, fz_slr, fz_at, slr, List.cons_append, List.nil_append] | simp [mulN_one, V.fz, fzL, V.up, upL, fzL_map, fz_slr, fz_at, slr]) h fun h => ?_
    conv => whnf
    refine Br.no ?_
    conv => whnf
    refine CallQ.rd V.bool (by first | rfl | simp only [V.fz, fzL_map, slr] | simp [mulN_one, V.fz, fzL, V.up, upL, fzL_map, fz_slr, fz_at, slr]) (fun _ => rfl) h (fun r h => t_spec_l5Within h) (fun r7 h => ?_)
    conv => whnf
    refine Br.no ?_
    conv => whnf
    refine Br.no ?_
    conv => whnf
    refine Br.flip ?_
    conv => whnf
    refine Br.ob h (fun p8 h => ?_) (fun p8 h => ?_)
    · conv => whnf
      cases h; exact ⟨rfl, rfl⟩
    · conv => whnf
      refine Ask.o h fun p9 h => ?_
      conv => whnf
      cases h; exact ⟨rfl, rfl⟩

noncomputable def F_spec_l23First_l2 (p0 : SPoset) : (List Int) → Option ((List Int) ⊕ (List Int)) := fun x3 =>
   if (↑x3.length : Int) < (↑p0.Below.length : Int) then
    (loopO (F_spec_l23First_l1 p0 x3) (0 : Int)).bind fun q10_4 =>
    ask ((x3).length + ([q10_4]).length ≤ LIM) <|
    some (.inl (x3 ++ [q10_4]))
   else
    some (.inr x3)
def S_spec_l23First_l2 (p0 : SPoset) : (List Int) → St := fun s => [(3, A.val ((slr true 1 vint) s)), (1, A.val ((rP true (rS_Poset false)) (p0)))]
def T_spec_l23First_l2 (_p0 : SPoset) : (List Int) → Tgt
  | s => ((Ex.exit 0), [3], [(3, A.val ((slr true 1 vint) s))])
theorem b_spec_l23First_l2 {p0 : SPoset} (x3 : (List Int)) (o : (List Int) ⊕ (List Int)) (h : F_spec_l23First_l2 p0 x3 = some o) : vc Try.prog c_spec_l23First_l2 (outQ [3, 1] (S_spec_l23First_l2 p0) (T_spec_l23First_l2 p0) o) (S_spec_l23First_l2 p0 x3) := by
  unfold F_spec_l23First_l2 at h
  try dsimp only at h
  conv => whnf
  refine Len.map ?_
  conv => whnf
  refine Cells.lit rfl rfl ?_
  conv => whnf
  refine Len.map ?_
  conv => whnf
  refine Br.od h (fun p1 h => ?_) (fun p1 h => ?_)
  · conv => whnf
    refine LoopQ.o [4, 3, 1] (S_spec_l23First_l1 p0 x3) (T_spec_l23First_l1 p0 x3) h (fun s o h => b_spec_l23First_l1 s o h) (by first | rfl | simp [restrict, look, mulN_one, V.fz, fzL, V.up, upL, fzL_map, fz_slr, fz_at, slr]) (fun _ => rfl) ?_
    rintro q10_4 h
    try dsimp only at h
    conv => whnf
    refine BslQ.o vint [q10_4] (by exact fun _ => ⟨rfl, rfl⟩) (by first | rfl | simp only [mulN_one, V.fz, fzL, V.up, upL, fzL_map, fz_slr, fz_at, slr, List.cons_append, List.nil_append] | simp [mulN_one, V.fz, fzL, V.up, upL, fzL_map, fz_slr, fz_at, slr]) ?_
    conv => whnf
    refine NoOwn.o (fun _ => rfl) ?_
    conv => whnf
    refine AppQ.o (m := 1) vint (by exact fun _ => ⟨rfl, rfl⟩) (x3) ([q10_4]) (by first | rfl | simp only [mulN_one, V.fz, fzL, V.up, upL, fzL_map, fz_slr, fz_at, slr, List.cons_append, List.nil_append] | simp [mulN_one, V.fz, fzL, V.up, upL, fzL_map, fz_slr, fz_at, slr]) (by first | rfl | simp only [mulN_one, V.fz, fzL, V.up, upL, fzL_map, fz_slr, fz_at, slr, List.cons_append, List.nil_append] | simp [mulN_one, V.fz, fzL, V.up, upL, fzL_map, fz_slr, fz_at, slr]) h fun h => ?_
    conv => whnf
    cases h; exact ⟨rfl, rfl⟩
  · conv => whnf
    cases h; exact ⟨rfl, rfl⟩

noncomputable def F_spec_l23First (p0 : SPoset) : Option (List Int) :=
  (loopO (F_spec_l23First_l2 p0) (nilL Int)).bind fun q11_3 =>
  some q11_3
theorem t_spec_l23First {p0 : SPoset} {v : (List Int)} (h : F_spec_l23First p0 = some v) : Ret Try.prog f_spec_l23First [(rS_Poset false) p0] ((slr true 1 vint) v) := by
  refine ret_vc k_spec_l23First (Nat.le_of_ble_eq_true rfl) ?_
  unfold F_spec_l23First at h
  conv => whnf
  refine BslQ.o vint (nilL Int) (by exact fun _ => ⟨rfl, rfl⟩) (by first | rfl | simp only [mulN_one, V.fz, fzL, V.up, upL, fzL_map, fz_slr, fz_at, slr, List.cons_append, List.nil_append] | simp [mulN_one, V.fz, fzL, V.up, upL, fzL_map, fz_slr, fz_at, slr]) ?_
  conv => whnf
  refine LoopQ.o [3, 1] (S_spec_l23First_l2 p0) (T_spec_l23First_l2 p0) h (fun s o h => b_spec_l23First_l2 s o h) (by first | rfl | simp [restrict, look, mulN_one, V.fz, fzL, V.up, upL, fzL_map, fz_slr, fz_at, slr]) (fun _ => rfl) ?_
  rintro q11_3 h
  try dsimp only at h
  conv => whnf
  cases h; exact (by first | rfl | simp [resV, mulN_one, V.fz, fzL, V.up, upL, fzL_map, fz_slr, fz_at, slr])

noncomputable def F_spec_FirstExtension (p0 : SPoset) : Option ((List Int) × Bool) :=
  (F_spec_l23Good (p0)).bind fun r1 =>
  if (r1) = true then
   (F_spec_l23First (p0)).bind fun r3 =>
   some (r3, true)
  else
   some (nilL Int, false)
theorem t_spec_FirstExtension {p0 : SPoset} {v : ((List Int) × Bool)} (h : F_spec_FirstExtension p0 = some v) : Ret Try.prog f_spec_FirstExtension [(rS_Poset false) p0] ((fun r => V.tup [(slr true 1 vint) r.1, V.bool r.2]) v) := by
  refine ret_vc k_spec_FirstExtension (Nat.le_of_ble_eq_true rfl) ?_
  unfold F_spec_FirstExtension at h
  conv => whnf
  refine Cells.lit rfl rfl ?_
  conv => whnf
  refine CallQ.o V.bool (by first | rfl | simp only [mulN_one, V.fz, fzL, V.up, upL, fzL_map, fz_slr, fz_at, slr, List.cons_append, List.nil_append] | simp [mulN_one, V.fz, fzL, V.up, upL, fzL_map, fz_slr, fz_at, slr]) h (fun r h => t_spec_l23Good h) (fun r1 h => ?_)
  conv => whnf
  refine Br.flip ?_
  conv => whnf
  refine Br.ob h (fun p2 h => ?_) (fun p2 h => ?_)
  · conv => whnf
    refine Cells.lit rfl rfl ?_
    conv => whnf
    refine CallQ.o (slr true 1 vint) (by first | rfl | simp only [mulN_one, V.fz, fzL, V.up, upL, fzL_map, fz_slr, fz_at, slr, List.cons_append, List.nil_append] | simp [mulN_one, V.fz, fzL, V.up, upL, fzL_map, fz_slr, fz_at, slr]) h (fun r h => t_spec_l23First h) (fun r3 h => ?_)
    conv => whnf
    cases h; exact (by first | rfl | simp [resV, mulN_one, V.fz, fzL, V.up, upL, fzL_map, fz_slr, fz_at, slr])
  · conv => whnf
    refine BslQ.o vint (nilL Int) (by exact fun _ => ⟨rfl, rfl⟩) (by first | rfl | simp only [mulN_one, V.fz, fzL, V.up, upL, fzL_map, fz_slr, fz_at, slr, List.cons_append, List.nil_append] | simp [mulN_one, V.fz, fzL, V.up, upL, fzL_map, fz_slr, fz_at, slr]) ?_
    conv => whnf
    cases h; exact (by first | rfl | simp [resV, mulN_one, V.fz, fzL, V.up, upL, fzL_map, fz_slr, fz_at, slr])

end Go.Proofs.Ythcnmahjhahafaa.Ax
