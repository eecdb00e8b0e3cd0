/-
  What the functions compute, as functions on plain data, and that the program does compute it; written by program.
-/
import Derived.Test.YthcnmahjhahafaaCode
import Derived.Test.YthcnmahjhahafaaG1
import Derived.Test.YthcnmahjhahafaaG4
import Derived.Test.YthcnmahjhahafaaG5
import Derived.Test.YthcnmahjhahafaaG6
namespace Go.Proofs.Ythcnmahjhahafaa.Ax
open Go
set_option maxRecDepth 100000
set_option maxHeartbeats 4000000

noncomputable def F_laws_markPoset (a0 : SPoset) (k0 : Int) : Option (Int × SPoset) :=
  (F_laws_markIntSS (a0.Below) (k0)).bind fun (r1, u2) =>
  some (r1, { Below := u2 })
theorem t_laws_markPoset {a0 : SPoset} {k0 : Int} {v : (Int × SPoset)} (h : F_laws_markPoset a0 k0 = some v) : RetO Try.prog f_laws_markPoset [(rS_Poset true) a0, vint k0] (vint v.1) 0 ((rS_Poset true) v.2) := by
  refine reto_vc k_laws_markPoset (Nat.le_of_ble_eq_true rfl) ?_
  unfold F_laws_markPoset at h
  conv => whnf
  refine Cells.lit rfl rfl ?_
  conv => whnf
  refine Kid.lit rfl rfl ?_
  conv => whnf
  refine CallQ.io vint (slr true 1 (slr true 1 vint)) (by first | rfl | simp only [mulN_one, V.fz, fzL, V.up, upL, fzL_map, fz_slr, fz_at, slr, List.cons_append, List.nil_append] | simp [mulN_one, V.fz, fzL, V.up, upL, fzL_map, fz_slr, fz_at, slr]) rfl (fun _ => rfl) (fun _ => ⟨rfl, rfl⟩) rfl h (fun r h => t_laws_markIntSS h) (fun r1 u2 h => ?_)
  conv => whnf
  refine Kid.lit rfl rfl ?_
  conv => whnf
  refine SetKids.lit rfl ?_
  conv => whnf
  cases h; exact ⟨(by first | rfl | simp [resV, mulN_one, V.fz, fzL, V.up, upL, fzL_map, fz_slr, fz_at, slr]), (by first | rfl | simp [resV, mulN_one, V.fz, fzL, V.up, upL, fzL_map, fz_slr, fz_at, slr])⟩

noncomputable def F_impl_HeightsOf (p0 : SPoset) : Option ((List Int) × Bool) :=
  (F_impl_orderOf (p0)).bind fun r1 =>
  if (r1.snd) = true then
   (F_impl_order_lengths (r1.fst) (true)).bind fun r3 =>
   some (r3, true)
  else
   some (nilL Int, false)
theorem t_impl_HeightsOf {p0 : SPoset} {v : ((List Int) × Bool)} (h : F_impl_HeightsOf p0 = some v) : Ret Try.prog f_impl_HeightsOf [(rS_Poset false) p0] ((fun r => V.tup [(slr true 1 vint) r.1, V.bool r.2]) v) := by
  refine ret_vc k_impl_HeightsOf (Nat.le_of_ble_eq_true rfl) ?_
  unfold F_impl_HeightsOf at h
  conv => whnf
  refine Cells.lit rfl rfl ?_
  conv => whnf
  refine CallQ.o (fun r => V.tup [(slr true 1 (slr true 1 V.bool)) r.1, V.bool r.2]) (by first | rfl | simp only [mulN_one, V.fz, fzL, V.up, upL, fzL_map, fz_slr, fz_at, slr, List.cons_append, List.nil_append] | simp [mulN_one, V.fz, fzL, V.up, upL, fzL_map, fz_slr, fz_at, slr]) h (fun r h => t_impl_orderOf h) (fun r1 h => ?_)
  conv => whnf
  refine Br.flip ?_
  conv => whnf
  refine Br.ob h (fun p2 h => ?_) (fun p2 h => ?_)
  · conv => whnf
    refine CallQ.rd (slr true 1 vint) (by first | rfl | simp only [V.fz, fzL_map, slr] | simp [mulN_one, V.fz, fzL, V.up, upL, fzL_map, fz_slr, fz_at, slr]) (fun _ => by simp [V.noFz, noFzL_map]) h (fun r h => t_impl_order_lengths h) (fun r3 h => ?_)
    conv => whnf
    cases h; exact (by first | rfl | simp [resV, mulN_one, V.fz, fzL, V.up, upL, fzL_map, fz_slr, fz_at, slr])
  · conv => whnf
    refine BslQ.o vint (nilL Int) (fun _ => ⟨rfl, rfl⟩) (by first | rfl | simp only [mulN_one, V.fz, fzL, V.up, upL, fzL_map, fz_slr, fz_at, slr, List.cons_append, List.nil_append] | simp [mulN_one, V.fz, fzL, V.up, upL, fzL_map, fz_slr, fz_at, slr]) ?_
    conv => whnf
    cases h; exact (by first | rfl | simp [resV, mulN_one, V.fz, fzL, V.up, upL, fzL_map, fz_slr, fz_at, slr])

noncomputable def F_impl_FirstExtension_l1 (r1 : List (List Bool) × Bool) (x6 : List Int) : Int → Option (Int ⊕ (List Int)) := fun x24 =>
   if x24 < (↑r1.fst.length : Int) then
    (F_impl_hasNot (x6) (x24)).bind fun r5 =>
    if (r5) = true then
     (F_impl_order_none (r1.fst) (fun w_0 => F_impl_FirstExtension_1 w_0 (r1.fst) (x24) (x6))).bind fun r7 =>
     if (r7) = true then
      ask ((x6).length + ([x24]).length ≤ LIM) <|
      some (.inr (x6 ++ [x24]))
     else
      ask (InI (x24 + (1 : Int))) <|
      some (.inl (x24 + (1 : Int)))
    else
     ask (InI (x24 + (1 : Int))) <|
     some (.inl (x24 + (1 : Int)))
   else
    some (.inr x6)
def S_impl_FirstExtension_l1 (r1 : List (List Bool) × Bool) (x6 : List Int) : Int → St := fun s => [(24, A.val (vint s)), (23, A.val (vint ((↑r1.fst.length : Int)))), (6, A.val ((rP true (slr true 1 vint)) (x6))), (4, A.val ((rP true (slr true 1 (slr true 1 V.bool))) (r1.fst)))]
def T_impl_FirstExtension_l1 (r1 : List (List Bool) × Bool) (_x6 : List Int) : (List Int) → Tgt
  | s => ((Ex.exit 2), [6, 4], [(6, A.val ((rP true (slr true 1 vint)) s)), (4, A.val ((rP true (slr true 1 (slr true 1 V.bool))) (r1.fst)))])
theorem b_impl_FirstExtension_l1 {r1 : List (List Bool) × Bool} {x6 : List Int} (x24 : Int) (o : Int ⊕ (List Int)) (h : F_impl_FirstExtension_l1 r1 x6 x24 = some o) : vc Try.prog c_impl_FirstExtension_l1 (outQ [24, 23, 6, 4] (S_impl_FirstExtension_l1 r1 x6) (T_impl_FirstExtension_l1 r1 x6) o) (S_impl_FirstExtension_l1 r1 x6 x24) := by
  unfold F_impl_FirstExtension_l1 at h
  try dsimp only at h
  conv => whnf
  refine Br.od h (fun p4 h => ?_) (fun p4 h => ?_)
  · conv => whnf
    refine SetKids.lit rfl ?_
    conv => whnf
    refine Cells.lit rfl rfl ?_
    conv => whnf
    refine Cells.lit rfl rfl ?_
    conv => whnf
    refine Kid.lit rfl rfl ?_
    conv => whnf
    refine CallQ.rd V.bool (by first | rfl | simp only [V.fz, V.up, fzL_map, fz_at, slr] | simp [mulN_one, V.fz, fzL, V.up, upL, fzL_map, fz_slr, fz_at, slr]) (fun _ => rfl) h (fun r h => t_impl_hasNot h) (fun r5 h => ?_)
    conv => whnf
    refine Br.ob h (fun p6 h => ?_) (fun p6 h => ?_)
    · conv => whnf
      refine Cells.lit rfl rfl ?_
      conv => whnf
      refine Br.yes ?_
      conv => whnf
      refine Br.yes ?_
      conv => whnf
      refine Kid.lit rfl rfl ?_
      conv => whnf
      refine CallQ.rd V.bool (by first | rfl | simp only [V.fz, V.up, fzL_map, fz_at, slr] | simp [mulN_one, V.fz, fzL, V.up, upL, fzL_map, fz_slr, fz_at, slr]) (fun _ => rfl) h (fun r h => t_impl_order_none (f_so0 := f_impl_FirstExtension_1) (c_so0 := [(rP false (slr false 1 (slr false 1 V.bool))) (r1.fst), (rP false vint) (x24), (rP false (slr false 1 vint)) (x6)]) (fun w_0 v h => Ret.cast (by first | rfl | simp only [mulN_one, V.fz, fzL, V.up, upL, fzL_map, fz_slr, fz_at, slr, List.cons_append, List.nil_append] | simp [mulN_one, V.fz, fzL, V.up, upL, fzL_map, fz_slr, fz_at, slr]) (t_impl_FirstExtension_1 h)) h) (fun r7 h => ?_)
      conv => whnf
      refine Br.yes ?_
      conv => whnf
      refine Br.ob h (fun p8 h => ?_) (fun p8 h => ?_)
      · conv => whnf
        refine Cells.lit rfl rfl ?_
        conv => whnf
        refine Cells.lit rfl rfl ?_
        conv => whnf
        refine BslQ.o vint [x24] (fun _ => ⟨rfl, rfl⟩) (by first | rfl | simp only [mulN_one, V.fz, fzL, V.up, upL, fzL_map, fz_slr, fz_at, slr, List.cons_append, List.nil_append] | simp [mulN_one, V.fz, fzL, V.up, upL, fzL_map, fz_slr, fz_at, slr]) ?_
        conv => whnf
        refine NoOwn.o (fun _ => rfl) ?_
        conv => whnf
        refine AppQ.o vint (fun _ => ⟨rfl, rfl⟩) (x6) ([x24]) (by first | rfl | simp only [mulN_one, V.fz, fzL, V.up, upL, fzL_map, fz_slr, fz_at, slr, List.cons_append, List.nil_append] | simp [mulN_one, V.fz, fzL, V.up, upL, fzL_map, fz_slr, fz_at, slr]) (by first | rfl | simp only [mulN_one, V.fz, fzL, V.up, upL, fzL_map, fz_slr, fz_at, slr, List.cons_append, List.nil_append] | simp [mulN_one, V.fz, fzL, V.up, upL, fzL_map, fz_slr, fz_at, slr]) h fun h => ?_
        conv => whnf
        refine SetKids.lit rfl ?_
        conv => whnf
        cases h; exact ⟨rfl, rfl⟩
      · conv => whnf
        refine Ask.o h fun p9 h => ?_
        conv => whnf
        cases h; exact ⟨rfl, rfl⟩
    · conv => whnf
      refine Br.no ?_
      conv => whnf
      refine Br.no ?_
      conv => whnf
      refine Br.no ?_
      conv => whnf
      refine Br.no ?_
      conv => whnf
      refine Ask.o h fun p10 h => ?_
      conv => whnf
      cases h; exact ⟨rfl, rfl⟩
  · conv => whnf
    cases h; exact ⟨rfl, rfl⟩

noncomputable def F_impl_FirstExtension_l2 (r1 : List (List Bool) × Bool) : (List Int) → Option ((List Int) ⊕ (List Int)) := fun x6 =>
   if (↑x6.length : Int) < (↑r1.fst.length : Int) then
    (loopO (F_impl_FirstExtension_l1 r1 x6) (0 : Int)).bind fun q11_6 =>
    some (.inl q11_6)
   else
    some (.inr x6)
def S_impl_FirstExtension_l2 (r1 : List (List Bool) × Bool) : (List Int) → St := fun s => [(6, A.val ((rP true (slr true 1 vint)) s)), (4, A.val ((rP true (slr true 1 (slr true 1 V.bool))) (r1.fst)))]
def T_impl_FirstExtension_l2 (_r1 : List (List Bool) × Bool) : (List Int) → Tgt
  | s => ((Ex.exit 0), [6], [(6, A.val ((rP true (slr true 1 vint)) s))])
theorem b_impl_FirstExtension_l2 {r1 : List (List Bool) × Bool} (x6 : (List Int)) (o : (List Int) ⊕ (List Int)) (h : F_impl_FirstExtension_l2 r1 x6 = some o) : vc Try.prog c_impl_FirstExtension_l2 (outQ [6, 4] (S_impl_FirstExtension_l2 r1) (T_impl_FirstExtension_l2 r1) o) (S_impl_FirstExtension_l2 r1 x6) := by
  unfold F_impl_FirstExtension_l2 at h
  try dsimp only at h
  conv => whnf
  refine Cells.lit rfl rfl ?_
  conv => whnf
  refine Kid.lit rfl rfl ?_
  conv => whnf
  refine Len.map ?_
  conv => whnf
  refine Cells.lit rfl rfl ?_
  conv => whnf
  refine Kid.lit rfl rfl ?_
  conv => whnf
  refine Len.map ?_
  conv => whnf
  refine Br.od h (fun p3 h => ?_) (fun p3 h => ?_)
  · conv => whnf
    refine Cells.lit rfl rfl ?_
    conv => whnf
    refine Kid.lit rfl rfl ?_
    conv => whnf
    refine Len.map ?_
    conv => whnf
    refine LoopQ.o [24, 23, 6, 4] (S_impl_FirstExtension_l1 r1 x6) (T_impl_FirstExtension_l1 r1 x6) h (fun s o h => b_impl_FirstExtension_l1 s o h) (by first | rfl | simp [restrict, look, mulN_one, V.fz, fzL, V.up, upL, fzL_map, fz_slr, fz_at, slr]) (fun _ => rfl) ?_
    rintro q11_6 h
    try dsimp only at h
    conv => whnf
    cases h; exact ⟨rfl, rfl⟩
  · conv => whnf
    cases h; exact ⟨rfl, rfl⟩

noncomputable def F_impl_FirstExtension (p0 : SPoset) : Option ((List Int) × Bool) :=
  (F_impl_orderOf (p0)).bind fun r1 =>
  if (r1.snd) = true then
   (loopO (F_impl_FirstExtension_l2 r1) (nilL Int)).bind fun q12_6 =>
   some (q12_6, true)
  else
   some (nilL Int, false)
theorem t_impl_FirstExtension {p0 : SPoset} {v : ((List Int) × Bool)} (h : F_impl_FirstExtension p0 = some v) : Ret Try.prog f_impl_FirstExtension [(rS_Poset false) p0] ((fun r => V.tup [(slr true 1 vint) r.1, V.bool r.2]) v) := by
  refine ret_vc k_impl_FirstExtension (Nat.le_of_ble_eq_true rfl) ?_
  unfold F_impl_FirstExtension at h
  conv => whnf
  refine Cells.lit rfl rfl ?_
  conv => whnf
  refine CallQ.o (fun r => V.tup [(slr true 1 (slr true 1 V.bool)) r.1, V.bool r.2]) (by first | rfl | simp only [mulN_one, V.fz, fzL, V.up, upL, fzL_map, fz_slr, fz_at, slr, List.cons_append, List.nil_append] | simp [mulN_one, V.fz, fzL, V.up, upL, fzL_map, fz_slr, fz_at, slr]) h (fun r h => t_impl_orderOf h) (fun r1 h => ?_)
  conv => whnf
  refine SetKids.lit rfl ?_
  conv => whnf
  refine Br.flip ?_
  conv => whnf
  refine Br.ob h (fun p2 h => ?_) (fun p2 h => ?_)
  · conv => whnf
    refine BslQ.o vint (nilL Int) (fun _ => ⟨rfl, rfl⟩) (by first | rfl | simp only [mulN_one, V.fz, fzL, V.up, upL, fzL_map, fz_slr, fz_at, slr, List.cons_append, List.nil_append] | simp [mulN_one, V.fz, fzL, V.up, upL, fzL_map, fz_slr, fz_at, slr]) ?_
    conv => whnf
    refine SetKids.lit rfl ?_
    conv => whnf
    refine LoopQ.o [6, 4] (S_impl_FirstExtension_l2 r1) (T_impl_FirstExtension_l2 r1) h (fun s o h => b_impl_FirstExtension_l2 s o h) (by first | rfl | simp [restrict, look, mulN_one, V.fz, fzL, V.up, upL, fzL_map, fz_slr, fz_at, slr]) (fun _ => rfl) ?_
    rintro q12_6 h
    try dsimp only at h
    conv => whnf
    refine Cells.lit rfl rfl ?_
    conv => whnf
    cases h; exact (by first | rfl | simp [resV, mulN_one, V.fz, fzL, V.up, upL, fzL_map, fz_slr, fz_at, slr])
  · conv => whnf
    refine BslQ.o vint (nilL Int) (fun _ => ⟨rfl, rfl⟩) (by first | rfl | simp only [mulN_one, V.fz, fzL, V.up, upL, fzL_map, fz_slr, fz_at, slr, List.cons_append, List.nil_append] | simp [mulN_one, V.fz, fzL, V.up, upL, fzL_map, fz_slr, fz_at, slr]) ?_
    conv => whnf
    cases h; exact (by first | rfl | simp [resV, mulN_one, V.fz, fzL, V.up, upL, fzL_map, fz_slr, fz_at, slr])

noncomputable def F_impl_DownsetOf (p0 : SPoset) (some0 : (List Int)) : Option ((List Int) × Bool) :=
  (F_impl_orderOf (p0)).bind fun r1 =>
  if (r1.snd) = true then
   if (↑some0.length : Int) > (20 : Int) then
    some (nilL Int, false)
   else
    (F_impl_order_has (r1.fst) (some0)).bind fun r4 =>
    if (r4) = true then
     (F_impl_order_those (r1.fst) (fun w_0 => F_impl_DownsetOf_1 w_0 (some0) (r1.fst))).bind fun r6 =>
     some (r6, true)
    else
     some (nilL Int, false)
  else
   some (nilL Int, false)
theorem t_impl_DownsetOf {p0 : SPoset} {some0 : (List Int)} {v : ((List Int) × Bool)} (h : F_impl_DownsetOf p0 some0 = some v) : Ret Try.prog f_impl_DownsetOf [(rS_Poset false) p0, (slr false 1 vint) some0] ((fun r => V.tup [(slr true 1 vint) r.1, V.bool r.2]) v) := by
  refine ret_vc k_impl_DownsetOf (Nat.le_of_ble_eq_true rfl) ?_
  unfold F_impl_DownsetOf at h
  conv => whnf
  refine Cells.lit rfl rfl ?_
  conv => whnf
  refine CallQ.o (fun r => V.tup [(slr true 1 (slr true 1 V.bool)) r.1, V.bool r.2]) (by first | rfl | simp only [mulN_one, V.fz, fzL, V.up, upL, fzL_map, fz_slr, fz_at, slr, List.cons_append, List.nil_append] | simp [mulN_one, V.fz, fzL, V.up, upL, fzL_map, fz_slr, fz_at, slr]) h (fun r h => t_impl_orderOf h) (fun r1 h => ?_)
  conv => whnf
  refine SetKids.lit rfl ?_
  conv => whnf
  refine Br.flip ?_
  conv => whnf
  refine Br.ob h (fun p2 h => ?_) (fun p2 h => ?_)
  · conv => whnf
    refine Cells.lit rfl rfl ?_
    conv => whnf
    refine Br.no ?_
    conv => whnf
    refine Len.map ?_
    conv => whnf
    refine Br.no ?_
    conv => whnf
    refine Br.no ?_
    conv => whnf
    refine Br.od h (fun p3 h => ?_) (fun p3 h => ?_)
    · conv => whnf
      refine Br.yes ?_
      conv => whnf
      refine Br.yes ?_
      conv => whnf
      refine Br.yes ?_
      conv => whnf
      refine Br.yes ?_
      conv => whnf
      refine Br.yes ?_
      conv => whnf
      refine BslQ.o vint (nilL Int) (fun _ => ⟨rfl, rfl⟩) (by first | rfl | simp only [mulN_one, V.fz, fzL, V.up, upL, fzL_map, fz_slr, fz_at, slr, List.cons_append, List.nil_append] | simp [mulN_one, V.fz, fzL, V.up, upL, fzL_map, fz_slr, fz_at, slr]) ?_
      conv => whnf
      cases h; exact (by first | rfl | simp [resV, mulN_one, V.fz, fzL, V.up, upL, fzL_map, fz_slr, fz_at, slr])
    · conv => whnf
      refine Cells.lit rfl rfl ?_
      conv => whnf
      refine Br.no ?_
      conv => whnf
      refine Cells.lit rfl rfl ?_
      conv => whnf
      refine Br.no ?_
      conv => whnf
      refine Kid.lit rfl rfl ?_
      conv => whnf
      refine CallQ.rd V.bool (by first | rfl | simp only [V.fz, V.up, fzL_map, slr] | simp [mulN_one, V.fz, fzL, V.up, upL, fzL_map, fz_slr, fz_at, slr]) (fun _ => rfl) h (fun r h => t_impl_order_has h) (fun r4 h => ?_)
      conv => whnf
      refine Br.no ?_
      conv => whnf
      refine Br.no ?_
      conv => whnf
      refine Br.flip ?_
      conv => whnf
      refine Br.ob h (fun p5 h => ?_) (fun p5 h => ?_)
      · conv => whnf
        refine Cells.lit rfl rfl ?_
        conv => whnf
        refine Kid.lit rfl rfl ?_
        conv => whnf
        refine CallQ.rd (slr true 1 vint) (by first | rfl | simp only [V.fz, V.up, fzL_map, slr] | simp [mulN_one, V.fz, fzL, V.up, upL, fzL_map, fz_slr, fz_at, slr]) (fun _ => by simp [V.noFz, noFzL_map]) h (fun r h => t_impl_order_those (f_so0 := f_impl_DownsetOf_1) (c_so0 := [(rP false (slr false 1 vint)) (some0), (rP false (slr false 1 (slr false 1 V.bool))) (r1.fst)]) (fun w_0 v h => Ret.cast (by first | rfl | simp only [mulN_one, V.fz, fzL, V.up, upL, fzL_map, fz_slr, fz_at, slr, List.cons_append, List.nil_append] | simp [mulN_one, V.fz, fzL, V.up, upL, fzL_map, fz_slr, fz_at, slr]) (t_impl_DownsetOf_1 h)) h) (fun r6 h => ?_)
        conv => whnf
        cases h; exact (by first | rfl | simp [resV, mulN_one, V.fz, fzL, V.up, upL, fzL_map, fz_slr, fz_at, slr])
      · conv => whnf
        refine BslQ.o vint (nilL Int) (fun _ => ⟨rfl, rfl⟩) (by first | rfl | simp only [mulN_one, V.fz, fzL, V.up, upL, fzL_map, fz_slr, fz_at, slr, List.cons_append, List.nil_append] | simp [mulN_one, V.fz, fzL, V.up, upL, fzL_map, fz_slr, fz_at, slr]) ?_
        conv => whnf
        cases h; exact (by first | rfl | simp [resV, mulN_one, V.fz, fzL, V.up, upL, fzL_map, fz_slr, fz_at, slr])
  · conv => whnf
    refine Br.yes ?_
    conv => whnf
    refine Br.yes ?_
    conv => whnf
    refine Br.yes ?_
    conv => whnf
    refine Br.yes ?_
    conv => whnf
    refine Br.yes ?_
    conv => whnf
    refine Br.yes ?_
    conv => whnf
    refine Br.yes ?_
    conv => whnf
    refine Br.yes ?_
    conv => whnf
    refine Br.yes ?_
    conv => whnf
    refine BslQ.o vint (nilL Int) (fun _ => ⟨rfl, rfl⟩) (by first | rfl | simp only [mulN_one, V.fz, fzL, V.up, upL, fzL_map, fz_slr, fz_at, slr, List.cons_append, List.nil_append] | simp [mulN_one, V.fz, fzL, V.up, upL, fzL_map, fz_slr, fz_at, slr]) ?_
    conv => whnf
    cases h; exact (by first | rfl | simp [resV, mulN_one, V.fz, fzL, V.up, upL, fzL_map, fz_slr, fz_at, slr])

noncomputable def F_impl_DualPoset (p0 : SPoset) : Option (SPoset × Bool) :=
  (F_impl_orderOf (p0)).bind fun r1 =>
  if (r1.snd) = true then
   (F_impl_order_dual (r1.fst)).bind fun r3 =>
   (F_impl_order_poset (r3)).bind fun r4 =>
   some (r4, true)
  else
   some ({ Below := nilL (List Int) }, false)
theorem t_impl_DualPoset {p0 : SPoset} {v : (SPoset × Bool)} (h : F_impl_DualPoset p0 = some v) : Ret Try.prog f_impl_DualPoset [(rS_Poset false) p0] ((fun r => V.tup [(rS_Poset true) r.1, V.bool r.2]) v) := by
  refine ret_vc k_impl_DualPoset (Nat.le_of_ble_eq_true rfl) ?_
  unfold F_impl_DualPoset at h
  conv => whnf
  refine Cells.lit rfl rfl ?_
  conv => whnf
  refine CallQ.o (fun r => V.tup [(slr true 1 (slr true 1 V.bool)) r.1, V.bool r.2]) (by first | rfl | simp only [mulN_one, V.fz, fzL, V.up, upL, fzL_map, fz_slr, fz_at, slr, List.cons_append, List.nil_append] | simp [mulN_one, V.fz, fzL, V.up, upL, fzL_map, fz_slr, fz_at, slr]) h (fun r h => t_impl_orderOf h) (fun r1 h => ?_)
  conv => whnf
  refine Br.flip ?_
  conv => whnf
  refine Br.ob h (fun p2 h => ?_) (fun p2 h => ?_)
  · conv => whnf
    refine CallQ.rd (slr true 1 (slr true 1 V.bool)) (by first | rfl | simp only [V.fz, fzL_map, slr] | simp [mulN_one, V.fz, fzL, V.up, upL, fzL_map, fz_slr, fz_at, slr]) (fun _ => by simp [V.noFz, noFzL_map]) h (fun r h => t_impl_order_dual h) (fun r3 h => ?_)
    conv => whnf
    refine CallQ.rd (rS_Poset true) (by first | rfl | simp only [V.fz, fzL_map, slr] | simp [mulN_one, V.fz, fzL, V.up, upL, fzL_map, fz_slr, fz_at, slr]) (fun _ => by simp [V.noFz, noFzL, noFzL_map]) h (fun r h => t_impl_order_poset h) (fun r4 h => ?_)
    conv => whnf
    refine SetKids.lit rfl ?_
    conv => whnf
    cases h; exact (by first | rfl | simp [resV, mulN_one, V.fz, fzL, V.up, upL, fzL_map, fz_slr, fz_at, slr])
  · conv => whnf
    refine SetKids.lit rfl ?_
    conv => whnf
    cases h; exact (by first | rfl | simp [resV, mulN_one, V.fz, fzL, V.up, upL, fzL_map, fz_slr, fz_at, slr])

noncomputable def F_laws_heldPoset (a0 : SPoset) (k0 : Int) : Option Int :=
  (F_laws_heldIntSS (a0.Below) (k0)).bind fun r1 =>
  if r1 < (0 : Int) then
   some (-1 : Int)
  else
   some r1
theorem t_laws_heldPoset {a0 : SPoset} {k0 : Int} {v : Int} (h : F_laws_heldPoset a0 k0 = some v) : Ret Try.prog f_laws_heldPoset [(rS_Poset false) a0, vint k0] (vint v) := by
  refine ret_vc k_laws_heldPoset (Nat.le_of_ble_eq_true rfl) ?_
  unfold F_laws_heldPoset at h
  conv => whnf
  refine Cells.lit rfl rfl ?_
  conv => whnf
  refine CallQ.o vint (by first | rfl | simp only [mulN_one, V.fz, fzL, V.up, upL, fzL_map, fz_slr, fz_at, slr, List.cons_append, List.nil_append] | simp [mulN_one, V.fz, fzL, V.up, upL, fzL_map, fz_slr, fz_at, slr]) h (fun r h => t_laws_heldIntSS h) (fun r1 h => ?_)
  conv => whnf
  refine Br.od h (fun p2 h => ?_) (fun p2 h => ?_)
  · conv => whnf
    cases h; exact (by first | rfl | simp [resV, mulN_one, V.fz, fzL, V.up, upL, fzL_map, fz_slr, fz_at, slr])
  · conv => whnf
    cases h; exact (by first | rfl | simp [resV, mulN_one, V.fz, fzL, V.up, upL, fzL_map, fz_slr, fz_at, slr])

end Go.Proofs.Ythcnmahjhahafaa.Ax
