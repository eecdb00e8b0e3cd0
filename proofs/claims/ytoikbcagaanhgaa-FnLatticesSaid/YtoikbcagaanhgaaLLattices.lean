/-
  What the functions compute, as functions on plain data, and that the program does compute it; written by program.
-/
import Derived.Test.YtoikbcagaanhgaaCode
import Derived.Test.YtoikbcagaanhgaaG1
import Derived.Test.YtoikbcagaanhgaaG5
import Derived.Test.YtoikbcagaanhgaaG7
import Derived.Test.YtoikbcagaanhgaaG9
import Derived.Test.YtoikbcagaanhgaaG10
import Derived.Test.YtoikbcagaanhgaaG11
import Derived.Test.YtoikbcagaanhgaaG13
namespace Go.Proofs.Ytoikbcagaanhgaa.Ax
open Go
set_option maxRecDepth 100000
set_option maxHeartbeats 4000000

noncomputable def F_laws_FnLattices_l1 (r3 : SPoset) (r21 : List Int × Bool) (_r28 : List Int × Bool) (_r35 : SPoset × Bool) (x20 : Int) : (Int × (List Int)) → Option ((Int × (List Int)) ⊕ (Unit ⊕ (List Int))) := fun (x23, x21) =>
 if x23 < (↑r21.fst.length : Int) then
 ask ((0 : Int) ≤ x23 ∧ x23 < (↑r21.fst.length : Int)) <|
 (F_impl_IsAtMost (r3) (nth r21.fst x23.toNat) (x20)).bind fun r43 =>
 if (r43.snd) = true then
 if (r43.fst) = true then
 ask ((0 : Int) ≤ x23 ∧ x23 < (↑r21.fst.length : Int)) <|
 ask ((x21).length + ([nth r21.fst x23.toNat]).length ≤ LIM) <|
 ask (InI (x23 + (1 : Int))) <|
 some (.inl (x23 + (1 : Int), x21 ++ [nth r21.fst x23.toNat]))
 else
 ask (InI (x23 + (1 : Int))) <|
 some (.inl (x23 + (1 : Int), x21))
 else
 some (.inr (.inl ()))
 else
 some (.inr (.inr x21))
def S_laws_FnLattices_l1 (r3 : SPoset) (r21 : List Int × Bool) (r28 : List Int × Bool) (r35 : SPoset × Bool) (x20 : Int) : (Int × (List Int)) → St := fun s => [(23, A.val (vint s.1)), (22, A.val ((slr true 1 vint) (nilL Int))), (21, A.val ((slr true 1 vint) s.2)), (20, A.val (vint (x20))), (18, A.val ((rP true (rS_Poset true)) (r35.fst))), (14, A.val ((slr true 1 vint) (r28.fst))), (10, A.val ((slr true 1 vint) (r21.fst))), (3, A.val ((rP true (rS_Poset false)) (r3)))]
def T_laws_FnLattices_l1 (r3 : SPoset) (r21 : List Int × Bool) (r28 : List Int × Bool) (r35 : SPoset × Bool) (x20 : Int) : (Unit ⊕ (List Int)) → Tgt
 | (.inl _s) => (Ex.ret, [2], [(2, A.val (V.bool (false)))])
 | (.inr s) => ((Ex.exit 2), [22, 21, 20, 18, 14, 10, 3], [(22, A.val ((slr true 1 vint) (nilL Int))), (21, A.val ((slr true 1 vint) s)), (20, A.val (vint (x20))), (18, A.val ((rP true (rS_Poset true)) (r35.fst))), (14, A.val ((slr true 1 vint) (r28.fst))), (10, A.val ((slr true 1 vint) (r21.fst))), (3, A.val ((rP true (rS_Poset false)) (r3)))])
theorem b_laws_FnLattices_l1 {r3 : SPoset} {r21 : List Int × Bool} {r28 : List Int × Bool} {r35 : SPoset × Bool} {x20 : Int} (s : (Int × (List Int))) (o : (Int × (List Int)) ⊕ (Unit ⊕ (List Int))) (h : F_laws_FnLattices_l1 r3 r21 r28 r35 x20 s = some o) : vc Try.prog c_laws_FnLattices_l1 (outQ [23, 22, 21, 20, 18, 14, 10, 3] (S_laws_FnLattices_l1 r3 r21 r28 r35 x20) (T_laws_FnLattices_l1 r3 r21 r28 r35 x20) o) (S_laws_FnLattices_l1 r3 r21 r28 r35 x20 s) := by
  obtain ⟨x23, x21⟩ := s
  unfold F_laws_FnLattices_l1 at h
  try dsimp only at h
  refine Len.map ?_
  refine Br.od h (fun p41 h => ?_) (fun p41 h => ?_)
  · refine Cells.lit rfl rfl ?_
    refine Len.map ?_
    refine Ask.o h fun p42 h => ?_
    refine Cells.one (fun _ => ⟨rfl, rfl⟩) (by first | omega | (simp [mulN] at *; omega)) ?_
    refine CallP.o (fun r => V.tup [V.bool r.1, V.bool r.2]) (by rfl) h (fun r h => t_impl_IsAtMost h) (fun r43 h => ?_)
    refine Br.flip ?_
    refine Br.ob h (fun p44 h => ?_) (fun p44 h => ?_)
    · refine Br.ob h (fun p45 h => ?_) (fun p45 h => ?_)
      · refine Len.map ?_
        refine Ask.o h fun p46 h => ?_
        refine Cells.one (fun _ => ⟨rfl, rfl⟩) (by first | omega | (simp [mulN] at *; omega)) ?_
        refine BslQ.o vint ([nth r21.fst x23.toNat]) (by exact fun _ => ⟨rfl, rfl⟩) (by rfl) ?_
        refine NoOwn.o (fun _ => rfl) ?_
        refine AppQ.o (m := 1) vint (by exact fun _ => ⟨rfl, rfl⟩) (x21) ([nth r21.fst x23.toNat]) (by rfl) (by rfl) h fun h => ?_
        refine Ask.o h fun p47 h => ?_
        cases h; exact ⟨rfl, rfl⟩
      refine Ask.o h fun p48 h => ?_
      cases h; exact ⟨rfl, rfl⟩
    cases h; exact ⟨rfl, rfl⟩
  cases h; exact ⟨rfl, rfl⟩

noncomputable def F_laws_FnLattices_l2 (r3 : SPoset) (_r21 : List Int × Bool) (r28 : List Int × Bool) (_r35 : SPoset × Bool) (x20 : Int) (_q49_21 : List Int) : (Int × (List Int)) → Option ((Int × (List Int)) ⊕ (Unit ⊕ (List Int))) := fun (x26, x22) =>
 if x26 < (↑r28.fst.length : Int) then
 ask ((0 : Int) ≤ x26 ∧ x26 < (↑r28.fst.length : Int)) <|
 (F_impl_IsAtMost (r3) (x20) (nth r28.fst x26.toNat)).bind fun r52 =>
 if (r52.snd) = true then
 if (r52.fst) = true then
 ask ((0 : Int) ≤ x26 ∧ x26 < (↑r28.fst.length : Int)) <|
 ask ((x22).length + ([nth r28.fst x26.toNat]).length ≤ LIM) <|
 ask (InI (x26 + (1 : Int))) <|
 some (.inl (x26 + (1 : Int), x22 ++ [nth r28.fst x26.toNat]))
 else
 ask (InI (x26 + (1 : Int))) <|
 some (.inl (x26 + (1 : Int), x22))
 else
 some (.inr (.inl ()))
 else
 some (.inr (.inr x22))
def S_laws_FnLattices_l2 (r3 : SPoset) (r21 : List Int × Bool) (r28 : List Int × Bool) (r35 : SPoset × Bool) (x20 : Int) (q49_21 : List Int) : (Int × (List Int)) → St := fun s => [(26, A.val (vint s.1)), (22, A.val ((slr true 1 vint) s.2)), (21, A.val ((slr true 1 vint) (q49_21))), (20, A.val (vint (x20))), (18, A.val ((rP true (rS_Poset true)) (r35.fst))), (14, A.val ((slr true 1 vint) (r28.fst))), (10, A.val ((slr true 1 vint) (r21.fst))), (3, A.val ((rP true (rS_Poset false)) (r3)))]
def T_laws_FnLattices_l2 (r3 : SPoset) (r21 : List Int × Bool) (r28 : List Int × Bool) (r35 : SPoset × Bool) (x20 : Int) (q49_21 : List Int) : (Unit ⊕ (List Int)) → Tgt
 | (.inl _s) => (Ex.ret, [2], [(2, A.val (V.bool (false)))])
 | (.inr s) => ((Ex.exit 4), [22, 21, 20, 18, 14, 10, 3], [(22, A.val ((slr true 1 vint) s)), (21, A.val ((slr true 1 vint) (q49_21))), (20, A.val (vint (x20))), (18, A.val ((rP true (rS_Poset true)) (r35.fst))), (14, A.val ((slr true 1 vint) (r28.fst))), (10, A.val ((slr true 1 vint) (r21.fst))), (3, A.val ((rP true (rS_Poset false)) (r3)))])
theorem b_laws_FnLattices_l2 {r3 : SPoset} {r21 : List Int × Bool} {r28 : List Int × Bool} {r35 : SPoset × Bool} {x20 : Int} {q49_21 : List Int} (s : (Int × (List Int))) (o : (Int × (List Int)) ⊕ (Unit ⊕ (List Int))) (h : F_laws_FnLattices_l2 r3 r21 r28 r35 x20 q49_21 s = some o) : vc Try.prog c_laws_FnLattices_l2 (outQ [26, 22, 21, 20, 18, 14, 10, 3] (S_laws_FnLattices_l2 r3 r21 r28 r35 x20 q49_21) (T_laws_FnLattices_l2 r3 r21 r28 r35 x20 q49_21) o) (S_laws_FnLattices_l2 r3 r21 r28 r35 x20 q49_21 s) := by
  obtain ⟨x26, x22⟩ := s
  unfold F_laws_FnLattices_l2 at h
  try dsimp only at h
  refine Len.map ?_
  refine Br.od h (fun p50 h => ?_) (fun p50 h => ?_)
  · refine Cells.lit rfl rfl ?_
    refine Len.map ?_
    refine Ask.o h fun p51 h => ?_
    refine Cells.one (fun _ => ⟨rfl, rfl⟩) (by first | omega | (simp [mulN] at *; omega)) ?_
    refine CallP.o (fun r => V.tup [V.bool r.1, V.bool r.2]) (by rfl) h (fun r h => t_impl_IsAtMost h) (fun r52 h => ?_)
    refine Br.flip ?_
    refine Br.ob h (fun p53 h => ?_) (fun p53 h => ?_)
    · refine Br.ob h (fun p54 h => ?_) (fun p54 h => ?_)
      · refine Len.map ?_
        refine Ask.o h fun p55 h => ?_
        refine Cells.one (fun _ => ⟨rfl, rfl⟩) (by first | omega | (simp [mulN] at *; omega)) ?_
        refine BslQ.o vint ([nth r28.fst x26.toNat]) (by exact fun _ => ⟨rfl, rfl⟩) (by rfl) ?_
        refine NoOwn.o (fun _ => rfl) ?_
        refine AppQ.o (m := 1) vint (by exact fun _ => ⟨rfl, rfl⟩) (x22) ([nth r28.fst x26.toNat]) (by rfl) (by rfl) h fun h => ?_
        refine Ask.o h fun p56 h => ?_
        cases h; exact ⟨rfl, rfl⟩
      refine Ask.o h fun p57 h => ?_
      cases h; exact ⟨rfl, rfl⟩
    cases h; exact ⟨rfl, rfl⟩
  cases h; exact ⟨rfl, rfl⟩

noncomputable def F_laws_FnLattices_l3 (r3 : SPoset) (_r21 : List Int × Bool) (_r28 : List Int × Bool) (r35 : SPoset × Bool) (x20 : Int) : Int → Option (Int ⊕ (Unit ⊕ Unit)) := fun x33 =>
 if x33 < (↑r3.Below.length : Int) then
 (F_impl_JoinOf (r3) (x20) (x33)).bind fun r67 =>
 (F_impl_MeetOf (r35.fst) (x20) (x33)).bind fun r68 =>
 (F_impl_MeetOf (r3) (x20) (r67.fst)).bind fun r69 =>
 if (r67.snd) = true then
 if (r68.snd) = true then
 if (r69.snd) = true then
 if r67.fst ≠ r68.fst then
 some (.inr (.inl ()))
 else
 if r69.fst ≠ x20 then
 some (.inr (.inl ()))
 else
 ask (InI (x33 + (1 : Int))) <|
 some (.inl (x33 + (1 : Int)))
 else
 some (.inr (.inl ()))
 else
 some (.inr (.inl ()))
 else
 some (.inr (.inl ()))
 else
 some (.inr (.inr ()))
def S_laws_FnLattices_l3 (r3 : SPoset) (r21 : List Int × Bool) (r28 : List Int × Bool) (r35 : SPoset × Bool) (x20 : Int) : Int → St := fun s => [(33, A.val (vint s)), (20, A.val (vint (x20))), (18, A.val ((rP true (rS_Poset true)) (r35.fst))), (14, A.val ((slr true 1 vint) (r28.fst))), (10, A.val ((slr true 1 vint) (r21.fst))), (3, A.val ((rP true (rS_Poset false)) (r3)))]
def T_laws_FnLattices_l3 (r3 : SPoset) (r21 : List Int × Bool) (r28 : List Int × Bool) (r35 : SPoset × Bool) (x20 : Int) : (Unit ⊕ Unit) → Tgt
 | (.inl _s) => (Ex.ret, [2], [(2, A.val (V.bool (false)))])
 | (.inr _s) => ((Ex.exit 6), [20, 18, 14, 10, 3], [(20, A.val (vint (x20))), (18, A.val ((rP true (rS_Poset true)) (r35.fst))), (14, A.val ((slr true 1 vint) (r28.fst))), (10, A.val ((slr true 1 vint) (r21.fst))), (3, A.val ((rP true (rS_Poset false)) (r3)))])
theorem b_laws_FnLattices_l3 {r3 : SPoset} {r21 : List Int × Bool} {r28 : List Int × Bool} {r35 : SPoset × Bool} {x20 : Int} (x33 : Int) (o : Int ⊕ (Unit ⊕ Unit)) (h : F_laws_FnLattices_l3 r3 r21 r28 r35 x20 x33 = some o) : vc Try.prog c_laws_FnLattices_l3 (outQ [33, 20, 18, 14, 10, 3] (S_laws_FnLattices_l3 r3 r21 r28 r35 x20) (T_laws_FnLattices_l3 r3 r21 r28 r35 x20) o) (S_laws_FnLattices_l3 r3 r21 r28 r35 x20 x33) := by
  unfold F_laws_FnLattices_l3 at h
  try dsimp only at h
  refine Cells.lit rfl rfl ?_
  refine Len.map ?_
  refine Br.od h (fun p66 h => ?_) (fun p66 h => ?_)
  · refine Cells.lit rfl rfl ?_
    refine CallQ.o (fun r => V.tup [vint r.1, V.bool r.2]) (by rfl) h (fun r h => t_impl_JoinOf h) (fun r67 h => ?_)
    refine Cells.lit rfl rfl ?_
    refine CallQ.rd (fun r => V.tup [vint r.1, V.bool r.2]) (by first | rfl | simp only [V.fz, V.up, fzL_map, fz_at] | simp [mulN_one, V.fz, fzL, V.up, upL, fzL_map, fz_slr, fz_at, slr]) (fun _ => by simp [V.noFz, noFzL]) h (fun r h => t_impl_MeetOf h) (fun r68 h => ?_)
    refine Cells.lit rfl rfl ?_
    refine CallQ.o (fun r => V.tup [vint r.1, V.bool r.2]) (by rfl) h (fun r h => t_impl_MeetOf h) (fun r69 h => ?_)
    refine Br.flip ?_
    refine Br.ob h (fun p70 h => ?_) (fun p70 h => ?_)
    · refine Br.no ?_
      refine Br.no ?_
      refine Br.flip ?_
      refine Br.ob h (fun p71 h => ?_) (fun p71 h => ?_)
      · refine Br.no ?_
        refine Br.no ?_
        refine Br.flip ?_
        refine Br.ob h (fun p72 h => ?_) (fun p72 h => ?_)
        · refine Br.no ?_
          refine Br.no ?_
          refine Br.no ?_
          refine Br.on h (fun p73 h => ?_) (fun p73 h => ?_)
          · refine Br.yes ?_
            refine Br.yes ?_
            refine Br.yes ?_
            refine Br.yes ?_
            cases h; exact ⟨rfl, rfl⟩
          refine Br.no ?_
          refine Br.no ?_
          refine Br.no ?_
          refine Br.on h (fun p74 h => ?_) (fun p74 h => ?_)
          · cases h; exact ⟨rfl, rfl⟩
          refine Ask.o h fun p75 h => ?_
          cases h; exact ⟨rfl, rfl⟩
        refine Br.yes ?_
        refine Br.yes ?_
        refine Br.yes ?_
        refine Br.yes ?_
        refine Br.yes ?_
        refine Br.yes ?_
        refine Br.yes ?_
        refine Br.yes ?_
        cases h; exact ⟨rfl, rfl⟩
      refine Br.yes ?_
      refine Br.yes ?_
      refine Br.yes ?_
      refine Br.yes ?_
      refine Br.yes ?_
      refine Br.yes ?_
      refine Br.yes ?_
      refine Br.yes ?_
      refine Br.yes ?_
      refine Br.yes ?_
      refine Br.yes ?_
      cases h; exact ⟨rfl, rfl⟩
    refine Br.yes ?_
    refine Br.yes ?_
    refine Br.yes ?_
    refine Br.yes ?_
    refine Br.yes ?_
    refine Br.yes ?_
    refine Br.yes ?_
    refine Br.yes ?_
    refine Br.yes ?_
    refine Br.yes ?_
    refine Br.yes ?_
    refine Br.yes ?_
    refine Br.yes ?_
    refine Br.yes ?_
    cases h; exact ⟨rfl, rfl⟩
  cases h; exact ⟨rfl, rfl⟩

noncomputable def F_laws_FnLattices_l4 (r3 : SPoset) (r21 : List Int × Bool) (r28 : List Int × Bool) (r35 : SPoset × Bool) : Int → Option (Int ⊕ (Unit ⊕ Unit)) := fun x20 =>
 if x20 < (↑r3.Below.length : Int) then
 (loopO (F_laws_FnLattices_l1 r3 r21 r28 r35 x20) ((0 : Int), nilL Int)).bind fun t => match t with
 | (.inl _) => (some (.inr (.inl ())))
 | (.inr q49_21) => ((loopO (F_laws_FnLattices_l2 r3 r21 r28 r35 x20 q49_21) ((0 : Int), nilL Int)).bind fun t => match t with
 | (.inl _) => (some (.inr (.inl ())))
 | (.inr q58_22) => ((F_impl_JoinAll (r3) (q49_21)).bind fun r59 =>
 (F_impl_MeetAll (r3) (q58_22)).bind fun r60 =>
 ((if (r59.snd) = true then
 if (r60.snd) = true then
 if r59.fst ≠ x20 then
 some (.inl ())
 else
 if r60.fst ≠ x20 then
 some (.inl ())
 else
 some (.inr ())
 else
 some (.inl ())
 else
 some (.inl ()) : Option (Unit ⊕ Unit))).bind fun t => match t with
 | (.inl _) => (some (.inr (.inl ())))
 | (.inr _) => ((loopO (F_laws_FnLattices_l3 r3 r21 r28 r35 x20) (0 : Int)).bind fun t => match t with
 | (.inl _) => (some (.inr (.inl ())))
 | (.inr _) => (ask (InI (x20 + (1 : Int))) <|
 some (.inl (x20 + (1 : Int)))))))
 else
 some (.inr (.inr ()))
def S_laws_FnLattices_l4 (r3 : SPoset) (r21 : List Int × Bool) (r28 : List Int × Bool) (r35 : SPoset × Bool) : Int → St := fun s => [(20, A.val (vint s)), (18, A.val ((rP true (rS_Poset true)) (r35.fst))), (14, A.val ((slr true 1 vint) (r28.fst))), (10, A.val ((slr true 1 vint) (r21.fst))), (3, A.val ((rP true (rS_Poset false)) (r3)))]
def T_laws_FnLattices_l4 (r3 : SPoset) (_r21 : List Int × Bool) (_r28 : List Int × Bool) (_r35 : SPoset × Bool) : (Unit ⊕ Unit) → Tgt
 | (.inl _s) => (Ex.ret, [2], [(2, A.val (V.bool (false)))])
 | (.inr _s) => ((Ex.exit 0), [3], [(3, A.val ((rP true (rS_Poset false)) (r3)))])
theorem b_laws_FnLattices_l4 {r3 : SPoset} {r21 : List Int × Bool} {r28 : List Int × Bool} {r35 : SPoset × Bool} (x20 : Int) (o : Int ⊕ (Unit ⊕ Unit)) (h : F_laws_FnLattices_l4 r3 r21 r28 r35 x20 = some o) : vc Try.prog c_laws_FnLattices_l4 (outQ [20, 18, 14, 10, 3] (S_laws_FnLattices_l4 r3 r21 r28 r35) (T_laws_FnLattices_l4 r3 r21 r28 r35) o) (S_laws_FnLattices_l4 r3 r21 r28 r35 x20) := by
  unfold F_laws_FnLattices_l4 at h
  try dsimp only at h
  refine Cells.lit rfl rfl ?_
  refine Len.map ?_
  refine Br.od h (fun p40 h => ?_) (fun p40 h => ?_)
  · refine BslQ.o vint (nilL Int) (by exact fun _ => ⟨rfl, rfl⟩) (by rfl) ?_
    refine BslQ.o vint (nilL Int) (by exact fun _ => ⟨rfl, rfl⟩) (by rfl) ?_
    refine LoopQ.o [23, 22, 21, 20, 18, 14, 10, 3] (S_laws_FnLattices_l1 r3 r21 r28 r35 x20) (T_laws_FnLattices_l1 r3 r21 r28 r35 x20) h (fun s o h => b_laws_FnLattices_l1 s o h) (by first | rfl | simp [restrict, look, mulN_one, V.fz, fzL, V.up, upL, fzL_map, fz_slr, fz_at, slr]) (by rintro (_ | _) <;> rfl) ?_
    rintro (⟨⟩ | q49_21) h
    · try dsimp only at h
      cases h; exact ⟨rfl, rfl⟩
    try dsimp only at h
    refine LoopQ.o [26, 22, 21, 20, 18, 14, 10, 3] (S_laws_FnLattices_l2 r3 r21 r28 r35 x20 q49_21) (T_laws_FnLattices_l2 r3 r21 r28 r35 x20 q49_21) h (fun s o h => b_laws_FnLattices_l2 s o h) (by first | rfl | simp [restrict, look, mulN_one, V.fz, fzL, V.up, upL, fzL_map, fz_slr, fz_at, slr]) (by rintro (_ | _) <;> rfl) ?_
    rintro (⟨⟩ | q58_22) h
    · try dsimp only at h
      cases h; exact ⟨rfl, rfl⟩
    try dsimp only at h
    refine Cells.lit rfl rfl ?_
    refine CallQ.rd (fun r => V.tup [vint r.1, V.bool r.2]) (by first | rfl | simp only [V.fz, fzL, fzL_map, slr] | simp [mulN_one, V.fz, fzL, V.up, upL, fzL_map, fz_slr, fz_at, slr]) (fun _ => by simp [V.noFz, noFzL]) h (fun r h => t_impl_JoinAll h) (fun r59 h => ?_)
    refine Cells.lit rfl rfl ?_
    refine CallQ.rd (fun r => V.tup [vint r.1, V.bool r.2]) (by first | rfl | simp only [V.fz, fzL, fzL_map, slr] | simp [mulN_one, V.fz, fzL, V.up, upL, fzL_map, fz_slr, fz_at, slr]) (fun _ => by simp [V.noFz, noFzL]) h (fun r h => t_impl_MeetAll h) (fun r60 h => ?_)
    refine CutQ.o (fun t : (Unit ⊕ Unit) => match t with | (.inl s) => (Ex.ret, [2], [(2, A.val (V.bool (false)))]) | (.inr s) => (Ex.normal, [20, 18, 14, 10, 3], [(20, A.val (vint (x20))), (18, A.val ((rP true (rS_Poset true)) (r35.fst))), (14, A.val ((slr true 1 vint) (r28.fst))), (10, A.val ((slr true 1 vint) (r21.fst))), (3, A.val ((rP true (rS_Poset false)) (r3)))])) h ?_ ?_
    · intro t h
      refine Br.flip ?_
      refine Br.ob h (fun p61 h => ?_) (fun p61 h => ?_)
      · refine Br.no ?_
        refine Br.no ?_
        refine Br.flip ?_
        refine Br.ob h (fun p62 h => ?_) (fun p62 h => ?_)
        · refine Br.no ?_
          refine Br.no ?_
          refine Br.no ?_
          refine Br.on h (fun p63 h => ?_) (fun p63 h => ?_)
          · refine Br.yes ?_
            refine Br.yes ?_
            refine Br.yes ?_
            refine Br.yes ?_
            cases h; exact ⟨rfl, rfl⟩
          refine Br.no ?_
          refine Br.no ?_
          refine Br.no ?_
          refine Br.on h (fun p64 h => ?_) (fun p64 h => ?_)
          · cases h; exact ⟨rfl, rfl⟩
          cases h; exact ⟨rfl, rfl⟩
        refine Br.yes ?_
        refine Br.yes ?_
        refine Br.yes ?_
        refine Br.yes ?_
        refine Br.yes ?_
        refine Br.yes ?_
        refine Br.yes ?_
        refine Br.yes ?_
        cases h; exact ⟨rfl, rfl⟩
      refine Br.yes ?_
      refine Br.yes ?_
      refine Br.yes ?_
      refine Br.yes ?_
      refine Br.yes ?_
      refine Br.yes ?_
      refine Br.yes ?_
      refine Br.yes ?_
      refine Br.yes ?_
      refine Br.yes ?_
      refine Br.yes ?_
      cases h; exact ⟨rfl, rfl⟩
    rintro (⟨⟩ | ⟨⟩) h
    · try dsimp only at h
      cases h; exact ⟨rfl, rfl⟩
    try dsimp only at h
    refine LoopQ.o [33, 20, 18, 14, 10, 3] (S_laws_FnLattices_l3 r3 r21 r28 r35 x20) (T_laws_FnLattices_l3 r3 r21 r28 r35 x20) h (fun s o h => b_laws_FnLattices_l3 s o h) (by first | rfl | simp [restrict, look, mulN_one, V.fz, fzL, V.up, upL, fzL_map, fz_slr, fz_at, slr]) (by rintro (_ | _) <;> rfl) ?_
    rintro (⟨⟩ | ⟨⟩) h
    · try dsimp only at h
      cases h; exact ⟨rfl, rfl⟩
    try dsimp only at h
    refine Ask.o h fun p77 h => ?_
    cases h; exact ⟨rfl, rfl⟩
  cases h; exact ⟨rfl, rfl⟩

noncomputable def F_laws_FnLattices (code0 : (List Int)) : Option Bool :=
 (F_laws_rBig (code0)).bind fun r1 =>
 if (r1) = true then
 some true
 else
 (F_spec_DrawLatticeAlgebra (code0)).bind fun r3 =>
 (F_impl_LatticeAlgebra (r3)).bind fun r4 =>
 (((F_spec_LatticeAlgebra (r3)).bind fun r5 =>
 if (r4.snd == r5.snd) = true then
 (F_laws_rAlgebra (r4.fst) (r5.fst)).bind fun r7 =>
 if (r7) = true then
 some (.inl ())
 else
 some (.inr ())
 else
 some (.inr ()) : Option (Unit ⊕ Unit))).bind fun t => match t with
 | (.inl _) => (((if (r4.snd) = true then
 (F_impl_LatticeOf (r4.fst)).bind fun r11 =>
 if (r11.snd) = true then
 (F_laws_rTable (r11.fst.Below) (r3.Below)).bind fun r13 =>
 if (r13) = true then
 some (.inl ())
 else
 some (.inr ())
 else
 some (.inr ())
 else
 some (.inl ()) : Option (Unit ⊕ Unit))).bind fun t => match t with
 | (.inl _) => ((F_impl_IsLattice (r3)).bind fun r16 =>
 (F_spec_IsLattice (r3)).bind fun r17 =>
 if (r16 == r17) = true then
 (F_impl_IsLattice (r3)).bind fun r19 =>
 if (r19) = true then
 (F_impl_JoinIrreducibles (r3)).bind fun r21 =>
 (((F_spec_JoinIrreducibles (r3)).bind fun r22 =>
 if (r21.snd == r22.snd) = true then
 if (r21.snd) = true then
 (F_laws_rInts (r21.fst) (r22.fst)).bind fun r25 =>
 if (r25) = true then
 some (.inl ())
 else
 some (.inr ())
 else
 some (.inr ())
 else
 some (.inr ()) : Option (Unit ⊕ Unit))).bind fun t => match t with
 | (.inl _) => ((F_impl_MeetIrreducibles (r3)).bind fun r28 =>
 (((F_spec_MeetIrreducibles (r3)).bind fun r29 =>
 if (r28.snd == r29.snd) = true then
 if (r28.snd) = true then
 (F_laws_rInts (r28.fst) (r29.fst)).bind fun r32 =>
 if (r32) = true then
 some (.inl ())
 else
 some (.inr ())
 else
 some (.inr ())
 else
 some (.inr ()) : Option (Unit ⊕ Unit))).bind fun t => match t with
 | (.inl _) => ((F_impl_DualPoset (r3)).bind fun r35 =>
 ((if (r35.snd) = true then
 (F_impl_IsLattice (r35.fst)).bind fun r37 =>
 if (r37) = true then
 some (.inl ())
 else
 some (.inr ())
 else
 some (.inr ()) : Option (Unit ⊕ Unit))).bind fun t => match t with
 | (.inl _) => ((loopO (F_laws_FnLattices_l4 r3 r21 r28 r35) (0 : Int)).bind fun t => match t with
 | (.inl _) => (some false)
 | (.inr _) => ((F_impl_EndsOf (r3)).bind fun r79 =>
 (F_impl_IntervalOf (r3) (r79.fst) (r79.snd.fst)).bind fun r80 =>
 if (r79.snd.snd) = true then
 if (r80.snd) = true then
 some ((↑r80.fst.length : Int) == (↑r3.Below.length : Int))
 else
 some false
 else
 some false))
 | (.inr _) => (some false))
 | (.inr _) => (some false))
 | (.inr _) => (some false)
 else
 some true
 else
 some false)
 | (.inr _) => (some false))
 | (.inr _) => (some false)
theorem t_laws_FnLattices {code0 : (List Int)} {v : Bool} (h : F_laws_FnLattices code0 = some v) : Ret Try.prog f_laws_FnLattices [(slr false 1 (V.int IntKind.u8)) code0] (V.bool v) := by
  refine ret_vc k_laws_FnLattices (Nat.le_of_ble_eq_true rfl) ?_
  unfold F_laws_FnLattices at h
  refine CallQ.o V.bool (by rfl) h (fun r h => t_laws_rBig h) (fun r1 h => ?_)
  refine Br.ob h (fun p2 h => ?_) (fun p2 h => ?_)
  · cases h; exact (by rfl)
  refine CallQ.o (rS_Poset false) (by rfl) h (fun r h => t_spec_DrawLatticeAlgebra h) (fun r3 h => ?_)
  refine SetKids.lit rfl ?_
  refine Cells.lit rfl rfl ?_
  refine CallQ.o (fun r => V.tup [(rS_Algebra true) r.1, V.bool r.2]) (by rfl) h (fun r h => t_impl_LatticeAlgebra h) (fun r4 h => ?_)
  refine SetKids.lit rfl ?_
  refine CutQ.o (fun t : (Unit ⊕ Unit) => match t with | (.inl s) => (Ex.normal, [5, 4, 3], [(5, A.val (V.bool (r4.snd))), (4, A.val ((rP true (rS_Algebra true)) (r4.fst))), (3, A.val ((rP true (rS_Poset false)) (r3)))]) | (.inr s) => (Ex.ret, [2], [(2, A.val (V.bool (false)))])) h ?_ ?_
  · intro t h
    refine Cells.lit rfl rfl ?_
    refine CallQ.o (fun r => V.tup [(rS_Algebra true) r.1, V.bool r.2]) (by rfl) h (fun r h => t_spec_LatticeAlgebra h) (fun r5 h => ?_)
    refine SetKids.lit rfl ?_
    refine Br.flip ?_
    refine Br.ob h (fun p6 h => ?_) (fun p6 h => ?_)
    · refine Cells.lit rfl rfl ?_
      refine Br.no ?_
      refine Cells.lit rfl rfl ?_
      refine Br.no ?_
      refine CallQ.rd V.bool (by first | rfl | simp only [V.fz, fzL_map] | simp [mulN_one, V.fz, fzL, V.up, upL, fzL_map, fz_slr, fz_at, slr]) (fun _ => rfl) h (fun r h => t_laws_rAlgebra h) (fun r7 h => ?_)
      refine Br.no ?_
      refine Br.no ?_
      refine Br.flip ?_
      refine Br.ob h (fun p8 h => ?_) (fun p8 h => ?_)
      · cases h; exact ⟨rfl, rfl⟩
      cases h; exact ⟨rfl, rfl⟩
    refine Br.yes ?_
    refine Br.yes ?_
    refine Br.yes ?_
    refine Br.yes ?_
    refine Br.yes ?_
    cases h; exact ⟨rfl, rfl⟩
  rintro (⟨⟩ | ⟨⟩) h
  · try dsimp only at h
    refine CutQ.o (fun t : (Unit ⊕ Unit) => match t with | (.inl s) => (Ex.normal, [3], [(3, A.val ((rP true (rS_Poset false)) (r3)))]) | (.inr s) => (Ex.ret, [2], [(2, A.val (V.bool (false)))])) h ?_ ?_
    · intro t h
      refine Br.ob h (fun p10 h => ?_) (fun p10 h => ?_)
      · refine Cells.lit rfl rfl ?_
        refine CallQ.rd (fun r => V.tup [(rS_Poset true) r.1, V.bool r.2]) (by first | rfl | simp only [V.fz, fzL_map] | simp [mulN_one, V.fz, fzL, V.up, upL, fzL_map, fz_slr, fz_at, slr]) (fun _ => by simp [V.noFz, noFzL, noFzL_map]) h (fun r h => t_impl_LatticeOf h) (fun r11 h => ?_)
        refine SetKids.lit rfl ?_
        refine Br.flip ?_
        refine Br.ob h (fun p12 h => ?_) (fun p12 h => ?_)
        · refine Br.no ?_
          refine Cells.lit rfl rfl ?_
          refine Br.no ?_
          refine Br.no ?_
          refine Cells.lit rfl rfl ?_
          refine Br.no ?_
          refine Kid.lit rfl rfl ?_
          refine CallQ.rd V.bool (by first | rfl | simp only [V.fz, fzL_map, slr] | simp [mulN_one, V.fz, fzL, V.up, upL, fzL_map, fz_slr, fz_at, slr]) (fun _ => rfl) h (fun r h => t_laws_rTable h) (fun r13 h => ?_)
          refine Br.no ?_
          refine Br.no ?_
          refine Br.flip ?_
          refine Br.ob h (fun p14 h => ?_) (fun p14 h => ?_)
          · cases h; exact ⟨rfl, rfl⟩
          cases h; exact ⟨rfl, rfl⟩
        refine Br.yes ?_
        refine Br.yes ?_
        refine Br.yes ?_
        refine Br.yes ?_
        refine Br.yes ?_
        refine Br.yes ?_
        refine Br.yes ?_
        cases h; exact ⟨rfl, rfl⟩
      cases h; exact ⟨rfl, rfl⟩
    rintro (⟨⟩ | ⟨⟩) h
    · try dsimp only at h
      refine Cells.lit rfl rfl ?_
      refine CallP.o V.bool (by rfl) h (fun r h => t_impl_IsLattice h) (fun r16 h => ?_)
      refine Cells.lit rfl rfl ?_
      refine CallQ.o V.bool (by rfl) h (fun r h => t_spec_IsLattice h) (fun r17 h => ?_)
      refine Br.flip ?_
      refine Br.ob h (fun p18 h => ?_) (fun p18 h => ?_)
      · refine Cells.lit rfl rfl ?_
        refine CallQ.o V.bool (by rfl) h (fun r h => t_impl_IsLattice h) (fun r19 h => ?_)
        refine Br.flip ?_
        refine Br.ob h (fun p20 h => ?_) (fun p20 h => ?_)
        · refine Cells.lit rfl rfl ?_
          refine CallQ.o (fun r => V.tup [(slr true 1 vint) r.1, V.bool r.2]) (by rfl) h (fun r h => t_impl_JoinIrreducibles h) (fun r21 h => ?_)
          refine CutQ.o (fun t : (Unit ⊕ Unit) => match t with | (.inl s) => (Ex.normal, [10, 3], [(10, A.val ((slr true 1 vint) (r21.fst))), (3, A.val ((rP true (rS_Poset false)) (r3)))]) | (.inr s) => (Ex.ret, [2], [(2, A.val (V.bool (false)))])) h ?_ ?_
          · intro t h
            refine Cells.lit rfl rfl ?_
            refine CallQ.o (fun r => V.tup [(slr true 1 vint) r.1, V.bool r.2]) (by rfl) h (fun r h => t_spec_JoinIrreducibles h) (fun r22 h => ?_)
            refine Br.flip ?_
            refine Br.ob h (fun p23 h => ?_) (fun p23 h => ?_)
            · refine Br.no ?_
              refine Br.no ?_
              refine Br.flip ?_
              refine Br.ob h (fun p24 h => ?_) (fun p24 h => ?_)
              · refine Br.no ?_
                refine Br.no ?_
                refine CallQ.rd V.bool (by first | rfl | simp only [V.fz, fzL_map, slr] | simp [mulN_one, V.fz, fzL, V.up, upL, fzL_map, fz_slr, fz_at, slr]) (fun _ => rfl) h (fun r h => t_laws_rInts h) (fun r25 h => ?_)
                refine Br.no ?_
                refine Br.no ?_
                refine Br.flip ?_
                refine Br.ob h (fun p26 h => ?_) (fun p26 h => ?_)
                · cases h; exact ⟨rfl, rfl⟩
                cases h; exact ⟨rfl, rfl⟩
              refine Br.yes ?_
              refine Br.yes ?_
              refine Br.yes ?_
              refine Br.yes ?_
              refine Br.yes ?_
              cases h; exact ⟨rfl, rfl⟩
            refine Br.yes ?_
            refine Br.yes ?_
            refine Br.yes ?_
            refine Br.yes ?_
            refine Br.yes ?_
            refine Br.yes ?_
            refine Br.yes ?_
            refine Br.yes ?_
            cases h; exact ⟨rfl, rfl⟩
          rintro (⟨⟩ | ⟨⟩) h
          · try dsimp only at h
            refine Cells.lit rfl rfl ?_
            refine CallQ.o (fun r => V.tup [(slr true 1 vint) r.1, V.bool r.2]) (by rfl) h (fun r h => t_impl_MeetIrreducibles h) (fun r28 h => ?_)
            refine CutQ.o (fun t : (Unit ⊕ Unit) => match t with | (.inl s) => (Ex.normal, [14, 10, 3], [(14, A.val ((slr true 1 vint) (r28.fst))), (10, A.val ((slr true 1 vint) (r21.fst))), (3, A.val ((rP true (rS_Poset false)) (r3)))]) | (.inr s) => (Ex.ret, [2], [(2, A.val (V.bool (false)))])) h ?_ ?_
            · intro t h
              refine Cells.lit rfl rfl ?_
              refine CallQ.o (fun r => V.tup [(slr true 1 vint) r.1, V.bool r.2]) (by rfl) h (fun r h => t_spec_MeetIrreducibles h) (fun r29 h => ?_)
              refine Br.flip ?_
              refine Br.ob h (fun p30 h => ?_) (fun p30 h => ?_)
              · refine Br.no ?_
                refine Br.no ?_
                refine Br.flip ?_
                refine Br.ob h (fun p31 h => ?_) (fun p31 h => ?_)
                · refine Br.no ?_
                  refine Br.no ?_
                  refine CallQ.rd V.bool (by first | rfl | simp only [V.fz, fzL_map, slr] | simp [mulN_one, V.fz, fzL, V.up, upL, fzL_map, fz_slr, fz_at, slr]) (fun _ => rfl) h (fun r h => t_laws_rInts h) (fun r32 h => ?_)
                  refine Br.no ?_
                  refine Br.no ?_
                  refine Br.flip ?_
                  refine Br.ob h (fun p33 h => ?_) (fun p33 h => ?_)
                  · cases h; exact ⟨rfl, rfl⟩
                  cases h; exact ⟨rfl, rfl⟩
                refine Br.yes ?_
                refine Br.yes ?_
                refine Br.yes ?_
                refine Br.yes ?_
                refine Br.yes ?_
                cases h; exact ⟨rfl, rfl⟩
              refine Br.yes ?_
              refine Br.yes ?_
              refine Br.yes ?_
              refine Br.yes ?_
              refine Br.yes ?_
              refine Br.yes ?_
              refine Br.yes ?_
              refine Br.yes ?_
              cases h; exact ⟨rfl, rfl⟩
            rintro (⟨⟩ | ⟨⟩) h
            · try dsimp only at h
              refine Cells.lit rfl rfl ?_
              refine CallQ.o (fun r => V.tup [(rS_Poset true) r.1, V.bool r.2]) (by rfl) h (fun r h => t_impl_DualPoset h) (fun r35 h => ?_)
              refine SetKids.lit rfl ?_
              refine CutQ.o (fun t : (Unit ⊕ Unit) => match t with | (.inl s) => (Ex.normal, [18, 14, 10, 3], [(18, A.val ((rP true (rS_Poset true)) (r35.fst))), (14, A.val ((slr true 1 vint) (r28.fst))), (10, A.val ((slr true 1 vint) (r21.fst))), (3, A.val ((rP true (rS_Poset false)) (r3)))]) | (.inr s) => (Ex.ret, [2], [(2, A.val (V.bool (false)))])) h ?_ ?_
              · intro t h
                refine Br.flip ?_
                refine Br.ob h (fun p36 h => ?_) (fun p36 h => ?_)
                · refine Cells.lit rfl rfl ?_
                  refine Br.no ?_
                  refine CallQ.rd V.bool (by first | rfl | simp only [V.fz, fzL_map] | simp [mulN_one, V.fz, fzL, V.up, upL, fzL_map, fz_slr, fz_at, slr]) (fun _ => rfl) h (fun r h => t_impl_IsLattice h) (fun r37 h => ?_)
                  refine Br.no ?_
                  refine Br.no ?_
                  refine Br.flip ?_
                  refine Br.ob h (fun p38 h => ?_) (fun p38 h => ?_)
                  · cases h; exact ⟨rfl, rfl⟩
                  cases h; exact ⟨rfl, rfl⟩
                refine Br.yes ?_
                refine Br.yes ?_
                refine Br.yes ?_
                refine Br.yes ?_
                cases h; exact ⟨rfl, rfl⟩
              rintro (⟨⟩ | ⟨⟩) h
              · try dsimp only at h
                refine LoopQ.o [20, 18, 14, 10, 3] (S_laws_FnLattices_l4 r3 r21 r28 r35) (T_laws_FnLattices_l4 r3 r21 r28 r35) h (fun s o h => b_laws_FnLattices_l4 s o h) (by first | rfl | simp [restrict, look, mulN_one, V.fz, fzL, V.up, upL, fzL_map, fz_slr, fz_at, slr]) (by rintro (_ | _) <;> rfl) ?_
                rintro (⟨⟩ | ⟨⟩) h
                · try dsimp only at h
                  cases h; exact (by rfl)
                try dsimp only at h
                refine Cells.lit rfl rfl ?_
                refine CallQ.o (fun r => V.tup [vint r.1, vint r.2.1, V.bool r.2.2]) (by rfl) h (fun r h => t_impl_EndsOf h) (fun r79 h => ?_)
                refine Cells.lit rfl rfl ?_
                refine CallQ.o (fun r => V.tup [(slr true 1 vint) r.1, V.bool r.2]) (by rfl) h (fun r h => t_impl_IntervalOf h) (fun r80 h => ?_)
                refine Br.ob h (fun p81 h => ?_) (fun p81 h => ?_)
                · refine Br.yes ?_
                  refine Br.ob h (fun p82 h => ?_) (fun p82 h => ?_)
                  · refine Br.yes ?_
                    refine Len.map ?_
                    refine Br.yes ?_
                    refine Br.yes ?_
                    refine Cells.lit rfl rfl ?_
                    refine Br.yes ?_
                    refine Len.map ?_
                    refine Br.yes ?_
                    refine Br.yes ?_
                    cases h; exact (by rfl)
                  refine Br.no ?_
                  refine Br.no ?_
                  refine Br.no ?_
                  refine Br.no ?_
                  refine Br.no ?_
                  refine Br.no ?_
                  cases h; exact (by rfl)
                refine Br.no ?_
                refine Br.no ?_
                refine Br.no ?_
                refine Br.no ?_
                refine Br.no ?_
                refine Br.no ?_
                refine Br.no ?_
                refine Br.no ?_
                cases h; exact (by rfl)
              try dsimp only at h
              cases h; exact (by rfl)
            try dsimp only at h
            cases h; exact (by rfl)
          try dsimp only at h
          cases h; exact (by rfl)
        cases h; exact (by rfl)
      cases h; exact (by rfl)
    try dsimp only at h
    cases h; exact (by rfl)
  try dsimp only at h
  cases h; exact (by rfl)

end Go.Proofs.Ytoikbcagaanhgaa.Ax
