/-
  What the functions compute, as functions on plain data, and that the program does compute it; written by program.
-/
import Derived.Test.YthcnmahjhahafaaCode
import Derived.Test.YthcnmahjhahafaaG1
import Derived.Test.YthcnmahjhahafaaG2
import Derived.Test.YthcnmahjhahafaaG3
namespace Go.Proofs.Ythcnmahjhahafaa.Ax
open Go
set_option maxRecDepth 100000
set_option maxHeartbeats 4000000

noncomputable def F_spec_l23Height_l1 (self : SPoset → Int → Option Int) (p0 : SPoset) (x0 : Int) : (Int × Int) → Option ((Int × Int) ⊕ Int) := fun (x6, x5) =>
   ask ((0 : Int) ≤ x0 ∧ x0 < (↑p0.Below.length : Int)) <|
   if x6 < (↑(nth p0.Below x0.toNat).length : Int) then
    ask ((0 : Int) ≤ x0 ∧ x0 < (↑p0.Below.length : Int)) <|
    ask ((0 : Int) ≤ x6 ∧ x6 < (↑(nth p0.Below x0.toNat).length : Int)) <|
    if nth (nth p0.Below x0.toNat) x6.toNat ≠ x0 then
     (self (p0) (nth (nth p0.Below x0.toNat) x6.toNat)).bind fun r6 =>
     ask (InI (r6 + (1 : Int))) <|
     (F_spec_l1Most (x5) (r6 + (1 : Int))).bind fun r8 =>
     ask (InI (x6 + (1 : Int))) <|
     some (.inl (x6 + (1 : Int), r8))
    else
     ask (InI (x6 + (1 : Int))) <|
     some (.inl (x6 + (1 : Int), x5))
   else
    some (.inr x5)
def S_spec_l23Height_l1 (p0 : SPoset) (x0 : Int) : (Int × Int) → St := fun s => [(6, A.val (vint s.1)), (5, A.val (vint s.2)), (2, A.val ((rP true (rS_Poset false)) (p0))), (1, A.val (vint (x0)))]
def T_spec_l23Height_l1 (_p0 : SPoset) (_x0 : Int) : Int → Tgt
  | s => ((Ex.exit 0), [5], [(5, A.val (vint s))])
theorem b_spec_l23Height_l1 {self : SPoset → Int → Option Int} {p0 : SPoset} {x0 : Int} (hself : ∀ {w_0 w_1 v}, self w_0 w_1 = some v → Ret Try.prog f_spec_l23Height [(rS_Poset false) w_0, vint w_1] (vint v)) (s : (Int × Int)) (o : (Int × Int) ⊕ Int) (h : F_spec_l23Height_l1 self p0 x0 s = some o) : vc Try.prog c_spec_l23Height_l1 (outQ [6, 5, 2, 1] (S_spec_l23Height_l1 p0 x0) (T_spec_l23Height_l1 p0 x0) o) (S_spec_l23Height_l1 p0 x0 s) := by
  obtain ⟨x6, x5⟩ := s
  unfold F_spec_l23Height_l1 at h
  try dsimp only at h
  conv => whnf
  refine Cells.lit rfl rfl ?_
  conv => whnf
  refine Len.map ?_
  conv => whnf
  refine Ask.o h fun p1 h => ?_
  conv => whnf
  refine Elem.o (by first | omega | (simp only [mulN] at *; omega) | (simp [mulN] at *; omega)) ?_
  conv => whnf
  refine Len.map ?_
  conv => whnf
  refine Br.od h (fun p2 h => ?_) (fun p2 h => ?_)
  · conv => whnf
    refine Cells.lit rfl rfl ?_
    conv => whnf
    refine Len.map ?_
    conv => whnf
    refine Ask.o h fun p3 h => ?_
    conv => whnf
    refine Elem.o (by first | omega | (simp only [mulN] at *; omega) | (simp [mulN] at *; omega)) ?_
    conv => whnf
    refine Len.map ?_
    conv => whnf
    refine Ask.o h fun p4 h => ?_
    conv => whnf
    refine Elem.o (by first | omega | (simp only [mulN] at *; omega) | (simp [mulN] at *; omega)) ?_
    conv => whnf
    refine Br.on h (fun p5 h => ?_) (fun p5 h => ?_)
    · conv => whnf
      refine Cells.lit rfl rfl ?_
      conv => whnf
      refine CallQ.o vint (by first | rfl | simp only [mulN_one, V.fz, fzL, V.up, upL, fzL_map, fz_slr, fz_at, slr, List.cons_append, List.nil_append] | simp [mulN_one, V.fz, fzL, V.up, upL, fzL_map, fz_slr, fz_at, slr]) h (fun r h => hself h) (fun r6 h => ?_)
      conv => whnf
      refine Ask.o h fun p7 h => ?_
      conv => whnf
      refine CallQ.o vint (by first | rfl | simp only [mulN_one, V.fz, fzL, V.up, upL, fzL_map, fz_slr, fz_at, slr, List.cons_append, List.nil_append] | simp [mulN_one, V.fz, fzL, V.up, upL, fzL_map, fz_slr, fz_at, slr]) h (fun r h => t_spec_l1Most h) (fun r8 h => ?_)
      conv => whnf
      refine Ask.o h fun p9 h => ?_
      conv => whnf
      cases h; exact ⟨rfl, rfl⟩
    · conv => whnf
      refine Ask.o h fun p10 h => ?_
      conv => whnf
      cases h; exact ⟨rfl, rfl⟩
  · conv => whnf
    cases h; exact ⟨rfl, rfl⟩

noncomputable def F_spec_l23Height_s (self : SPoset → Int → Option Int) (p0 : SPoset) (x0 : Int) : Option Int :=
  (loopO (F_spec_l23Height_l1 self p0 x0) ((0 : Int), (0 : Int))).bind fun q11_5 =>
  some q11_5
noncomputable def F_spec_l23Height : Nat → SPoset → Int → Option Int
  | 0 => fun _ _ => none
  | n + 1 => F_spec_l23Height_s (F_spec_l23Height n)
theorem t_spec_l23Height_s {self : SPoset → Int → Option Int} (hself : ∀ {w_0 w_1 v}, self w_0 w_1 = some v → Ret Try.prog f_spec_l23Height [(rS_Poset false) w_0, vint w_1] (vint v)) {p0 : SPoset} {x0 : Int} {v : Int} (h : F_spec_l23Height_s self p0 x0 = some v) : Ret Try.prog f_spec_l23Height [(rS_Poset false) p0, vint x0] (vint v) := by
  refine ret_vc k_spec_l23Height (Nat.le_of_ble_eq_true rfl) ?_
  unfold F_spec_l23Height_s at h
  conv => whnf
  refine LoopQ.o [6, 5, 2, 1] (S_spec_l23Height_l1 p0 x0) (T_spec_l23Height_l1 p0 x0) h (fun s o h => b_spec_l23Height_l1 hself s o h) (by first | rfl | simp [restrict, look, mulN_one, V.fz, fzL, V.up, upL, fzL_map, fz_slr, fz_at, slr]) (fun _ => rfl) ?_
  rintro q11_5 h
  try dsimp only at h
  conv => whnf
  cases h; exact (by first | rfl | simp [resV, mulN_one, V.fz, fzL, V.up, upL, fzL_map, fz_slr, fz_at, slr])
theorem t_spec_l23Height_n : ∀ (n : Nat) {p0 : SPoset} {x0 : Int} {v : Int}, F_spec_l23Height n p0 x0 = some v → Ret Try.prog f_spec_l23Height [(rS_Poset false) p0, vint x0] (vint v)
  | 0, _, _, _, h => by cases h
  | n + 1, _, _, _, h => t_spec_l23Height_s (fun h => t_spec_l23Height_n n h) h
theorem t_spec_l23Height {p0 : SPoset} {x0 : Int} {v : Int} (h : (limO fun n => F_spec_l23Height n p0 x0) = some v) : Ret Try.prog f_spec_l23Height [(rS_Poset false) p0, vint x0] (vint v) := by
  obtain ⟨n, hn⟩ := limO_some h
  exact t_spec_l23Height_n n hn

noncomputable def F_impl_order_lengths_l1 (o0 : List (List Bool)) (down0 : Bool) (x15 : Int) : (Int × Bool × (List Int)) → Option ((Int × Bool × (List Int)) ⊕ (Bool × (List Int))) := fun (x20, x6'', x5'') =>
   if x20 < (↑o0.length : Int) then
    ((if (down0) = true then
        if (down0) = true then
         (F_impl_order_less (o0) (x20) (x15)).bind fun r7 =>
         if (r7) = true then
          ask ((0 : Int) ≤ x15 ∧ x15 < (↑x5''.length : Int)) <|
          ask ((0 : Int) ≤ x20 ∧ x20 < (↑x5''.length : Int)) <|
          some (decide (nth x5'' x15.toNat ≤ nth x5'' x20.toNat))
         else
          some false
        else
         some false
       else
        (F_impl_order_less (o0) (x15) (x20)).bind fun r11 =>
        if (r11) = true then
         ask ((0 : Int) ≤ x15 ∧ x15 < (↑x5''.length : Int)) <|
         ask ((0 : Int) ≤ x20 ∧ x20 < (↑x5''.length : Int)) <|
         some (decide (nth x5'' x15.toNat ≤ nth x5'' x20.toNat))
        else
         if (down0) = true then
          (F_impl_order_less (o0) (x20) (x15)).bind fun r16 =>
          if (r16) = true then
           ask ((0 : Int) ≤ x15 ∧ x15 < (↑x5''.length : Int)) <|
           ask ((0 : Int) ≤ x20 ∧ x20 < (↑x5''.length : Int)) <|
           some (decide (nth x5'' x15.toNat ≤ nth x5'' x20.toNat))
          else
           some false
         else
          some false : Option Bool)).bind fun q20_50 =>
    if (q20_50) = true then
     ask ((0 : Int) ≤ x20 ∧ x20 < (↑x5''.length : Int)) <|
     ask (InI (nth x5'' x20.toNat + (1 : Int))) <|
     ask ((0 : Int) ≤ x15 ∧ x15 < (↑x5''.length : Int)) <|
     ask (InI (x20 + (1 : Int))) <|
     some (.inl (x20 + (1 : Int), true, x5''.set x15.toNat (nth x5'' x20.toNat + (1 : Int))))
    else
     ask (InI (x20 + (1 : Int))) <|
     some (.inl (x20 + (1 : Int), x6'', x5''))
   else
    some (.inr (x6'', x5''))
def S_impl_order_lengths_l1 (o0 : List (List Bool)) (down0 : Bool) (x15 : Int) : (Int × Bool × (List Int)) → St := fun s => [(20, A.val (vint s.1)), (19, A.val (vint ((↑o0.length : Int)))), (7, A.val (vint (x15))), (15, A.val (vint (x15))), (14, A.val (vint ((↑o0.length : Int)))), (6, A.val (V.bool s.2.1)), (5, A.val ((slr true 1 vint) s.2.2)), (0, A.val ((slr false 1 (slr false 1 V.bool)) (o0))), (1, A.val (V.bool (down0)))]
def T_impl_order_lengths_l1 (o0 : List (List Bool)) (down0 : Bool) (x15 : Int) : (Bool × (List Int)) → Tgt
  | s => ((Ex.exit 4), [15, 14, 6, 5, 0, 1], [(15, A.val (vint (x15))), (14, A.val (vint ((↑o0.length : Int)))), (6, A.val (V.bool s.1)), (5, A.val ((slr true 1 vint) s.2)), (0, A.val ((slr false 1 (slr false 1 V.bool)) (o0))), (1, A.val (V.bool (down0)))])
theorem b_impl_order_lengths_l1 {o0 : List (List Bool)} {down0 : Bool} {x15 : Int} (s : (Int × Bool × (List Int))) (o : (Int × Bool × (List Int)) ⊕ (Bool × (List Int))) (h : F_impl_order_lengths_l1 o0 down0 x15 s = some o) : vc Try.prog c_impl_order_lengths_l1 (outQ [20, 19, 7, 15, 14, 6, 5, 0, 1] (S_impl_order_lengths_l1 o0 down0 x15) (T_impl_order_lengths_l1 o0 down0 x15) o) (S_impl_order_lengths_l1 o0 down0 x15 s) := by
  obtain ⟨x20, x6'', x5''⟩ := s
  unfold F_impl_order_lengths_l1 at h
  try dsimp only at h
  conv => whnf
  refine Br.od h (fun p4 h => ?_) (fun p4 h => ?_)
  · conv => whnf
    refine CutQ.o (fun t : Bool => match t with | s => (Ex.normal, [50, 8, 20, 19, 7, 15, 14, 6, 5, 0, 1], [(50, A.val (V.bool s)), (8, A.val (vint (x20))), (20, A.val (vint (x20))), (19, A.val (vint ((↑o0.length : Int)))), (7, A.val (vint (x15))), (15, A.val (vint (x15))), (14, A.val (vint ((↑o0.length : Int)))), (6, A.val (V.bool (x6''))), (5, A.val ((slr true 1 vint) (x5''))), (0, A.val ((slr false 1 (slr false 1 V.bool)) (o0))), (1, A.val (V.bool (down0)))])) h ?_ ?_
    · intro t h
      conv => whnf
      refine Br.flip ?_
      conv => whnf
      refine Br.ob h (fun p5 h => ?_) (fun p5 h => ?_)
      · conv => whnf
        refine Br.no ?_
        conv => whnf
        refine Br.no ?_
        conv => whnf
        refine Br.no ?_
        conv => whnf
        refine Br.no ?_
        conv => whnf
        refine Br.no ?_
        conv => whnf
        refine Br.no ?_
        conv => whnf
        refine Br.ob h (fun p6 h => ?_) (fun p6 h => ?_)
        · conv => whnf
          refine Br.yes ?_
          conv => whnf
          refine Br.yes ?_
          conv => whnf
          refine Br.yes ?_
          conv => whnf
          refine CallP.o V.bool (by first | rfl | simp only [mulN_one, V.fz, fzL, V.up, upL, fzL_map, fz_slr, fz_at, slr, List.cons_append, List.nil_append] | simp [mulN_one, V.fz, fzL, V.up, upL, fzL_map, fz_slr, fz_at, slr]) h (fun r h => t_impl_order_less h) (fun r7 h => ?_)
          conv => whnf
          refine Br.no ?_
          conv => whnf
          refine Br.yes ?_
          conv => whnf
          refine Br.no ?_
          conv => whnf
          refine Br.ob h (fun p8 h => ?_) (fun p8 h => ?_)
          · conv => whnf
            refine Br.yes ?_
            conv => whnf
            refine Br.yes ?_
            conv => whnf
            refine Len.map ?_
            conv => whnf
            refine Ask.o h fun p9 h => ?_
            conv => whnf
            refine Br.yes ?_
            conv => whnf
            refine Cells.one (fun _ => ⟨rfl, rfl⟩) (by first | omega | (simp only [mulN] at *; omega) | (simp [mulN] at *; omega)) ?_
            conv => whnf
            refine Br.yes ?_
            conv => whnf
            refine Br.yes ?_
            conv => whnf
            refine Br.yes ?_
            conv => whnf
            refine Len.map ?_
            conv => whnf
            refine Ask.o h fun p10 h => ?_
            conv => whnf
            refine Br.yes ?_
            conv => whnf
            refine Cells.one (fun _ => ⟨rfl, rfl⟩) (by first | omega | (simp only [mulN] at *; omega) | (simp [mulN] at *; omega)) ?_
            conv => whnf
            refine Br.yes ?_
            conv => whnf
            refine Br.yes ?_
            conv => whnf
            cases h; exact ⟨rfl, rfl⟩
          · conv => whnf
            refine Br.no ?_
            conv => whnf
            refine Br.no ?_
            conv => whnf
            refine Br.no ?_
            conv => whnf
            refine Br.no ?_
            conv => whnf
            refine Br.no ?_
            conv => whnf
            refine Br.no ?_
            conv => whnf
            refine Br.no ?_
            conv => whnf
            refine Br.no ?_
            conv => whnf
            refine Br.no ?_
            conv => whnf
            cases h; exact ⟨rfl, rfl⟩
        · conv => whnf
          refine Br.no ?_
          conv => whnf
          refine Br.no ?_
          conv => whnf
          refine Br.no ?_
          conv => whnf
          refine Br.no ?_
          conv => whnf
          refine Br.no ?_
          conv => whnf
          refine Br.no ?_
          conv => whnf
          refine Br.no ?_
          conv => whnf
          refine Br.no ?_
          conv => whnf
          refine Br.no ?_
          conv => whnf
          refine Br.no ?_
          conv => whnf
          refine Br.no ?_
          conv => whnf
          refine Br.no ?_
          conv => whnf
          refine Br.no ?_
          conv => whnf
          refine Br.no ?_
          conv => whnf
          refine Br.no ?_
          conv => whnf
          refine Br.no ?_
          conv => whnf
          cases h; exact ⟨rfl, rfl⟩
      · conv => whnf
        refine Br.yes ?_
        conv => whnf
        refine Br.yes ?_
        conv => whnf
        refine Br.yes ?_
        conv => whnf
        refine CallP.o V.bool (by first | rfl | simp only [mulN_one, V.fz, fzL, V.up, upL, fzL_map, fz_slr, fz_at, slr, List.cons_append, List.nil_append] | simp [mulN_one, V.fz, fzL, V.up, upL, fzL_map, fz_slr, fz_at, slr]) h (fun r h => t_impl_order_less h) (fun r11 h => ?_)
        conv => whnf
        refine Br.yes ?_
        conv => whnf
        refine Br.ob h (fun p12 h => ?_) (fun p12 h => ?_)
        · conv => whnf
          refine Br.yes ?_
          conv => whnf
          refine Br.yes ?_
          conv => whnf
          refine Br.yes ?_
          conv => whnf
          refine Br.yes ?_
          conv => whnf
          refine Br.yes ?_
          conv => whnf
          refine Br.yes ?_
          conv => whnf
          refine Len.map ?_
          conv => whnf
          refine Ask.o h fun p13 h => ?_
          conv => whnf
          refine Br.yes ?_
          conv => whnf
          refine Cells.one (fun _ => ⟨rfl, rfl⟩) (by first | omega | (simp only [mulN] at *; omega) | (simp [mulN] at *; omega)) ?_
          conv => whnf
          refine Br.yes ?_
          conv => whnf
          refine Br.yes ?_
          conv => whnf
          refine Br.yes ?_
          conv => whnf
          refine Len.map ?_
          conv => whnf
          refine Ask.o h fun p14 h => ?_
          conv => whnf
          refine Br.yes ?_
          conv => whnf
          refine Cells.one (fun _ => ⟨rfl, rfl⟩) (by first | omega | (simp only [mulN] at *; omega) | (simp [mulN] at *; omega)) ?_
          conv => whnf
          refine Br.yes ?_
          conv => whnf
          refine Br.yes ?_
          conv => whnf
          cases h; exact ⟨rfl, rfl⟩
        · conv => whnf
          refine Br.no ?_
          conv => whnf
          refine Br.ob h (fun p15 h => ?_) (fun p15 h => ?_)
          · conv => whnf
            refine Br.yes ?_
            conv => whnf
            refine Br.yes ?_
            conv => whnf
            refine Br.yes ?_
            conv => whnf
            refine CallP.o V.bool (by first | rfl | simp only [mulN_one, V.fz, fzL, V.up, upL, fzL_map, fz_slr, fz_at, slr, List.cons_append, List.nil_append] | simp [mulN_one, V.fz, fzL, V.up, upL, fzL_map, fz_slr, fz_at, slr]) h (fun r h => t_impl_order_less h) (fun r16 h => ?_)
            conv => whnf
            refine Br.no ?_
            conv => whnf
            refine Br.yes ?_
            conv => whnf
            refine Br.no ?_
            conv => whnf
            refine Br.ob h (fun p17 h => ?_) (fun p17 h => ?_)
            · conv => whnf
              refine Br.yes ?_
              conv => whnf
              refine Br.yes ?_
              conv => whnf
              refine Len.map ?_
              conv => whnf
              refine Ask.o h fun p18 h => ?_
              conv => whnf
              refine Br.yes ?_
              conv => whnf
              refine Cells.one (fun _ => ⟨rfl, rfl⟩) (by first | omega | (simp only [mulN] at *; omega) | (simp [mulN] at *; omega)) ?_
              conv => whnf
              refine Br.yes ?_
              conv => whnf
              refine Br.yes ?_
              conv => whnf
              refine Br.yes ?_
              conv => whnf
              refine Len.map ?_
              conv => whnf
              refine Ask.o h fun p19 h => ?_
              conv => whnf
              refine Br.yes ?_
              conv => whnf
              refine Cells.one (fun _ => ⟨rfl, rfl⟩) (by first | omega | (simp only [mulN] at *; omega) | (simp [mulN] at *; omega)) ?_
              conv => whnf
              refine Br.yes ?_
              conv => whnf
              refine Br.yes ?_
              conv => whnf
              cases h; exact ⟨rfl, rfl⟩
            · conv => whnf
              refine Br.no ?_
              conv => whnf
              refine Br.no ?_
              conv => whnf
              refine Br.no ?_
              conv => whnf
              refine Br.no ?_
              conv => whnf
              refine Br.no ?_
              conv => whnf
              refine Br.no ?_
              conv => whnf
              refine Br.no ?_
              conv => whnf
              refine Br.no ?_
              conv => whnf
              refine Br.no ?_
              conv => whnf
              cases h; exact ⟨rfl, rfl⟩
          · conv => whnf
            refine Br.no ?_
            conv => whnf
            refine Br.no ?_
            conv => whnf
            refine Br.no ?_
            conv => whnf
            refine Br.no ?_
            conv => whnf
            refine Br.no ?_
            conv => whnf
            refine Br.no ?_
            conv => whnf
            refine Br.no ?_
            conv => whnf
            refine Br.no ?_
            conv => whnf
            refine Br.no ?_
            conv => whnf
            refine Br.no ?_
            conv => whnf
            refine Br.no ?_
            conv => whnf
            refine Br.no ?_
            conv => whnf
            refine Br.no ?_
            conv => whnf
            refine Br.no ?_
            conv => whnf
            refine Br.no ?_
            conv => whnf
            refine Br.no ?_
            conv => whnf
            cases h; exact ⟨rfl, rfl⟩
    · rintro q20_50 h
      try dsimp only at h
      conv => whnf
      refine Br.ob h (fun p21 h => ?_) (fun p21 h => ?_)
      · conv => whnf
        refine Len.map ?_
        conv => whnf
        refine Ask.o h fun p22 h => ?_
        conv => whnf
        refine Cells.one (fun _ => ⟨rfl, rfl⟩) (by first | omega | (simp only [mulN] at *; omega) | (simp [mulN] at *; omega)) ?_
        conv => whnf
        refine Ask.o h fun p23 h => ?_
        conv => whnf
        refine Len.map ?_
        conv => whnf
        refine Ask.o h fun p24 h => ?_
        conv => whnf
        refine SetKids.one (fun _ => ⟨rfl, rfl⟩) (nth x5'' x20.toNat + (1 : Int)) (by first | rfl | simp only [mulN_one, V.fz, fzL, V.up, upL, fzL_map, fz_slr, fz_at, slr, List.cons_append, List.nil_append] | simp [mulN_one, V.fz, fzL, V.up, upL, fzL_map, fz_slr, fz_at, slr]) (by first | omega | (simp only [mulN] at *; omega) | (simp [mulN] at *; omega)) ?_
        conv => whnf
        refine Ask.o h fun p25 h => ?_
        conv => whnf
        cases h; exact ⟨rfl, rfl⟩
      · conv => whnf
        refine Ask.o h fun p26 h => ?_
        conv => whnf
        cases h; exact ⟨rfl, rfl⟩
  · conv => whnf
    cases h; exact ⟨rfl, rfl⟩

noncomputable def F_impl_order_lengths_l2 (o0 : List (List Bool)) (down0 : Bool) : (Int × Bool × (List Int)) → Option ((Int × Bool × (List Int)) ⊕ (Bool × (List Int))) := fun (x15, x6', x5') =>
   if x15 < (↑o0.length : Int) then
    (loopO (F_impl_order_lengths_l1 o0 down0 x15) ((0 : Int), x6', x5')).bind fun (q27_6, q27_5) =>
    ask (InI (x15 + (1 : Int))) <|
    some (.inl (x15 + (1 : Int), q27_6, q27_5))
   else
    some (.inr (x6', x5'))
def S_impl_order_lengths_l2 (o0 : List (List Bool)) (down0 : Bool) : (Int × Bool × (List Int)) → St := fun s => [(15, A.val (vint s.1)), (14, A.val (vint ((↑o0.length : Int)))), (6, A.val (V.bool s.2.1)), (5, A.val ((slr true 1 vint) s.2.2)), (0, A.val ((slr false 1 (slr false 1 V.bool)) (o0))), (1, A.val (V.bool (down0)))]
def T_impl_order_lengths_l2 (o0 : List (List Bool)) (down0 : Bool) : (Bool × (List Int)) → Tgt
  | s => ((Ex.exit 2), [6, 5, 0, 1], [(6, A.val (V.bool s.1)), (5, A.val ((slr true 1 vint) s.2)), (0, A.val ((slr false 1 (slr false 1 V.bool)) (o0))), (1, A.val (V.bool (down0)))])
theorem b_impl_order_lengths_l2 {o0 : List (List Bool)} {down0 : Bool} (s : (Int × Bool × (List Int))) (o : (Int × Bool × (List Int)) ⊕ (Bool × (List Int))) (h : F_impl_order_lengths_l2 o0 down0 s = some o) : vc Try.prog c_impl_order_lengths_l2 (outQ [15, 14, 6, 5, 0, 1] (S_impl_order_lengths_l2 o0 down0) (T_impl_order_lengths_l2 o0 down0) o) (S_impl_order_lengths_l2 o0 down0 s) := by
  obtain ⟨x15, x6', x5'⟩ := s
  unfold F_impl_order_lengths_l2 at h
  try dsimp only at h
  conv => whnf
  refine Br.od h (fun p3 h => ?_) (fun p3 h => ?_)
  · conv => whnf
    refine Len.map ?_
    conv => whnf
    refine LoopQ.o [20, 19, 7, 15, 14, 6, 5, 0, 1] (S_impl_order_lengths_l1 o0 down0 x15) (T_impl_order_lengths_l1 o0 down0 x15) h (fun s o h => b_impl_order_lengths_l1 s o h) (by first | rfl | simp [restrict, look, mulN_one, V.fz, fzL, V.up, upL, fzL_map, fz_slr, fz_at, slr]) (fun _ => rfl) ?_
    rintro ⟨q27_6, q27_5⟩ h
    try dsimp only at h
    conv => whnf
    refine Ask.o h fun p28 h => ?_
    conv => whnf
    cases h; exact ⟨rfl, rfl⟩
  · conv => whnf
    cases h; exact ⟨rfl, rfl⟩

noncomputable def F_impl_order_lengths_l3 (o0 : List (List Bool)) (down0 : Bool) : (Bool × (List Int)) → Option ((Bool × (List Int)) ⊕ (List Int)) := fun (x6, x5) =>
   if (x6) = true then
    (loopO (F_impl_order_lengths_l2 o0 down0) ((0 : Int), false, x5)).bind fun (q29_6, q29_5) =>
    some (.inl (q29_6, q29_5))
   else
    some (.inr x5)
def S_impl_order_lengths_l3 (o0 : List (List Bool)) (down0 : Bool) : (Bool × (List Int)) → St := fun s => [(6, A.val (V.bool s.1)), (5, A.val ((slr true 1 vint) s.2)), (0, A.val ((slr false 1 (slr false 1 V.bool)) (o0))), (1, A.val (V.bool (down0)))]
def T_impl_order_lengths_l3 (_o0 : List (List Bool)) (_down0 : Bool) : (List Int) → Tgt
  | s => ((Ex.exit 0), [5], [(5, A.val ((slr true 1 vint) s))])
theorem b_impl_order_lengths_l3 {o0 : List (List Bool)} {down0 : Bool} (s : (Bool × (List Int))) (o : (Bool × (List Int)) ⊕ (List Int)) (h : F_impl_order_lengths_l3 o0 down0 s = some o) : vc Try.prog c_impl_order_lengths_l3 (outQ [6, 5, 0, 1] (S_impl_order_lengths_l3 o0 down0) (T_impl_order_lengths_l3 o0 down0) o) (S_impl_order_lengths_l3 o0 down0 s) := by
  obtain ⟨x6, x5⟩ := s
  unfold F_impl_order_lengths_l3 at h
  try dsimp only at h
  conv => whnf
  refine Br.ob h (fun p2 h => ?_) (fun p2 h => ?_)
  · conv => whnf
    refine Len.map ?_
    conv => whnf
    refine LoopQ.o [15, 14, 6, 5, 0, 1] (S_impl_order_lengths_l2 o0 down0) (T_impl_order_lengths_l2 o0 down0) h (fun s o h => b_impl_order_lengths_l2 s o h) (by first | rfl | simp [restrict, look, mulN_one, V.fz, fzL, V.up, upL, fzL_map, fz_slr, fz_at, slr]) (fun _ => rfl) ?_
    rintro ⟨q29_6, q29_5⟩ h
    try dsimp only at h
    conv => whnf
    cases h; exact ⟨rfl, rfl⟩
  · conv => whnf
    cases h; exact ⟨rfl, rfl⟩

noncomputable def F_impl_order_lengths (o0 : (List (List Bool))) (down0 : Bool) : Option (List Int) :=
  ask ((0 : Int) ≤ (↑o0.length : Int) ∧ (↑o0.length : Int) ≤ (↑LIM : Int)) <|
  (loopO (F_impl_order_lengths_l3 o0 down0) (true, List.replicate (↑o0.length : Int).toNat (0 : Int))).bind fun q30_5 =>
  some q30_5
theorem t_impl_order_lengths {o0 : (List (List Bool))} {down0 : Bool} {v : (List Int)} (h : F_impl_order_lengths o0 down0 = some v) : Ret Try.prog f_impl_order_lengths [(slr false 1 (slr false 1 V.bool)) o0, V.bool down0] ((slr true 1 vint) v) := by
  refine ret_vc k_impl_order_lengths (Nat.le_of_ble_eq_true rfl) ?_
  unfold F_impl_order_lengths at h
  conv => whnf
  refine Len.map ?_
  conv => whnf
  refine Ask.o h fun p1 h => ?_
  conv => whnf
  refine MkQ.o vint ((0 : Int)) rfl ?_
  conv => whnf
  refine LoopQ.o [6, 5, 0, 1] (S_impl_order_lengths_l3 o0 down0) (T_impl_order_lengths_l3 o0 down0) h (fun s o h => b_impl_order_lengths_l3 s o h) (by first | rfl | simp [restrict, look, mulN_one, V.fz, fzL, V.up, upL, fzL_map, fz_slr, fz_at, slr]) (fun _ => rfl) ?_
  rintro q30_5 h
  try dsimp only at h
  conv => whnf
  cases h; exact (by first | rfl | simp [resV, mulN_one, V.fz, fzL, V.up, upL, fzL_map, fz_slr, fz_at, slr])

noncomputable def F_impl_FirstExtension_1 (y0 : Int) (a1 : (List (List Bool))) (a2 : Int) (a3 : (List Int)) : Option Bool :=
  (F_impl_order_less (a1) (y0) (a2)).bind fun r1 =>
  if (r1) = true then
   (F_impl_hasNot (a3) (y0)).bind fun r3 =>
   some r3
  else
   some false
theorem t_impl_FirstExtension_1 {y0 : Int} {a1 : (List (List Bool))} {a2 : Int} {a3 : (List Int)} {v : Bool} (h : F_impl_FirstExtension_1 y0 a1 a2 a3 = some v) : Ret Try.prog f_impl_FirstExtension_1 [vint y0, (rP false (slr false 1 (slr false 1 V.bool))) a1, (rP false vint) a2, (rP false (slr false 1 vint)) a3] (V.bool v) := by
  refine ret_vc k_impl_FirstExtension_1 (Nat.le_of_ble_eq_true rfl) ?_
  unfold F_impl_FirstExtension_1 at h
  conv => whnf
  refine CallQ.o V.bool (by first | rfl | simp only [mulN_one, V.fz, fzL, V.up, upL, fzL_map, fz_slr, fz_at, slr, List.cons_append, List.nil_append] | simp [mulN_one, V.fz, fzL, V.up, upL, fzL_map, fz_slr, fz_at, slr]) h (fun r h => t_impl_order_less h) (fun r1 h => ?_)
  conv => whnf
  refine Br.ob h (fun p2 h => ?_) (fun p2 h => ?_)
  · conv => whnf
    refine Br.yes ?_
    conv => whnf
    refine Br.yes ?_
    conv => whnf
    refine CallQ.o V.bool (by first | rfl | simp only [mulN_one, V.fz, fzL, V.up, upL, fzL_map, fz_slr, fz_at, slr, List.cons_append, List.nil_append] | simp [mulN_one, V.fz, fzL, V.up, upL, fzL_map, fz_slr, fz_at, slr]) h (fun r h => t_impl_hasNot h) (fun r3 h => ?_)
    conv => whnf
    refine Br.yes ?_
    conv => whnf
    cases h; exact (by first | rfl | simp [resV, mulN_one, V.fz, fzL, V.up, upL, fzL_map, fz_slr, fz_at, slr])
  · conv => whnf
    refine Br.no ?_
    conv => whnf
    refine Br.no ?_
    conv => whnf
    refine Br.no ?_
    conv => whnf
    cases h; exact (by first | rfl | simp [resV, mulN_one, V.fz, fzL, V.up, upL, fzL_map, fz_slr, fz_at, slr])

noncomputable def F_spec_l2Elements_l1 (n0 : Int) (list0 : List Int) : Int → Option (Int ⊕ (Unit ⊕ Unit)) := fun x5 =>
   if x5 < (↑list0.length : Int) then
    ask ((0 : Int) ≤ x5 ∧ x5 < (↑list0.length : Int)) <|
    ask (InI (n0 - (1 : Int))) <|
    (F_spec_l1In (nth list0 x5.toNat) ((0 : Int)) (n0 - (1 : Int))).bind fun r4 =>
    if (r4) = true then
     ask (InI (x5 + (1 : Int))) <|
     some (.inl (x5 + (1 : Int)))
    else
     some (.inr (.inl ()))
   else
    some (.inr (.inr ()))
def S_spec_l2Elements_l1 (n0 : Int) (list0 : List Int) : Int → St := fun s => [(5, A.val (vint s)), (0, A.val (vint (n0))), (1, A.val ((slr false 1 vint) (list0)))]
def T_spec_l2Elements_l1 (_n0 : Int) (_list0 : List Int) : (Unit ⊕ Unit) → Tgt
  | (.inl _s) => (Ex.ret, [4], [(4, A.val (V.bool (false)))])
  | (.inr _s) => ((Ex.exit 0), [], [])
theorem b_spec_l2Elements_l1 {n0 : Int} {list0 : List Int} (x5 : Int) (o : Int ⊕ (Unit ⊕ Unit)) (h : F_spec_l2Elements_l1 n0 list0 x5 = some o) : vc Try.prog c_spec_l2Elements_l1 (outQ [5, 0, 1] (S_spec_l2Elements_l1 n0 list0) (T_spec_l2Elements_l1 n0 list0) o) (S_spec_l2Elements_l1 n0 list0 x5) := by
  unfold F_spec_l2Elements_l1 at h
  try dsimp only at h
  conv => whnf
  refine Len.map ?_
  conv => whnf
  refine Br.od h (fun p1 h => ?_) (fun p1 h => ?_)
  · conv => whnf
    refine Len.map ?_
    conv => whnf
    refine Ask.o h fun p2 h => ?_
    conv => whnf
    refine Elem.o (by first | omega | (simp only [mulN] at *; omega) | (simp [mulN] at *; omega)) ?_
    conv => whnf
    refine Ask.o h fun p3 h => ?_
    conv => whnf
    refine CallQ.o V.bool (by first | rfl | simp only [mulN_one, V.fz, fzL, V.up, upL, fzL_map, fz_slr, fz_at, slr, List.cons_append, List.nil_append] | simp [mulN_one, V.fz, fzL, V.up, upL, fzL_map, fz_slr, fz_at, slr]) h (fun r h => t_spec_l1In h) (fun r4 h => ?_)
    conv => whnf
    refine Br.flip ?_
    conv => whnf
    refine Br.ob h (fun p5 h => ?_) (fun p5 h => ?_)
    · conv => whnf
      refine Ask.o h fun p6 h => ?_
      conv => whnf
      cases h; exact ⟨rfl, rfl⟩
    · conv => whnf
      cases h; exact ⟨rfl, rfl⟩
  · conv => whnf
    cases h; exact ⟨rfl, rfl⟩

noncomputable def F_spec_l2Elements (n0 : Int) (list0 : (List Int)) : Option Bool :=
  (loopO (F_spec_l2Elements_l1 n0 list0) (0 : Int)).bind fun t => match t with
  | (.inl _) => (some false)
  | (.inr _) => (some true)
theorem t_spec_l2Elements {n0 : Int} {list0 : (List Int)} {v : Bool} (h : F_spec_l2Elements n0 list0 = some v) : Ret Try.prog f_spec_l2Elements [vint n0, (slr false 1 vint) list0] (V.bool v) := by
  refine ret_vc k_spec_l2Elements (Nat.le_of_ble_eq_true rfl) ?_
  unfold F_spec_l2Elements at h
  conv => whnf
  refine LoopQ.o [5, 0, 1] (S_spec_l2Elements_l1 n0 list0) (T_spec_l2Elements_l1 n0 list0) h (fun s o h => b_spec_l2Elements_l1 s o h) (by first | rfl | simp [restrict, look, mulN_one, V.fz, fzL, V.up, upL, fzL_map, fz_slr, fz_at, slr]) (by rintro (_ | _) <;> rfl) ?_
  rintro (⟨⟩ | ⟨⟩) h
  · try dsimp only at h
    conv => whnf
    cases h; exact (by first | rfl | simp [resV, mulN_one, V.fz, fzL, V.up, upL, fzL_map, fz_slr, fz_at, slr])
  · try dsimp only at h
    conv => whnf
    cases h; exact (by first | rfl | simp [resV, mulN_one, V.fz, fzL, V.up, upL, fzL_map, fz_slr, fz_at, slr])

noncomputable def F_spec_l23Down_l1 (p0 : SPoset) (some0 : List Int) (x6 : Int) : (Int × (List Bool)) → Option ((Int × (List Bool)) ⊕ (List Bool)) := fun (x7, x5') =>
   ask ((0 : Int) ≤ x6 ∧ x6 < (↑some0.length : Int)) <|
   ask ((0 : Int) ≤ nth some0 x6.toNat ∧ nth some0 x6.toNat < (↑p0.Below.length : Int)) <|
   if x7 < (↑(nth p0.Below (nth some0 x6.toNat).toNat).length : Int) then
    ask ((0 : Int) ≤ x6 ∧ x6 < (↑some0.length : Int)) <|
    ask ((0 : Int) ≤ nth some0 x6.toNat ∧ nth some0 x6.toNat < (↑p0.Below.length : Int)) <|
    ask ((0 : Int) ≤ x7 ∧ x7 < (↑(nth p0.Below (nth some0 x6.toNat).toNat).length : Int)) <|
    ask ((0 : Int) ≤ nth (nth p0.Below (nth some0 x6.toNat).toNat) x7.toNat ∧ nth (nth p0.Below (nth some0 x6.toNat).toNat) x7.toNat < (↑x5'.length : Int)) <|
    ask (InI (x7 + (1 : Int))) <|
    some (.inl (x7 + (1 : Int), x5'.set (nth (nth p0.Below (nth some0 x6.toNat).toNat) x7.toNat).toNat true))
   else
    some (.inr x5')
def S_spec_l23Down_l1 (p0 : SPoset) (some0 : List Int) (x6 : Int) : (Int × (List Bool)) → St := fun s => [(7, A.val (vint s.1)), (6, A.val (vint (x6))), (5, A.val ((slr true 1 V.bool) s.2)), (2, A.val ((rP true (rS_Poset false)) (p0))), (1, A.val ((slr false 1 vint) (some0)))]
def T_spec_l23Down_l1 (p0 : SPoset) (some0 : List Int) (x6 : Int) : (List Bool) → Tgt
  | s => ((Ex.exit 2), [6, 5, 2, 1], [(6, A.val (vint (x6))), (5, A.val ((slr true 1 V.bool) s)), (2, A.val ((rP true (rS_Poset false)) (p0))), (1, A.val ((slr false 1 vint) (some0)))])
theorem b_spec_l23Down_l1 {p0 : SPoset} {some0 : List Int} {x6 : Int} (s : (Int × (List Bool))) (o : (Int × (List Bool)) ⊕ (List Bool)) (h : F_spec_l23Down_l1 p0 some0 x6 s = some o) : vc Try.prog c_spec_l23Down_l1 (outQ [7, 6, 5, 2, 1] (S_spec_l23Down_l1 p0 some0 x6) (T_spec_l23Down_l1 p0 some0 x6) o) (S_spec_l23Down_l1 p0 some0 x6 s) := by
  obtain ⟨x7, x5'⟩ := s
  unfold F_spec_l23Down_l1 at h
  try dsimp only at h
  conv => whnf
  refine Cells.lit rfl rfl ?_
  conv => whnf
  refine Len.map ?_
  conv => whnf
  refine Ask.o h fun p3 h => ?_
  conv => whnf
  refine Elem.o (by first | omega | (simp only [mulN] at *; omega) | (simp [mulN] at *; omega)) ?_
  conv => whnf
  refine Len.map ?_
  conv => whnf
  refine Ask.o h fun p4 h => ?_
  conv => whnf
  refine Elem.o (by first | omega | (simp only [mulN] at *; omega) | (simp [mulN] at *; omega)) ?_
  conv => whnf
  refine Len.map ?_
  conv => whnf
  refine Br.od h (fun p5 h => ?_) (fun p5 h => ?_)
  · conv => whnf
    refine Cells.lit rfl rfl ?_
    conv => whnf
    refine Len.map ?_
    conv => whnf
    refine Ask.o h fun p6 h => ?_
    conv => whnf
    refine Elem.o (by first | omega | (simp only [mulN] at *; omega) | (simp [mulN] at *; omega)) ?_
    conv => whnf
    refine Len.map ?_
    conv => whnf
    refine Ask.o h fun p7 h => ?_
    conv => whnf
    refine Elem.o (by first | omega | (simp only [mulN] at *; omega) | (simp [mulN] at *; omega)) ?_
    conv => whnf
    refine Len.map ?_
    conv => whnf
    refine Ask.o h fun p8 h => ?_
    conv => whnf
    refine Elem.o (by first | omega | (simp only [mulN] at *; omega) | (simp [mulN] at *; omega)) ?_
    conv => whnf
    refine Len.map ?_
    conv => whnf
    refine Ask.o h fun p9 h => ?_
    conv => whnf
    refine SetKids.one (fun _ => ⟨rfl, rfl⟩) (true) (by first | rfl | simp only [mulN_one, V.fz, fzL, V.up, upL, fzL_map, fz_slr, fz_at, slr, List.cons_append, List.nil_append] | simp [mulN_one, V.fz, fzL, V.up, upL, fzL_map, fz_slr, fz_at, slr]) (by first | omega | (simp only [mulN] at *; omega) | (simp [mulN] at *; omega)) ?_
    conv => whnf
    refine Ask.o h fun p10 h => ?_
    conv => whnf
    cases h; exact ⟨rfl, rfl⟩
  · conv => whnf
    cases h; exact ⟨rfl, rfl⟩

noncomputable def F_spec_l23Down_l2 (p0 : SPoset) (some0 : List Int) : (Int × (List Bool)) → Option ((Int × (List Bool)) ⊕ (List Bool)) := fun (x6, x5) =>
   if x6 < (↑some0.length : Int) then
    (loopO (F_spec_l23Down_l1 p0 some0 x6) ((0 : Int), x5)).bind fun q11_5 =>
    ask (InI (x6 + (1 : Int))) <|
    some (.inl (x6 + (1 : Int), q11_5))
   else
    some (.inr x5)
def S_spec_l23Down_l2 (p0 : SPoset) (some0 : List Int) : (Int × (List Bool)) → St := fun s => [(6, A.val (vint s.1)), (5, A.val ((slr true 1 V.bool) s.2)), (2, A.val ((rP true (rS_Poset false)) (p0))), (1, A.val ((slr false 1 vint) (some0)))]
def T_spec_l23Down_l2 (_p0 : SPoset) (_some0 : List Int) : (List Bool) → Tgt
  | s => ((Ex.exit 0), [5], [(5, A.val ((slr true 1 V.bool) s))])
theorem b_spec_l23Down_l2 {p0 : SPoset} {some0 : List Int} (s : (Int × (List Bool))) (o : (Int × (List Bool)) ⊕ (List Bool)) (h : F_spec_l23Down_l2 p0 some0 s = some o) : vc Try.prog c_spec_l23Down_l2 (outQ [6, 5, 2, 1] (S_spec_l23Down_l2 p0 some0) (T_spec_l23Down_l2 p0 some0) o) (S_spec_l23Down_l2 p0 some0 s) := by
  obtain ⟨x6, x5⟩ := s
  unfold F_spec_l23Down_l2 at h
  try dsimp only at h
  conv => whnf
  refine Len.map ?_
  conv => whnf
  refine Br.od h (fun p2 h => ?_) (fun p2 h => ?_)
  · conv => whnf
    refine LoopQ.o [7, 6, 5, 2, 1] (S_spec_l23Down_l1 p0 some0 x6) (T_spec_l23Down_l1 p0 some0 x6) h (fun s o h => b_spec_l23Down_l1 s o h) (by first | rfl | simp [restrict, look, mulN_one, V.fz, fzL, V.up, upL, fzL_map, fz_slr, fz_at, slr]) (fun _ => rfl) ?_
    rintro q11_5 h
    try dsimp only at h
    conv => whnf
    refine Ask.o h fun p12 h => ?_
    conv => whnf
    cases h; exact ⟨rfl, rfl⟩
  · conv => whnf
    cases h; exact ⟨rfl, rfl⟩

noncomputable def F_spec_l23Down (p0 : SPoset) (some0 : (List Int)) : Option (List Int) :=
  ask ((0 : Int) ≤ (↑p0.Below.length : Int) ∧ (↑p0.Below.length : Int) ≤ (↑LIM : Int)) <|
  (loopO (F_spec_l23Down_l2 p0 some0) ((0 : Int), List.replicate (↑p0.Below.length : Int).toNat false)).bind fun q13_5 =>
  (F_spec_l5List (q13_5)).bind fun r14 =>
  some r14
theorem t_spec_l23Down {p0 : SPoset} {some0 : (List Int)} {v : (List Int)} (h : F_spec_l23Down p0 some0 = some v) : Ret Try.prog f_spec_l23Down [(rS_Poset false) p0, (slr false 1 vint) some0] ((slr true 1 vint) v) := by
  refine ret_vc k_spec_l23Down (Nat.le_of_ble_eq_true rfl) ?_
  unfold F_spec_l23Down at h
  conv => whnf
  refine Cells.lit rfl rfl ?_
  conv => whnf
  refine Len.map ?_
  conv => whnf
  refine Ask.o h fun p1 h => ?_
  conv => whnf
  refine MkQ.o V.bool (false) rfl ?_
  conv => whnf
  refine LoopQ.o [6, 5, 2, 1] (S_spec_l23Down_l2 p0 some0) (T_spec_l23Down_l2 p0 some0) h (fun s o h => b_spec_l23Down_l2 s o h) (by first | rfl | simp [restrict, look, mulN_one, V.fz, fzL, V.up, upL, fzL_map, fz_slr, fz_at, slr]) (fun _ => rfl) ?_
  rintro q13_5 h
  try dsimp only at h
  conv => whnf
  refine CallQ.rd (slr true 1 vint) (by first | rfl | simp only [V.fz, fzL_map, slr] | simp [mulN_one, V.fz, fzL, V.up, upL, fzL_map, fz_slr, fz_at, slr]) (fun _ => by simp [V.noFz, noFzL_map]) h (fun r h => t_spec_l5List h) (fun r14 h => ?_)
  conv => whnf
  cases h; exact (by first | rfl | simp [resV, mulN_one, V.fz, fzL, V.up, upL, fzL_map, fz_slr, fz_at, slr])

noncomputable def F_impl_order_dual_l1 (o0 : List (List Bool)) (x11 : Int) : (Int × (List (List Bool))) → Option ((Int × (List (List Bool))) ⊕ (List (List Bool))) := fun (x16, x3') =>
   if x16 < (↑o0.length : Int) then
    ask ((0 : Int) ≤ x11 ∧ x11 < (↑x3'.length : Int)) <|
    ask ((0 : Int) ≤ x16 ∧ x16 < (↑o0.length : Int)) <|
    ask ((0 : Int) ≤ x11 ∧ x11 < (↑(nth o0 x16.toNat).length : Int)) <|
    ask ((0 : Int) ≤ x16 ∧ x16 < (↑(nth x3' x11.toNat).length : Int)) <|
    ask (InI (x16 + (1 : Int))) <|
    some (.inl (x16 + (1 : Int), x3'.set x11.toNat ((nth x3' x11.toNat).set x16.toNat (nth (nth o0 x16.toNat) x11.toNat))))
   else
    some (.inr x3')
def S_impl_order_dual_l1 (o0 : List (List Bool)) (x11 : Int) : (Int × (List (List Bool))) → St := fun s => [(16, A.val (vint s.1)), (15, A.val (vint ((↑o0.length : Int)))), (4, A.val (vint (x11))), (11, A.val (vint (x11))), (10, A.val (vint ((↑o0.length : Int)))), (3, A.val ((slr true 1 (slr true 1 V.bool)) s.2)), (0, A.val ((slr false 1 (slr false 1 V.bool)) (o0)))]
def T_impl_order_dual_l1 (o0 : List (List Bool)) (x11 : Int) : (List (List Bool)) → Tgt
  | s => ((Ex.exit 2), [11, 10, 3, 0], [(11, A.val (vint (x11))), (10, A.val (vint ((↑o0.length : Int)))), (3, A.val ((slr true 1 (slr true 1 V.bool)) s)), (0, A.val ((slr false 1 (slr false 1 V.bool)) (o0)))])
theorem b_impl_order_dual_l1 {o0 : List (List Bool)} {x11 : Int} (s : (Int × (List (List Bool)))) (o : (Int × (List (List Bool))) ⊕ (List (List Bool))) (h : F_impl_order_dual_l1 o0 x11 s = some o) : vc Try.prog c_impl_order_dual_l1 (outQ [16, 15, 4, 11, 10, 3, 0] (S_impl_order_dual_l1 o0 x11) (T_impl_order_dual_l1 o0 x11) o) (S_impl_order_dual_l1 o0 x11 s) := by
  obtain ⟨x16, x3'⟩ := s
  unfold F_impl_order_dual_l1 at h
  try dsimp only at h
  conv => whnf
  refine Br.od h (fun p3 h => ?_) (fun p3 h => ?_)
  · conv => whnf
    refine Len.map ?_
    conv => whnf
    refine Ask.o h fun p4 h => ?_
    conv => whnf
    refine Cells.one (fun _ => ⟨rfl, rfl⟩) (by first | omega | (simp only [mulN] at *; omega) | (simp [mulN] at *; omega)) ?_
    conv => whnf
    refine Len.map ?_
    conv => whnf
    refine Ask.o h fun p5 h => ?_
    conv => whnf
    refine Elem.o (by first | omega | (simp only [mulN] at *; omega) | (simp [mulN] at *; omega)) ?_
    conv => whnf
    refine Len.map ?_
    conv => whnf
    refine Ask.o h fun p6 h => ?_
    conv => whnf
    refine Elem.o (by first | omega | (simp only [mulN] at *; omega) | (simp [mulN] at *; omega)) ?_
    conv => whnf
    refine Kid.one (fun _ => ⟨rfl, rfl⟩) (by first | omega | (simp only [mulN] at *; omega) | (simp [mulN] at *; omega)) ?_
    conv => whnf
    refine Len.map ?_
    conv => whnf
    refine Ask.o h fun p7 h => ?_
    conv => whnf
    refine Kid.one (fun _ => ⟨rfl, rfl⟩) (by first | omega | (simp only [mulN] at *; omega) | (simp [mulN] at *; omega)) ?_
    conv => whnf
    refine SetKids.one (fun _ => ⟨rfl, rfl⟩) (nth (nth o0 x16.toNat) x11.toNat) (by first | rfl | simp only [mulN_one, V.fz, fzL, V.up, upL, fzL_map, fz_slr, fz_at, slr, List.cons_append, List.nil_append] | simp [mulN_one, V.fz, fzL, V.up, upL, fzL_map, fz_slr, fz_at, slr]) (by first | omega | (simp only [mulN] at *; omega) | (simp [mulN] at *; omega)) ?_
    conv => whnf
    refine Kid.one (fun _ => ⟨rfl, rfl⟩) (by first | omega | (simp only [mulN] at *; omega) | (simp [mulN] at *; omega)) ?_
    conv => whnf
    refine SetKids.one (fun _ => ⟨rfl, rfl⟩) ((nth x3' x11.toNat).set x16.toNat (nth (nth o0 x16.toNat) x11.toNat)) (by first | rfl | simp only [mulN_one, V.fz, fzL, V.up, upL, fzL_map, fz_slr, fz_at, slr, List.cons_append, List.nil_append] | simp [mulN_one, V.fz, fzL, V.up, upL, fzL_map, fz_slr, fz_at, slr]) (by first | omega | (simp only [mulN] at *; omega) | (simp [mulN] at *; omega)) ?_
    conv => whnf
    refine Ask.o h fun p8 h => ?_
    conv => whnf
    cases h; exact ⟨rfl, rfl⟩
  · conv => whnf
    cases h; exact ⟨rfl, rfl⟩

noncomputable def F_impl_order_dual_l2 (o0 : List (List Bool)) : (Int × (List (List Bool))) → Option ((Int × (List (List Bool))) ⊕ (List (List Bool))) := fun (x11, x3) =>
   if x11 < (↑o0.length : Int) then
    (loopO (F_impl_order_dual_l1 o0 x11) ((0 : Int), x3)).bind fun q9_3 =>
    ask (InI (x11 + (1 : Int))) <|
    some (.inl (x11 + (1 : Int), q9_3))
   else
    some (.inr x3)
def S_impl_order_dual_l2 (o0 : List (List Bool)) : (Int × (List (List Bool))) → St := fun s => [(11, A.val (vint s.1)), (10, A.val (vint ((↑o0.length : Int)))), (3, A.val ((slr true 1 (slr true 1 V.bool)) s.2)), (0, A.val ((slr false 1 (slr false 1 V.bool)) (o0)))]
def T_impl_order_dual_l2 (_o0 : List (List Bool)) : (List (List Bool)) → Tgt
  | s => ((Ex.exit 0), [3], [(3, A.val ((slr true 1 (slr true 1 V.bool)) s))])
theorem b_impl_order_dual_l2 {o0 : List (List Bool)} (s : (Int × (List (List Bool)))) (o : (Int × (List (List Bool))) ⊕ (List (List Bool))) (h : F_impl_order_dual_l2 o0 s = some o) : vc Try.prog c_impl_order_dual_l2 (outQ [11, 10, 3, 0] (S_impl_order_dual_l2 o0) (T_impl_order_dual_l2 o0) o) (S_impl_order_dual_l2 o0 s) := by
  obtain ⟨x11, x3⟩ := s
  unfold F_impl_order_dual_l2 at h
  try dsimp only at h
  conv => whnf
  refine Br.od h (fun p2 h => ?_) (fun p2 h => ?_)
  · conv => whnf
    refine Len.map ?_
    conv => whnf
    refine LoopQ.o [16, 15, 4, 11, 10, 3, 0] (S_impl_order_dual_l1 o0 x11) (T_impl_order_dual_l1 o0 x11) h (fun s o h => b_impl_order_dual_l1 s o h) (by first | rfl | simp [restrict, look, mulN_one, V.fz, fzL, V.up, upL, fzL_map, fz_slr, fz_at, slr]) (fun _ => rfl) ?_
    rintro q9_3 h
    try dsimp only at h
    conv => whnf
    refine Ask.o h fun p10 h => ?_
    conv => whnf
    cases h; exact ⟨rfl, rfl⟩
  · conv => whnf
    cases h; exact ⟨rfl, rfl⟩

noncomputable def F_impl_order_dual (o0 : (List (List Bool))) : Option (List (List Bool)) :=
  (F_impl_newOrder ((↑o0.length : Int))).bind fun r1 =>
  (loopO (F_impl_order_dual_l2 o0) ((0 : Int), r1)).bind fun q11_3 =>
  some q11_3
theorem t_impl_order_dual {o0 : (List (List Bool))} {v : (List (List Bool))} (h : F_impl_order_dual o0 = some v) : Ret Try.prog f_impl_order_dual [(slr false 1 (slr false 1 V.bool)) o0] ((slr true 1 (slr true 1 V.bool)) v) := by
  refine ret_vc k_impl_order_dual (Nat.le_of_ble_eq_true rfl) ?_
  unfold F_impl_order_dual at h
  conv => whnf
  refine Len.map ?_
  conv => whnf
  refine CallQ.o (slr true 1 (slr true 1 V.bool)) (by first | rfl | simp only [mulN_one, V.fz, fzL, V.up, upL, fzL_map, fz_slr, fz_at, slr, List.cons_append, List.nil_append] | simp [mulN_one, V.fz, fzL, V.up, upL, fzL_map, fz_slr, fz_at, slr]) h (fun r h => t_impl_newOrder h) (fun r1 h => ?_)
  conv => whnf
  refine Len.map ?_
  conv => whnf
  refine LoopQ.o [11, 10, 3, 0] (S_impl_order_dual_l2 o0) (T_impl_order_dual_l2 o0) h (fun s o h => b_impl_order_dual_l2 s o h) (by first | rfl | simp [restrict, look, mulN_one, V.fz, fzL, V.up, upL, fzL_map, fz_slr, fz_at, slr]) (fun _ => rfl) ?_
  rintro q11_3 h
  try dsimp only at h
  conv => whnf
  cases h; exact (by first | rfl | simp [resV, mulN_one, V.fz, fzL, V.up, upL, fzL_map, fz_slr, fz_at, slr])

end Go.Proofs.Ythcnmahjhahafaa.Ax
