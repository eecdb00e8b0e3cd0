/-
  What the functions compute, as functions on plain data, and that the program does compute it; written by program.
-/
import Derived.Test.YtpfikenknmlajaaCode
import Derived.Test.YtpfikenknmlajaaG4
namespace Go.Proofs.Ytpfikenknmlajaa.Ax
open Go
set_option maxRecDepth 100000
set_option maxHeartbeats 4000000

noncomputable def F_spec_l23Match_l1 (self : SPoset → Int → List Bool → List Bool → List Int → Option (Bool × List Bool × List Int)) (p0 : SPoset) (x0 : Int) (taken0 : List Bool) : (Int × (List Bool) × (List Int)) → Option ((Int × (List Bool) × (List Int)) ⊕ (((List Bool) × (List Int)) ⊕ ((List Bool) × (List Int)))) := fun (x11, x62, x63) =>
   if x11 < (↑p0.Below.length : Int) then
    (((F_spec_l23Less (p0) (x0) (x11)).bind fun r2 =>
       if (r2) = true then
        ask ((0 : Int) ≤ x11 ∧ x11 < (↑taken0.length : Int)) <|
        if (nth taken0 x11.toNat) = true then
         some (.inl ())
        else
         ask ((0 : Int) ≤ x11 ∧ x11 < (↑x62.length : Int)) <|
         if (nth x62 x11.toNat) = true then
          some (.inl ())
         else
          some (.inr ())
       else
        some (.inl ()) : Option (Unit ⊕ Unit))).bind fun t => match t with
    | (.inl _) => (ask (InI (x11 + (1 : Int))) <|
      some (.inl (x11 + (1 : Int), x62, x63)))
    | (.inr _) => (ask ((0 : Int) ≤ x11 ∧ x11 < (↑x62.length : Int)) <|
      ask ((0 : Int) ≤ x11 ∧ x11 < (↑x63.length : Int)) <|
      if nth x63 x11.toNat < (0 : Int) then
       ask ((0 : Int) ≤ x11 ∧ x11 < (↑x63.length : Int)) <|
       some (.inr (.inl (x62.set x11.toNat true, x63.set x11.toNat x0)))
      else
       ask ((0 : Int) ≤ x11 ∧ x11 < (↑x63.length : Int)) <|
       (self (p0) (nth x63 x11.toNat) (taken0) (x62.set x11.toNat true) (x63)).bind fun (r15, u16, u17) =>
       if (r15) = true then
        ask ((0 : Int) ≤ x11 ∧ x11 < (↑u17.length : Int)) <|
        some (.inr (.inl (u16, u17.set x11.toNat x0)))
       else
        ask (InI (x11 + (1 : Int))) <|
        some (.inl (x11 + (1 : Int), u16, u17)))
   else
    some (.inr (.inr (x62, x63)))
def S_spec_l23Match_l1 (p0 : SPoset) (x0 : Int) (taken0 : List Bool) : (Int × (List Bool) × (List Int)) → St := fun s => [(11, A.val (vint s.1)), (5, A.val ((rP true (rS_Poset false)) (p0))), (1, A.val (vint (x0))), (2, A.val ((slr false 1 V.bool) (taken0))), (3, A.ref 62 []), (62, A.val ((slr true 1 V.bool) s.2.1)), (4, A.ref 63 []), (63, A.val ((slr true 1 vint) s.2.2))]
def T_spec_l23Match_l1 (_p0 : SPoset) (_x0 : Int) (_taken0 : List Bool) : (((List Bool) × (List Int)) ⊕ ((List Bool) × (List Int))) → Tgt
  | (.inl s) => (Ex.ret, [10, 62, 63], [(10, A.val (V.bool (true))), (62, A.val ((slr true 1 V.bool) s.1)), (63, A.val ((slr true 1 vint) s.2))])
  | (.inr s) => ((Ex.exit 0), [62, 63], [(62, A.val ((slr true 1 V.bool) s.1)), (63, A.val ((slr true 1 vint) s.2))])
theorem b_spec_l23Match_l1 {self : SPoset → Int → List Bool → List Bool → List Int → Option (Bool × List Bool × List Int)} {p0 : SPoset} {x0 : Int} {taken0 : List Bool} (hself : ∀ {w_0 w_1 w_2 w_3 w_4 v}, self w_0 w_1 w_2 w_3 w_4 = some v → RetO2 Try.prog f_spec_l23Match [(rS_Poset false) w_0, vint w_1, (slr false 1 V.bool) w_2, (slr true 1 V.bool) w_3, (slr true 1 vint) w_4] (V.bool v.1) 3 ((slr true 1 V.bool) v.2.1) 4 ((slr true 1 vint) v.2.2)) (s : (Int × (List Bool) × (List Int))) (o : (Int × (List Bool) × (List Int)) ⊕ (((List Bool) × (List Int)) ⊕ ((List Bool) × (List Int)))) (h : F_spec_l23Match_l1 self p0 x0 taken0 s = some o) : vc Try.prog c_spec_l23Match_l1 (outQ [11, 5, 1, 2, 3, 62, 4, 63] (S_spec_l23Match_l1 p0 x0 taken0) (T_spec_l23Match_l1 p0 x0 taken0) o) (S_spec_l23Match_l1 p0 x0 taken0 s) := by
  obtain ⟨x11, x62, x63⟩ := s
  unfold F_spec_l23Match_l1 at h
  try dsimp only at h
  conv => whnf
  refine Cells.lit rfl rfl ?_
  conv => whnf
  refine Len.map ?_
  conv => whnf
  refine Br.od h (fun p1 h => ?_) (fun p1 h => ?_)
  · conv => whnf
    refine CutQ.o (fun t : (Unit ⊕ Unit) => match t with | (.inl s) => ((Ex.exit 1), [11, 5, 1, 2, 3, 62, 4, 63], [(11, A.val (vint (x11))), (5, A.val ((rP true (rS_Poset false)) (p0))), (1, A.val (vint (x0))), (2, A.val ((slr false 1 V.bool) (taken0))), (3, A.ref 62 []), (62, A.val ((slr true 1 V.bool) (x62))), (4, A.ref 63 []), (63, A.val ((slr true 1 vint) (x63)))]) | (.inr s) => (Ex.normal, [11, 5, 1, 2, 3, 62, 4, 63], [(11, A.val (vint (x11))), (5, A.val ((rP true (rS_Poset false)) (p0))), (1, A.val (vint (x0))), (2, A.val ((slr false 1 V.bool) (taken0))), (3, A.ref 62 []), (62, A.val ((slr true 1 V.bool) (x62))), (4, A.ref 63 []), (63, A.val ((slr true 1 vint) (x63)))])) h ?_ ?_
    · intro t h
      conv => whnf
      refine Cells.lit rfl rfl ?_
      conv => whnf
      refine CallQ.o V.bool (by first | rfl | simp only [mulN_one, V.fz, fzL, V.up, upL, fzL_map, fz_slr, fz_at, slr, List.cons_append, List.nil_append] | simp [mulN_one, V.fz, fzL, V.up, upL, fzL_map, fz_slr, fz_at, slr]) h (fun r h => t_spec_l23Less h) (fun r2 h => ?_)
      conv => whnf
      refine Br.flip ?_
      conv => whnf
      refine Br.ob h (fun p3 h => ?_) (fun p3 h => ?_)
      · conv => whnf
        refine Br.no ?_
        conv => whnf
        refine Br.no ?_
        conv => whnf
        refine Len.map ?_
        conv => whnf
        refine Ask.o h fun p4 h => ?_
        conv => whnf
        refine Elem.o (by first | omega | (simp only [mulN] at *; omega) | (simp [mulN] at *; omega)) ?_
        conv => whnf
        refine Br.no ?_
        conv => whnf
        refine Br.no ?_
        conv => whnf
        refine Br.ob h (fun p5 h => ?_) (fun p5 h => ?_)
        · conv => whnf
          refine Br.yes ?_
          conv => whnf
          refine Br.yes ?_
          conv => whnf
          refine Br.yes ?_
          conv => whnf
          refine Br.yes ?_
          conv => whnf
          refine Br.yes ?_
          conv => whnf
          cases h; exact ⟨rfl, rfl⟩
        · conv => whnf
          refine Br.no ?_
          conv => whnf
          refine Br.no ?_
          conv => whnf
          refine Len.map ?_
          conv => whnf
          refine Ask.o h fun p6 h => ?_
          conv => whnf
          refine Br.no ?_
          conv => whnf
          refine Cells.one (fun _ => ⟨rfl, rfl⟩) (by first | omega | (simp only [mulN] at *; omega) | (simp [mulN] at *; omega)) ?_
          conv => whnf
          refine Br.no ?_
          conv => whnf
          refine Br.ob h (fun p7 h => ?_) (fun p7 h => ?_)
          · conv => whnf
            cases h; exact ⟨rfl, rfl⟩
          · conv => whnf
            cases h; exact ⟨rfl, rfl⟩
      · conv => whnf
        refine Br.yes ?_
        conv => whnf
        refine Br.yes ?_
        conv => whnf
        refine Br.yes ?_
        conv => whnf
        refine Br.yes ?_
        conv => whnf
        refine Br.yes ?_
        conv => whnf
        refine Br.yes ?_
        conv => whnf
        refine Br.yes ?_
        conv => whnf
        refine Br.yes ?_
        conv => whnf
        refine Br.yes ?_
        conv => whnf
        refine Br.yes ?_
        conv => whnf
        cases h; exact ⟨rfl, rfl⟩
    · rintro (⟨⟩ | ⟨⟩) h
      · try dsimp only at h
        conv => whnf
        refine Ask.o h fun p9 h => ?_
        conv => whnf
        cases h; exact ⟨rfl, rfl⟩
      · try dsimp only at h
        conv => whnf
        refine Len.map ?_
        conv => whnf
        refine Ask.o h fun p10 h => ?_
        conv => whnf
        refine SetKids.one (fun _ => ⟨rfl, rfl⟩) (true) (by first | rfl | simp only [mulN_one, V.fz, fzL, V.up, upL, fzL_map, fz_slr, fz_at, slr, List.cons_append, List.nil_append] | simp [mulN_one, V.fz, fzL, V.up, upL, fzL_map, fz_slr, fz_at, slr]) (by first | omega | (simp only [mulN] at *; omega) | (simp [mulN] at *; omega)) ?_
        conv => whnf
        refine Len.map ?_
        conv => whnf
        refine Ask.o h fun p11 h => ?_
        conv => whnf
        refine Cells.one (fun _ => ⟨rfl, rfl⟩) (by first | omega | (simp only [mulN] at *; omega) | (simp [mulN] at *; omega)) ?_
        conv => whnf
        refine Br.od h (fun p12 h => ?_) (fun p12 h => ?_)
        · conv => whnf
          refine Br.yes ?_
          conv => whnf
          refine Br.yes ?_
          conv => whnf
          refine Br.yes ?_
          conv => whnf
          refine Br.yes ?_
          conv => whnf
          refine Br.yes ?_
          conv => whnf
          refine Br.yes ?_
          conv => whnf
          refine Br.yes ?_
          conv => whnf
          refine Br.yes ?_
          conv => whnf
          refine Br.yes ?_
          conv => whnf
          refine Br.yes ?_
          conv => whnf
          refine Len.map ?_
          conv => whnf
          refine Ask.o h fun p13 h => ?_
          conv => whnf
          refine SetKids.one (fun _ => ⟨rfl, rfl⟩) (x0) (by first | rfl | simp only [mulN_one, V.fz, fzL, V.up, upL, fzL_map, fz_slr, fz_at, slr, List.cons_append, List.nil_append] | simp [mulN_one, V.fz, fzL, V.up, upL, fzL_map, fz_slr, fz_at, slr]) (by first | omega | (simp only [mulN] at *; omega) | (simp [mulN] at *; omega)) ?_
          conv => whnf
          cases h; exact ⟨rfl, rfl⟩
        · conv => whnf
          refine Cells.lit rfl rfl ?_
          conv => whnf
          refine Br.no ?_
          conv => whnf
          refine Br.no ?_
          conv => whnf
          refine Br.no ?_
          conv => whnf
          refine Len.map ?_
          conv => whnf
          refine Ask.o h fun p14 h => ?_
          conv => whnf
          refine Br.no ?_
          conv => whnf
          refine Cells.one (fun _ => ⟨rfl, rfl⟩) (by first | omega | (simp only [mulN] at *; omega) | (simp [mulN] at *; omega)) ?_
          conv => whnf
          refine Br.no ?_
          conv => whnf
          refine Br.no ?_
          conv => whnf
          refine Br.no ?_
          conv => whnf
          refine Br.no ?_
          conv => whnf
          refine CallQ.io2 V.bool (slr true 1 V.bool) (slr true 1 vint) (by first | rfl | simp only [mulN_one, V.fz, fzL, V.up, upL, fzL_map, fz_slr, fz_at, slr, List.cons_append, List.nil_append] | simp [mulN_one, V.fz, fzL, V.up, upL, fzL_map, fz_slr, fz_at, slr]) rfl rfl (fun _ => rfl) (fun _ => ⟨rfl, rfl⟩) (fun _ => ⟨rfl, rfl⟩) rfl rfl h (fun r h => hself h) (fun r15 u16 u17 h => ?_)
          conv => whnf
          refine Br.no ?_
          conv => whnf
          refine Br.ob h (fun p18 h => ?_) (fun p18 h => ?_)
          · conv => whnf
            refine Len.map ?_
            conv => whnf
            refine Ask.o h fun p19 h => ?_
            conv => whnf
            refine SetKids.one (fun _ => ⟨rfl, rfl⟩) (x0) (by first | rfl | simp only [mulN_one, V.fz, fzL, V.up, upL, fzL_map, fz_slr, fz_at, slr, List.cons_append, List.nil_append] | simp [mulN_one, V.fz, fzL, V.up, upL, fzL_map, fz_slr, fz_at, slr]) (by first | omega | (simp only [mulN] at *; omega) | (simp [mulN] at *; omega)) ?_
            conv => whnf
            cases h; exact ⟨rfl, rfl⟩
          · conv => whnf
            refine Ask.o h fun p20 h => ?_
            conv => whnf
            cases h; exact ⟨rfl, rfl⟩
  · conv => whnf
    cases h; exact ⟨rfl, rfl⟩

noncomputable def F_spec_l23Match_s (self : SPoset → Int → (List Bool) → (List Bool) → (List Int) → Option (Bool × (List Bool) × (List Int))) (p0 : SPoset) (x0 : Int) (taken0 : (List Bool)) (seen0 : (List Bool)) (owner0 : (List Int)) : Option (Bool × (List Bool) × (List Int)) :=
  (loopO (F_spec_l23Match_l1 self p0 x0 taken0) ((0 : Int), seen0, owner0)).bind fun t => match t with
  | (.inl (q21_62, q21_63)) => (some (true, q21_62, q21_63))
  | (.inr (q21_62, q21_63)) => (some (false, q21_62, q21_63))
noncomputable def F_spec_l23Match : Nat → SPoset → Int → (List Bool) → (List Bool) → (List Int) → Option (Bool × (List Bool) × (List Int))
  | 0 => fun _ _ _ _ _ => none
  | n + 1 => F_spec_l23Match_s (F_spec_l23Match n)
theorem t_spec_l23Match_s {self : SPoset → Int → (List Bool) → (List Bool) → (List Int) → Option (Bool × (List Bool) × (List Int))} (hself : ∀ {w_0 w_1 w_2 w_3 w_4 v}, self w_0 w_1 w_2 w_3 w_4 = some v → RetO2 Try.prog f_spec_l23Match [(rS_Poset false) w_0, vint w_1, (slr false 1 V.bool) w_2, (slr true 1 V.bool) w_3, (slr true 1 vint) w_4] (V.bool v.1) 3 ((slr true 1 V.bool) v.2.1) 4 ((slr true 1 vint) v.2.2)) {p0 : SPoset} {x0 : Int} {taken0 : (List Bool)} {seen0 : (List Bool)} {owner0 : (List Int)} {v : (Bool × (List Bool) × (List Int))} (h : F_spec_l23Match_s self p0 x0 taken0 seen0 owner0 = some v) : RetO2 Try.prog f_spec_l23Match [(rS_Poset false) p0, vint x0, (slr false 1 V.bool) taken0, (slr true 1 V.bool) seen0, (slr true 1 vint) owner0] (V.bool v.1) 3 ((slr true 1 V.bool) v.2.1) 4 ((slr true 1 vint) v.2.2) := by
  refine reto2_vc k_spec_l23Match (Nat.le_of_ble_eq_true rfl) ?_
  unfold F_spec_l23Match_s at h
  conv => whnf
  refine LoopQ.o [11, 5, 1, 2, 3, 62, 4, 63] (S_spec_l23Match_l1 p0 x0 taken0) (T_spec_l23Match_l1 p0 x0 taken0) h (fun s o h => b_spec_l23Match_l1 hself s o h) (by first | rfl | simp [restrict, look, mulN_one, V.fz, fzL, V.up, upL, fzL_map, fz_slr, fz_at, slr]) (by rintro (_ | _) <;> rfl) ?_
  rintro (⟨q21_62, q21_63⟩ | ⟨q21_62, q21_63⟩) h
  · try dsimp only at h
    conv => whnf
    cases h; exact ⟨(by first | rfl | simp only [resV, mulN_one, V.fz, fzL, V.up, upL, fzL_map, fz_slr, fz_at, slr] | simp [resV, mulN_one, V.fz, fzL, V.up, upL, fzL_map, fz_slr, fz_at, slr]), (by first | rfl | simp only [resV, mulN_one, V.fz, fzL, V.up, upL, fzL_map, fz_slr, fz_at, slr] | simp [resV, mulN_one, V.fz, fzL, V.up, upL, fzL_map, fz_slr, fz_at, slr]), (by first | rfl | simp only [resV, mulN_one, V.fz, fzL, V.up, upL, fzL_map, fz_slr, fz_at, slr] | simp [resV, mulN_one, V.fz, fzL, V.up, upL, fzL_map, fz_slr, fz_at, slr])⟩
  · try dsimp only at h
    conv => whnf
    cases h; exact ⟨(by first | rfl | simp only [resV, mulN_one, V.fz, fzL, V.up, upL, fzL_map, fz_slr, fz_at, slr] | simp [resV, mulN_one, V.fz, fzL, V.up, upL, fzL_map, fz_slr, fz_at, slr]), (by first | rfl | simp only [resV, mulN_one, V.fz, fzL, V.up, upL, fzL_map, fz_slr, fz_at, slr] | simp [resV, mulN_one, V.fz, fzL, V.up, upL, fzL_map, fz_slr, fz_at, slr]), (by first | rfl | simp only [resV, mulN_one, V.fz, fzL, V.up, upL, fzL_map, fz_slr, fz_at, slr] | simp [resV, mulN_one, V.fz, fzL, V.up, upL, fzL_map, fz_slr, fz_at, slr])⟩
theorem t_spec_l23Match_n : ∀ (n : Nat) {p0 : SPoset} {x0 : Int} {taken0 : (List Bool)} {seen0 : (List Bool)} {owner0 : (List Int)} {v : (Bool × (List Bool) × (List Int))}, F_spec_l23Match n p0 x0 taken0 seen0 owner0 = some v → RetO2 Try.prog f_spec_l23Match [(rS_Poset false) p0, vint x0, (slr false 1 V.bool) taken0, (slr true 1 V.bool) seen0, (slr true 1 vint) owner0] (V.bool v.1) 3 ((slr true 1 V.bool) v.2.1) 4 ((slr true 1 vint) v.2.2)
  | 0, _, _, _, _, _, _, h => by cases h
  | n + 1, _, _, _, _, _, _, h => t_spec_l23Match_s (fun h => t_spec_l23Match_n n h) h
theorem t_spec_l23Match {p0 : SPoset} {x0 : Int} {taken0 : (List Bool)} {seen0 : (List Bool)} {owner0 : (List Int)} {v : (Bool × (List Bool) × (List Int))} (h : (limO fun n => F_spec_l23Match n p0 x0 taken0 seen0 owner0) = some v) : RetO2 Try.prog f_spec_l23Match [(rS_Poset false) p0, vint x0, (slr false 1 V.bool) taken0, (slr true 1 V.bool) seen0, (slr true 1 vint) owner0] (V.bool v.1) 3 ((slr true 1 V.bool) v.2.1) 4 ((slr true 1 vint) v.2.2) := by
  obtain ⟨n, hn⟩ := limO_some h
  exact t_spec_l23Match_n n hn

noncomputable def F_spec_l23Followers_l1 (p0 : SPoset) (_from0 : Int) (_taken0 : List Bool) : (Int × (List Int)) → Option ((Int × (List Int)) ⊕ (List Int)) := fun (x8, x7) =>
   if x8 < (↑p0.Below.length : Int) then
    ask ((x7).length + ([(-1 : Int)]).length ≤ LIM) <|
    ask (InI (x8 + (1 : Int))) <|
    some (.inl (x8 + (1 : Int), x7 ++ [(-1 : Int)]))
   else
    some (.inr x7)
def S_spec_l23Followers_l1 (p0 : SPoset) (from0 : Int) (taken0 : List Bool) : (Int × (List Int)) → St := fun s => [(8, A.val (vint s.1)), (7, A.val ((slr true 1 vint) s.2)), (3, A.val ((rP true (rS_Poset false)) (p0))), (1, A.val (vint (from0))), (2, A.val ((slr false 1 V.bool) (taken0)))]
def T_spec_l23Followers_l1 (p0 : SPoset) (from0 : Int) (taken0 : List Bool) : (List Int) → Tgt
  | s => ((Ex.exit 0), [7, 3, 1, 2], [(7, A.val ((slr true 1 vint) s)), (3, A.val ((rP true (rS_Poset false)) (p0))), (1, A.val (vint (from0))), (2, A.val ((slr false 1 V.bool) (taken0)))])
theorem b_spec_l23Followers_l1 {p0 : SPoset} {from0 : Int} {taken0 : List Bool} (s : (Int × (List Int))) (o : (Int × (List Int)) ⊕ (List Int)) (h : F_spec_l23Followers_l1 p0 from0 taken0 s = some o) : vc Try.prog c_spec_l23Followers_l1 (outQ [8, 7, 3, 1, 2] (S_spec_l23Followers_l1 p0 from0 taken0) (T_spec_l23Followers_l1 p0 from0 taken0) o) (S_spec_l23Followers_l1 p0 from0 taken0 s) := by
  obtain ⟨x8, x7⟩ := s
  unfold F_spec_l23Followers_l1 at h
  try dsimp only at h
  conv => whnf
  refine Cells.lit rfl rfl ?_
  conv => whnf
  refine Len.map ?_
  conv => whnf
  refine Br.od h (fun p1 h => ?_) (fun p1 h => ?_)
  · conv => whnf
    refine BslQ.o vint ([(-1 : Int)]) (by exact fun _ => ⟨rfl, rfl⟩) (by first | rfl | (simp only [mulN_one, V.fz, fzL, V.up, upL, fzL_map, fz_slr, fz_at, slr, List.cons_append, List.nil_append]; done) | simp [mulN_one, V.fz, fzL, V.up, upL, fzL_map, fz_slr, fz_at, slr]) ?_
    conv => whnf
    refine NoOwn.o (fun _ => rfl) ?_
    conv => whnf
    refine AppQ.o (m := 1) vint (by exact fun _ => ⟨rfl, rfl⟩) (x7) ([(-1 : Int)]) (by first | rfl | simp only [mulN_one, V.fz, fzL, V.up, upL, fzL_map, fz_slr, fz_at, slr, List.cons_append, List.nil_append] | simp [mulN_one, V.fz, fzL, V.up, upL, fzL_map, fz_slr, fz_at, slr]) (by first | rfl | simp only [mulN_one, V.fz, fzL, V.up, upL, fzL_map, fz_slr, fz_at, slr, List.cons_append, List.nil_append] | simp [mulN_one, V.fz, fzL, V.up, upL, fzL_map, fz_slr, fz_at, slr]) h fun h => ?_
    conv => whnf
    refine Ask.o h fun p2 h => ?_
    conv => whnf
    cases h; exact ⟨rfl, rfl⟩
  · conv => whnf
    cases h; exact ⟨rfl, rfl⟩

noncomputable def F_spec_l23Followers_l2 (p0 : SPoset) (taken0 : List Bool) : (Int × Int × (List Int)) → Option ((Int × Int × (List Int)) ⊕ Int) := fun (x10, x9, x7) =>
   if x10 < (↑p0.Below.length : Int) then
    ask ((0 : Int) ≤ (↑p0.Below.length : Int) ∧ (↑p0.Below.length : Int) ≤ (↑LIM : Int)) <|
    (limO fun n => F_spec_l23Match n (p0) (x10) (taken0) (List.replicate (↑p0.Below.length : Int).toNat false) (x7)).bind fun (r6, _u7, u8) =>
    if (r6) = true then
     ask (InI (x9 + (1 : Int))) <|
     ask (InI (x10 + (1 : Int))) <|
     some (.inl (x10 + (1 : Int), x9 + (1 : Int), u8))
    else
     ask (InI (x10 + (1 : Int))) <|
     some (.inl (x10 + (1 : Int), x9, u8))
   else
    some (.inr x9)
def S_spec_l23Followers_l2 (p0 : SPoset) (taken0 : List Bool) : (Int × Int × (List Int)) → St := fun s => [(10, A.val (vint s.1)), (9, A.val (vint s.2.1)), (7, A.val ((slr true 1 vint) s.2.2)), (3, A.val ((rP true (rS_Poset false)) (p0))), (2, A.val ((slr false 1 V.bool) (taken0)))]
def T_spec_l23Followers_l2 (_p0 : SPoset) (_taken0 : List Bool) : Int → Tgt
  | s => ((Ex.exit 2), [9], [(9, A.val (vint s))])
theorem b_spec_l23Followers_l2 {p0 : SPoset} {taken0 : List Bool} (s : (Int × Int × (List Int))) (o : (Int × Int × (List Int)) ⊕ Int) (h : F_spec_l23Followers_l2 p0 taken0 s = some o) : vc Try.prog c_spec_l23Followers_l2 (outQ [10, 9, 7, 3, 2] (S_spec_l23Followers_l2 p0 taken0) (T_spec_l23Followers_l2 p0 taken0) o) (S_spec_l23Followers_l2 p0 taken0 s) := by
  obtain ⟨x10, x9, x7⟩ := s
  unfold F_spec_l23Followers_l2 at h
  try dsimp only at h
  conv => whnf
  refine Cells.lit rfl rfl ?_
  conv => whnf
  refine Len.map ?_
  conv => whnf
  refine Br.od h (fun p4 h => ?_) (fun p4 h => ?_)
  · conv => whnf
    refine Cells.lit rfl rfl ?_
    conv => whnf
    refine Cells.lit rfl rfl ?_
    conv => whnf
    refine Len.map ?_
    conv => whnf
    refine Ask.o h fun p5 h => ?_
    conv => whnf
    refine MkQ.o V.bool (false) rfl ?_
    conv => whnf
    refine CallQ.io2 V.bool (slr true 1 V.bool) (slr true 1 vint) (by first | rfl | simp only [mulN_one, V.fz, fzL, V.up, upL, fzL_map, fz_slr, fz_at, slr, List.cons_append, List.nil_append] | simp [mulN_one, V.fz, fzL, V.up, upL, fzL_map, fz_slr, fz_at, slr]) rfl rfl (fun _ => rfl) (fun _ => ⟨rfl, rfl⟩) (fun _ => ⟨rfl, rfl⟩) rfl rfl h (fun r h => t_spec_l23Match h) (fun r6 u7 u8 h => ?_)
    conv => whnf
    refine Br.ob h (fun p9 h => ?_) (fun p9 h => ?_)
    · conv => whnf
      refine Ask.o h fun p10 h => ?_
      conv => whnf
      refine Ask.o h fun p11 h => ?_
      conv => whnf
      cases h; exact ⟨rfl, rfl⟩
    · conv => whnf
      refine Ask.o h fun p12 h => ?_
      conv => whnf
      cases h; exact ⟨rfl, rfl⟩
  · conv => whnf
    cases h; exact ⟨rfl, rfl⟩

noncomputable def F_spec_l23Followers (p0 : SPoset) (from0 : Int) (taken0 : (List Bool)) : Option Int :=
  (loopO (F_spec_l23Followers_l1 p0 from0 taken0) ((0 : Int), nilL Int)).bind fun q3_7 =>
  (loopO (F_spec_l23Followers_l2 p0 taken0) (from0, (0 : Int), q3_7)).bind fun q13_9 =>
  some q13_9
theorem t_spec_l23Followers {p0 : SPoset} {from0 : Int} {taken0 : (List Bool)} {v : Int} (h : F_spec_l23Followers p0 from0 taken0 = some v) : Ret Try.prog f_spec_l23Followers [(rS_Poset false) p0, vint from0, (slr false 1 V.bool) taken0] (vint v) := by
  refine ret_vc k_spec_l23Followers (Nat.le_of_ble_eq_true rfl) ?_
  unfold F_spec_l23Followers at h
  conv => whnf
  refine BslQ.o vint (nilL Int) (by exact fun _ => ⟨rfl, rfl⟩) (by first | rfl | (simp only [mulN_one, V.fz, fzL, V.up, upL, fzL_map, fz_slr, fz_at, slr, List.cons_append, List.nil_append]; done) | simp [mulN_one, V.fz, fzL, V.up, upL, fzL_map, fz_slr, fz_at, slr]) ?_
  conv => whnf
  refine LoopQ.o [8, 7, 3, 1, 2] (S_spec_l23Followers_l1 p0 from0 taken0) (T_spec_l23Followers_l1 p0 from0 taken0) h (fun s o h => b_spec_l23Followers_l1 s o h) (by first | rfl | simp [restrict, look, mulN_one, V.fz, fzL, V.up, upL, fzL_map, fz_slr, fz_at, slr]) (fun _ => rfl) ?_
  rintro q3_7 h
  try dsimp only at h
  conv => whnf
  refine LoopQ.o [10, 9, 7, 3, 2] (S_spec_l23Followers_l2 p0 taken0) (T_spec_l23Followers_l2 p0 taken0) h (fun s o h => b_spec_l23Followers_l2 s o h) (by first | rfl | simp [restrict, look, mulN_one, V.fz, fzL, V.up, upL, fzL_map, fz_slr, fz_at, slr]) (fun _ => rfl) ?_
  rintro q13_9 h
  try dsimp only at h
  conv => whnf
  cases h; exact (by first | rfl | simp only [resV, mulN_one, V.fz, fzL, V.up, upL, fzL_map, fz_slr, fz_at, slr] | simp [resV, mulN_one, V.fz, fzL, V.up, upL, fzL_map, fz_slr, fz_at, slr])

noncomputable def F_spec_FewestChains_l1 (p0 : SPoset) (x8 : Int) (r7 : Int) : (Int × (List Int) × (List Bool)) → Option ((Int × (List Int) × (List Bool)) ⊕ ((List Int) × (List Bool))) := fun (x10, x7', x6') =>
   ((if x10 < (↑p0.Below.length : Int) then
      ask ((0 : Int) ≤ x8 ∧ x8 < (↑x7'.length : Int)) <|
      if nth x7' x8.toNat < (0 : Int) then
       some (.inl ())
      else
       some (.inr ())
     else
      some (.inr ()) : Option (Unit ⊕ Unit))).bind fun t => match t with
   | (.inl _) => ((((F_spec_l23Less (p0) (x8) (x10)).bind fun r12 =>
         if (r12) = true then
          ask ((0 : Int) ≤ x10 ∧ x10 < (↑x6'.length : Int)) <|
          if (nth x6' x10.toNat) = true then
           some (.inl ())
          else
           some (.inr ())
         else
          some (.inl ()) : Option (Unit ⊕ Unit))).bind fun t => match t with
     | (.inl _) => (ask (InI (x10 + (1 : Int))) <|
       some (.inl (x10 + (1 : Int), x7', x6')))
     | (.inr _) => (ask ((0 : Int) ≤ x10 ∧ x10 < (↑x6'.length : Int)) <|
       ask (InI (x8 + (1 : Int))) <|
       (F_spec_l23Followers (p0) (x8 + (1 : Int)) (x6'.set x10.toNat true)).bind fun r20 =>
       ask (InI (r20 + (1 : Int))) <|
       if r20 + (1 : Int) = r7 then
        ask ((0 : Int) ≤ x8 ∧ x8 < (↑x7'.length : Int)) <|
        ask (InI (x10 + (1 : Int))) <|
        some (.inl (x10 + (1 : Int), x7'.set x8.toNat x10, x6'.set x10.toNat true))
       else
        ask ((0 : Int) ≤ x10 ∧ x10 < (↑(x6'.set x10.toNat true).length : Int)) <|
        ask (InI (x10 + (1 : Int))) <|
        some (.inl (x10 + (1 : Int), x7', (x6'.set x10.toNat true).set x10.toNat false))))
   | (.inr _) => (some (.inr (x7', x6')))
def S_spec_FewestChains_l1 (p0 : SPoset) (x8 : Int) (r7 : Int) : (Int × (List Int) × (List Bool)) → St := fun s => [(10, A.val (vint s.1)), (9, A.val (vint (r7))), (8, A.val (vint (x8))), (7, A.val ((slr true 1 vint) s.2.1)), (6, A.val ((slr true 1 V.bool) s.2.2)), (5, A.val (vint ((↑p0.Below.length : Int)))), (4, A.val ((slr true 1 (slr true 1 vint)) (nilL (List Int)))), (1, A.val ((rP true (rS_Poset false)) (p0)))]
def T_spec_FewestChains_l1 (p0 : SPoset) (x8 : Int) (_r7 : Int) : ((List Int) × (List Bool)) → Tgt
  | s => ((Ex.exit 2), [8, 7, 6, 5, 4, 1], [(8, A.val (vint (x8))), (7, A.val ((slr true 1 vint) s.1)), (6, A.val ((slr true 1 V.bool) s.2)), (5, A.val (vint ((↑p0.Below.length : Int)))), (4, A.val ((slr true 1 (slr true 1 vint)) (nilL (List Int)))), (1, A.val ((rP true (rS_Poset false)) (p0)))])
theorem b_spec_FewestChains_l1 {p0 : SPoset} {x8 : Int} {r7 : Int} (s : (Int × (List Int) × (List Bool))) (o : (Int × (List Int) × (List Bool)) ⊕ ((List Int) × (List Bool))) (h : F_spec_FewestChains_l1 p0 x8 r7 s = some o) : vc Try.prog c_spec_FewestChains_l1 (outQ [10, 9, 8, 7, 6, 5, 4, 1] (S_spec_FewestChains_l1 p0 x8 r7) (T_spec_FewestChains_l1 p0 x8 r7) o) (S_spec_FewestChains_l1 p0 x8 r7 s) := by
  obtain ⟨x10, x7', x6'⟩ := s
  unfold F_spec_FewestChains_l1 at h
  try dsimp only at h
  conv => whnf
  refine CutQ.o (fun t : (Unit ⊕ Unit) => match t with | (.inl s) => (Ex.normal, [10, 9, 8, 7, 6, 5, 4, 1], [(10, A.val (vint (x10))), (9, A.val (vint (r7))), (8, A.val (vint (x8))), (7, A.val ((slr true 1 vint) (x7'))), (6, A.val ((slr true 1 V.bool) (x6'))), (5, A.val (vint ((↑p0.Below.length : Int)))), (4, A.val ((slr true 1 (slr true 1 vint)) (nilL (List Int)))), (1, A.val ((rP true (rS_Poset false)) (p0)))]) | (.inr s) => ((Ex.exit 2), [8, 7, 6, 5, 4, 1], [(8, A.val (vint (x8))), (7, A.val ((slr true 1 vint) (x7'))), (6, A.val ((slr true 1 V.bool) (x6'))), (5, A.val (vint ((↑p0.Below.length : Int)))), (4, A.val ((slr true 1 (slr true 1 vint)) (nilL (List Int)))), (1, A.val ((rP true (rS_Poset false)) (p0)))])) h ?_ ?_
  · intro t h
    conv => whnf
    refine Br.od h (fun p8 h => ?_) (fun p8 h => ?_)
    · conv => whnf
      refine Br.yes ?_
      conv => whnf
      refine Br.yes ?_
      conv => whnf
      refine Len.map ?_
      conv => whnf
      refine Ask.o h fun p9 h => ?_
      conv => whnf
      refine Br.yes ?_
      conv => whnf
      refine Cells.one (fun _ => ⟨rfl, rfl⟩) (by first | omega | (simp only [mulN] at *; omega) | (simp [mulN] at *; omega)) ?_
      conv => whnf
      refine Br.yes ?_
      conv => whnf
      refine Br.yes ?_
      conv => whnf
      refine Br.od h (fun p10 h => ?_) (fun p10 h => ?_)
      · conv => whnf
        cases h; exact ⟨rfl, rfl⟩
      · conv => whnf
        cases h; exact ⟨rfl, rfl⟩
    · conv => whnf
      refine Br.no ?_
      conv => whnf
      refine Br.no ?_
      conv => whnf
      refine Br.no ?_
      conv => whnf
      refine Br.no ?_
      conv => whnf
      refine Br.no ?_
      conv => whnf
      refine Br.no ?_
      conv => whnf
      cases h; exact ⟨rfl, rfl⟩
  · rintro (⟨⟩ | ⟨⟩) h
    · try dsimp only at h
      conv => whnf
      refine CutQ.o (fun t : (Unit ⊕ Unit) => match t with | (.inl s) => ((Ex.exit 3), [10, 9, 8, 7, 6, 5, 4, 1], [(10, A.val (vint (x10))), (9, A.val (vint (r7))), (8, A.val (vint (x8))), (7, A.val ((slr true 1 vint) (x7'))), (6, A.val ((slr true 1 V.bool) (x6'))), (5, A.val (vint ((↑p0.Below.length : Int)))), (4, A.val ((slr true 1 (slr true 1 vint)) (nilL (List Int)))), (1, A.val ((rP true (rS_Poset false)) (p0)))]) | (.inr s) => (Ex.normal, [10, 9, 8, 7, 6, 5, 4, 1], [(10, A.val (vint (x10))), (9, A.val (vint (r7))), (8, A.val (vint (x8))), (7, A.val ((slr true 1 vint) (x7'))), (6, A.val ((slr true 1 V.bool) (x6'))), (5, A.val (vint ((↑p0.Below.length : Int)))), (4, A.val ((slr true 1 (slr true 1 vint)) (nilL (List Int)))), (1, A.val ((rP true (rS_Poset false)) (p0)))])) h ?_ ?_
      · intro t h
        conv => whnf
        refine Cells.lit rfl rfl ?_
        conv => whnf
        refine CallQ.o V.bool (by first | rfl | simp only [mulN_one, V.fz, fzL, V.up, upL, fzL_map, fz_slr, fz_at, slr, List.cons_append, List.nil_append] | simp [mulN_one, V.fz, fzL, V.up, upL, fzL_map, fz_slr, fz_at, slr]) h (fun r h => t_spec_l23Less h) (fun r12 h => ?_)
        conv => whnf
        refine Br.flip ?_
        conv => whnf
        refine Br.ob h (fun p13 h => ?_) (fun p13 h => ?_)
        · conv => whnf
          refine Br.no ?_
          conv => whnf
          refine Br.no ?_
          conv => whnf
          refine Len.map ?_
          conv => whnf
          refine Ask.o h fun p14 h => ?_
          conv => whnf
          refine Br.no ?_
          conv => whnf
          refine Cells.one (fun _ => ⟨rfl, rfl⟩) (by first | omega | (simp only [mulN] at *; omega) | (simp [mulN] at *; omega)) ?_
          conv => whnf
          refine Br.no ?_
          conv => whnf
          refine Br.ob h (fun p15 h => ?_) (fun p15 h => ?_)
          · conv => whnf
            cases h; exact ⟨rfl, rfl⟩
          · conv => whnf
            cases h; exact ⟨rfl, rfl⟩
        · conv => whnf
          refine Br.yes ?_
          conv => whnf
          refine Br.yes ?_
          conv => whnf
          refine Br.yes ?_
          conv => whnf
          refine Br.yes ?_
          conv => whnf
          refine Br.yes ?_
          conv => whnf
          cases h; exact ⟨rfl, rfl⟩
      · rintro (⟨⟩ | ⟨⟩) h
        · try dsimp only at h
          conv => whnf
          refine Ask.o h fun p17 h => ?_
          conv => whnf
          cases h; exact ⟨rfl, rfl⟩
        · try dsimp only at h
          conv => whnf
          refine Len.map ?_
          conv => whnf
          refine Ask.o h fun p18 h => ?_
          conv => whnf
          refine SetKids.one (fun _ => ⟨rfl, rfl⟩) (true) (by first | rfl | simp only [mulN_one, V.fz, fzL, V.up, upL, fzL_map, fz_slr, fz_at, slr, List.cons_append, List.nil_append] | simp [mulN_one, V.fz, fzL, V.up, upL, fzL_map, fz_slr, fz_at, slr]) (by first | omega | (simp only [mulN] at *; omega) | (simp [mulN] at *; omega)) ?_
          conv => whnf
          refine Cells.lit rfl rfl ?_
          conv => whnf
          refine Ask.o h fun p19 h => ?_
          conv => whnf
          refine CallQ.rd vint (by first | rfl | simp only [mulN_one, V.fz, fzL, fzL_map, slr] | simp [mulN_one, V.fz, fzL, V.up, upL, fzL_map, fz_slr, fz_at, slr]) (fun _ => rfl) h (fun r h => t_spec_l23Followers h) (fun r20 h => ?_)
          conv => whnf
          refine Ask.o h fun p21 h => ?_
          conv => whnf
          refine Br.oe h (fun p22 h => ?_) (fun p22 h => ?_)
          · conv => whnf
            refine Len.map ?_
            conv => whnf
            refine Ask.o h fun p23 h => ?_
            conv => whnf
            refine SetKids.one (fun _ => ⟨rfl, rfl⟩) (x10) (by first | rfl | simp only [mulN_one, V.fz, fzL, V.up, upL, fzL_map, fz_slr, fz_at, slr, List.cons_append, List.nil_append] | simp [mulN_one, V.fz, fzL, V.up, upL, fzL_map, fz_slr, fz_at, slr]) (by first | omega | (simp only [mulN] at *; omega) | (simp [mulN] at *; omega)) ?_
            conv => whnf
            refine Ask.o h fun p24 h => ?_
            conv => whnf
            cases h; exact ⟨rfl, rfl⟩
          · conv => whnf
            refine Len.map ?_
            conv => whnf
            refine Ask.o h fun p25 h => ?_
            conv => whnf
            refine SetKids.one (fun _ => ⟨rfl, rfl⟩) (false) (by first | rfl | simp only [mulN_one, V.fz, fzL, V.up, upL, fzL_map, fz_slr, fz_at, slr, List.cons_append, List.nil_append] | simp [mulN_one, V.fz, fzL, V.up, upL, fzL_map, fz_slr, fz_at, slr]) (by first | omega | (simp only [mulN] at *; omega) | (simp [mulN] at *; omega)) ?_
            conv => whnf
            refine Ask.o h fun p26 h => ?_
            conv => whnf
            cases h; exact ⟨rfl, rfl⟩
    · try dsimp only at h
      conv => whnf
      cases h; exact ⟨rfl, rfl⟩

noncomputable def F_spec_FewestChains_l2 (p0 : SPoset) : (Int × (List Int) × (List Bool)) → Option ((Int × (List Int) × (List Bool)) ⊕ ((List Int) × (List Bool))) := fun (x8, x7, x6) =>
   if x8 < (↑p0.Below.length : Int) then
    ask ((0 : Int) ≤ x8 ∧ x8 < (↑x7.length : Int)) <|
    (F_spec_l23Followers (p0) (x8) (x6)).bind fun r7 =>
    (loopO (F_spec_FewestChains_l1 p0 x8 r7) ((0 : Int), x7.set x8.toNat (-1 : Int), x6)).bind fun (q27_7, q27_6) =>
    ask (InI (x8 + (1 : Int))) <|
    some (.inl (x8 + (1 : Int), q27_7, q27_6))
   else
    some (.inr (x7, x6))
def S_spec_FewestChains_l2 (p0 : SPoset) : (Int × (List Int) × (List Bool)) → St := fun s => [(8, A.val (vint s.1)), (7, A.val ((slr true 1 vint) s.2.1)), (6, A.val ((slr true 1 V.bool) s.2.2)), (5, A.val (vint ((↑p0.Below.length : Int)))), (4, A.val ((slr true 1 (slr true 1 vint)) (nilL (List Int)))), (1, A.val ((rP true (rS_Poset false)) (p0)))]
def T_spec_FewestChains_l2 (p0 : SPoset) : ((List Int) × (List Bool)) → Tgt
  | s => ((Ex.exit 0), [7, 6, 5, 4], [(7, A.val ((slr true 1 vint) s.1)), (6, A.val ((slr true 1 V.bool) s.2)), (5, A.val (vint ((↑p0.Below.length : Int)))), (4, A.val ((slr true 1 (slr true 1 vint)) (nilL (List Int))))])
theorem b_spec_FewestChains_l2 {p0 : SPoset} (s : (Int × (List Int) × (List Bool))) (o : (Int × (List Int) × (List Bool)) ⊕ ((List Int) × (List Bool))) (h : F_spec_FewestChains_l2 p0 s = some o) : vc Try.prog c_spec_FewestChains_l2 (outQ [8, 7, 6, 5, 4, 1] (S_spec_FewestChains_l2 p0) (T_spec_FewestChains_l2 p0) o) (S_spec_FewestChains_l2 p0 s) := by
  obtain ⟨x8, x7, x6⟩ := s
  unfold F_spec_FewestChains_l2 at h
  try dsimp only at h
  conv => whnf
  refine Br.od h (fun p5 h => ?_) (fun p5 h => ?_)
  · conv => whnf
    refine Len.map ?_
    conv => whnf
    refine Ask.o h fun p6 h => ?_
    conv => whnf
    refine SetKids.one (fun _ => ⟨rfl, rfl⟩) ((-1 : Int)) (by first | rfl | simp only [mulN_one, V.fz, fzL, V.up, upL, fzL_map, fz_slr, fz_at, slr, List.cons_append, List.nil_append] | simp [mulN_one, V.fz, fzL, V.up, upL, fzL_map, fz_slr, fz_at, slr]) (by first | omega | (simp only [mulN] at *; omega) | (simp [mulN] at *; omega)) ?_
    conv => whnf
    refine Cells.lit rfl rfl ?_
    conv => whnf
    refine CallQ.rd vint (by first | rfl | simp only [V.fz, fzL, V.up, fzL_map, fz_at, slr] | simp [mulN_one, V.fz, fzL, V.up, upL, fzL_map, fz_slr, fz_at, slr]) (fun _ => rfl) h (fun r h => t_spec_l23Followers h) (fun r7 h => ?_)
    conv => whnf
    refine LoopQ.o [10, 9, 8, 7, 6, 5, 4, 1] (S_spec_FewestChains_l1 p0 x8 r7) (T_spec_FewestChains_l1 p0 x8 r7) h (fun s o h => b_spec_FewestChains_l1 s o h) (by first | rfl | simp [restrict, look, mulN_one, V.fz, fzL, V.up, upL, fzL_map, fz_slr, fz_at, slr]) (fun _ => rfl) ?_
    rintro ⟨q27_7, q27_6⟩ h
    try dsimp only at h
    conv => whnf
    refine Ask.o h fun p28 h => ?_
    conv => whnf
    cases h; exact ⟨rfl, rfl⟩
  · conv => whnf
    cases h; exact ⟨rfl, rfl⟩

noncomputable def F_spec_FewestChains_l3 (_p0 : SPoset) (q29_7 : List Int) (_q29_6 : List Bool) (_x11 : Int) (_x4 : List (List Int)) : (Int × (List Int)) → Option ((Int × (List Int)) ⊕ (List Int)) := fun (x13, x12) =>
   if x13 ≥ (0 : Int) then
    ask ((x12).length + ([x13]).length ≤ LIM) <|
    ask ((0 : Int) ≤ x13 ∧ x13 < (↑q29_7.length : Int)) <|
    some (.inl (nth q29_7 x13.toNat, x12 ++ [x13]))
   else
    some (.inr x12)
def S_spec_FewestChains_l3 (p0 : SPoset) (q29_7 : List Int) (q29_6 : List Bool) (x11 : Int) (x4 : List (List Int)) : (Int × (List Int)) → St := fun s => [(13, A.val (vint s.1)), (12, A.val ((slr true 1 vint) s.2)), (11, A.val (vint (x11))), (7, A.val ((slr true 1 vint) (q29_7))), (6, A.val ((slr true 1 V.bool) (q29_6))), (5, A.val (vint ((↑p0.Below.length : Int)))), (4, A.val ((slr true 1 (slr true 1 vint)) (x4)))]
def T_spec_FewestChains_l3 (p0 : SPoset) (q29_7 : List Int) (q29_6 : List Bool) (x11 : Int) (x4 : List (List Int)) : (List Int) → Tgt
  | s => ((Ex.exit 6), [12, 11, 7, 6, 5, 4], [(12, A.val ((slr true 1 vint) s)), (11, A.val (vint (x11))), (7, A.val ((slr true 1 vint) (q29_7))), (6, A.val ((slr true 1 V.bool) (q29_6))), (5, A.val (vint ((↑p0.Below.length : Int)))), (4, A.val ((slr true 1 (slr true 1 vint)) (x4)))])
theorem b_spec_FewestChains_l3 {p0 : SPoset} {q29_7 : List Int} {q29_6 : List Bool} {x11 : Int} {x4 : List (List Int)} (s : (Int × (List Int))) (o : (Int × (List Int)) ⊕ (List Int)) (h : F_spec_FewestChains_l3 p0 q29_7 q29_6 x11 x4 s = some o) : vc Try.prog c_spec_FewestChains_l3 (outQ [13, 12, 11, 7, 6, 5, 4] (S_spec_FewestChains_l3 p0 q29_7 q29_6 x11 x4) (T_spec_FewestChains_l3 p0 q29_7 q29_6 x11 x4) o) (S_spec_FewestChains_l3 p0 q29_7 q29_6 x11 x4 s) := by
  obtain ⟨x13, x12⟩ := s
  unfold F_spec_FewestChains_l3 at h
  try dsimp only at h
  conv => whnf
  refine Br.od h (fun p34 h => ?_) (fun p34 h => ?_)
  · conv => whnf
    refine BslQ.o vint [x13] (by exact fun _ => ⟨rfl, rfl⟩) (by first | rfl | (simp only [mulN_one, V.fz, fzL, V.up, upL, fzL_map, fz_slr, fz_at, slr, List.cons_append, List.nil_append]; done) | simp [mulN_one, V.fz, fzL, V.up, upL, fzL_map, fz_slr, fz_at, slr]) ?_
    conv => whnf
    refine NoOwn.o (fun _ => rfl) ?_
    conv => whnf
    refine AppQ.o (m := 1) vint (by exact fun _ => ⟨rfl, rfl⟩) (x12) ([x13]) (by first | rfl | simp only [mulN_one, V.fz, fzL, V.up, upL, fzL_map, fz_slr, fz_at, slr, List.cons_append, List.nil_append] | simp [mulN_one, V.fz, fzL, V.up, upL, fzL_map, fz_slr, fz_at, slr]) (by first | rfl | simp only [mulN_one, V.fz, fzL, V.up, upL, fzL_map, fz_slr, fz_at, slr, List.cons_append, List.nil_append] | simp [mulN_one, V.fz, fzL, V.up, upL, fzL_map, fz_slr, fz_at, slr]) h fun h => ?_
    conv => whnf
    refine Len.map ?_
    conv => whnf
    refine Ask.o h fun p35 h => ?_
    conv => whnf
    refine Cells.one (fun _ => ⟨rfl, rfl⟩) (by first | omega | (simp only [mulN] at *; omega) | (simp [mulN] at *; omega)) ?_
    conv => whnf
    cases h; exact ⟨rfl, rfl⟩
  · conv => whnf
    cases h; exact ⟨rfl, rfl⟩

noncomputable def F_spec_FewestChains_l4 (p0 : SPoset) (q29_7 : List Int) (q29_6 : List Bool) : (Int × (List (List Int))) → Option ((Int × (List (List Int))) ⊕ (List (List Int))) := fun (x11, x4) =>
   if x11 < (↑p0.Below.length : Int) then
    ask ((0 : Int) ≤ x11 ∧ x11 < (↑q29_6.length : Int)) <|
    if (nth q29_6 x11.toNat) = true then
     ask (InI (x11 + (1 : Int))) <|
     some (.inl (x11 + (1 : Int), x4))
    else
     (loopO (F_spec_FewestChains_l3 p0 q29_7 q29_6 x11 x4) (x11, nilL Int)).bind fun q36_12 =>
     ask ((x4).length + ([q36_12]).length ≤ LIM) <|
     ask (InI (x11 + (1 : Int))) <|
     some (.inl (x11 + (1 : Int), x4 ++ [q36_12]))
   else
    some (.inr x4)
def S_spec_FewestChains_l4 (p0 : SPoset) (q29_7 : List Int) (q29_6 : List Bool) : (Int × (List (List Int))) → St := fun s => [(11, A.val (vint s.1)), (7, A.val ((slr true 1 vint) (q29_7))), (6, A.val ((slr true 1 V.bool) (q29_6))), (5, A.val (vint ((↑p0.Below.length : Int)))), (4, A.val ((slr true 1 (slr true 1 vint)) s.2))]
def T_spec_FewestChains_l4 (_p0 : SPoset) (_q29_7 : List Int) (_q29_6 : List Bool) : (List (List Int)) → Tgt
  | s => ((Ex.exit 4), [4], [(4, A.val ((slr true 1 (slr true 1 vint)) s))])
theorem b_spec_FewestChains_l4 {p0 : SPoset} {q29_7 : List Int} {q29_6 : List Bool} (s : (Int × (List (List Int)))) (o : (Int × (List (List Int))) ⊕ (List (List Int))) (h : F_spec_FewestChains_l4 p0 q29_7 q29_6 s = some o) : vc Try.prog c_spec_FewestChains_l4 (outQ [11, 7, 6, 5, 4] (S_spec_FewestChains_l4 p0 q29_7 q29_6) (T_spec_FewestChains_l4 p0 q29_7 q29_6) o) (S_spec_FewestChains_l4 p0 q29_7 q29_6 s) := by
  obtain ⟨x11, x4⟩ := s
  unfold F_spec_FewestChains_l4 at h
  try dsimp only at h
  conv => whnf
  refine Br.od h (fun p30 h => ?_) (fun p30 h => ?_)
  · conv => whnf
    refine Len.map ?_
    conv => whnf
    refine Ask.o h fun p31 h => ?_
    conv => whnf
    refine Cells.one (fun _ => ⟨rfl, rfl⟩) (by first | omega | (simp only [mulN] at *; omega) | (simp [mulN] at *; omega)) ?_
    conv => whnf
    refine Br.ob h (fun p32 h => ?_) (fun p32 h => ?_)
    · conv => whnf
      refine Ask.o h fun p33 h => ?_
      conv => whnf
      cases h; exact ⟨rfl, rfl⟩
    · conv => whnf
      refine BslQ.o vint (nilL Int) (by exact fun _ => ⟨rfl, rfl⟩) (by first | rfl | (simp only [mulN_one, V.fz, fzL, V.up, upL, fzL_map, fz_slr, fz_at, slr, List.cons_append, List.nil_append]; done) | simp [mulN_one, V.fz, fzL, V.up, upL, fzL_map, fz_slr, fz_at, slr]) ?_
      conv => whnf
      refine LoopQ.o [13, 12, 11, 7, 6, 5, 4] (S_spec_FewestChains_l3 p0 q29_7 q29_6 x11 x4) (T_spec_FewestChains_l3 p0 q29_7 q29_6 x11 x4) h (fun s o h => b_spec_FewestChains_l3 s o h) (by first | rfl | simp [restrict, look, mulN_one, V.fz, fzL, V.up, upL, fzL_map, fz_slr, fz_at, slr]) (fun _ => rfl) ?_
      rintro q36_12 h
      try dsimp only at h
      conv => whnf
      refine BslQ.o (slr true 1 vint) [q36_12] (by exact fun _ => ⟨rfl, rfl⟩) (by first | rfl | (simp only [mulN_one, V.fz, fzL, V.up, upL, fzL_map, fz_slr, fz_at, slr, List.cons_append, List.nil_append]; done) | simp [mulN_one, V.fz, fzL, V.up, upL, fzL_map, fz_slr, fz_at, slr]) ?_
      conv => whnf
      refine NoOwn.own rfl ?_
      conv => whnf
      refine AppQ.o (m := 1) (slr true 1 vint) (by exact fun _ => ⟨rfl, rfl⟩) (x4) ([q36_12]) (by first | rfl | simp only [mulN_one, V.fz, fzL, V.up, upL, fzL_map, fz_slr, fz_at, slr, List.cons_append, List.nil_append] | simp [mulN_one, V.fz, fzL, V.up, upL, fzL_map, fz_slr, fz_at, slr]) (by first | rfl | simp only [mulN_one, V.fz, fzL, V.up, upL, fzL_map, fz_slr, fz_at, slr, List.cons_append, List.nil_append] | simp [mulN_one, V.fz, fzL, V.up, upL, fzL_map, fz_slr, fz_at, slr]) h fun h => ?_
      conv => whnf
      refine Ask.o h fun p37 h => ?_
      conv => whnf
      cases h; exact ⟨rfl, rfl⟩
  · conv => whnf
    cases h; exact ⟨rfl, rfl⟩

noncomputable def F_spec_FewestChains (p0 : SPoset) : Option ((List (List Int)) × Bool) :=
  (F_spec_l23Good (p0)).bind fun r1 =>
  if (r1) = true then
   ask ((0 : Int) ≤ (↑p0.Below.length : Int) ∧ (↑p0.Below.length : Int) ≤ (↑LIM : Int)) <|
   ask ((0 : Int) ≤ (↑p0.Below.length : Int) ∧ (↑p0.Below.length : Int) ≤ (↑LIM : Int)) <|
   (loopO (F_spec_FewestChains_l2 p0) ((0 : Int), List.replicate (↑p0.Below.length : Int).toNat (0 : Int), List.replicate (↑p0.Below.length : Int).toNat false)).bind fun (q29_7, q29_6) =>
   (loopO (F_spec_FewestChains_l4 p0 q29_7 q29_6) ((0 : Int), nilL (List Int))).bind fun q38_4 =>
   some (q38_4, true)
  else
   some (nilL (List Int), false)
theorem t_spec_FewestChains {p0 : SPoset} {v : ((List (List Int)) × Bool)} (h : F_spec_FewestChains p0 = some v) : Ret Try.prog f_spec_FewestChains [(rS_Poset false) p0] ((fun r => V.tup [(slr true 1 (slr true 1 vint)) r.1, V.bool r.2]) v) := by
  refine ret_vc k_spec_FewestChains (Nat.le_of_ble_eq_true rfl) ?_
  unfold F_spec_FewestChains at h
  conv => whnf
  refine BslQ.o (slr true 1 vint) (nilL (List Int)) (by exact fun _ => ⟨rfl, rfl⟩) (by first | rfl | (simp only [mulN_one, V.fz, fzL, V.up, upL, fzL_map, fz_slr, fz_at, slr, List.cons_append, List.nil_append]; done) | simp [mulN_one, V.fz, fzL, V.up, upL, fzL_map, fz_slr, fz_at, slr]) ?_
  conv => whnf
  refine Cells.lit rfl rfl ?_
  conv => whnf
  refine CallQ.o V.bool (by first | rfl | simp only [mulN_one, V.fz, fzL, V.up, upL, fzL_map, fz_slr, fz_at, slr, List.cons_append, List.nil_append] | simp [mulN_one, V.fz, fzL, V.up, upL, fzL_map, fz_slr, fz_at, slr]) h (fun r h => t_spec_l23Good h) (fun r1 h => ?_)
  conv => whnf
  refine Br.flip ?_
  conv => whnf
  refine Br.ob h (fun p2 h => ?_) (fun p2 h => ?_)
  · conv => whnf
    refine Cells.lit rfl rfl ?_
    conv => whnf
    refine Len.map ?_
    conv => whnf
    refine Ask.o h fun p3 h => ?_
    conv => whnf
    refine MkQ.o V.bool (false) rfl ?_
    conv => whnf
    refine Ask.o h fun p4 h => ?_
    conv => whnf
    refine MkQ.o vint ((0 : Int)) rfl ?_
    conv => whnf
    refine LoopQ.o [8, 7, 6, 5, 4, 1] (S_spec_FewestChains_l2 p0) (T_spec_FewestChains_l2 p0) h (fun s o h => b_spec_FewestChains_l2 s o h) (by first | rfl | simp [restrict, look, mulN_one, V.fz, fzL, V.up, upL, fzL_map, fz_slr, fz_at, slr]) (fun _ => rfl) ?_
    rintro ⟨q29_7, q29_6⟩ h
    try dsimp only at h
    conv => whnf
    refine LoopQ.o [11, 7, 6, 5, 4] (S_spec_FewestChains_l4 p0 q29_7 q29_6) (T_spec_FewestChains_l4 p0 q29_7 q29_6) h (fun s o h => b_spec_FewestChains_l4 s o h) (by first | rfl | simp [restrict, look, mulN_one, V.fz, fzL, V.up, upL, fzL_map, fz_slr, fz_at, slr]) (fun _ => rfl) ?_
    rintro q38_4 h
    try dsimp only at h
    conv => whnf
    cases h; exact (by first | rfl | simp only [resV, mulN_one, V.fz, fzL, V.up, upL, fzL_map, fz_slr, fz_at, slr] | simp [resV, mulN_one, V.fz, fzL, V.up, upL, fzL_map, fz_slr, fz_at, slr])
  · conv => whnf
    cases h; exact (by first | rfl | simp only [resV, mulN_one, V.fz, fzL, V.up, upL, fzL_map, fz_slr, fz_at, slr] | simp [resV, mulN_one, V.fz, fzL, V.up, upL, fzL_map, fz_slr, fz_at, slr])

end Go.Proofs.Ytpfikenknmlajaa.Ax
