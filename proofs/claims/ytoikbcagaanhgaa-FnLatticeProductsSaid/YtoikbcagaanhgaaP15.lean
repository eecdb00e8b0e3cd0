/-
  What is directly above what: irreducible elements, atoms, all pairs.
-/
import Derived.Test.YtoikbcagaanhgaaP14
namespace Go.Proofs.Ytoikbcagaanhgaa.Ax
open Go Classical
section
variable {p : SPoset}
theorem F_specLess (hs : small p) (x y : Nat) (hy : y < p.Below.length) : F_spec_l23Less p x y = some (decide (x ≠ y) && below p.Below x y) := by
  unfold F_spec_l23Less
  by_cases h : x = y
  · subst h; simp
  · have : (x : Int) ≠ y := by omega
    simp only [ne_eq, this, not_false_iff, if_true, F_l23Leq hs x y hy, h, decide_true, Bool.true_and, Option.bind_some]
theorem ltB (f : Nat → Nat → Bool) (x y : Nat) : (decide (x ≠ y) && f x y) = true ↔ (x ≠ y ∧ f x y = true) := by simp
theorem F_specCovers (hs : small p) (x y : Nat) (_hx : x < p.Below.length) (hy : y < p.Below.length) : F_spec_l23Covers p x y = some (cov p.Below.length (below p.Below) x y) := by
  unfold F_spec_l23Covers
  rw [F_specLess hs x y hy]
  simp only [Option.bind_some]
  have hs0 := hs.1
  rw [lim_def] at hs0
  by_cases h : x ≠ y ∧ below p.Below x y = true
  · rw [if_pos ((ltB _ _ _).2 h)]
    rcases loop_pick (body := F_spec_l23Covers_l1 p (x : Int) (y : Int)) (fun z => (z : Int)) p.Below.length (fun z => (x ≠ z ∧ below p.Below x z = true) ∧ (z ≠ y ∧ below p.Below z y = true)) (fun _ => .inl ()) (.inr ()) (fun z hz hh => by
        unfold F_spec_l23Covers_l1
        rw [if_pos (by omega), F_specLess hs x z hz]
        simp only [Option.bind_some]
        by_cases h1 : x ≠ z ∧ below p.Below x z = true
        · rw [if_pos ((ltB _ _ _).2 h1), F_specLess hs z y hy]
          simp only [Option.bind_some]
          rw [if_neg (fun hc => hh ⟨h1, (ltB _ _ _).1 hc⟩), ask_pos (by unfold InI; omega)]; rfl
        · rw [if_neg (fun hc => h1 ((ltB _ _ _).1 hc)), ask_pos (by unfold InI; omega)]; rfl) (fun z hz hh => by
        unfold F_spec_l23Covers_l1
        rw [if_pos (by omega), F_specLess hs x z hz]
        simp only [Option.bind_some]
        rw [if_pos ((ltB _ _ _).2 hh.1), F_specLess hs z y hy]
        simp only [Option.bind_some]
        rw [if_pos ((ltB _ _ _).2 hh.2)]) (by
        unfold F_spec_l23Covers_l1
        rw [if_neg (by omega)]) with ⟨z, hz, hh, _, e⟩ | ⟨hn, e⟩
    · rw [show ((0 : Int)) = (((0 : Nat)) : Int) from rfl, e]
      unfold cov
      rw [decide_eq_false (fun hc => hc.2 z hz hh)]; rfl
    · rw [show ((0 : Int)) = (((0 : Nat)) : Int) from rfl, e]
      unfold cov
      rw [decide_eq_true ⟨h, hn⟩]; rfl
  · rw [if_neg (fun hc => h ((ltB _ _ _).1 hc))]
    unfold cov
    rw [decide_eq_false (fun hc => h hc.1)]
theorem F_covers {n : Nat} {f : Nat → Nat → Bool} (hn : n ≤ LIM) (x y : Nat) (hx : x < n) (hy : y < n) : F_impl_order_covers (tab n f) x y = some (cov n f x y) := by
  unfold F_impl_order_covers
  rw [F_less n f x y hx hy]
  simp only [Option.bind_some]
  rw [lim_def] at hn
  have htl := tab_len n f
  by_cases h : x ≠ y ∧ f x y = true
  · rw [if_pos ((ltB _ _ _).2 h)]
    rcases loop_pick (body := F_impl_order_covers_l1 (tab n f) (x : Int) (y : Int)) (fun z => (z : Int)) n (fun z => (x ≠ z ∧ f x z = true) ∧ (z ≠ y ∧ f z y = true)) (fun _ => .inl ()) (.inr ()) (fun z hz hh => by
        unfold F_impl_order_covers_l1
        rw [if_pos (by omega), F_less n f x z hx hz]
        simp only [Option.bind_some]
        by_cases h1 : x ≠ z ∧ f x z = true
        · rw [if_pos ((ltB _ _ _).2 h1), F_less n f z y hz hy]
          simp only [Option.bind_some]
          rw [if_neg (fun hc => hh ⟨h1, (ltB _ _ _).1 hc⟩), ask_pos (by unfold InI; omega)]; rfl
        · rw [if_neg (fun hc => h1 ((ltB _ _ _).1 hc)), ask_pos (by unfold InI; omega)]; rfl) (fun z hz hh => by
        unfold F_impl_order_covers_l1
        rw [if_pos (by omega), F_less n f x z hx hz]
        simp only [Option.bind_some]
        rw [if_pos ((ltB _ _ _).2 hh.1), F_less n f z y hz hy]
        simp only [Option.bind_some]
        rw [if_pos ((ltB _ _ _).2 hh.2)]) (by
        unfold F_impl_order_covers_l1
        rw [if_neg (by omega)]) with ⟨z, hz, hh, _, e⟩ | ⟨hn, e⟩
    · rw [show ((0 : Int)) = (((0 : Nat)) : Int) from rfl, e]
      unfold cov
      rw [decide_eq_false (fun hc => hc.2 z hz hh)]; rfl
    · rw [show ((0 : Int)) = (((0 : Nat)) : Int) from rfl, e]
      unfold cov
      rw [decide_eq_true ⟨h, hn⟩]; rfl
  · rw [if_neg (fun hc => h ((ltB _ _ _).1 hc))]
    unfold cov
    rw [decide_eq_false (fun hc => h hc.1)]
theorem F_lowerCovers {n : Nat} {f : Nat → Nat → Bool} (hn : n ≤ LIM) (x : Nat) (hx : x < n) : F_impl_order_lowerCovers (tab n f) x = some (sieve n fun y => cov n f y x) := by
  unfold F_impl_order_lowerCovers
  rw [F_those (n := n) (p := fun y => cov n f y x) (tab_len n f) hn (fun y hy => by
    unfold F_impl_order_lowerCovers_1
    rw [F_covers hn y x hy hx]; rfl)]
  rfl
theorem F_upperCovers {n : Nat} {f : Nat → Nat → Bool} (hn : n ≤ LIM) (x : Nat) (hx : x < n) : F_impl_order_upperCovers (tab n f) x = some (sieve n fun y => cov n f x y) := by
  unfold F_impl_order_upperCovers
  rw [F_those (n := n) (p := fun y => cov n f x y) (tab_len n f) hn (fun y hy => by
    unfold F_impl_order_upperCovers_1
    rw [F_covers hn x y hx hy]; rfl)]
  rfl
noncomputable def irr (n : Nat) (f : Nat → Nat → Bool) : List Int := sieve n fun y => decide ((sieve n fun x => cov n f x y).length = 1)
theorem F_irr (hs : small p) : F_impl_lattice_irreducibles (latOf p) = some (irr p.Below.length (below p.Below)) := by
  unfold F_impl_lattice_irreducibles
  rw [latOf_order, F_those (n := p.Below.length) (p := fun y => decide ((sieve p.Below.length fun x => cov p.Below.length (below p.Below) x y).length = 1)) (tab_len _ _) hs.1 (fun y hy => by
    unfold F_impl_lattice_irreducibles_1
    rw [latOf_order, F_lowerCovers hs.1 y hy]
    simp only [Option.bind_some]
    congr 1
    rw [Bool.eq_iff_iff]
    simp only [beq_iff_eq, decide_eq_true_eq]
    omega)]
  rfl
theorem cov_congr {n : Nat} {f g : Nat → Nat → Bool} (h : ∀ x y, x < n → y < n → f x y = g x y) {x y : Nat} (hx : x < n) (hy : y < n) : cov n f x y = cov n g x y := by
  unfold cov
  rw [decide_eq_decide, h x y hx hy]
  constructor
  · rintro ⟨h1, h2⟩
    exact ⟨h1, fun z hz hc => h2 z hz (by rw [h x z hx hz, h z y hz hy]; exact hc)⟩
  · rintro ⟨h1, h2⟩
    exact ⟨h1, fun z hz hc => h2 z hz (by rw [← h x z hx hz, ← h z y hz hy]; exact hc)⟩
theorem F_listOf {g : Slattice → Option (List Int)} {r : List Int} (hs : small p) (hr : isLat p → g (latOf p) = some r) : F_impl_listOf p g = some (if isLat p then (r, true) else ([], false)) := by
  unfold F_impl_listOf
  by_cases h : isLat p
  · rw [F_latticeOf_yes hs h, if_pos h]
    simp only [Option.bind_some, if_true]
    rw [hr h]; rfl
  · obtain ⟨l, e⟩ := F_latticeOf_no hs h
    rw [e, if_neg h]
    cases l <;> simp <;> rfl
theorem irr_len (n : Nat) (f : Nat → Nat → Bool) : (irr n f).length ≤ n := sieve_len _ _
noncomputable def atoms (n : Nat) (f : Nat → Nat → Bool) : List Int := sieve n fun x => cov n f (botN n f n) x
theorem F_specAtoms (hs : small p) (h : isLat p) : F_spec_l24Atoms p = some (atoms p.Below.length (below p.Below)) := by
  unfold F_spec_l24Atoms
  rw [F_specBottom hs h]
  simp only [Option.bind_some]
  have hb : botN p.Below.length (below p.Below) p.Below.length < p.Below.length := botN_lt h.2.2.1 h.2.1 _ (Nat.le_refl _)
  have hs0 := hs.1
  rw [lim_def] at hs0
  unfold atoms
  generalize botN p.Below.length (below p.Below) p.Below.length = b at hb
  rw [loop_sieve (body := F_spec_l24Atoms_l1 p (b : Int)) p.Below.length (fun x => cov p.Below.length (below p.Below) b x) (fun x acc hx ha => by
    unfold F_spec_l24Atoms_l1
    dsimp only
    rw [if_pos (by omega), F_specCovers hs b x hb hx]
    simp only [Option.bind_some]
    by_cases hq : cov p.Below.length (below p.Below) b x = true
    · rw [if_pos hq, if_pos hq]
      simp (disch := omega) only [ask_pos, InI_def, lim_def, List.length_cons, List.length_nil, Int.natCast_add, Int.natCast_one]
    · rw [if_neg hq, if_neg hq]
      simp (disch := omega) only [ask_pos, InI_def, Int.natCast_add, Int.natCast_one]) (fun acc => by
    unfold F_spec_l24Atoms_l1
    dsimp only
    rw [if_neg (by omega)])]
  rfl
theorem F_atoms (hs : small p) (h : isLat p) : F_impl_lattice_atoms (latOf p) = some (atoms p.Below.length (below p.Below)) := by
  unfold F_impl_lattice_atoms
  rw [F_bottom h, latOf_order]
  simp only [Option.bind_some]
  rw [F_upperCovers hs.1 _ (botN_lt h.2.2.1 h.2.1 _ (Nat.le_refl _))]
  rfl
theorem botN_congr {n : Nat} {f g : Nat → Nat → Bool} (hg : Ord n g) (hm : meets n f) (h0 : n ≠ 0) (h : ∀ x y, x < n → y < n → f x y = g x y) : ∀ i, i ≤ n → botN n f i = botN n g i := by
  intro i
  induction i with
  | zero => intro _; rfl
  | succ i ih =>
    intro hi
    have hb := botN_lt hm h0 i (by omega)
    simp only [botN]
    rw [← ih (by omega)]
    unfold inf
    rw [bnd_congr hg h (fun z hz => show lo2 f (botN n f i) i z = lo2 g (botN n f i) i z by unfold lo2; rw [h z _ hz hb, h z i hz (by omega)])]
end
end Go.Proofs.Ytoikbcagaanhgaa.Ax
