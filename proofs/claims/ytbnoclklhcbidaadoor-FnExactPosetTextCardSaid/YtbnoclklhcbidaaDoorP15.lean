/-
  What is directly above what: irreducible elements, atoms, all pairs.
-/
import Derived.Test.YtbnoclklhcbidaaDoorP14
namespace Go.Proofs.YtbnoclklhcbidaaDoor.Ax
open Go Classical

section
variable {p : SPoset}
theorem F_specLess (hs : small p) (x y : Nat) (hy : y < p.Below.length) : F_spec_l23Less p x y = some (decide (x ≠ y) && below p.Below x y) := by
  unfold F_spec_l23Less
  by_cases h : x = y
  · subst h; simp
  · have : (x : Int) ≠ y := by omega
    simp only [ne_eq, this, not_false_iff, if_true, F_l23Leq hs x y hy, h, decide_true, Bool.true_and, Option.bind_some]
theorem ltB (f : Nat → Nat → Bool) (x y : Nat) : (decide (x ≠ y) && f x y) = true ↔ (x ≠ y ∧ f x y = true) := by simp

theorem F_specCovers (hs : small p) (x y : Nat) (_hx : x < p.Below.length) (hy : y < p.Below.length) : F_spec_l23Covers p x y = some (cov p.Below.length (below p.Below) x y) := by
  unfold F_spec_l23Covers
  rw [F_specLess hs x y hy]
  simp only [Option.bind_some]
  have hs0 := hs.1
  rw [lim_def] at hs0
  by_cases h : x ≠ y ∧ below p.Below x y = true
  · rw [if_pos ((ltB _ _ _).2 h)]
    rcases loop_pick (body := F_spec_l23Covers_l1 p (x : Int) (y : Int)) (fun z => (z : Int)) p.Below.length (fun z => (x ≠ z ∧ below p.Below x z = true) ∧ (z ≠ y ∧ below p.Below z y = true)) (fun _ => .inl ()) (.inr ()) (fun z hz hh => by
        unfold F_spec_l23Covers_l1
        rw [if_pos (by omega), F_specLess hs x z hz]
        simp only [Option.bind_some]
        by_cases h1 : x ≠ z ∧ below p.Below x z = true
        · rw [if_pos ((ltB _ _ _).2 h1), F_specLess hs z y hy]
          simp only [Option.bind_some]
          rw [if_neg (fun hc => hh ⟨h1, (ltB _ _ _).1 hc⟩), ask_pos (by unfold InI; omega)]; rfl
        · rw [if_neg (fun hc => h1 ((ltB _ _ _).1 hc)), ask_pos (by unfold InI; omega)]; rfl) (fun z hz hh => by
        unfold F_spec_l23Covers_l1
        rw [if_pos (by omega), F_specLess hs x z hz]
        simp only [Option.bind_some]
        rw [if_pos ((ltB _ _ _).2 hh.1), F_specLess hs z y hy]
        simp only [Option.bind_some]
        rw [if_pos ((ltB _ _ _).2 hh.2)]) (by
        unfold F_spec_l23Covers_l1
        rw [if_neg (by omega)]) with ⟨z, hz, hh, _, e⟩ | ⟨hn, e⟩
    · rw [show ((0 : Int)) = (((0 : Nat)) : Int) from rfl, e]
      unfold cov
      rw [decide_eq_false (fun hc => hc.2 z hz hh)]; rfl
    · rw [show ((0 : Int)) = (((0 : Nat)) : Int) from rfl, e]
      unfold cov
      rw [decide_eq_true ⟨h, hn⟩]; rfl
  · rw [if_neg (fun hc => h ((ltB _ _ _).1 hc))]
    unfold cov
    rw [decide_eq_false (fun hc => h hc.1)]

theorem F_covers {n : Nat} {f : Nat → Nat → Bool} (hn : n ≤ LIM) (x y : Nat) (hx : x < n) (hy : y < n) : F_impl_order_covers (tab n f) x y = some (cov n f x y) := by
  unfold F_impl_order_covers
  rw [F_less n f x y hx hy]
  simp only [Option.bind_some]
  rw [lim_def] at hn
  have htl := tab_len n f
  by_cases h : x ≠ y ∧ f x y = true
  · rw [if_pos ((ltB _ _ _).2 h)]
    rcases loop_pick (body := F_impl_order_covers_l1 (tab n f) (x : Int) (y : Int)) (fun z => (z : Int)) n (fun z => (x ≠ z ∧ f x z = true) ∧ (z ≠ y ∧ f z y = true)) (fun _ => .inl ()) (.inr ()) (fun z hz hh => by
        unfold F_impl_order_covers_l1
        rw [if_pos (by omega), F_less n f x z hx hz]
        simp only [Option.bind_some]
        by_cases h1 : x ≠ z ∧ f x z = true
        · rw [if_pos ((ltB _ _ _).2 h1), F_less n f z y hz hy]
          simp only [Option.bind_some]
          rw [if_neg (fun hc => hh ⟨h1, (ltB _ _ _).1 hc⟩), ask_pos (by unfold InI; omega)]; rfl
        · rw [if_neg (fun hc => h1 ((ltB _ _ _).1 hc)), ask_pos (by unfold InI; omega)]; rfl) (fun z hz hh => by
        unfold F_impl_order_covers_l1
        rw [if_pos (by omega), F_less n f x z hx hz]
        simp only [Option.bind_some]
        rw [if_pos ((ltB _ _ _).2 hh.1), F_less n f z y hz hy]
        simp only [Option.bind_some]
        rw [if_pos ((ltB _ _ _).2 hh.2)]) (by
        unfold F_impl_order_covers_l1
        rw [if_neg (by omega)]) with ⟨z, hz, hh, _, e⟩ | ⟨hn, e⟩
    · rw [show ((0 : Int)) = (((0 : Nat)) : Int) from rfl, e]
      unfold cov
      rw [decide_eq_false (fun hc => hc.2 z hz hh)]; rfl
    · rw [show ((0 : Int)) = (((0 : Nat)) : Int) from rfl, e]
      unfold cov
      rw [decide_eq_true ⟨h, hn⟩]; rfl
  · rw [if_neg (fun hc => h ((ltB _ _ _).1 hc))]
    unfold cov
    rw [decide_eq_false (fun hc => h hc.1)]
/-- a loop that counts -/
theorem loop_count {body : (Int × Int) → Option ((Int × Int) ⊕ Int)} (n : Nat) (q : Nat → Bool)
    (h : ∀ (i c : Nat), i < n → c ≤ i → body ((i : Int), (c : Int)) = some (.inl (((i + 1 : Nat) : Int), if q i then ((c + 1 : Nat) : Int) else (c : Int))))
    (he : ∀ c : Nat, body ((n : Int), (c : Int)) = some (.inr (c : Int))) : loopO body (0, 0) = some ((sieve n q).length : Int) := by
  have key : loopO body (((0 : Nat) : Int), ((sieve 0 q).length : Int)) = some ((sieve n q).length : Int) :=
    loop_seq (body := body) (fun i => ((i : Int), ((sieve i q).length : Int))) n _ (fun i hi => by
      rw [h i _ hi (sieve_len i q), sieve_succ]
      by_cases hq : q i = true
      · rw [if_pos hq, if_pos hq]; simp
      · rw [if_neg hq, if_neg hq]) (he _)
  exact key

noncomputable def irr (n : Nat) (f : Nat → Nat → Bool) : List Int := sieve n fun y => decide ((sieve n fun x => cov n f x y).length = 1)
theorem cov_congr {n : Nat} {f g : Nat → Nat → Bool} (h : ∀ x y, x < n → y < n → f x y = g x y) {x y : Nat} (hx : x < n) (hy : y < n) : cov n f x y = cov n g x y := by
  unfold cov
  rw [decide_eq_decide, h x y hx hy]
  constructor
  · rintro ⟨h1, h2⟩
    exact ⟨h1, fun z hz hc => h2 z hz (by rw [h x z hx hz, h z y hz hy]; exact hc)⟩
  · rintro ⟨h1, h2⟩
    exact ⟨h1, fun z hz hc => h2 z hz (by rw [← h x z hx hz, ← h z y hz hy]; exact hc)⟩
theorem dual_below (x y : Nat) (hx : x < p.Below.length) (hy : y < p.Below.length) : below (dualP p).Below x y = opp (below p.Below) x y := below_dual hy hx
theorem irr_dual : irr (dualP p).Below.length (below (dualP p).Below) = irr p.Below.length (opp (below p.Below)) := by
  rw [dual_len]
  unfold irr
  refine sieve_congr fun y hy => ?_
  rw [sieve_congr fun x hx => cov_congr dual_below hx hy]

theorem irr_len (n : Nat) (f : Nat → Nat → Bool) : (irr n f).length ≤ n := sieve_len _ _
/-- what is directly above the bottom -/
noncomputable def atoms (n : Nat) (f : Nat → Nat → Bool) : List Int := sieve n fun x => cov n f (botN n f n) x
theorem dual_lat (h : isLat p) : isLat (dualP p) := by
  obtain ⟨hg, h0, h1, h2⟩ := h
  have hgd := good_dual hg
  have hod := good_ord hgd
  refine ⟨hgd, by rw [dual_len]; exact h0, ?_, ?_⟩
  · intro x y hx hy
    rw [dual_len] at hx hy hod ⊢
    rw [bnd_congr (good_ord hg).opp dual_below (fun z hz => show lo2 (below (dualP p).Below) x y z = lo2 (opp (below p.Below)) x y z by unfold lo2; rw [dual_below z x hz hx, dual_below z y hz hy])]
    exact h2 x y hx hy
  · intro x y hx hy
    rw [dual_len] at hx hy hod ⊢
    rw [bnd_congr (f := opp (below (dualP p).Below)) (g := below p.Below) (good_ord hg) (fun a b ha hb => dual_below b a hb ha) (fun z hz => show lo2 (opp (below (dualP p).Below)) x y z = lo2 (below p.Below) x y z by unfold lo2 opp; rw [dual_below x z hx hz, dual_below y z hy hz]; rfl)]
    exact h1 x y hx hy
theorem botN_congr {n : Nat} {f g : Nat → Nat → Bool} (hg : Ord n g) (hm : meets n f) (h0 : n ≠ 0) (h : ∀ x y, x < n → y < n → f x y = g x y) : ∀ i, i ≤ n → botN n f i = botN n g i := by
  intro i
  induction i with
  | zero => intro _; rfl
  | succ i ih =>
    intro hi
    have hb := botN_lt hm h0 i (by omega)
    simp only [botN]
    rw [← ih (by omega)]
    unfold inf
    rw [bnd_congr hg h (fun z hz => show lo2 f (botN n f i) i z = lo2 g (botN n f i) i z by unfold lo2; rw [h z _ hz hb, h z i hz (by omega)])]
theorem atoms_dual (h : isLat p) : atoms (dualP p).Below.length (below (dualP p).Below) = atoms p.Below.length (opp (below p.Below)) := by
  have hd := dual_lat h
  have hm := hd.2.2.1
  rw [dual_len] at hm
  rw [dual_len]
  unfold atoms
  refine sieve_congr fun x hx => ?_
  rw [← botN_congr (good_ord h.1).opp hm h.2.1 dual_below _ (Nat.le_refl _)]
  exact cov_congr dual_below (botN_lt hm h.2.1 _ (Nat.le_refl _)) hx
end

end Go.Proofs.YtbnoclklhcbidaaDoor.Ax
