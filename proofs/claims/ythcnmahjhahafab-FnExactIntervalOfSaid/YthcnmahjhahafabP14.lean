/-
  Meets and joins of two and of many, the ends, intervals.
-/
import Derived.Test.YthcnmahjhahafabP13
namespace Go.Proofs.Ythcnmahjhahafab.Ax
open Go Classical

section
variable {p : SPoset}
theorem two_iff {x y : Int} {n : Nat} : inSize [x, y] n ↔ (0 ≤ x ∧ x < n) ∧ 0 ≤ y ∧ y < n := by
  unfold inSize
  simp only [List.mem_cons, List.not_mem_nil, or_false, forall_eq_or_imp, forall_eq]
theorem F_isTwo (hs : small p) (x y : Int) : F_spec_l24Two p x y = some (decide (isLat p ∧ inSize [x, y] p.Below.length)) := by
  unfold F_spec_l24Two
  rw [F_l24Good hs]
  simp only [Option.bind_some]
  by_cases h : isLat p
  · rw [decide_eq_true h, F_l23Is]
    simp only [if_true, Option.bind_some]
    by_cases hx : 0 ≤ x ∧ x < p.Below.length
    · rw [decide_eq_true hx, F_l23Is]
      simp only [if_true, Option.bind_some]
      congr 1
      rw [decide_eq_decide, two_iff]
      exact ⟨fun hy => ⟨h, hx, hy⟩, fun hh => hh.2.2⟩
    · rw [decide_eq_false hx, decide_eq_false (fun hh => hx (two_iff.1 hh.2).1)]
      simp
  · rw [decide_eq_false h, decide_eq_false (fun hh => h hh.1)]
    simp
theorem latOf_order : (latOf p).order = tab p.Below.length (below p.Below) := rfl
theorem has_two (x y : Int) : F_impl_order_has (tab p.Below.length (below p.Below)) [x, y] = some (decide (inSize [x, y] p.Below.length)) := by
  rw [F_has _ _ (by rw [lim_def]; simp), tab_len]

theorem both_MeetOf (hs : small p) (x y : Int) : ∃ r, F_spec_MeetOf p x y = some r ∧ F_impl_MeetOf p x y = some r := by
  unfold F_spec_MeetOf F_impl_MeetOf
  rw [F_isTwo hs]
  simp only [Option.bind_some]
  by_cases h : isLat p
  · rw [F_latticeOf_yes hs h]
    simp only [Option.bind_some, if_true, latOf_order, has_two]
    by_cases h2 : inSize [x, y] p.Below.length
    · obtain ⟨hx, hy⟩ := two_iff.1 h2
      have ex : x = ((x.toNat : Nat) : Int) := by omega
      have ey : y = ((y.toNat : Nat) : Int) := by omega
      rw [decide_eq_true (show isLat p ∧ inSize [x, y] p.Below.length from ⟨h, h2⟩), decide_eq_true h2]
      simp only [Option.bind_some, if_true]
      unfold F_spec_l24Meet
      have hl : (latOf p).meets = mtab p.Below.length (below p.Below) := rfl
      rw [show F_spec_l24Bound p [x, y] = F_spec_l24Bound p [((x.toNat : Nat) : Int), ((y.toNat : Nat) : Int)] by rw [← ex, ← ey], F_l24Two hs h.1 (by omega) (by omega), hl]
      have hr : (nth (mtab p.Below.length (below p.Below)) x.toNat).length = p.Below.length := by rw [mtab_row (by omega), mrow_len]
      rw [ask_pos (by rw [mtab_len]; omega), ask_pos (by rw [hr]; omega), mtab_at (by omega) (by omega)]
      exact ⟨_, rfl, rfl⟩
    · rw [decide_eq_false (fun hh => h2 hh.2), decide_eq_false h2]
      exact ⟨(0, false), by simp, by simp⟩
  · obtain ⟨l, e⟩ := F_latticeOf_no hs h
    rw [e, decide_eq_false (fun hh => h hh.1)]
    refine ⟨(0, false), by simp, ?_⟩
    cases l <;> simp

theorem both_JoinOf (hs : small p) (x y : Int) : ∃ r, F_spec_JoinOf p x y = some r ∧ F_impl_JoinOf p x y = some r := by
  unfold F_spec_JoinOf F_impl_JoinOf
  rw [F_isTwo hs]
  simp only [Option.bind_some]
  by_cases h : isLat p
  · rw [F_latticeOf_yes hs h]
    simp only [Option.bind_some, if_true, latOf_order, has_two]
    by_cases h2 : inSize [x, y] p.Below.length
    · obtain ⟨hx, hy⟩ := two_iff.1 h2
      have ex : x = ((x.toNat : Nat) : Int) := by omega
      have ey : y = ((y.toNat : Nat) : Int) := by omega
      rw [decide_eq_true (show isLat p ∧ inSize [x, y] p.Below.length from ⟨h, h2⟩), decide_eq_true h2]
      simp only [Option.bind_some, if_true]
      unfold F_spec_l24Join
      rw [F_l23Dual hs]
      simp only [Option.bind_some]
      have hl : (latOf p).joins = mtab p.Below.length (opp (below p.Below)) := rfl
      rw [show F_spec_l24Bound (dualP p) [x, y] = F_spec_l24Bound (dualP p) [((x.toNat : Nat) : Int), ((y.toNat : Nat) : Int)] by rw [← ex, ← ey], F_l24TwoD hs h.1 (by omega) (by omega), hl]
      have hr : (nth (mtab p.Below.length (opp (below p.Below))) x.toNat).length = p.Below.length := by rw [mtab_row (by omega), mrow_len]
      rw [ask_pos (by rw [mtab_len]; omega), ask_pos (by rw [hr]; omega), mtab_at (by omega) (by omega)]
      exact ⟨_, rfl, rfl⟩
    · rw [decide_eq_false (fun hh => h2 hh.2), decide_eq_false h2]
      exact ⟨(0, false), by simp, by simp⟩
  · obtain ⟨l, e⟩ := F_latticeOf_no hs h
    rw [e, decide_eq_false (fun hh => h hh.1)]
    refine ⟨(0, false), by simp, ?_⟩
    cases l <;> simp

theorem both_IntervalOf (hs : small p) (x y : Int) : ∃ r, F_spec_IntervalOf p x y = some r ∧ F_impl_IntervalOf p x y = some r ∧ r.1.length ≤ LIM := by
  unfold F_spec_IntervalOf F_impl_IntervalOf
  rw [F_isTwo hs]
  simp only [Option.bind_some]
  by_cases h : isLat p
  · rw [F_latticeOf_yes hs h]
    simp only [Option.bind_some, if_true, latOf_order, has_two]
    by_cases h2 : inSize [x, y] p.Below.length
    · obtain ⟨hx, hy⟩ := two_iff.1 h2
      obtain ⟨a, rfl⟩ : ∃ a : Nat, x = a := ⟨x.toNat, by omega⟩
      obtain ⟨b, rfl⟩ : ∃ b : Nat, y = b := ⟨y.toNat, by omega⟩
      have ha : a < p.Below.length := by omega
      have hb : b < p.Below.length := by omega
      have h10 : p.Below.length ≤ 10 := h.1.1
      have htl := tab_len p.Below.length (below p.Below)
      have hrl := tab_row_len p.Below.length (below p.Below) a ha
      rw [decide_eq_true (show isLat p ∧ inSize [(a : Int), (b : Int)] p.Below.length from ⟨h, h2⟩), decide_eq_true h2, F_l23Leq hs a b hb]
      simp only [Option.bind_some, if_true, Int.toNat_natCast, htl, hrl]
      rw [ask_pos (by omega), ask_pos (by omega)]
      simp only [tab_at _ _ a b ha hb]
      by_cases hab : below p.Below a b = true
      · rw [if_pos hab]
        simp only [Option.bind_some]
        unfold F_impl_order_interval
        rw [F_those (n := p.Below.length) (p := fun z => below p.Below a z && below p.Below z b) htl hs.1 (fun z hz => by
          unfold F_impl_order_interval_1
          have hzl := tab_row_len p.Below.length (below p.Below) z hz
          simp only [Int.toNat_natCast, htl, hrl, hzl]
          rw [ask_pos (by omega), ask_pos (by omega), tab_at _ _ a z ha hz]
          cases hc : below p.Below a z
          · simp
          · rw [if_pos rfl, ask_pos (by omega), ask_pos (by omega), tab_at _ _ z b hz hb]; simp)]
        rw [loop_sieve (body := F_spec_IntervalOf_l1 p (a : Int) (b : Int)) p.Below.length (fun z => below p.Below a z && below p.Below z b) (fun z acc hz hacc => by
          unfold F_spec_IntervalOf_l1
          dsimp only
          rw [if_pos (by omega), F_l23Leq hs a z hz]
          simp only [Option.bind_some]
          cases hc : below p.Below a z
          · simp only [Bool.false_and, Bool.false_eq_true, if_false]
            simp (disch := omega) only [ask_pos, InI_def, Int.natCast_add, Int.natCast_one]
          · simp only [Bool.true_and, if_true]
            rw [F_l23Leq hs z b hb]
            simp only [Option.bind_some]
            cases hd : below p.Below z b
            · simp only [Bool.false_eq_true, if_false]
              simp (disch := omega) only [ask_pos, InI_def, Int.natCast_add, Int.natCast_one]
            · simp only [if_true]
              simp (disch := omega) only [ask_pos, InI_def, lim_def, List.length_cons, List.length_nil, Int.natCast_add, Int.natCast_one]) (fun acc => by
          unfold F_spec_IntervalOf_l1
          dsimp only
          rw [if_neg (by omega)])]
        exact ⟨_, rfl, rfl, Nat.le_trans (sieve_len _ _) hs.1⟩
      · rw [if_neg hab]
        exact ⟨([], false), rfl, rfl, by simp⟩
    · rw [decide_eq_false (fun hh => h2 hh.2), decide_eq_false h2]
      exact ⟨([], false), by simp, by simp, by simp⟩
  · obtain ⟨l, e⟩ := F_latticeOf_no hs h
    rw [e, decide_eq_false (fun hh => h hh.1)]
    refine ⟨([], false), by simp, ?_, by simp⟩
    cases l <;> simp
end

/-- from 0 on, down to the bottom -/
noncomputable def botN (n : Nat) (f : Nat → Nat → Bool) : Nat → Nat
  | 0 => 0
  | i + 1 => inf n f (botN n f i) i
section
variable {n : Nat} {f : Nat → Nat → Bool}
theorem botN_lt (hm : meets n f) (h0 : n ≠ 0) : ∀ i, i ≤ n → botN n f i < n := by
  intro i
  induction i with
  | zero => intro _; simp only [botN]; omega
  | succ i ih => intro hi; exact inf_lt hm (ih (by omega)) (by omega)
theorem botN_le (ho : Ord n f) (hm : meets n f) (h0 : n ≠ 0) : ∀ i, i ≤ n → ∀ x, x < i → f (botN n f i) x = true := by
  intro i
  induction i with
  | zero => intro _ x hx; omega
  | succ i ih =>
    intro hi x hx
    have hb := botN_lt hm h0 i (by omega)
    simp only [botN]
    by_cases hxi : x = i
    · subst hxi; exact inf_right hm hb (by omega)
    · exact ho.trans _ _ _ (inf_lt hm hb (by omega)) hb (by omega) (inf_left hm hb (by omega)) (ih (by omega) x (by omega))
theorem botN_bnd (ho : Ord n f) (hm : meets n f) (h0 : n ≠ 0) : isBnd n (opp f) (fun _ => true) (botN n f n) :=
  ⟨botN_lt hm h0 n (Nat.le_refl n), rfl, fun z hz _ => botN_le ho hm h0 n (Nat.le_refl n) z hz⟩
theorem bnd_all (ho : Ord n f) (hm : meets n f) (h0 : n ≠ 0) : bnd n (opp f) (fun _ => true) = botN n f n := bnd_eq ho.opp (botN_bnd ho hm h0)
end

section
variable {p : SPoset}
theorem lat_ends (h : isLat p) : isBnd p.Below.length (opp (below p.Below)) (fun _ => true) (botN p.Below.length (below p.Below) p.Below.length) ∧ isBnd p.Below.length (below p.Below) (fun _ => true) (botN p.Below.length (opp (below p.Below)) p.Below.length) := by
  obtain ⟨hg, h0, h1, h2⟩ := h
  exact ⟨botN_bnd (good_ord hg) h1 h0, botN_bnd (f := opp (below p.Below)) (good_ord hg).opp h2 h0⟩
theorem mt_at {g : Nat → Nat → Bool} {n : Nat} (hm : meets n g) {x y : Nat} (hx : x < n) (hy : y < n) : nth (nth (mtab n g) x) y = (inf n g x y : Int) := by
  rw [mtab_at hx hy, bnd_inf hm hx hy]
theorem mt_row {g : Nat → Nat → Bool} {n x : Nat} (hx : x < n) : (nth (mtab n g) x).length = n := by rw [mtab_row hx, mrow_len]

theorem F_bottom (h : isLat p) : F_impl_lattice_bottom (latOf p) = some (botN p.Below.length (below p.Below) p.Below.length : Int) := by
  obtain ⟨hg, h0, h1, h2⟩ := h
  have h10 : p.Below.length ≤ 10 := hg.1
  unfold F_impl_lattice_bottom
  have htl := tab_len p.Below.length (below p.Below)
  have key : loopO (F_impl_lattice_bottom_l1 (latOf p)) (((0 : Nat) : Int), ((botN p.Below.length (below p.Below) 0 : Nat) : Int)) = some ((botN p.Below.length (below p.Below) p.Below.length : Nat) : Int) :=
    loop_seq (body := F_impl_lattice_bottom_l1 (latOf p)) (fun i => ((i : Int), ((botN p.Below.length (below p.Below) i : Nat) : Int))) p.Below.length _ (fun i hi => by
      unfold F_impl_lattice_bottom_l1
      dsimp only
      have hb := botN_lt h1 h0 i (by omega)
      have hl : (latOf p).meets = mtab p.Below.length (below p.Below) := rfl
      have ho : (latOf p).order.length = p.Below.length := htl
      have hml := mtab_len (n := p.Below.length) (f := below p.Below)
      have hmr := mt_row (g := below p.Below) hb
      rw [hl, ho, if_pos (by omega), hml, Int.toNat_natCast, hmr, ask_pos (by omega), ask_pos (by omega), ask_pos (by unfold InI; omega), Int.toNat_natCast, mt_at h1 hb hi]
      rfl) (by
      unfold F_impl_lattice_bottom_l1
      dsimp only
      have ho : (latOf p).order.length = p.Below.length := htl
      rw [ho, if_neg (by omega)])
  have e0 : ((0 : Int), (0 : Int)) = (((0 : Nat) : Int), ((botN p.Below.length (below p.Below) 0 : Nat) : Int)) := rfl
  rw [e0, key]; rfl
theorem F_top (h : isLat p) : F_impl_lattice_top (latOf p) = some (botN p.Below.length (opp (below p.Below)) p.Below.length : Int) := by
  obtain ⟨hg, h0, h1, h2⟩ := h
  have h10 : p.Below.length ≤ 10 := hg.1
  unfold F_impl_lattice_top
  have htl := tab_len p.Below.length (below p.Below)
  have key : loopO (F_impl_lattice_top_l1 (latOf p)) (((0 : Nat) : Int), ((botN p.Below.length (opp (below p.Below)) 0 : Nat) : Int)) = some ((botN p.Below.length (opp (below p.Below)) p.Below.length : Nat) : Int) :=
    loop_seq (body := F_impl_lattice_top_l1 (latOf p)) (fun i => ((i : Int), ((botN p.Below.length (opp (below p.Below)) i : Nat) : Int))) p.Below.length _ (fun i hi => by
      unfold F_impl_lattice_top_l1
      dsimp only
      have hb := botN_lt h2 h0 i (by omega)
      have hl : (latOf p).joins = mtab p.Below.length (opp (below p.Below)) := rfl
      have ho : (latOf p).order.length = p.Below.length := htl
      have hml := mtab_len (n := p.Below.length) (f := opp (below p.Below))
      have hmr := mt_row (g := opp (below p.Below)) hb
      rw [hl, ho, if_pos (by omega), hml, Int.toNat_natCast, hmr, ask_pos (by omega), ask_pos (by omega), ask_pos (by unfold InI; omega), Int.toNat_natCast, mt_at h2 hb hi]
      rfl) (by
      unfold F_impl_lattice_top_l1
      dsimp only
      have ho : (latOf p).order.length = p.Below.length := htl
      rw [ho, if_neg (by omega)])
  have e0 : ((0 : Int), (0 : Int)) = (((0 : Nat) : Int), ((botN p.Below.length (opp (below p.Below)) 0 : Nat) : Int)) := rfl
  rw [e0, key]; rfl
theorem nil_in (n : Nat) : inSize (nilL Int) n := by intro x hx; cases hx
theorem nil_len : (nilL Int).length ≤ LIM := by rw [lim_def]; simp [nilL]
theorem loA_nilL (f : Nat → Nat → Bool) : loA f (nilL Int) = fun _ => true := loA_nil
theorem F_specBottom (hs : small p) (h : isLat p) : F_spec_l24Bottom p = some (botN p.Below.length (below p.Below) p.Below.length : Int) := by
  unfold F_spec_l24Bottom
  rw [F_l23Dual hs]
  simp only [Option.bind_some]
  rw [F_l24BoundD hs h.1 _ (nil_in _) nil_len, loA_nilL, bnd_eq (good_ord h.1).opp (lat_ends h).1]
  rfl
theorem F_specTop (hs : small p) (h : isLat p) : F_spec_l24Top p = some (botN p.Below.length (opp (below p.Below)) p.Below.length : Int) := by
  unfold F_spec_l24Top
  rw [F_l24Bound hs h.1 _ (nil_in _) nil_len, loA_nilL, bnd_eq (good_ord h.1) (lat_ends h).2]
  rfl
theorem both_EndsOf (hs : small p) : ∃ r, F_spec_EndsOf p = some r ∧ F_impl_EndsOf p = some r := by
  unfold F_spec_EndsOf F_impl_EndsOf
  rw [F_l24Good hs]
  simp only [Option.bind_some]
  by_cases h : isLat p
  · rw [F_latticeOf_yes hs h, decide_eq_true h]
    simp only [Option.bind_some, if_true]
    rw [F_specBottom hs h, F_bottom h]
    simp only [Option.bind_some]
    rw [F_specTop hs h, F_top h]
    exact ⟨_, rfl, rfl⟩
  · obtain ⟨l, e⟩ := F_latticeOf_no hs h
    rw [e, decide_eq_false h]
    refine ⟨(0, 0, false), by simp, ?_⟩
    cases l <;> simp

theorem F_l24Some (hs : small p) (xs : List Int) (hl : xs.length ≤ LIM) : F_spec_l24Some p xs = some (decide (isLat p ∧ xs.length ≤ 20 ∧ inSize xs p.Below.length)) := by
  unfold F_spec_l24Some
  rw [F_l24Good hs]
  simp only [Option.bind_some]
  by_cases h : isLat p
  · rw [decide_eq_true h]
    simp only [if_true]
    by_cases h20 : xs.length ≤ 20
    · rw [if_pos (by omega), F_l2Elements _ _ hl hs.1]
      simp only [Option.bind_some]
      congr 1
      rw [decide_eq_decide]
      exact ⟨fun hh => ⟨h, h20, hh⟩, fun hh => hh.2.2⟩
    · rw [if_neg (by omega), decide_eq_false (fun hh => h20 hh.2.1)]
  · rw [decide_eq_false h, decide_eq_false (fun hh => h hh.1)]
    simp

theorem fold_lt {n : Nat} {f : Nat → Nat → Bool} (hm : meets n f) {t : Nat} (ht : t < n) : ∀ (xs : List Int), inSize xs n → xs.foldl (fun m x => inf n f m x.toNat) t < n := by
  intro xs
  induction xs generalizing t with
  | nil => intro _; exact ht
  | cons x r ih =>
    intro hx
    have := hx x (by simp)
    exact ih (inf_lt hm ht (by omega)) fun y hy => hx y (by simp [hy])
theorem fold_take {n : Nat} {f : Nat → Nat → Bool} (t : Nat) (xs : List Int) {i : Nat} (hi : i < xs.length) : (xs.take (i + 1)).foldl (fun m x => inf n f m x.toNat) t = inf n f ((xs.take i).foldl (fun m x => inf n f m x.toNat) t) (nth xs i).toNat := by
  rw [take_nth hi, List.foldl_append]; rfl
theorem inSize_take {xs : List Int} {n : Nat} (h : inSize xs n) (i : Nat) : inSize (xs.take i) n := fun x hx => h x (List.mem_of_mem_take hx)

theorem F_joinAll (h : isLat p) (xs : List Int) (hx : inSize xs p.Below.length) (hl : xs.length ≤ 20) : F_impl_lattice_joinAll (latOf p) xs = some (bnd p.Below.length (opp (below p.Below)) (loA (opp (below p.Below)) xs)) := by
  unfold F_impl_lattice_joinAll
  rw [F_bottom h]
  simp only [Option.bind_some]
  obtain ⟨hg, h0, h1, h2⟩ := h
  have hb := botN_lt h1 h0 p.Below.length (Nat.le_refl _)
  have h10 : p.Below.length ≤ 10 := hg.1
  generalize hbd : botN p.Below.length (below p.Below) p.Below.length = b at hb
  have key : loopO (F_impl_lattice_joinAll_l1 (latOf p) xs) (((0 : Nat) : Int), (((xs.take 0).foldl (fun m x => inf p.Below.length (opp (below p.Below)) m x.toNat) b : Nat) : Int)) = some (((xs.take xs.length).foldl (fun m x => inf p.Below.length (opp (below p.Below)) m x.toNat) b : Nat) : Int) :=
    loop_seq (body := F_impl_lattice_joinAll_l1 (latOf p) xs) (fun i => ((i : Int), (((xs.take i).foldl (fun m x => inf p.Below.length (opp (below p.Below)) m x.toNat) b : Nat) : Int))) xs.length _ (fun i hi => by
      unfold F_impl_lattice_joinAll_l1
      dsimp only
      have hf := fold_lt h2 hb (xs.take i) (inSize_take hx i)
      have hxi := hx _ (nth_mem hi)
      have hlj : (latOf p).joins = mtab p.Below.length (opp (below p.Below)) := rfl
      have hml := mtab_len (n := p.Below.length) (f := opp (below p.Below))
      have hmr := mt_row (g := opp (below p.Below)) hf
      rw [hlj, if_pos (by omega), hml, Int.toNat_natCast, Int.toNat_natCast, hmr, ask_pos (by omega), ask_pos (by omega), ask_pos (by omega), ask_pos (by unfold InI; omega), mt_at h2 hf (by omega), fold_take _ _ hi]
      rfl) (by
      unfold F_impl_lattice_joinAll_l1
      dsimp only
      rw [if_neg (by omega)])
  have e0 : ((0 : Int), (b : Int)) = (((0 : Nat) : Int), (((xs.take 0).foldl (fun m x => inf p.Below.length (opp (below p.Below)) m x.toNat) b : Nat) : Int)) := rfl
  rw [e0, key, List.take_length]
  have hf := inf_fold (good_ord hg).opp h2 xs b (fun _ => true) hb hx (fun _ _ _ _ _ _ => rfl) (by rw [← hbd]; exact botN_bnd (good_ord hg) h1 h0)
  simp only [Bool.true_and] at hf
  rw [bnd_eq (good_ord hg).opp hf]; rfl
theorem F_meetAll (h : isLat p) (xs : List Int) (hx : inSize xs p.Below.length) (hl : xs.length ≤ 20) : F_impl_lattice_meetAll (latOf p) xs = some (bnd p.Below.length (below p.Below) (loA (below p.Below) xs)) := by
  unfold F_impl_lattice_meetAll
  rw [F_top h]
  simp only [Option.bind_some]
  have hends := (lat_ends h).2
  obtain ⟨hg, h0, h1, h2⟩ := h
  have hb := botN_lt h2 h0 p.Below.length (Nat.le_refl _)
  have h10 : p.Below.length ≤ 10 := hg.1
  generalize hbd : botN p.Below.length (opp (below p.Below)) p.Below.length = b at hb hends
  have key : loopO (F_impl_lattice_meetAll_l1 (latOf p) xs) (((0 : Nat) : Int), (((xs.take 0).foldl (fun m x => inf p.Below.length (below p.Below) m x.toNat) b : Nat) : Int)) = some (((xs.take xs.length).foldl (fun m x => inf p.Below.length (below p.Below) m x.toNat) b : Nat) : Int) :=
    loop_seq (body := F_impl_lattice_meetAll_l1 (latOf p) xs) (fun i => ((i : Int), (((xs.take i).foldl (fun m x => inf p.Below.length (below p.Below) m x.toNat) b : Nat) : Int))) xs.length _ (fun i hi => by
      unfold F_impl_lattice_meetAll_l1
      dsimp only
      have hf := fold_lt h1 hb (xs.take i) (inSize_take hx i)
      have hxi := hx _ (nth_mem hi)
      have hlj : (latOf p).meets = mtab p.Below.length (below p.Below) := rfl
      have hml := mtab_len (n := p.Below.length) (f := below p.Below)
      have hmr := mt_row (g := below p.Below) hf
      rw [hlj, if_pos (by omega), hml, Int.toNat_natCast, Int.toNat_natCast, hmr, ask_pos (by omega), ask_pos (by omega), ask_pos (by omega), ask_pos (by unfold InI; omega), mt_at h1 hf (by omega), fold_take _ _ hi]
      rfl) (by
      unfold F_impl_lattice_meetAll_l1
      dsimp only
      rw [if_neg (by omega)])
  have e0 : ((0 : Int), (b : Int)) = (((0 : Nat) : Int), (((xs.take 0).foldl (fun m x => inf p.Below.length (below p.Below) m x.toNat) b : Nat) : Int)) := rfl
  rw [e0, key, List.take_length]
  have hf := inf_fold (good_ord hg) h1 xs b (fun _ => true) hb hx (fun _ _ _ _ _ _ => rfl) hends
  simp only [Bool.true_and] at hf
  rw [bnd_eq (good_ord hg) hf]; rfl

theorem both_MeetAll (hs : small p) (xs : List Int) (hl : xs.length ≤ LIM) : ∃ r, F_spec_MeetAll p xs = some r ∧ F_impl_MeetAll p xs = some r := by
  unfold F_spec_MeetAll F_impl_MeetAll
  rw [F_l24Some hs xs hl]
  simp only [Option.bind_some]
  by_cases h : isLat p
  · rw [F_latticeOf_yes hs h]
    simp only [Option.bind_some, if_true, latOf_order]
    by_cases h20 : xs.length ≤ 20
    · have hn : ¬ (xs.length : Int) > 20 := by omega
      rw [F_has _ _ hl, tab_len]
      simp only [Option.bind_some, if_neg hn]
      by_cases hx : inSize xs p.Below.length
      · rw [decide_eq_true (show isLat p ∧ xs.length ≤ 20 ∧ inSize xs p.Below.length from ⟨h, h20, hx⟩), decide_eq_true hx]
        simp only [if_true]
        rw [F_l24Bound hs h.1 xs hx hl, F_meetAll h xs hx h20]
        exact ⟨_, rfl, rfl⟩
      · rw [decide_eq_false (show ¬ (isLat p ∧ xs.length ≤ 20 ∧ inSize xs p.Below.length) from fun hh => hx hh.2.2), decide_eq_false hx]
        exact ⟨(0, false), by simp, by simp⟩
    · have hn : (xs.length : Int) > 20 := by omega
      rw [decide_eq_false (show ¬ (isLat p ∧ xs.length ≤ 20 ∧ inSize xs p.Below.length) from fun hh => h20 hh.2.1)]
      simp only [if_pos hn]
      exact ⟨(0, false), by simp, by simp⟩
  · obtain ⟨l, e⟩ := F_latticeOf_no hs h
    rw [e, decide_eq_false (fun hh => h hh.1)]
    refine ⟨(0, false), by simp, ?_⟩
    cases l <;> simp
theorem both_JoinAll (hs : small p) (xs : List Int) (hl : xs.length ≤ LIM) : ∃ r, F_spec_JoinAll p xs = some r ∧ F_impl_JoinAll p xs = some r := by
  unfold F_spec_JoinAll F_impl_JoinAll
  rw [F_l24Some hs xs hl]
  simp only [Option.bind_some]
  by_cases h : isLat p
  · rw [F_latticeOf_yes hs h]
    simp only [Option.bind_some, if_true, latOf_order]
    by_cases h20 : xs.length ≤ 20
    · have hn : ¬ (xs.length : Int) > 20 := by omega
      rw [F_has _ _ hl, tab_len]
      simp only [Option.bind_some, if_neg hn]
      by_cases hx : inSize xs p.Below.length
      · rw [decide_eq_true (show isLat p ∧ xs.length ≤ 20 ∧ inSize xs p.Below.length from ⟨h, h20, hx⟩), decide_eq_true hx]
        simp only [if_true]
        rw [F_l23Dual hs]
        simp only [Option.bind_some]
        rw [F_l24BoundD hs h.1 xs hx hl, F_joinAll h xs hx h20]
        exact ⟨_, rfl, rfl⟩
      · rw [decide_eq_false (show ¬ (isLat p ∧ xs.length ≤ 20 ∧ inSize xs p.Below.length) from fun hh => hx hh.2.2), decide_eq_false hx]
        exact ⟨(0, false), by simp, by simp⟩
    · have hn : (xs.length : Int) > 20 := by omega
      rw [decide_eq_false (show ¬ (isLat p ∧ xs.length ≤ 20 ∧ inSize xs p.Below.length) from fun hh => h20 hh.2.1)]
      simp only [if_pos hn]
      exact ⟨(0, false), by simp, by simp⟩
  · obtain ⟨l, e⟩ := F_latticeOf_no hs h
    rw [e, decide_eq_false (fun hh => h hh.1)]
    refine ⟨(0, false), by simp, ?_⟩
    cases l <;> simp
end

end Go.Proofs.Ythcnmahjhahafab.Ax
