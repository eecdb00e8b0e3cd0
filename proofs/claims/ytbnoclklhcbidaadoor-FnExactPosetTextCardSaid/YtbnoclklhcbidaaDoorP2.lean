/-
  The laws' helpers on lists of numbers and rows: sizes, copies, comparisons, marks.
-/
import Derived.Test.YtbnoclklhcbidaaDoorP1
import Derived.Test.YtbnoclklhcbidaaDoorGALL
namespace Go.Proofs.YtbnoclklhcbidaaDoor.Ax
open Go Classical

theorem lim_def : LIM = 4294967296 := rfl
theorem find_all {n : Nat} {p : Nat → Prop} : (¬ ∃ i, 0 ≤ i ∧ i < n ∧ ¬ p i) ↔ ∀ i, i < n → p i := by
  constructor
  · intro h i hi; exact Classical.byContradiction fun hc => h ⟨i, by omega, hi, hc⟩
  · rintro h ⟨i, _, hi, hc⟩; exact hc (h i hi)

theorem F_szIntS {xs : List Int} {n : Int} (h1 : xs.length ≤ BIG) (h2 : 0 ≤ n) (h3 : n ≤ 1048576) : F_laws_szIntS xs n = some (if n - xs.length < 0 then -1 else n - xs.length) := by
  unfold F_laws_szIntS
  rw [ask_pos (by unfold InI; unfold BIG at h1; omega)]
  split <;> rfl

theorem F_szIntSS {xss : List (List Int)} {n : Int} (h0 : xss.length ≤ BIG) (h1 : ∀ r ∈ xss, r.length ≤ BIG) (h2 : 0 ≤ n) (h3 : n ≤ 1048576) :
    ∃ r, F_laws_szIntSS xss n = some r ∧ (r < 0 ∨ (0 ≤ r ∧ r ≤ n ∧ xss.length ≤ n ∧ ∀ row ∈ xss, row.length ≤ n)) := by
  unfold F_laws_szIntSS
  unfold BIG at h0
  rw [ask_pos (by unfold InI; omega)]
  split
  · exact ⟨-1, rfl, .inl (by omega)⟩
  rename_i hn
  obtain ⟨t, ht, hp⟩ := loop_inv (body := F_laws_szIntSS_l1 xss) (fun s => 0 ≤ s.1 ∧ s.1 ≤ xss.length ∧ 0 ≤ s.2 ∧ s.2 ≤ n ∧ ∀ j, j < s.1.toNat → (nth xss j).length ≤ n) (fun s => xss.length - s.1.toNat)
    (fun t => ∀ r, t = .inr r → 0 ≤ r ∧ r ≤ n ∧ ∀ row ∈ xss, row.length ≤ n) (by
    rintro ⟨i, m⟩ ⟨a, b, c, d, e⟩
    dsimp only at a b c d e
    unfold F_laws_szIntSS_l1
    dsimp only
    split
    · rename_i hi
      rw [ask_pos ⟨a, hi⟩, F_szIntS (h1 _ (nth_mem (by omega))) c (by omega)]
      simp only [Option.bind_some]
      split
      · exact .inr ⟨_, rfl, fun r hr => by cases hr⟩
      · rename_i hm
        rw [ask_pos (by unfold InI; omega)]
        refine .inl ⟨_, rfl, ?_, ?_⟩
        · dsimp only
          refine ⟨by omega, by omega, by omega, by omega, fun j hj => ?_⟩
          · by_cases hji : j = i.toNat
            · subst hji; omega
            · exact e j (by omega)
        · show xss.length - (i + 1).toNat < xss.length - i.toNat
          omega
    · rename_i hi
      refine .inr ⟨_, rfl, ?_⟩
      rintro r hr
      cases hr
      refine ⟨c, d, fun row hrow => ?_⟩
      obtain ⟨j, hj, rfl⟩ := mem_nth.1 hrow
      exact e j (by omega)) (s := (0, n - xss.length)) ⟨by simp, by simp, by dsimp only; omega, by dsimp only; omega, by intro j hj; simp at hj⟩
  rw [ht]
  cases t with
  | inl u => exact ⟨-1, rfl, .inl (by omega)⟩
  | inr r =>
    obtain ⟨a, b, c⟩ := hp r rfl
    exact ⟨r, rfl, .inr ⟨a, b, by omega, c⟩⟩

theorem F_toIntS {xs : List Int} (h : xs.length ≤ LIM) : F_laws_toIntS xs = some xs := by
  unfold F_laws_toIntS
  rw [lim_def] at h
  rw [ask_pos (by rw [lim_def]; omega)]
  have := loop_seq (body := F_laws_toIntS_l1 xs) (fun i => ((i : Int), xs.take i ++ List.replicate (xs.length - i) 0)) xs.length xs (fun i hi => by
    unfold F_laws_toIntS_l1
    dsimp only
    rw [if_pos (by omega), ask_pos (by omega), ask_pos (by simp; omega), ask_pos (by unfold InI; omega)]
    simp only [Int.toNat_natCast]
    rw [set_put _ _ _ hi (by simp; omega), ← take_nth hi]
    rfl) (by
    unfold F_laws_toIntS_l1
    dsimp only
    rw [if_neg (by omega)]
    simp)
  simp only [List.take_zero, List.nil_append, Nat.sub_zero] at this
  simp only [Int.toNat_natCast]
  show (loopO _ (((0 : Nat) : Int), _)).bind _ = _
  rw [this]; rfl

theorem F_toIntSS {xss : List (List Int)} (h : xss.length ≤ LIM) (h1 : ∀ r ∈ xss, r.length ≤ LIM) : F_laws_toIntSS xss = some xss := by
  unfold F_laws_toIntSS
  rw [lim_def] at h
  rw [ask_pos (by rw [lim_def]; omega)]
  have := loop_seq (body := F_laws_toIntSS_l1 xss) (fun i => ((i : Int), xss.take i ++ List.replicate (xss.length - i) [])) xss.length xss (fun i hi => by
    unfold F_laws_toIntSS_l1
    dsimp only
    rw [if_pos (by omega), ask_pos (by omega), F_toIntS (h1 _ (nth_mem (by omega)))]
    simp only [Option.bind_some]
    rw [ask_pos (by simp; omega), ask_pos (by unfold InI; omega)]
    simp only [Int.toNat_natCast]
    rw [set_put _ _ _ hi (by simp; omega), ← take_nth hi]
    rfl) (by
    unfold F_laws_toIntSS_l1
    dsimp only
    rw [if_neg (by omega)]
    simp)
  simp only [List.take_zero, List.nil_append, Nat.sub_zero] at this
  simp only [Int.toNat_natCast]
  show (loopO _ (((0 : Nat) : Int), _)).bind _ = _
  rw [this]; rfl

theorem F_eqIntS {xs ys : List Int} (h : xs.length ≤ LIM) : F_laws_eqIntS xs ys = some (decide (xs = ys)) := by
  unfold F_laws_eqIntS
  rw [lim_def] at h
  split
  · rename_i hl
    rw [decide_eq_false]
    rintro rfl; exact hl rfl
  rename_i hl
  have hl : xs.length = ys.length := by omega
  have := loop_find (body := F_laws_eqIntS_l1 xs ys) (fun i => (i : Int)) xs.length (fun i => ¬ nth xs i = nth ys i) () () (fun i hi hb => by
    unfold F_laws_eqIntS_l1
    rw [if_pos (by omega), ask_pos (by omega), ask_pos (by omega)]
    simp only [Int.toNat_natCast]
    rw [if_neg (by simpa using hb), ask_pos (by unfold InI; omega)]; rfl) (fun i hi hb => by
    unfold F_laws_eqIntS_l1
    rw [if_pos (by omega), ask_pos (by omega), ask_pos (by omega)]
    simp only [Int.toNat_natCast]
    rw [if_pos hb]) (by unfold F_laws_eqIntS_l1; rw [if_neg (by omega)]) 0 (by omega)
  show ((loopO _ ((0 : Nat) : Int)).bind _) = _
  rw [this]
  by_cases hx : ∃ i, 0 ≤ i ∧ i < xs.length ∧ ¬ nth xs i = nth ys i
  · rw [if_pos hx, decide_eq_false]
    · rfl
    · rintro rfl; obtain ⟨i, _, _, hc⟩ := hx; exact hc rfl
  · rw [if_neg hx, decide_eq_true (nth_ext hl (find_all.1 hx))]
    rfl

theorem F_eqIntSS {xss yss : List (List Int)} (h : xss.length ≤ LIM) (h1 : ∀ r ∈ xss, r.length ≤ LIM) : F_laws_eqIntSS xss yss = some (decide (xss = yss)) := by
  unfold F_laws_eqIntSS
  rw [lim_def] at h
  split
  · rename_i hl
    rw [decide_eq_false]
    rintro rfl; exact hl rfl
  rename_i hl
  have hl : xss.length = yss.length := by omega
  have := loop_find (body := F_laws_eqIntSS_l1 xss yss) (fun i => (i : Int)) xss.length (fun i => ¬ nth xss i = nth yss i) () () (fun i hi hb => by
    unfold F_laws_eqIntSS_l1
    rw [if_pos (by omega), ask_pos (by omega), ask_pos (by omega)]
    simp only [Int.toNat_natCast]
    rw [F_eqIntS (h1 _ (nth_mem hi))]
    simp only [Option.bind_some]
    rw [if_pos (by simpa using hb), ask_pos (by unfold InI; omega)]; rfl) (fun i hi hb => by
    unfold F_laws_eqIntSS_l1
    rw [if_pos (by omega), ask_pos (by omega), ask_pos (by omega)]
    simp only [Int.toNat_natCast]
    rw [F_eqIntS (h1 _ (nth_mem hi))]
    simp only [Option.bind_some]
    rw [if_neg (by simpa using hb)]) (by unfold F_laws_eqIntSS_l1; rw [if_neg (by omega)]) 0 (by omega)
  show ((loopO _ ((0 : Nat) : Int)).bind _) = _
  rw [this]
  by_cases hx : ∃ i, 0 ≤ i ∧ i < xss.length ∧ ¬ nth xss i = nth yss i
  · rw [if_pos hx, decide_eq_false]
    · rfl
    · rintro rfl; obtain ⟨i, _, _, hc⟩ := hx; exact hc rfl
  · rw [if_neg hx, decide_eq_true (nth_ext hl (find_all.1 hx))]
    rfl

/-- numbers that go up one by one -/
def upFrom (k : Int) (n : Nat) : List Int := (List.range n).map fun i : Nat => k + i
theorem upFrom_len (k : Int) (n : Nat) : (upFrom k n).length = n := by simp [upFrom]
theorem nth_upFrom {k : Int} {n i : Nat} (h : i < n) : nth (upFrom k n) i = k + i := by
  unfold upFrom; rw [nth_map' _ (by simpa using h), nth_range h]

/-- where the marks of the rows begin -/
def offAt (xss : List (List Int)) (k : Int) : Nat → Int
  | 0 => k
  | j + 1 => offAt xss k j + (nth xss j).length
theorem offAt_le (xss : List (List Int)) (h1 : ∀ r ∈ xss, r.length ≤ 1048576) (k : Int) : ∀ j, j ≤ xss.length → k ≤ offAt xss k j ∧ offAt xss k j ≤ k + j * 1048576 := by
  intro j
  induction j with
  | zero => intro _; simp [offAt]
  | succ j ih =>
    intro hj
    have := ih (by omega)
    have hr := h1 _ (nth_mem (show j < xss.length by omega))
    simp only [offAt]; omega
end Go.Proofs.YtbnoclklhcbidaaDoor.Ax
