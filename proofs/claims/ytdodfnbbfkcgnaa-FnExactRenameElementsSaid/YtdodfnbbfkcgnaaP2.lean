/-
  The laws' helpers on lists of numbers and rows: sizes, copies, comparisons, marks.
-/
import Derived.Test.YtdodfnbbfkcgnaaP1
import Derived.Test.YtdodfnbbfkcgnaaGALL
namespace Go.Proofs.Ytdodfnbbfkcgnaa.Ax
open Go Classical

theorem lim_def : LIM = 4294967296 := rfl
theorem find_all {n : Nat} {p : Nat → Prop} : (¬ ∃ i, 0 ≤ i ∧ i < n ∧ ¬ p i) ↔ ∀ i, i < n → p i := by
  constructor
  · intro h i hi; exact Classical.byContradiction fun hc => h ⟨i, by omega, hi, hc⟩
  · rintro h ⟨i, _, hi, hc⟩; exact hc (h i hi)

theorem F_szIntS {xs : List Int} {n : Int} (h1 : xs.length ≤ BIG) (h2 : 0 ≤ n) (h3 : n ≤ 1048576) : F_laws_szIntS xs n = some (if n - xs.length < 0 then -1 else n - xs.length) := by
  unfold F_laws_szIntS
  rw [ask_pos (by unfold InI; unfold BIG at h1; omega)]
  split <;> rfl

theorem F_toIntS {xs : List Int} (h : xs.length ≤ LIM) : F_laws_toIntS xs = some xs := by
  unfold F_laws_toIntS
  rw [lim_def] at h
  rw [ask_pos (by rw [lim_def]; omega)]
  have := loop_seq (body := F_laws_toIntS_l1 xs) (fun i => ((i : Int), xs.take i ++ List.replicate (xs.length - i) 0)) xs.length xs (fun i hi => by
    unfold F_laws_toIntS_l1
    dsimp only
    rw [if_pos (by omega), ask_pos (by omega), ask_pos (by simp; omega), ask_pos (by unfold InI; omega)]
    simp only [Int.toNat_natCast]
    rw [set_put _ _ _ hi (by simp; omega), ← take_nth hi]
    rfl) (by
    unfold F_laws_toIntS_l1
    dsimp only
    rw [if_neg (by omega)]
    simp)
  simp only [List.take_zero, List.nil_append, Nat.sub_zero] at this
  simp only [Int.toNat_natCast]
  show (loopO _ (((0 : Nat) : Int), _)).bind _ = _
  rw [this]; rfl

theorem F_eqIntS {xs ys : List Int} (h : xs.length ≤ LIM) : F_laws_eqIntS xs ys = some (decide (xs = ys)) := by
  unfold F_laws_eqIntS
  rw [lim_def] at h
  split
  · rename_i hl
    rw [decide_eq_false]
    rintro rfl; exact hl rfl
  rename_i hl
  have hl : xs.length = ys.length := by omega
  have := loop_find (body := F_laws_eqIntS_l1 xs ys) (fun i => (i : Int)) xs.length (fun i => ¬ nth xs i = nth ys i) () () (fun i hi hb => by
    unfold F_laws_eqIntS_l1
    rw [if_pos (by omega), ask_pos (by omega), ask_pos (by omega)]
    simp only [Int.toNat_natCast]
    rw [if_neg (by simpa using hb), ask_pos (by unfold InI; omega)]; rfl) (fun i hi hb => by
    unfold F_laws_eqIntS_l1
    rw [if_pos (by omega), ask_pos (by omega), ask_pos (by omega)]
    simp only [Int.toNat_natCast]
    rw [if_pos hb]) (by unfold F_laws_eqIntS_l1; rw [if_neg (by omega)]) 0 (by omega)
  show ((loopO _ ((0 : Nat) : Int)).bind _) = _
  rw [this]
  by_cases hx : ∃ i, 0 ≤ i ∧ i < xs.length ∧ ¬ nth xs i = nth ys i
  · rw [if_pos hx, decide_eq_false]
    · rfl
    · rintro rfl; obtain ⟨i, _, _, hc⟩ := hx; exact hc rfl
  · rw [if_neg hx, decide_eq_true (nth_ext hl (find_all.1 hx))]
    rfl

/-- numbers that go up one by one -/
def upFrom (k : Int) (n : Nat) : List Int := (List.range n).map fun i : Nat => k + i
theorem upFrom_len (k : Int) (n : Nat) : (upFrom k n).length = n := by simp [upFrom]
theorem nth_upFrom {k : Int} {n i : Nat} (h : i < n) : nth (upFrom k n) i = k + i := by
  unfold upFrom; rw [nth_map' _ (by simpa using h), nth_range h]

theorem F_markIntS {xs : List Int} {k : Int} (h : xs.length ≤ LIM) (h1 : 0 ≤ k) (h2 : k ≤ 4611686018427387904) : F_laws_markIntS xs k = some (k + xs.length, upFrom k xs.length) := by
  unfold F_laws_markIntS
  rw [lim_def] at h
  have := loop_seq (body := F_laws_markIntS_l1) (fun i => ((i : Int), upFrom k i ++ xs.drop i, k + i)) xs.length (upFrom k xs.length, k + xs.length) (fun i hi => by
    unfold F_laws_markIntS_l1
    dsimp only
    have hl : (upFrom k i ++ xs.drop i).length = xs.length := by simp [upFrom_len]; omega
    rw [if_pos (by omega), ask_pos (by omega), ask_pos (by unfold InI; omega), ask_pos (by unfold InI; omega)]
    simp only [Int.toNat_natCast]
    have e : (upFrom k i ++ xs.drop i).set i (k + i) = upFrom k (i + 1) ++ xs.drop (i + 1) := by
      refine nth_ext (by simp [upFrom_len]; omega) fun j hj => ?_
      have hj' : j < xs.length := by simpa [hl] using hj
      rw [nth_set _ _ _ _ (by omega)]
      by_cases hji : i = j
      · subst hji
        rw [if_pos rfl, nth_append_left (by rw [upFrom_len]; omega), nth_upFrom (by omega)]
      · rw [if_neg hji]
        by_cases hlt : j < i
        · rw [nth_append_left (by rw [upFrom_len]; omega), nth_append_left (by rw [upFrom_len]; omega), nth_upFrom hlt, nth_upFrom (by omega)]
        · rw [nth_lt (by omega), nth_lt (by simp [upFrom_len]; omega), List.getElem_append_right (by rw [upFrom_len]; omega), List.getElem_append_right (by rw [upFrom_len]; omega)]
          simp only [upFrom_len, List.getElem_drop]
          congr 1; omega
    rw [e]
    congr 3
    rw [Int.add_assoc]; rfl) (by
    unfold F_laws_markIntS_l1
    dsimp only
    rw [if_neg (by simp [upFrom_len])]
    simp)
  have e0 : upFrom k 0 ++ xs.drop 0 = xs := by simp [upFrom]
  simp only [e0] at this
  rw [show (((0 : Nat) : Int)) = 0 from rfl, Int.add_zero] at this
  rw [this]; rfl

theorem F_heldIntS {n : Nat} {k : Int} (h : n ≤ LIM) (h1 : 0 ≤ k) (h2 : k ≤ 4611686018427387904) : F_laws_heldIntS (upFrom k n) k = some (k + n) := by
  unfold F_laws_heldIntS
  rw [lim_def] at h
  have := loop_seq (body := F_laws_heldIntS_l1 (upFrom k n)) (fun i => ((i : Int), k + i)) n (.inr (k + n)) (fun i hi => by
    unfold F_laws_heldIntS_l1
    dsimp only
    rw [if_pos (by rw [upFrom_len]; omega), ask_pos (by rw [upFrom_len]; omega)]
    simp only [Int.toNat_natCast]
    simp only [nth_upFrom hi]
    rw [if_neg (by simp), ask_pos (by unfold InI; omega), ask_pos (by unfold InI; omega)]
    congr 3
    rw [Int.add_assoc]; rfl) (by
    unfold F_laws_heldIntS_l1
    dsimp only
    rw [if_neg (by rw [upFrom_len]; omega)])
  rw [show (((0 : Nat) : Int)) = 0 from rfl, Int.add_zero] at this
  rw [this]; rfl

/-- where the marks of the rows begin -/
def offAt (xss : List (List Int)) (k : Int) : Nat → Int
  | 0 => k
  | j + 1 => offAt xss k j + (nth xss j).length
theorem offAt_le (xss : List (List Int)) (h1 : ∀ r ∈ xss, r.length ≤ 1048576) (k : Int) : ∀ j, j ≤ xss.length → k ≤ offAt xss k j ∧ offAt xss k j ≤ k + j * 1048576 := by
  intro j
  induction j with
  | zero => intro _; simp [offAt]
  | succ j ih =>
    intro hj
    have := ih (by omega)
    have hr := h1 _ (nth_mem (show j < xss.length by omega))
    simp only [offAt]; omega
end Go.Proofs.Ytdodfnbbfkcgnaa.Ax
