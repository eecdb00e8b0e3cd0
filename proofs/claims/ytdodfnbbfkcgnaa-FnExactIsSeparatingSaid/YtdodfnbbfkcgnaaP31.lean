/-
  Partitions, their meets and the number of their blocks.
-/
import Derived.Test.YtdodfnbbfkcgnaaP9
import Derived.Test.YtdodfnbbfkcgnaaP15
import Derived.Test.YtdodfnbbfkcgnaaP20
import Derived.Test.YtdodfnbbfkcgnaaP29
namespace Go.Proofs.Ytdodfnbbfkcgnaa.Ax
open Go Classical

/-- a partition: each element names the least of its block -/
def partP (n : Nat) (p : List Int) : Prop := p.length = n ∧ ∀ i, i < n → 0 ≤ nth p i ∧ nth p i ≤ i ∧ nth p (nth p i).toNat = nth p i

theorem F_isPartition {p : List Int} (hl : p.length ≤ 1048576) (n : Nat) : F_impl_isPartition n p = some (decide (partP n p)) := by
  unfold F_impl_isPartition
  by_cases h : p.length = n
  · rw [if_neg (by omega)]
    have this := loop_find (body := F_impl_isPartition_l1 p) (fun i => (i : Int)) p.length (fun i => ¬ (0 ≤ nth p i ∧ nth p i ≤ i ∧ nth p (nth p i).toNat = nth p i)) () () (fun i hi hb => by
      have hb := Classical.not_not.1 hb
      unfold F_impl_isPartition_l1
      rw [if_pos (by omega), ask_pos (by omega), Int.toNat_natCast, if_neg (by omega), if_neg (by omega), ask_pos (by omega), if_neg (by simpa using hb.2.2), ask_pos (by unfold InI; omega)]; rfl) (fun i hi hb => by
      unfold F_impl_isPartition_l1
      rw [if_pos (by omega), ask_pos (by omega), Int.toNat_natCast]
      by_cases h1 : nth p i < 0
      · rw [if_pos h1]
      · rw [if_neg h1]
        by_cases h2 : nth p i > i
        · rw [if_pos h2]
        · rw [if_neg h2, ask_pos (by omega), if_pos (fun h3 => hb ⟨by omega, by omega, h3⟩)]) (by
      unfold F_impl_isPartition_l1
      rw [if_neg (by omega)]) 0 (by omega)
    refine (find_bool this false true).trans (congrArg some (dec_not ?_))
    rw [find_all]
    unfold partP
    constructor
    · intro hh; exact ⟨h, fun i hi => hh i (by omega)⟩
    · rintro ⟨_, hh⟩ i hi; exact hh i (by omega)
  · rw [if_pos (by omega), decide_eq_false (fun hh => h hh.1)]
theorem F_l6Partition {p : List Int} (hl : p.length ≤ 1048576) (n : Nat) : F_spec_l6Partition n p = some (decide (partP n p)) := by
  unfold F_spec_l6Partition
  by_cases h : p.length = n
  · rw [if_neg (by omega)]
    have this := loop_find (body := F_spec_l6Partition_l1 n p) (fun i => (i : Int)) p.length (fun i => ¬ (0 ≤ nth p i ∧ nth p i ≤ i ∧ nth p (nth p i).toNat = nth p i)) () () (fun i hi hb => by
      have hb := Classical.not_not.1 hb
      unfold F_spec_l6Partition_l1
      rw [if_pos (by omega), ask_pos (by omega), Int.toNat_natCast, F_l1In]
      simp only [Option.bind_some]
      rw [decide_eq_true ⟨hb.1, hb.2.1⟩, if_pos rfl, ask_pos (by omega), ask_pos (by omega), ask_pos (by omega), if_neg (by simpa using hb.2.2), ask_pos (by unfold InI; omega)]; rfl) (fun i hi hb => by
      unfold F_spec_l6Partition_l1
      rw [if_pos (by omega), ask_pos (by omega), Int.toNat_natCast, F_l1In]
      simp only [Option.bind_some]
      by_cases h1 : 0 ≤ nth p i ∧ nth p i ≤ i
      · rw [decide_eq_true h1, if_pos rfl, ask_pos (by omega), ask_pos (by omega), ask_pos (by omega), if_pos (fun h3 => hb ⟨h1.1, h1.2, h3⟩)]
      · rw [decide_eq_false h1, if_neg (by simp)]) (by
      unfold F_spec_l6Partition_l1
      rw [if_neg (by omega)]) 0 (by omega)
    refine (find_bool this false true).trans (congrArg some (dec_not ?_))
    rw [find_all]
    unfold partP
    constructor
    · intro hh; exact ⟨h, fun i hi => hh i (by omega)⟩
    · rintro ⟨_, hh⟩ i hi; exact hh i (by omega)
  · rw [if_pos (by omega), decide_eq_false (fun hh => h hh.1)]
theorem partP.inS {n : Nat} {p : List Int} (h : partP n p) : inSize p n := by
  intro x hx
  obtain ⟨i, hi, rfl⟩ := mem_nth.1 hx
  have := h.2 i (by have := h.1; omega)
  have := h.1
  omega

/-- the least that hits -/
theorem first_hit (P : Nat → Prop) : ∀ x, P x → ∃ y, y ≤ x ∧ P y ∧ ∀ z, z < y → ¬ P z := by
  intro x
  induction x using Nat.strongRecOn with
  | _ x ih =>
    intro h
    by_cases hz : ∃ z, z < x ∧ P z
    · obtain ⟨z, h1, h2⟩ := hz
      obtain ⟨y, a, b, c⟩ := ih z h1 h2
      exact ⟨y, by omega, b, c⟩
    · exact ⟨x, Nat.le_refl _, h, fun z hz' h' => hz ⟨z, hz', h'⟩⟩
/-- the least element of a block of the meet -/
noncomputable def meetA (p q : List Int) (x : Nat) : Nat := Classical.choose (first_hit (fun y => nth p y = nth p x ∧ nth q y = nth q x) x ⟨rfl, rfl⟩)
theorem meetA_spec (p q : List Int) (x : Nat) : meetA p q x ≤ x ∧ (nth p (meetA p q x) = nth p x ∧ nth q (meetA p q x) = nth q x) ∧ ∀ z, z < meetA p q x → ¬ (nth p z = nth p x ∧ nth q z = nth q x) :=
  Classical.choose_spec (first_hit (fun y => nth p y = nth p x ∧ nth q y = nth q x) x ⟨rfl, rfl⟩)
noncomputable def meetI (p q : List Int) (i : Nat) : List Int := (List.range i).map fun x => (meetA p q x : Int)
theorem meetI_len (p q : List Int) (i : Nat) : (meetI p q i).length = i := by simp [meetI]
theorem meetI_succ (p q : List Int) (i : Nat) : meetI p q (i + 1) = meetI p q i ++ [(meetA p q i : Int)] := by simp [meetI, List.range_succ]
noncomputable def meetL (p q : List Int) : List Int := meetI p q p.length
theorem meetL_in {p q : List Int} : inSize (meetL p q) p.length := by
  intro x hx
  obtain ⟨i, hi, rfl⟩ := List.mem_map.1 hx
  have := (meetA_spec p q i).1
  have := List.mem_range.1 hi
  omega

theorem F_l6Meet {p q : List Int} (hl : p.length ≤ 8) (hq : q.length = p.length) : F_spec_l6Meet p q = some (meetL p q) := by
  unfold F_spec_l6Meet
  have inner : ∀ x, x < p.length → ∀ s, loopO (F_spec_l6Meet_l1 p q (x : Int) s) 0 = some (meetA p q x : Int) := by
    intro x hx s
    obtain ⟨b1, ⟨b2, b3⟩, b4⟩ := meetA_spec p q x
    exact loop_seq (body := F_spec_l6Meet_l1 p q (x : Int) s) (fun y => (y : Int)) (meetA p q x) _ (fun y hy => by
      unfold F_spec_l6Meet_l1
      rw [ask_pos (by omega), ask_pos (by omega), Int.toNat_natCast, Int.toNat_natCast]
      by_cases h1 : nth p y = nth p x
      · rw [if_neg (by simpa using h1), ask_pos (by omega), ask_pos (by omega), if_pos (fun h2 => b4 y hy ⟨h1, h2⟩), ask_pos (by unfold InI; omega)]; rfl
      · rw [if_pos h1, ask_pos (by unfold InI; omega)]; rfl) (by
      unfold F_spec_l6Meet_l1
      rw [ask_pos (by omega), ask_pos (by omega), Int.toNat_natCast, Int.toNat_natCast, if_neg (by simpa using b2), ask_pos (by omega), ask_pos (by omega), if_neg (by simpa using b3)])
  have := loop_seq (body := F_spec_l6Meet_l2 p q) (fun i => ((i : Int), meetI p q i)) p.length (meetL p q) (fun i hi => by
    unfold F_spec_l6Meet_l2
    dsimp only
    rw [if_pos (by omega), inner i hi]
    simp only [Option.bind_some]
    rw [ask_pos (by rw [lim_def, meetI_len]; simp; omega), ask_pos (by unfold InI; omega), meetI_succ]; rfl) (by
    unfold F_spec_l6Meet_l2
    dsimp only
    rw [if_neg (by omega)]; rfl)
  rw [show ((0, nilL Int) : Int × List Int) = (((0 : Nat) : Int), meetI p q 0) from rfl, this]
  rfl

theorem F_kernelOf {p q L : List Int} (hl : p.length ≤ 8) (hL : L.length = p.length) (he : ∀ i j, i < p.length → j < p.length → (nth L i = nth L j ↔ nth p i = nth p j ∧ nth q i = nth q j)) : F_impl_kernelOf L = some (meetL p q) := by
  unfold F_impl_kernelOf
  rw [ask_pos (by rw [lim_def]; omega), Int.toNat_natCast, hL]
  have inner : ∀ i, i < p.length → ∀ w : List Int, w.length = p.length → loopO (F_impl_kernelOf_l1 L (i : Int)) (w.set i 0) = some (w.set i (meetA p q i : Int)) := by
    intro i hi w hw
    obtain ⟨b1, b2, b4⟩ := meetA_spec p q i
    refine loop_seq (body := F_impl_kernelOf_l1 L (i : Int)) (fun y => w.set i (y : Int)) (meetA p q i) _ (fun y hy => by
      unfold F_impl_kernelOf_l1
      have e : nth (w.set i (y : Int)) i = (y : Int) := by rw [nth_set _ _ _ _ (by omega), if_pos rfl]
      rw [ask_pos (by rw [List.length_set]; omega), Int.toNat_natCast, e, ask_pos (by omega), ask_pos (by omega), Int.toNat_natCast, if_pos (fun h => b4 y hy ((he y i (by omega) hi).1 h)), ask_pos (by rw [List.length_set]; omega), ask_pos (by unfold InI; omega), ask_pos (by rw [List.length_set]; omega), List.set_set]; rfl) (by
      unfold F_impl_kernelOf_l1
      have e : nth (w.set i (meetA p q i : Int)) i = (meetA p q i : Int) := by rw [nth_set _ _ _ _ (by omega), if_pos rfl]
      rw [ask_pos (by rw [List.length_set]; omega), Int.toNat_natCast, e, ask_pos (by omega), ask_pos (by omega), Int.toNat_natCast, if_neg (by simpa using (he _ i (by omega) hi).2 b2)])
  have := loop_seq (body := F_impl_kernelOf_l2 L) (fun i => ((i : Int), meetI p q i ++ List.replicate (p.length - i) 0)) p.length (meetL p q) (fun i hi => by
    unfold F_impl_kernelOf_l2
    dsimp only
    have hw : (meetI p q i ++ List.replicate (p.length - i) (0 : Int)).length = p.length := by rw [List.length_append, meetI_len, List.length_replicate]; omega
    rw [if_pos (by omega), ask_pos (by omega), Int.toNat_natCast, inner i hi _ hw]
    simp only [Option.bind_some]
    rw [ask_pos (by unfold InI; omega), set_put _ _ _ hi (meetI_len p q i), meetI_succ]; rfl) (by
    unfold F_impl_kernelOf_l2
    dsimp only
    rw [if_neg (by omega), Nat.sub_self, List.replicate_zero, List.append_nil]; rfl)
  rw [show ((0, List.replicate p.length 0) : Int × List Int) = (((0 : Nat) : Int), meetI p q 0 ++ List.replicate (p.length - 0) 0) from rfl, this]
  rfl

theorem pair_eq {n a b c d : Int} (h1 : 0 ≤ b) (h2 : b < n) (h3 : 0 ≤ d) (h4 : d < n) : a * n + b = c * n + d ↔ a = c ∧ b = d := by
  constructor
  · intro h
    have key : a = c := by
      rcases Int.lt_trichotomy a c with hl | hl | hl
      · have := Int.mul_le_mul_of_nonneg_right (show a + 1 ≤ c by omega) (show 0 ≤ n by omega)
        rw [Int.add_mul, Int.one_mul] at this; omega
      · exact hl
      · have := Int.mul_le_mul_of_nonneg_right (show c + 1 ≤ a by omega) (show 0 ≤ n by omega)
        rw [Int.add_mul, Int.one_mul] at this; omega
    subst key
    exact ⟨rfl, by omega⟩
  · rintro ⟨rfl, rfl⟩; rfl

def codes (p q : List Int) (i : Nat) : List Int := (List.range i).map fun x => nth p x * (p.length : Int) + nth q x
theorem codes_len (p q : List Int) (i : Nat) : (codes p q i).length = i := by simp [codes]
theorem codes_succ (p q : List Int) (i : Nat) : codes p q (i + 1) = codes p q i ++ [nth p i * (p.length : Int) + nth q i] := by simp [codes, List.range_succ]
theorem F_meet {p q : List Int} (hl : p.length ≤ 8) (hq : q.length = p.length) (hp : inSize p p.length) (hqi : inSize q p.length) : F_impl_meet p q = some (meetL p q) := by
  unfold F_impl_meet
  rw [ask_pos (by rw [lim_def]; omega), Int.toNat_natCast]
  have := loop_seq (body := F_impl_meet_l1 p q) (fun i => ((i : Int), codes p q i ++ List.replicate (p.length - i) 0)) p.length (codes p q p.length) (fun i hi => by
    unfold F_impl_meet_l1
    dsimp only
    have hw : (codes p q i ++ List.replicate (p.length - i) (0 : Int)).length = p.length := by rw [List.length_append, codes_len, List.length_replicate]; omega
    have a1 := hp _ (nth_mem hi)
    have a2 := hqi _ (nth_mem (show i < q.length by omega))
    have a3 := Int.mul_le_mul_of_nonneg_right (show nth p i ≤ 8 by omega) (show 0 ≤ (p.length : Int) by omega)
    have a4 := Int.mul_nonneg a1.1 (show 0 ≤ (p.length : Int) by omega)
    rw [if_pos (by omega), ask_pos (by omega), Int.toNat_natCast, ask_pos (by unfold InI; omega), ask_pos (by omega), ask_pos (by unfold InI; omega), ask_pos (by omega), ask_pos (by unfold InI; omega), set_put _ _ _ hi (codes_len p q i), codes_succ]; rfl) (by
    unfold F_impl_meet_l1
    dsimp only
    rw [if_neg (by omega), Nat.sub_self, List.replicate_zero, List.append_nil])
  rw [show ((0, List.replicate p.length 0) : Int × List Int) = (((0 : Nat) : Int), codes p q 0 ++ List.replicate (p.length - 0) 0) from rfl, this]
  simp only [Option.bind_some]
  rw [F_kernelOf (p := p) (q := q) hl (codes_len _ _ _) (fun i j hi hj => by
    have a1 := hqi _ (nth_mem (show i < q.length by omega))
    have a2 := hqi _ (nth_mem (show j < q.length by omega))
    have e : ∀ k, k < p.length → nth (codes p q p.length) k = nth p k * (p.length : Int) + nth q k := fun k hk => by
      unfold codes
      rw [nth_map' _ (by simpa using hk), nth_range hk]
    rw [e i hi, e j hj]
    exact pair_eq a1.1 a1.2 a2.1 a2.2)]
  rfl

/-- the meet of the first of some partitions -/
noncomputable def metI (n : Nat) (ps : List (List Int)) (i : Nat) : List Int := (ps.take i).foldl meetL (List.replicate n 0)
theorem metI_succ {n : Nat} {ps : List (List Int)} {i : Nat} (hi : i < ps.length) : metI n ps (i + 1) = meetL (metI n ps i) (nth ps i) := by
  unfold metI; rw [take_nth hi, List.foldl_append]; rfl
theorem metI_ok {n : Nat} {ps : List (List Int)} : ∀ i, i ≤ ps.length → (metI n ps i).length = n ∧ inSize (metI n ps i) n := by
  intro i
  induction i with
  | zero =>
    intro _
    refine ⟨by simp [metI], fun x hx => ?_⟩
    have : x ∈ List.replicate n (0 : Int) := hx
    obtain ⟨h1, h2⟩ := List.mem_replicate.1 this
    omega
  | succ i ih =>
    intro hi
    have h := ih (by omega)
    rw [metI_succ (by omega)]
    refine ⟨by unfold meetL; rw [meetI_len]; exact h.1, ?_⟩
    have := @meetL_in (metI n ps i) (nth ps i)
    rw [h.1] at this
    exact this
theorem F_meetAllC {n : Nat} (hn : n ≤ 8) {ps : List (List Int)} (hl : ps.length ≤ 20) (h : ∀ q ∈ ps, q.length = n ∧ inSize q n) : F_impl_meetAll n ps = some (metI n ps ps.length) := by
  unfold F_impl_meetAll
  rw [ask_pos (by rw [lim_def]; omega), Int.toNat_natCast]
  have := loop_seq (body := F_impl_meetAll_l1 ps) (fun i => ((i : Int), metI n ps i)) ps.length (metI n ps ps.length) (fun i hi => by
    unfold F_impl_meetAll_l1
    dsimp only
    obtain ⟨a1, a2⟩ := h _ (nth_mem hi)
    obtain ⟨b1, b2⟩ := metI_ok (n := n) (ps := ps) i (by omega)
    rw [if_pos (by omega), ask_pos (by omega), Int.toNat_natCast, F_meet (by omega) (by omega) (by rw [b1]; exact b2) (by rw [b1]; exact a2)]
    simp only [Option.bind_some]
    rw [ask_pos (by unfold InI; omega), metI_succ hi]; rfl) (by
    unfold F_impl_meetAll_l1
    dsimp only
    rw [if_neg (by omega)])
  rw [show ((0, List.replicate n 0) : Int × List Int) = (((0 : Nat) : Int), metI n ps 0) from rfl, this]
  rfl
theorem F_l10Meet {n : Nat} (hn : n ≤ 8) {ps : List (List Int)} (hl : ps.length ≤ 20) (h : ∀ q ∈ ps, q.length = n ∧ inSize q n) : F_spec_l10Meet n ps = some (metI n ps ps.length) := by
  unfold F_spec_l10Meet F_spec_l6Full
  rw [ask_pos (by rw [lim_def]; omega), Int.toNat_natCast]
  simp only [Option.bind_some]
  have := loop_seq (body := F_spec_l10Meet_l1 ps) (fun i => ((i : Int), metI n ps i)) ps.length (metI n ps ps.length) (fun i hi => by
    unfold F_spec_l10Meet_l1
    dsimp only
    obtain ⟨a1, a2⟩ := h _ (nth_mem hi)
    obtain ⟨b1, b2⟩ := metI_ok (n := n) (ps := ps) i (by omega)
    rw [if_pos (by omega), ask_pos (by omega), Int.toNat_natCast, F_l6Meet (by omega) (by omega)]
    simp only [Option.bind_some]
    rw [ask_pos (by unfold InI; omega), metI_succ hi]; rfl) (by
    unfold F_spec_l10Meet_l1
    dsimp only
    rw [if_neg (by omega)])
  rw [show ((0, List.replicate n 0) : Int × List Int) = (((0 : Nat) : Int), metI n ps 0) from rfl, this]
  rfl

theorem F_blockCount {p : List Int} (hl : p.length ≤ 1048576) : F_impl_blockCount p = some ((sieve p.length fun i => decide (nth p i = (i : Int))).length : Int) := by
  unfold F_impl_blockCount
  rw [loop_count (body := F_impl_blockCount_l1 p) p.length (fun i => decide (nth p i = (i : Int))) (fun i c hi hc => by
    unfold F_impl_blockCount_l1
    dsimp only
    rw [if_pos (by omega), ask_pos (by omega), Int.toNat_natCast]
    by_cases h : nth p i = (i : Int)
    · rw [if_pos h, decide_eq_true h, if_pos rfl, ask_pos (by unfold InI; omega), ask_pos (by unfold InI; omega)]; rfl
    · rw [if_neg h, decide_eq_false h, if_neg (by simp), ask_pos (by unfold InI; omega)]; rfl) (fun c => by
    unfold F_impl_blockCount_l1
    dsimp only
    rw [if_neg (by omega)])]
  rfl
theorem F_l6Count {p : List Int} (hl : p.length ≤ 1048576) : F_spec_l6Count p = some ((sieve p.length fun i => decide (nth p i = (i : Int))).length : Int) := by
  unfold F_spec_l6Count
  rw [loop_count (body := F_spec_l6Count_l1 p) p.length (fun i => decide (nth p i = (i : Int))) (fun i c hi hc => by
    unfold F_spec_l6Count_l1
    dsimp only
    rw [if_pos (by omega), ask_pos (by omega), Int.toNat_natCast]
    by_cases h : nth p i = (i : Int)
    · rw [if_pos h, decide_eq_true h, if_pos rfl, ask_pos (by unfold InI; omega), ask_pos (by unfold InI; omega)]; rfl
    · rw [if_neg h, decide_eq_false h, if_neg (by simp), ask_pos (by unfold InI; omega)]; rfl) (fun c => by
    unfold F_spec_l6Count_l1
    dsimp only
    rw [if_neg (by omega)])]
  rfl

end Go.Proofs.Ytdodfnbbfkcgnaa.Ax
