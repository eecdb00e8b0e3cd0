/-
  Products and stacks of orders: their rows.
-/
import Derived.Test.YtoikbcagaanhgaaP23
namespace Go.Proofs.Ytoikbcagaanhgaa.Ax
open Go Classical
theorem range_mul {α : Type} (n m : Nat) (g : Nat → α) : (List.range (n * m)).map g = (List.range n).flatMap fun x => (List.range m).map fun y => g (x * m + y) := by
  induction n with
  | zero => simp
  | succ n ih =>
    rw [Nat.succ_mul, List.range_add, List.map_append, ih, List.range_succ, List.flatMap_append]
    simp [List.map_map, Function.comp_def]
def prodF (f g : Nat → Nat → Bool) (m : Nat) (a b : Nat) : Bool := f (a / m) (b / m) && g (a % m) (b % m)
def prodRow (m : Nat) (us vs : List Int) : List Int := us.flatMap fun u => vs.map fun v => u * (m : Int) + v
theorem prod_row {n m : Nat} {f g : Nat → Nat → Bool} {x y : Nat} (hy : y < m) : prodRow m (sieve n fun a => f a x) (sieve m fun b => g b y) = sieve (n * m) fun a => prodF f g m a (x * m + y) := by
  have hm : 0 < m := by omega
  have e1 : (x * m + y) / m = x := by rw [Nat.mul_comm, Nat.mul_add_div hm, Nat.div_eq_of_lt hy]; omega
  have e2 : (x * m + y) % m = y := by rw [Nat.mul_comm, Nat.mul_add_mod, Nat.mod_eq_of_lt hy]
  refine rises_ext (rises_pw.2 ?_) (sieve_rises _ _) fun z => ?_
  · unfold prodRow
    rw [List.pairwise_flatMap]
    refine ⟨fun u _ => ?_, ?_⟩
    · rw [List.pairwise_map]
      exact (rises_pw.1 (sieve_rises m fun b => g b y)).imp fun {a b} h => by omega
    · refine (rises_pw.1 (sieve_rises n fun a => f a x)).imp_of_mem fun {a b} ha hb h => ?_
      obtain ⟨i, _, _, rfl⟩ := mem_sieve.1 ha
      obtain ⟨j, _, _, rfl⟩ := mem_sieve.1 hb
      intro u hu v hv
      obtain ⟨s, hs, rfl⟩ := List.mem_map.1 hu
      obtain ⟨t, ht, rfl⟩ := List.mem_map.1 hv
      obtain ⟨k, hk, _, rfl⟩ := mem_sieve.1 hs
      obtain ⟨l, hl, _, rfl⟩ := mem_sieve.1 ht
      have h1 : i + 1 ≤ j := by omega
      have h2 := Nat.mul_le_mul_right m h1
      rw [Nat.succ_mul] at h2
      have h3 : i * m + k < j * m + l := by omega
      exact_mod_cast h3
  · unfold prodRow
    simp only [List.mem_flatMap, List.mem_map, mem_sieve]
    constructor
    · rintro ⟨u, ⟨i, hi, hf, rfl⟩, v, ⟨k, hk, hg, rfl⟩, rfl⟩
      have d1 : (i * m + k) / m = i := by rw [Nat.mul_comm, Nat.mul_add_div hm, Nat.div_eq_of_lt hk]; omega
      have d2 : (i * m + k) % m = k := by rw [Nat.mul_comm, Nat.mul_add_mod, Nat.mod_eq_of_lt hk]
      refine ⟨i * m + k, ?_, ?_, by push_cast; rfl⟩
      · have := Nat.mul_le_mul_right m (show i + 1 ≤ n by omega)
        rw [Nat.succ_mul] at this; omega
      · unfold prodF
        rw [e1, e2, d1, d2, hf, hg]; rfl
    · rintro ⟨w, hw, hp, rfl⟩
      unfold prodF at hp
      rw [e1, e2, Bool.and_eq_true] at hp
      refine ⟨((w / m : Nat) : Int), ⟨w / m, Nat.div_lt_of_lt_mul (by rw [Nat.mul_comm]; exact hw), hp.1, rfl⟩, ((w % m : Nat) : Int), ⟨w % m, Nat.mod_lt _ hm, hp.2, rfl⟩, ?_⟩
      have := Nat.div_add_mod w m
      rw [Nat.mul_comm] at this
      exact_mod_cast this
theorem flatMap_eq {α β : Type} {l : List α} {s t : α → List β} (h : ∀ x ∈ l, s x = t x) : l.flatMap s = l.flatMap t := by
  induction l with
  | nil => rfl
  | cons x r ih => rw [List.flatMap_cons, List.flatMap_cons, h x (by simp), ih fun y hy => h y (by simp [hy])]
theorem prod_rows (n m : Nat) (f g : Nat → Nat → Bool) : (posOf (n * m) (prodF f g m)).Below = (List.range n).flatMap fun x => (List.range m).map fun y => prodRow m (sieve n fun a => f a x) (sieve m fun b => g b y) := by
  unfold posOf
  rw [range_mul]
  refine flatMap_eq fun x _ => ?_
  exact List.map_congr_left fun y hy => (prod_row (List.mem_range.1 hy)).symm
def stackF (f g : Nat → Nat → Bool) (n : Nat) (a b : Nat) : Bool := if a < n then (if b < n then f a b else true) else (if b < n then false else g (a - n) (b - n))
theorem stack_low {n m : Nat} {f g : Nat → Nat → Bool} {x : Nat} (hx : x < n) : (sieve (n + m) fun a => stackF f g n a x) = sieve n fun a => f a x := by
  refine rises_ext (sieve_rises _ _) (sieve_rises _ _) fun z => ?_
  rw [mem_sieve, mem_sieve]
  constructor
  · rintro ⟨i, hi, hs, rfl⟩
    unfold stackF at hs
    rw [if_pos hx, if_pos hx] at hs
    by_cases hin : i < n
    · rw [if_pos hin] at hs; exact ⟨i, hin, hs, rfl⟩
    · rw [if_neg hin] at hs; cases hs
  · rintro ⟨i, hi, hs, rfl⟩
    refine ⟨i, by omega, ?_, rfl⟩
    unfold stackF
    rw [if_pos hi, if_pos hx]; exact hs
def upTo (n : Nat) : List Int := (List.range n).map fun i : Nat => (i : Int)
theorem stack_high {n m : Nat} {f g : Nat → Nat → Bool} {y : Nat} : (sieve (n + m) fun a => stackF f g n a (n + y)) = upTo n ++ (sieve m fun b => g b y).map fun v => (n : Int) + v := by
  have hu : upTo n = sieve n fun _ => true := by
    unfold upTo sieve
    rw [List.filter_eq_self.2 (by simp)]
  rw [hu]
  refine rises_ext (sieve_rises _ _) (rises_pw.2 ?_) fun z => ?_
  · rw [List.pairwise_append]
    refine ⟨rises_pw.1 (sieve_rises _ _), ?_, ?_⟩
    · rw [List.pairwise_map]
      exact (rises_pw.1 (sieve_rises m fun b => g b y)).imp fun {a b} h => by omega
    · intro a ha b hb
      obtain ⟨i, hi, _, rfl⟩ := mem_sieve.1 ha
      obtain ⟨v, hv, rfl⟩ := List.mem_map.1 hb
      obtain ⟨j, _, _, rfl⟩ := mem_sieve.1 hv
      omega
  · rw [mem_sieve, List.mem_append, mem_sieve, List.mem_map]
    constructor
    · rintro ⟨i, hi, hs, rfl⟩
      unfold stackF at hs
      by_cases hin : i < n
      · exact .inl ⟨i, hin, rfl, rfl⟩
      · rw [if_neg hin, if_neg (by omega), show n + y - n = y by omega] at hs
        exact .inr ⟨((i - n : Nat) : Int), mem_sieve.2 ⟨i - n, by omega, hs, rfl⟩, by omega⟩
    · rintro (⟨i, hi, _, rfl⟩ | ⟨v, hv, rfl⟩)
      · refine ⟨i, by omega, ?_, rfl⟩
        unfold stackF
        rw [if_pos hi, if_neg (by omega)]
      · obtain ⟨j, hj, hg, rfl⟩ := mem_sieve.1 hv
        refine ⟨n + j, by omega, ?_, by push_cast; rfl⟩
        unfold stackF
        rw [if_neg (by omega), if_neg (by omega), show n + j - n = j by omega, show n + y - n = y by omega]; exact hg
theorem stack_rows (n m : Nat) (f g : Nat → Nat → Bool) : (posOf (n + m) (stackF f g n)).Below = (List.range n).map (fun x => sieve n fun a => f a x) ++ (List.range m).map fun y => upTo n ++ (sieve m fun b => g b y).map fun v => (n : Int) + v := by
  unfold posOf
  rw [List.range_add, List.map_append, List.map_map]
  have h1 : (List.range n).map (fun x => sieve (n + m) fun y => stackF f g n y x) = (List.range n).map fun x => sieve n fun a => f a x := List.map_congr_left fun x hx => stack_low (List.mem_range.1 hx)
  have h2 : (List.range m).map ((fun x => sieve (n + m) fun y => stackF f g n y x) ∘ fun x => n + x) = (List.range m).map fun y => upTo n ++ (sieve m fun b => g b y).map fun v => (n : Int) + v := List.map_congr_left fun y _ => stack_high
  rw [h1, h2]
end Go.Proofs.Ytoikbcagaanhgaa.Ax
