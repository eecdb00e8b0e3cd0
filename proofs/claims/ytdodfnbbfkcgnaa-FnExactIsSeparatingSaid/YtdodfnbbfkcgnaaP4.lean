/-
  The order of a poset, as the program makes it; the reference's test; that they agree.
-/
import Derived.Test.YtdodfnbbfkcgnaaP3
namespace Go.Proofs.Ytdodfnbbfkcgnaa.Ax
open Go Classical

def posOk (xss : List (List Int)) : Prop := xss.length ≤ 10 ∧ ∀ r ∈ xss, rises r ∧ inSize r xss.length
noncomputable def below (xss : List (List Int)) (y x : Nat) : Bool := decide ((y : Int) ∈ nth xss x)
noncomputable def below1 (xss : List (List Int)) (i : Nat) (y x : Nat) : Bool := decide (x < i ∧ (y : Int) ∈ nth xss x)
noncomputable def below2 (xss : List (List Int)) (i j : Nat) (y x : Nat) : Bool := decide ((x < i ∧ (y : Int) ∈ nth xss x) ∨ (x = i ∧ (y : Int) ∈ (nth xss i).take j))

theorem below2_0 (xss : List (List Int)) (i : Nat) : below2 xss i 0 = below1 xss i := by
  funext y x; simp [below2, below1]
theorem below2_end (xss : List (List Int)) (i j : Nat) (h : (nth xss i).length ≤ j) : below2 xss i j = below1 xss (i + 1) := by
  funext y x
  simp only [below2, below1, List.take_of_length_le h, decide_eq_decide]
  constructor
  · rintro (⟨h1, h2⟩ | ⟨rfl, h2⟩)
    · exact ⟨by omega, h2⟩
    · exact ⟨by omega, h2⟩
  · rintro ⟨h1, h2⟩
    rcases Nat.lt_succ_iff_lt_or_eq.1 h1 with h | rfl
    · exact .inl ⟨h, h2⟩
    · exact .inr ⟨rfl, h2⟩
theorem below2_succ (xss : List (List Int)) (i j c : Nat) (h : j < (nth xss i).length) (hc : nth (nth xss i) j = (c : Int)) :
    (fun a b => if a = c ∧ b = i then true else below2 xss i j a b) = below2 xss i (j + 1) := by
  funext a b
  simp only [below2]
  rw [take_nth h, hc]
  by_cases hab : a = c ∧ b = i
  · obtain ⟨rfl, rfl⟩ := hab
    simp
  · rw [if_neg hab, decide_eq_decide]
    simp only [List.mem_append, List.mem_singleton]
    constructor
    · rintro (h1 | ⟨h1, h2⟩)
      · exact .inl h1
      · exact .inr ⟨h1, .inl h2⟩
    · rintro (h1 | ⟨h1, h2 | h2⟩)
      · exact .inl h1
      · exact .inr ⟨h1, h2⟩
      · exact absurd ⟨by omega, h1⟩ hab
theorem below1_end (xss : List (List Int)) (n : Nat) (_h : n = xss.length) : tab n (below1 xss n) = tab n (below xss) := by
  refine tab_congr fun y x _ hx => ?_
  simp [below1, below, hx]

def good (xss : List (List Int)) : Prop := xss.length ≤ 10 ∧ (∀ x, x < xss.length → rising (nth xss x) 0 (xss.length - 1) ∧ (x : Int) ∈ nth xss x) ∧
  ∀ x, x < xss.length → ∀ i, i < (nth xss x).length → ¬ (nth (nth xss x) i ≠ x ∧ (x : Int) ∈ nth xss (nth (nth xss x) i).toNat) ∧
    ∀ z ∈ nth xss (nth (nth xss x) i).toNat, z ∈ nth xss x

theorem rising_iff (xs : List Int) (n : Nat) : rising xs 0 (n - 1) ↔ rises xs ∧ inSize xs n := by
  constructor
  · intro h
    refine ⟨fun i h1 h2 => (h i h2).2 h1, fun x hx => ?_⟩
    obtain ⟨i, h1, rfl⟩ := mem_nth.1 hx
    have := (h i h1).1
    omega
  · rintro ⟨h1, h2⟩ i hi
    have := h2 _ (nth_mem hi)
    exact ⟨by omega, fun h => h1 i h hi⟩

/-- the program's test and the reference's are one -/
theorem good_iff (xss : List (List Int)) : (posOk xss ∧ isOrd xss.length (below xss)) ↔ good xss := by
  constructor
  · rintro ⟨⟨h1, h2⟩, h3⟩
    have hs : ∀ x, x < xss.length → rises (nth xss x) ∧ inSize (nth xss x) xss.length := fun x hx => h2 _ (nth_mem hx)
    refine ⟨h1, fun x hx => ⟨(rising_iff _ _).2 (hs x hx), by simpa [below] using (h3 x hx).1⟩, fun x hx i hi => ?_⟩
    have hm := nth_mem hi
    have hb := (hs x hx).2 _ hm
    obtain ⟨y, hy⟩ := Int.eq_ofNat_of_zero_le hb.1
    rw [hy] at hm ⊢
    have hyn : y < xss.length := by omega
    simp only [Int.toNat_natCast]
    refine ⟨fun hc => ?_, fun z hz => ?_⟩
    · refine ((h3 y hyn).2 x hx).1 ⟨fun e => hc.1 (by rw [e]), by simpa [below] using hm, by simpa [below] using hc.2⟩
    · have hzb := (hs y hyn).2 z hz
      obtain ⟨w, rfl⟩ := Int.eq_ofNat_of_zero_le hzb.1
      have := ((h3 w (by omega)).2 y hyn).2 x hx (by simpa [below] using hz) (by simpa [below] using hm)
      simpa [below] using this
  · rintro ⟨h1, h2, h3⟩
    refine ⟨⟨h1, fun r hr => ?_⟩, fun x hx => ⟨by simpa [below] using (h2 x hx).2, fun y hy => ⟨?_, fun z hz a b => ?_⟩⟩⟩
    · obtain ⟨x, hx, rfl⟩ := mem_nth.1 hr
      exact (rising_iff _ _).1 (h2 x hx).1
    · rintro ⟨a, b, c⟩
      obtain ⟨i, hi, he⟩ := mem_nth.1 (show (x : Int) ∈ nth xss y by simpa [below] using b)
      have := (h3 y hy i hi).1
      rw [he] at this
      exact this ⟨by omega, by simpa [below] using c⟩
    · obtain ⟨i, hi, he⟩ := mem_nth.1 (show (y : Int) ∈ nth xss z by simpa [below] using b)
      have := (h3 z hz i hi).2
      rw [he] at this
      have := this x (by simpa [below] using a)
      simpa [below] using this

end Go.Proofs.Ytdodfnbbfkcgnaa.Ax
