/-
  Arguments of an index, indexes of arguments, permutations; InverseIso.
-/
import Derived.Test.YtoikbcagaanhgaaP27
namespace Go.Proofs.Ytoikbcagaanhgaa.Ax
open Go Classical
def argL (n : Nat) : Nat → Nat → List Int
  | 0, _ => []
  | r + 1, k => argL n r (k / n) ++ [((k % n : Nat) : Int)]
theorem argL_len (n : Nat) : ∀ r k, (argL n r k).length = r := by
  intro r
  induction r with
  | zero => intro k; rfl
  | succ r ih => intro k; simp [argL, ih]
theorem argL_in {n : Nat} (hn : 0 < n) : ∀ r k, inSize (argL n r k) n := by
  intro r
  induction r with
  | zero => intro k x hx; cases hx
  | succ r ih =>
    intro k x hx
    simp only [argL] at hx
    rcases List.mem_append.1 hx with hx | hx
    · exact ih _ x hx
    · rw [List.mem_singleton.1 hx]
      have := Nat.mod_lt k hn
      omega
def horn (m : Nat) (xs : List Int) : Int := xs.foldl (fun s x => s * (m : Int) + x) 0
theorem horn_snoc (m : Nat) (xs : List Int) (y : Int) : horn m (xs ++ [y]) = horn m xs * (m : Int) + y := by
  unfold horn; rw [List.foldl_append]; rfl
theorem horn_lt {m : Nat} : ∀ (r : Nat) (xs : List Int), xs.length = r → inSize xs m → ∃ c : Nat, horn m xs = (c : Int) ∧ c < m ^ r := by
  intro r
  induction r with
  | zero =>
    intro xs hl _
    have : xs = [] := List.length_eq_zero_iff.1 hl
    subst this
    exact ⟨0, rfl, by simp⟩
  | succ r ih =>
    intro xs hl hx
    obtain ⟨ys, y, rfl⟩ : ∃ ys y, xs = ys ++ [y] := by
      refine ⟨xs.take r, nth xs r, ?_⟩
      rw [← take_nth (by omega), List.take_of_length_le (by omega)]
    have hy := hx y (by simp)
    obtain ⟨c, h1, h2⟩ := ih ys (by simpa using hl) fun z hz => hx z (by simp [hz])
    obtain ⟨d, rfl⟩ := Int.eq_ofNat_of_zero_le hy.1
    refine ⟨c * m + d, by rw [horn_snoc, h1]; push_cast; rfl, ?_⟩
    have h3 := Nat.mul_le_mul_right m (show c + 1 ≤ m ^ r from h2)
    rw [Nat.succ_mul] at h3
    rw [Nat.pow_succ]
    omega
theorem horn_bound {m : Nat} (hm : m ≤ 8) {xs : List Int} (hl : xs.length ≤ 3) (hx : inSize xs m) : ∃ c : Nat, horn m xs = (c : Int) ∧ c < m ^ xs.length ∧ c < 512 := by
  obtain ⟨c, h1, h2⟩ := horn_lt xs.length xs rfl hx
  have := pow_le hm hl
  exact ⟨c, h1, h2, by omega⟩
def lowI (n m : Nat) (f : List Int) : Nat → Nat → Int
  | 0, _ => 0
  | r + 1, k => lowI n m f r (k / n) * (m : Int) + nth f (k % n)
theorem horn_low (n m : Nat) (f : List Int) : ∀ r k, horn m ((argL n r k).map fun x => nth f x.toNat) = lowI n m f r k := by
  intro r
  induction r with
  | zero => intro k; rfl
  | succ r ih =>
    intro k
    simp only [argL, lowI, List.map_append, List.map_cons, List.map_nil, Int.toNat_natCast]
    rw [horn_snoc, ih]
theorem images_in {n m : Nat} (hn : 0 < n) {f : List Int} (hf : f.length = n) (hfx : inSize f m) (r k : Nat) : inSize ((argL n r k).map fun x => nth f x.toNat) m := by
  intro y hy
  obtain ⟨x, hx, rfl⟩ := List.mem_map.1 hy
  have := argL_in hn r k x hx
  exact hfx _ (nth_mem (by omega))
structure Homs (a b : SAlgebra) (f : List Int) (n m : Nat) : Prop where
  ga : goodA a
  gb : goodA b
  ty : typeA a = typeA b
  sa : a.Size = n
  sb : b.Size = m
  len : f.length = n
  fin : inSize f m
section
variable {a b : SAlgebra} {f : List Int} {n m : Nat}
theorem Homs.pos (h : Homs a b f n m) : 0 < n ∧ n ≤ 8 ∧ 0 < m ∧ m ≤ 8 := by
  have := h.sa; have := h.sb; have := h.ga.1; have := h.ga.2.1; have := h.gb.1; have := h.gb.2.1
  omega
theorem Homs.low (h : Homs a b f n m) {r k : Nat} (hr : r ≤ 3) : ∃ c : Nat, lowI n m f r k = (c : Int) ∧ c < m ^ r := by
  obtain ⟨hn, _, _, hm⟩ := h.pos
  obtain ⟨c, h1, h2, _⟩ := horn_bound hm (xs := (argL n r k).map fun x => nth f x.toNat) (by rw [List.length_map, argL_len]; exact hr) (images_in hn h.len h.fin r k)
  rw [horn_low] at h1
  rw [List.length_map, argL_len] at h2
  exact ⟨c, h1, h2⟩
end
def uniq (f : List Int) : Prop := ∀ i, i < f.length → nth f i ∉ f.take i
end Go.Proofs.Ytoikbcagaanhgaa.Ax
