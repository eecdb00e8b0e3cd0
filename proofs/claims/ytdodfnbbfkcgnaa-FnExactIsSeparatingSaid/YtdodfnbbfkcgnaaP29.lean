/-
  Arguments of an index, indexes of arguments, permutations; InverseIso.
-/
import Derived.Test.YtdodfnbbfkcgnaaP27
namespace Go.Proofs.Ytdodfnbbfkcgnaa.Ax
open Go Classical

/-- the frame of a law on one algebra -/
theorem law_frameA {a : SAlgebra} (h : readA a) {k : Option Bool} (hk : smallA a → k = some true) : ((F_laws_szAlgebra a 1048576).bind fun r1 => if r1 < 0 then some true else k) = some true := by
  obtain ⟨r, e, h1⟩ := F_szAlgebra h (n := 1048576) (by omega) (by omega)
  rw [e]
  simp only [Option.bind_some]
  rcases h1 with h1 | ⟨h1, _, h3⟩
  · rw [if_pos h1]
  · rw [if_neg h1]; exact hk h3
/-- .. on two -/
theorem law_frameA2 {a b : SAlgebra} (h : readA a) (h' : readA b) {k : Option Bool} (hk : smallA a → smallA b → k = some true) :
    ((F_laws_szAlgebra a 1048576).bind fun r1 => if r1 < 0 then some true else (F_laws_szAlgebra b r1).bind fun r3 => if r3 < 0 then some true else k) = some true := by
  obtain ⟨r, e, h1⟩ := F_szAlgebra h (n := 1048576) (by omega) (by omega)
  rw [e]
  simp only [Option.bind_some]
  rcases h1 with h1 | ⟨h1, h2, h3⟩
  · rw [if_pos h1]
  rw [if_neg h1]
  obtain ⟨s, e2, h4⟩ := F_szAlgebra h' (n := r) (by omega) (by omega)
  rw [e2]
  simp only [Option.bind_some]
  rcases h4 with h4 | ⟨h4, _, h5⟩
  · rw [if_pos h4]
  · rw [if_neg h4]; exact hk h3 h5

/-- the arguments of an index -/
def argL (n : Nat) : Nat → Nat → List Int
  | 0, _ => []
  | r + 1, k => argL n r (k / n) ++ [((k % n : Nat) : Int)]
theorem argL_len (n : Nat) : ∀ r k, (argL n r k).length = r := by
  intro r
  induction r with
  | zero => intro k; rfl
  | succ r ih => intro k; simp [argL, ih]
theorem argL_in {n : Nat} (hn : 0 < n) : ∀ r k, inSize (argL n r k) n := by
  intro r
  induction r with
  | zero => intro k x hx; cases hx
  | succ r ih =>
    intro k x hx
    simp only [argL] at hx
    rcases List.mem_append.1 hx with hx | hx
    · exact ih _ x hx
    · rw [List.mem_singleton.1 hx]
      have := Nat.mod_lt k hn
      omega
theorem F_args1 {n : Nat} (hn : 0 < n) (hn8 : n ≤ 8) : ∀ (r k : Nat) (xs : List Int), r ≤ xs.length → xs.length ≤ 1000 → k ≤ 1048576 → loopO (F_spec_l2Args_l1 n) ((r : Int) - 1, xs, (k : Int)) = some (argL n r k ++ xs.drop r) := by
  intro r
  induction r with
  | zero =>
    intro k xs _ _ _
    refine loopO_stop ?_
    unfold F_spec_l2Args_l1
    dsimp only
    rw [if_neg (by omega)]
    simp [argL]
  | succ r ih =>
    intro k xs hr hl hk
    have c1 : (k : Int).tdiv (n : Int) = ((k / n : Nat) : Int) := rfl
    have c2 : (k : Int).tmod (n : Int) = ((k % n : Nat) : Int) := rfl
    have hd : k / n ≤ k := Nat.div_le_self k n
    have step : F_spec_l2Args_l1 n (((r + 1 : Nat) : Int) - 1, xs, (k : Int)) = some (.inl ((r : Int) - 1, xs.set r ((k % n : Nat) : Int), ((k / n : Nat) : Int))) := by
      unfold F_spec_l2Args_l1
      dsimp only
      rw [show (((r + 1 : Nat) : Int) - 1) = (r : Int) by omega, c1, c2]
      generalize k / n = kd at hd
      rw [if_pos (by omega), ask_pos (by omega), ask_pos (by omega), ask_pos (by unfold InI; omega), ask_pos (by unfold InI; omega), Int.toNat_natCast]
    rw [loopO_next step, ih _ _ (by rw [List.length_set]; omega) (by rw [List.length_set]; exact hl) (by omega)]
    congr 1
    simp only [argL]
    rw [List.append_assoc]
    congr 1
    have e : (xs.set r ((k % n : Nat) : Int)).drop r = ((k % n : Nat) : Int) :: xs.drop (r + 1) := by
      refine List.ext_getElem (by simp; omega) fun i h1 h2 => ?_
      rw [List.getElem_drop, List.getElem_set]
      cases i with
      | zero => simp
      | succ i =>
        rw [if_neg (by omega), List.getElem_cons_succ, List.getElem_drop]
        congr 1; omega
    rw [e]; rfl
theorem F_l2Args {n r k : Nat} (hn : 0 < n) (hn8 : n ≤ 8) (hr : r ≤ 3) (hk : k ≤ 1048576) : F_spec_l2Args n r k = some (argL n r k) := by
  unfold F_spec_l2Args
  rw [ask_pos (by rw [lim_def]; omega), ask_pos (by unfold InI; omega), Int.toNat_natCast, F_args1 hn hn8 r k _ (by simp) (by simp; omega) hk]
  simp
/-- the index of arguments -/
def horn (m : Nat) (xs : List Int) : Int := xs.foldl (fun s x => s * (m : Int) + x) 0
theorem horn_snoc (m : Nat) (xs : List Int) (y : Int) : horn m (xs ++ [y]) = horn m xs * (m : Int) + y := by
  unfold horn; rw [List.foldl_append]; rfl
theorem horn_lt {m : Nat} : ∀ (r : Nat) (xs : List Int), xs.length = r → inSize xs m → ∃ c : Nat, horn m xs = (c : Int) ∧ c < m ^ r := by
  intro r
  induction r with
  | zero =>
    intro xs hl _
    have : xs = [] := List.length_eq_zero_iff.1 hl
    subst this
    exact ⟨0, rfl, by simp⟩
  | succ r ih =>
    intro xs hl hx
    obtain ⟨ys, y, rfl⟩ : ∃ ys y, xs = ys ++ [y] := by
      refine ⟨xs.take r, nth xs r, ?_⟩
      rw [← take_nth (by omega), List.take_of_length_le (by omega)]
    have hy := hx y (by simp)
    obtain ⟨c, h1, h2⟩ := ih ys (by simpa using hl) fun z hz => hx z (by simp [hz])
    obtain ⟨d, rfl⟩ := Int.eq_ofNat_of_zero_le hy.1
    refine ⟨c * m + d, by rw [horn_snoc, h1]; push_cast; rfl, ?_⟩
    have h3 := Nat.mul_le_mul_right m (show c + 1 ≤ m ^ r from h2)
    rw [Nat.succ_mul] at h3
    rw [Nat.pow_succ]
    omega
theorem horn_bound {m : Nat} (hm : m ≤ 8) {xs : List Int} (hl : xs.length ≤ 3) (hx : inSize xs m) : ∃ c : Nat, horn m xs = (c : Int) ∧ c < m ^ xs.length ∧ c < 512 := by
  obtain ⟨c, h1, h2⟩ := horn_lt xs.length xs rfl hx
  have := pow_le hm hl
  exact ⟨c, h1, h2, by omega⟩
theorem horn_take {m : Nat} {xs : List Int} {i : Nat} (hi : i < xs.length) : horn m (xs.take (i + 1)) = horn m (xs.take i) * (m : Int) + nth xs i := by
  rw [take_nth hi, horn_snoc]
theorem horn_step {m : Nat} (hm : m ≤ 8) {xs : List Int} (hl : xs.length ≤ 3) (hx : inSize xs m) {i : Nat} (hi : i < xs.length) :
    InI (horn m (xs.take i) * (m : Int)) ∧ InI (horn m (xs.take i) * (m : Int) + nth xs i) := by
  obtain ⟨c, h1, _, h3⟩ := horn_bound hm (xs := xs.take i) (by rw [List.length_take]; omega) fun z hz => hx z (List.mem_of_mem_take hz)
  have hv := hx _ (nth_mem hi)
  have h4 : c * m ≤ 512 * 8 := Nat.mul_le_mul (by omega) hm
  rw [h1, ← Int.natCast_mul]
  generalize c * m = d at h4
  unfold InI
  omega
theorem F_value {b : SAlgebra} {m : Nat} (hm : m ≤ 8) (hb : b.Size = m) {i : Nat} (hi : i < b.Ops.length) {xs : List Int} (hl : xs.length ≤ 3) (hx : inSize xs m) (hT : (nth b.Ops i).Table.length = m ^ xs.length) :
    F_spec_l2Value b i xs = some (nth (nth b.Ops i).Table (horn m xs).toNat) := by
  unfold F_spec_l2Value
  have key := loop_seq (body := F_spec_l2Value_l1 b i xs) (fun j => ((j : Int), horn m (xs.take j))) xs.length (horn m xs) (fun j hj => by
    unfold F_spec_l2Value_l1
    dsimp only
    obtain ⟨h1, h2⟩ := horn_step hm hl hx hj
    rw [hb, if_pos (by omega), ask_pos h1, ask_pos (by omega), Int.toNat_natCast, ask_pos h2, ask_pos (by unfold InI; omega), horn_take hj]
    rfl) (by
    unfold F_spec_l2Value_l1
    dsimp only
    rw [if_neg (by omega), List.take_length])
  have key' : loopO (F_spec_l2Value_l1 b i xs) (0, 0) = _ := key
  rw [key']
  simp only [Option.bind_some]
  obtain ⟨c, h1, h2, _⟩ := horn_bound hm hl hx
  rw [ask_pos (by omega), Int.toNat_natCast, ask_pos (by rw [h1, hT]; omega)]

/-- the index of images -/
def lowI (n m : Nat) (f : List Int) : Nat → Nat → Int
  | 0, _ => 0
  | r + 1, k => lowI n m f r (k / n) * (m : Int) + nth f (k % n)
theorem horn_low (n m : Nat) (f : List Int) : ∀ r k, horn m ((argL n r k).map fun x => nth f x.toNat) = lowI n m f r k := by
  intro r
  induction r with
  | zero => intro k; rfl
  | succ r ih =>
    intro k
    simp only [argL, lowI, List.map_append, List.map_cons, List.map_nil, Int.toNat_natCast]
    rw [horn_snoc, ih]
theorem img_arith (A C S M L : Int) : A + C * S + S * M * L = A + S * (L * M + C) := by
  rw [Int.mul_add, Int.mul_comm C S, Int.add_assoc, Int.add_comm (S * C), Int.mul_assoc, Int.mul_comm M L]
theorem images_in {n m : Nat} (hn : 0 < n) {f : List Int} (hf : f.length = n) (hfx : inSize f m) (r k : Nat) : inSize ((argL n r k).map fun x => nth f x.toNat) m := by
  intro y hy
  obtain ⟨x, hx, rfl⟩ := List.mem_map.1 hy
  have := argL_in hn r k x hx
  exact hfx _ (nth_mem (by omega))
/-- what two algebras and a map must be for faults to be looked for -/
structure Homs (a b : SAlgebra) (f : List Int) (n m : Nat) : Prop where
  ga : goodA a
  gb : goodA b
  ty : typeA a = typeA b
  sa : a.Size = n
  sb : b.Size = m
  len : f.length = n
  fin : inSize f m
/-- the map is at fault -/
def faultAt (a b : SAlgebra) (f : List Int) (n m i k : Nat) : Prop := nth f (nth (nth a.Ops i).Table k).toNat ≠ nth (nth b.Ops i).Table (lowI n m f (nth a.Ops i).Arity.toNat k).toNat
def faulty (a b : SAlgebra) (f : List Int) (n m : Nat) : Prop := ∃ i, i < a.Ops.length ∧ ∃ k, k < (nth a.Ops i).Table.length ∧ faultAt a b f n m i k
section
variable {a b : SAlgebra} {f : List Int} {n m : Nat}
theorem Homs.ops (h : Homs a b f n m) : a.Ops.length = b.Ops.length := by
  have := congrArg List.length h.ty
  simpa [typeA] using this
theorem Homs.op (h : Homs a b f n m) {i : Nat} (hi : i < a.Ops.length) : ∃ r : Nat, r ≤ 3 ∧ (nth a.Ops i).Arity = r ∧ (nth b.Ops i).Arity = r ∧ (nth a.Ops i).Table.length = n ^ r ∧ (nth b.Ops i).Table.length = m ^ r ∧ inSize (nth a.Ops i).Table n ∧ n ^ r ≤ 512 := by
  have hn : a.Size.toNat = n := by have := h.sa; omega
  have hm : b.Size.toNat = m := by have := h.sb; omega
  have hn8 : n ≤ 8 := by have := h.sa; have := h.ga.2.1; omega
  obtain ⟨h1, h2, h3, h4⟩ := h.ga.2.2.2 _ (nth_mem hi)
  have hib : i < b.Ops.length := by rw [← h.ops]; exact hi
  obtain ⟨_, _, k3, _⟩ := h.gb.2.2.2 _ (nth_mem hib)
  have e : (nth a.Ops i).Arity = (nth b.Ops i).Arity := by
    have e1 : nth (typeA a) i = (nth a.Ops i).Arity := nth_map' _ hi
    have e2 : nth (typeA b) i = (nth b.Ops i).Arity := nth_map' _ hib
    rw [← e1, ← e2, h.ty]
  rw [hn] at h3 h4
  rw [hm, ← e] at k3
  exact ⟨(nth a.Ops i).Arity.toNat, by omega, by omega, by omega, h3, k3, h4, pow_le hn8 (by omega)⟩
theorem Homs.pos (h : Homs a b f n m) : 0 < n ∧ n ≤ 8 ∧ 0 < m ∧ m ≤ 8 := by
  have := h.sa; have := h.sb; have := h.ga.1; have := h.ga.2.1; have := h.gb.1; have := h.gb.2.1
  omega
theorem Homs.low (h : Homs a b f n m) {r k : Nat} (hr : r ≤ 3) : ∃ c : Nat, lowI n m f r k = (c : Int) ∧ c < m ^ r := by
  obtain ⟨hn, _, _, hm⟩ := h.pos
  obtain ⟨c, h1, h2, _⟩ := horn_bound hm (xs := (argL n r k).map fun x => nth f x.toNat) (by rw [List.length_map, argL_len]; exact hr) (images_in hn h.len h.fin r k)
  rw [horn_low] at h1
  rw [List.length_map, argL_len] at h2
  exact ⟨c, h1, h2⟩
end

/-- no number twice -/
def uniq (f : List Int) : Prop := ∀ i, i < f.length → nth f i ∉ f.take i
end Go.Proofs.Ytdodfnbbfkcgnaa.Ax
