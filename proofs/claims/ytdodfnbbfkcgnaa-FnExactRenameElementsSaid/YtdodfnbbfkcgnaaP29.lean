/-
  Arguments of an index, indexes of arguments, permutations; InverseIso.
-/
import Derived.Test.YtdodfnbbfkcgnaaP27
namespace Go.Proofs.Ytdodfnbbfkcgnaa.Ax
open Go Classical

/-- the frame of a law on one algebra -/
theorem law_frameA {a : SAlgebra} (h : readA a) {k : Option Bool} (hk : smallA a → k = some true) : ((F_laws_szAlgebra a 1048576).bind fun r1 => if r1 < 0 then some true else k) = some true := by
  obtain ⟨r, e, h1⟩ := F_szAlgebra h (n := 1048576) (by omega) (by omega)
  rw [e]
  simp only [Option.bind_some]
  rcases h1 with h1 | ⟨h1, _, h3⟩
  · rw [if_pos h1]
  · rw [if_neg h1]; exact hk h3
/-- .. on two -/
theorem law_frameA2 {a b : SAlgebra} (h : readA a) (h' : readA b) {k : Option Bool} (hk : smallA a → smallA b → k = some true) :
    ((F_laws_szAlgebra a 1048576).bind fun r1 => if r1 < 0 then some true else (F_laws_szAlgebra b r1).bind fun r3 => if r3 < 0 then some true else k) = some true := by
  obtain ⟨r, e, h1⟩ := F_szAlgebra h (n := 1048576) (by omega) (by omega)
  rw [e]
  simp only [Option.bind_some]
  rcases h1 with h1 | ⟨h1, h2, h3⟩
  · rw [if_pos h1]
  rw [if_neg h1]
  obtain ⟨s, e2, h4⟩ := F_szAlgebra h' (n := r) (by omega) (by omega)
  rw [e2]
  simp only [Option.bind_some]
  rcases h4 with h4 | ⟨h4, _, h5⟩
  · rw [if_pos h4]
  · rw [if_neg h4]; exact hk h3 h5

/-- the arguments of an index -/
def argL (n : Nat) : Nat → Nat → List Int
  | 0, _ => []
  | r + 1, k => argL n r (k / n) ++ [((k % n : Nat) : Int)]
theorem argL_len (n : Nat) : ∀ r k, (argL n r k).length = r := by
  intro r
  induction r with
  | zero => intro k; rfl
  | succ r ih => intro k; simp [argL, ih]
theorem argL_in {n : Nat} (hn : 0 < n) : ∀ r k, inSize (argL n r k) n := by
  intro r
  induction r with
  | zero => intro k x hx; cases hx
  | succ r ih =>
    intro k x hx
    simp only [argL] at hx
    rcases List.mem_append.1 hx with hx | hx
    · exact ih _ x hx
    · rw [List.mem_singleton.1 hx]
      have := Nat.mod_lt k hn
      omega
theorem F_args1 {n : Nat} (hn : 0 < n) (hn8 : n ≤ 8) : ∀ (r k : Nat) (xs : List Int), r ≤ xs.length → xs.length ≤ 1000 → k ≤ 1048576 → loopO (F_spec_l2Args_l1 n) ((r : Int) - 1, xs, (k : Int)) = some (argL n r k ++ xs.drop r) := by
  intro r
  induction r with
  | zero =>
    intro k xs _ _ _
    refine loopO_stop ?_
    unfold F_spec_l2Args_l1
    dsimp only
    rw [if_neg (by omega)]
    simp [argL]
  | succ r ih =>
    intro k xs hr hl hk
    have c1 : (k : Int).tdiv (n : Int) = ((k / n : Nat) : Int) := rfl
    have c2 : (k : Int).tmod (n : Int) = ((k % n : Nat) : Int) := rfl
    have hd : k / n ≤ k := Nat.div_le_self k n
    have step : F_spec_l2Args_l1 n (((r + 1 : Nat) : Int) - 1, xs, (k : Int)) = some (.inl ((r : Int) - 1, xs.set r ((k % n : Nat) : Int), ((k / n : Nat) : Int))) := by
      unfold F_spec_l2Args_l1
      dsimp only
      rw [show (((r + 1 : Nat) : Int) - 1) = (r : Int) by omega, c1, c2]
      generalize k / n = kd at hd
      rw [if_pos (by omega), ask_pos (by omega), ask_pos (by omega), ask_pos (by unfold InI; omega), ask_pos (by unfold InI; omega), Int.toNat_natCast]
    rw [loopO_next step, ih _ _ (by rw [List.length_set]; omega) (by rw [List.length_set]; exact hl) (by omega)]
    congr 1
    simp only [argL]
    rw [List.append_assoc]
    congr 1
    have e : (xs.set r ((k % n : Nat) : Int)).drop r = ((k % n : Nat) : Int) :: xs.drop (r + 1) := by
      refine List.ext_getElem (by simp; omega) fun i h1 h2 => ?_
      rw [List.getElem_drop, List.getElem_set]
      cases i with
      | zero => simp
      | succ i =>
        rw [if_neg (by omega), List.getElem_cons_succ, List.getElem_drop]
        congr 1; omega
    rw [e]; rfl
theorem F_l2Args {n r k : Nat} (hn : 0 < n) (hn8 : n ≤ 8) (hr : r ≤ 3) (hk : k ≤ 1048576) : F_spec_l2Args n r k = some (argL n r k) := by
  unfold F_spec_l2Args
  rw [ask_pos (by rw [lim_def]; omega), ask_pos (by unfold InI; omega), Int.toNat_natCast, F_args1 hn hn8 r k _ (by simp) (by simp; omega) hk]
  simp
theorem F_argsAt {n r k : Nat} (hn : 0 < n) (hn8 : n ≤ 8) (hr : r ≤ 3) (hk : k ≤ 1048576) : F_impl_argsAt k r n = some (argL n r k) := by
  have : F_impl_argsAt (k : Int) (r : Int) (n : Int) = F_spec_l2Args (n : Int) (r : Int) (k : Int) := rfl
  rw [this]; exact F_l2Args hn hn8 hr hk

/-- the index of arguments -/
def horn (m : Nat) (xs : List Int) : Int := xs.foldl (fun s x => s * (m : Int) + x) 0
theorem horn_snoc (m : Nat) (xs : List Int) (y : Int) : horn m (xs ++ [y]) = horn m xs * (m : Int) + y := by
  unfold horn; rw [List.foldl_append]; rfl
theorem horn_lt {m : Nat} : ∀ (r : Nat) (xs : List Int), xs.length = r → inSize xs m → ∃ c : Nat, horn m xs = (c : Int) ∧ c < m ^ r := by
  intro r
  induction r with
  | zero =>
    intro xs hl _
    have : xs = [] := List.length_eq_zero_iff.1 hl
    subst this
    exact ⟨0, rfl, by simp⟩
  | succ r ih =>
    intro xs hl hx
    obtain ⟨ys, y, rfl⟩ : ∃ ys y, xs = ys ++ [y] := by
      refine ⟨xs.take r, nth xs r, ?_⟩
      rw [← take_nth (by omega), List.take_of_length_le (by omega)]
    have hy := hx y (by simp)
    obtain ⟨c, h1, h2⟩ := ih ys (by simpa using hl) fun z hz => hx z (by simp [hz])
    obtain ⟨d, rfl⟩ := Int.eq_ofNat_of_zero_le hy.1
    refine ⟨c * m + d, by rw [horn_snoc, h1]; push_cast; rfl, ?_⟩
    have h3 := Nat.mul_le_mul_right m (show c + 1 ≤ m ^ r from h2)
    rw [Nat.succ_mul] at h3
    rw [Nat.pow_succ]
    omega
theorem horn_bound {m : Nat} (hm : m ≤ 8) {xs : List Int} (hl : xs.length ≤ 3) (hx : inSize xs m) : ∃ c : Nat, horn m xs = (c : Int) ∧ c < m ^ xs.length ∧ c < 512 := by
  obtain ⟨c, h1, h2⟩ := horn_lt xs.length xs rfl hx
  have := pow_le hm hl
  exact ⟨c, h1, h2, by omega⟩
theorem horn_take {m : Nat} {xs : List Int} {i : Nat} (hi : i < xs.length) : horn m (xs.take (i + 1)) = horn m (xs.take i) * (m : Int) + nth xs i := by
  rw [take_nth hi, horn_snoc]
theorem horn_step {m : Nat} (hm : m ≤ 8) {xs : List Int} (hl : xs.length ≤ 3) (hx : inSize xs m) {i : Nat} (hi : i < xs.length) :
    InI (horn m (xs.take i) * (m : Int)) ∧ InI (horn m (xs.take i) * (m : Int) + nth xs i) := by
  obtain ⟨c, h1, _, h3⟩ := horn_bound hm (xs := xs.take i) (by rw [List.length_take]; omega) fun z hz => hx z (List.mem_of_mem_take hz)
  have hv := hx _ (nth_mem hi)
  have h4 : c * m ≤ 512 * 8 := Nat.mul_le_mul (by omega) hm
  rw [h1, ← Int.natCast_mul]
  generalize c * m = d at h4
  unfold InI
  omega
theorem F_indexOf {m : Nat} (hm : m ≤ 8) {xs : List Int} (hl : xs.length ≤ 3) (hx : inSize xs m) : F_impl_indexOf xs m = some (horn m xs) := by
  unfold F_impl_indexOf
  have key := loop_seq (body := F_impl_indexOf_l1 xs m) (fun i => ((i : Int), horn m (xs.take i))) xs.length (horn m xs) (fun i hi => by
    unfold F_impl_indexOf_l1
    dsimp only
    obtain ⟨h1, h2⟩ := horn_step hm hl hx hi
    rw [if_pos (by omega), ask_pos (by omega), ask_pos h1, Int.toNat_natCast, ask_pos h2, ask_pos (by unfold InI; omega), horn_take hi]
    rfl) (by
    unfold F_impl_indexOf_l1
    dsimp only
    rw [if_neg (by omega), List.take_length])
  have key' : loopO (F_impl_indexOf_l1 xs m) (0, 0) = _ := key
  rw [key']; rfl
theorem F_value {b : SAlgebra} {m : Nat} (hm : m ≤ 8) (hb : b.Size = m) {i : Nat} (hi : i < b.Ops.length) {xs : List Int} (hl : xs.length ≤ 3) (hx : inSize xs m) (hT : (nth b.Ops i).Table.length = m ^ xs.length) :
    F_spec_l2Value b i xs = some (nth (nth b.Ops i).Table (horn m xs).toNat) := by
  unfold F_spec_l2Value
  have key := loop_seq (body := F_spec_l2Value_l1 b i xs) (fun j => ((j : Int), horn m (xs.take j))) xs.length (horn m xs) (fun j hj => by
    unfold F_spec_l2Value_l1
    dsimp only
    obtain ⟨h1, h2⟩ := horn_step hm hl hx hj
    rw [hb, if_pos (by omega), ask_pos h1, ask_pos (by omega), Int.toNat_natCast, ask_pos h2, ask_pos (by unfold InI; omega), horn_take hj]
    rfl) (by
    unfold F_spec_l2Value_l1
    dsimp only
    rw [if_neg (by omega), List.take_length])
  have key' : loopO (F_spec_l2Value_l1 b i xs) (0, 0) = _ := key
  rw [key']
  simp only [Option.bind_some]
  obtain ⟨c, h1, h2, _⟩ := horn_bound hm hl hx
  rw [ask_pos (by omega), Int.toNat_natCast, ask_pos (by rw [h1, hT]; omega)]

/-- the index of images -/
def lowI (n m : Nat) (f : List Int) : Nat → Nat → Int
  | 0, _ => 0
  | r + 1, k => lowI n m f r (k / n) * (m : Int) + nth f (k % n)
theorem horn_low (n m : Nat) (f : List Int) : ∀ r k, horn m ((argL n r k).map fun x => nth f x.toNat) = lowI n m f r k := by
  intro r
  induction r with
  | zero => intro k; rfl
  | succ r ih =>
    intro k
    simp only [argL, lowI, List.map_append, List.map_cons, List.map_nil, Int.toNat_natCast]
    rw [horn_snoc, ih]
theorem img_arith (A C S M L : Int) : A + C * S + S * M * L = A + S * (L * M + C) := by
  rw [Int.mul_add, Int.mul_comm C S, Int.add_assoc, Int.add_comm (S * C), Int.mul_assoc, Int.mul_comm M L]
theorem F_image1 {n m : Nat} (hn : 0 < n) (hm : m ≤ 8) {a b : SAlgebra} (ha : a.Size = n) (hb : b.Size = m) {f : List Int} (hf : f.length = n) (hfx : inSize f m) {ar : Nat} (har : ar ≤ 3) : ∀ (r j s acc k : Nat), j + r = ar → s * 8 ^ r ≤ 512 → acc ≤ 4096 * j → k ≤ 1048576 →
    loopO (F_impl_imageIndex_l1 ar a b f) ((j : Int), (s : Int), (acc : Int), (k : Int)) = some ((acc : Int) + (s : Int) * lowI n m f r k) := by
  intro r
  induction r with
  | zero =>
    intro j s acc k hj _ _ _
    refine loopO_stop ?_
    unfold F_impl_imageIndex_l1
    dsimp only
    rw [if_neg (by omega)]
    simp [lowI]
  | succ r ih =>
    intro j s acc k hj hs hacc hk
    have hkn := Nat.mod_lt k hn
    have hv := hfx _ (nth_mem (show k % n < f.length by omega))
    obtain ⟨c, hc⟩ := Int.eq_ofNat_of_zero_le hv.1
    have hd : k / n ≤ k := Nat.div_le_self k n
    have hp : 0 < 8 ^ r := Nat.pow_pos (by omega)
    rw [Nat.pow_succ] at hs
    have hs8 : s * 8 ≤ 512 := by
      have : s * 8 * 1 ≤ s * 8 * 8 ^ r := Nat.mul_le_mul_left _ hp
      rw [Nat.mul_assoc, Nat.mul_assoc, Nat.mul_comm 8 (8 ^ r)] at this
      omega
    have hsm : s * m ≤ s * 8 := Nat.mul_le_mul_left _ hm
    have hcs : c * s ≤ 8 * 64 := Nat.mul_le_mul (by omega) (by omega)
    have c1 : (k : Int).tdiv (n : Int) = ((k / n : Nat) : Int) := rfl
    have c2 : (k : Int).tmod (n : Int) = ((k % n : Nat) : Int) := rfl
    have step : F_impl_imageIndex_l1 ar a b f ((j : Int), (s : Int), (acc : Int), (k : Int)) = some (.inl (((j + 1 : Nat) : Int), ((s * m : Nat) : Int), ((acc + c * s : Nat) : Int), ((k / n : Nat) : Int))) := by
      unfold F_impl_imageIndex_l1
      dsimp only
      rw [ha, hb, c1, c2, Int.toNat_natCast, hc]
      have e1 : (c : Int) * (s : Int) = ((c * s : Nat) : Int) := by push_cast; rfl
      have e2 : (s : Int) * (m : Int) = ((s * m : Nat) : Int) := by push_cast; rfl
      rw [e1, e2]
      generalize k / n = kd at hd
      generalize k % n = km at hkn
      generalize c * s = cs at hcs
      generalize s * m = sm at hsm
      rw [if_pos (by omega)]
      repeat rw [ask_pos (by first | omega | (unfold InI; omega))]
      rfl
    have hb2 : s * m * 8 ^ r ≤ 512 := by
      have h1 : s * m * 8 ^ r ≤ s * 8 * 8 ^ r := Nat.mul_le_mul_right _ hsm
      rw [Nat.mul_assoc s 8, Nat.mul_comm 8 (8 ^ r)] at h1
      omega
    rw [loopO_next step, ih (j + 1) (s * m) (acc + c * s) (k / n) (by omega) hb2 (by omega) (by omega)]
    simp only [lowI, hc]
    congr 1
    push_cast
    exact img_arith _ _ _ _ _
theorem F_imageIndex {n m : Nat} (hn : 0 < n) (hm : m ≤ 8) {a b : SAlgebra} (ha : a.Size = n) (hb : b.Size = m) {f : List Int} (hf : f.length = n) (hfx : inSize f m) {ar : Nat} (har : ar ≤ 3) {k : Nat} (hk : k ≤ 1048576) :
    F_impl_imageIndex k ar a b f = some (lowI n m f ar k) := by
  unfold F_impl_imageIndex
  have h8 : 1 * 8 ^ ar ≤ 512 := by rw [Nat.one_mul]; exact pow_le (by omega) har
  have key := F_image1 hn hm ha hb hf hfx har ar 0 1 0 k (by omega) h8 (by omega) hk
  have key' : loopO (F_impl_imageIndex_l1 ar a b f) (0, 1, 0, (k : Int)) = some (lowI n m f ar k) := by simpa using key
  rw [key']; rfl
theorem images_in {n m : Nat} (hn : 0 < n) {f : List Int} (hf : f.length = n) (hfx : inSize f m) (r k : Nat) : inSize ((argL n r k).map fun x => nth f x.toNat) m := by
  intro y hy
  obtain ⟨x, hx, rfl⟩ := List.mem_map.1 hy
  have := argL_in hn r k x hx
  exact hfx _ (nth_mem (by omega))
theorem F_l7Images {f xs : List Int} (hl : xs.length ≤ 3) (hx : inSize xs f.length) : F_spec_l7Images f xs = some (xs.map fun x => nth f x.toNat) := by
  unfold F_spec_l7Images
  have key := loop_seq (body := F_spec_l7Images_l1 f xs) (fun i => ((i : Int), (xs.take i).map fun x => nth f x.toNat)) xs.length (xs.map fun x => nth f x.toNat) (fun i hi => by
    unfold F_spec_l7Images_l1
    dsimp only
    have hv := hx _ (nth_mem hi)
    rw [if_pos (by omega), ask_pos (by omega), Int.toNat_natCast, ask_pos (by omega), ask_pos (by rw [lim_def]; simp only [List.length_map, List.length_take, List.length_cons, List.length_nil]; omega), ask_pos (by unfold InI; omega), take_nth hi, List.map_append]
    rfl) (by
    unfold F_spec_l7Images_l1
    dsimp only
    rw [if_neg (by omega), List.take_length])
  have key' : loopO (F_spec_l7Images_l1 f xs) (0, nilL Int) = _ := key
  rw [key']; rfl

/-- what two algebras and a map must be for faults to be looked for -/
structure Homs (a b : SAlgebra) (f : List Int) (n m : Nat) : Prop where
  ga : goodA a
  gb : goodA b
  ty : typeA a = typeA b
  sa : a.Size = n
  sb : b.Size = m
  len : f.length = n
  fin : inSize f m
/-- the map is at fault -/
def faultAt (a b : SAlgebra) (f : List Int) (n m i k : Nat) : Prop := nth f (nth (nth a.Ops i).Table k).toNat ≠ nth (nth b.Ops i).Table (lowI n m f (nth a.Ops i).Arity.toNat k).toNat
def faulty (a b : SAlgebra) (f : List Int) (n m : Nat) : Prop := ∃ i, i < a.Ops.length ∧ ∃ k, k < (nth a.Ops i).Table.length ∧ faultAt a b f n m i k
section
variable {a b : SAlgebra} {f : List Int} {n m : Nat}
theorem Homs.ops (h : Homs a b f n m) : a.Ops.length = b.Ops.length := by
  have := congrArg List.length h.ty
  simpa [typeA] using this
theorem Homs.op (h : Homs a b f n m) {i : Nat} (hi : i < a.Ops.length) : ∃ r : Nat, r ≤ 3 ∧ (nth a.Ops i).Arity = r ∧ (nth b.Ops i).Arity = r ∧ (nth a.Ops i).Table.length = n ^ r ∧ (nth b.Ops i).Table.length = m ^ r ∧ inSize (nth a.Ops i).Table n ∧ n ^ r ≤ 512 := by
  have hn : a.Size.toNat = n := by have := h.sa; omega
  have hm : b.Size.toNat = m := by have := h.sb; omega
  have hn8 : n ≤ 8 := by have := h.sa; have := h.ga.2.1; omega
  obtain ⟨h1, h2, h3, h4⟩ := h.ga.2.2.2 _ (nth_mem hi)
  have hib : i < b.Ops.length := by rw [← h.ops]; exact hi
  obtain ⟨_, _, k3, _⟩ := h.gb.2.2.2 _ (nth_mem hib)
  have e : (nth a.Ops i).Arity = (nth b.Ops i).Arity := by
    have e1 : nth (typeA a) i = (nth a.Ops i).Arity := nth_map' _ hi
    have e2 : nth (typeA b) i = (nth b.Ops i).Arity := nth_map' _ hib
    rw [← e1, ← e2, h.ty]
  rw [hn] at h3 h4
  rw [hm, ← e] at k3
  exact ⟨(nth a.Ops i).Arity.toNat, by omega, by omega, by omega, h3, k3, h4, pow_le hn8 (by omega)⟩
theorem Homs.pos (h : Homs a b f n m) : 0 < n ∧ n ≤ 8 ∧ 0 < m ∧ m ≤ 8 := by
  have := h.sa; have := h.sb; have := h.ga.1; have := h.ga.2.1; have := h.gb.1; have := h.gb.2.1
  omega
theorem Homs.low (h : Homs a b f n m) {r k : Nat} (hr : r ≤ 3) : ∃ c : Nat, lowI n m f r k = (c : Int) ∧ c < m ^ r := by
  obtain ⟨hn, _, _, hm⟩ := h.pos
  obtain ⟨c, h1, h2, _⟩ := horn_bound hm (xs := (argL n r k).map fun x => nth f x.toNat) (by rw [List.length_map, argL_len]; exact hr) (images_in hn h.len h.fin r k)
  rw [horn_low] at h1
  rw [List.length_map, argL_len] at h2
  exact ⟨c, h1, h2⟩
theorem F_faultOf (h : Homs a b f n m) : ∃ r, F_impl_faultOf a b f = some r ∧ (decide (r.1 < 0) = decide (¬ faulty a b f n m)) := by
  obtain ⟨hn, hn8, _, hm⟩ := h.pos
  have hop4 := h.ga.2.2.1
  have inner : ∀ i, i < a.Ops.length → ((∃ k, k < (nth a.Ops i).Table.length ∧ faultAt a b f n m i k) ∧ ∃ k : Nat, loopO (F_impl_faultOf_l1 a b f (i : Int)) 0 = some (.inl (k : Int))) ∨ ((¬ ∃ k, k < (nth a.Ops i).Table.length ∧ faultAt a b f n m i k) ∧ loopO (F_impl_faultOf_l1 a b f (i : Int)) 0 = some (.inr ())) := by
    intro i hi
    obtain ⟨r, hr, e1, e2, l1, l2, t1, l3⟩ := h.op hi
    have hops := h.ops
    have body : ∀ k, k < (nth a.Ops i).Table.length → F_impl_faultOf_l1 a b f (i : Int) (k : Int) = if faultAt a b f n m i k then some (.inr (.inl (k : Int))) else some (.inl ((k + 1 : Nat) : Int)) := by
      intro k hk
      have hv := t1 _ (nth_mem hk)
      have hlen := h.len
      obtain ⟨c, hc1, hc2⟩ := h.low (k := k) hr
      unfold F_impl_faultOf_l1
      rw [Int.toNat_natCast, if_pos (by omega), ask_pos (by omega), Int.toNat_natCast, ask_pos (by omega), ask_pos (by omega), e1, F_imageIndex hn hm h.sa h.sb h.len h.fin hr (by omega)]
      simp only [Option.bind_some]
      rw [ask_pos (by rw [hc1, l2]; omega)]
      have er : (nth a.Ops i).Arity.toNat = r := by omega
      by_cases hF : faultAt a b f n m i k
      · have hF' := hF
        unfold faultAt at hF'
        rw [er] at hF'
        rw [if_pos hF', if_pos hF]
      · have hF' := hF
        unfold faultAt at hF'
        rw [er] at hF'
        rw [if_neg hF', if_neg hF, ask_pos (by unfold InI; omega)]; rfl
    rcases loop_pick (body := F_impl_faultOf_l1 a b f (i : Int)) (fun k => (k : Int)) (nth a.Ops i).Table.length (faultAt a b f n m i) (fun k => .inl (k : Int)) (.inr ()) (fun k hk hh => by rw [body k hk, if_neg hh]) (fun k hk hh => by rw [body k hk, if_pos hh]) (by
      unfold F_impl_faultOf_l1
      rw [Int.toNat_natCast, if_neg (by omega)]) with ⟨k, hk, hh, _, e⟩ | ⟨hno, e⟩
    · exact .inl ⟨⟨k, hk, hh⟩, k, e⟩
    · exact .inr ⟨fun ⟨k, hk, hh⟩ => hno k hk hh, e⟩
  have inner2 : ∀ i, ∃ q : Int, ∀ hi : i < a.Ops.length, (∃ k, k < (nth a.Ops i).Table.length ∧ faultAt a b f n m i k) → loopO (F_impl_faultOf_l1 a b f (i : Int)) 0 = some (.inl q) := by
    intro i
    by_cases hi : i < a.Ops.length
    · rcases inner i hi with ⟨_, k, e⟩ | ⟨hno, _⟩
      · exact ⟨k, fun _ _ => e⟩
      · exact ⟨0, fun _ hx => absurd hx hno⟩
    · exact ⟨0, fun h2 => absurd h2 hi⟩
  obtain ⟨q, hq⟩ : ∃ q : Nat → Int, ∀ i (_ : i < a.Ops.length), (∃ k, k < (nth a.Ops i).Table.length ∧ faultAt a b f n m i k) → loopO (F_impl_faultOf_l1 a b f (i : Int)) 0 = some (.inl (q i)) := ⟨fun i => Classical.choose (inner2 i), fun i => Classical.choose_spec (inner2 i)⟩
  unfold F_impl_faultOf
  rcases loop_pick (body := F_impl_faultOf_l2 a b f) (fun i => (i : Int)) a.Ops.length (fun i => ∃ k, k < (nth a.Ops i).Table.length ∧ faultAt a b f n m i k) (fun i => .inl (q i, (i : Int))) (.inr ()) (fun i hi hh => by
      unfold F_impl_faultOf_l2
      rw [if_pos (by omega), ask_pos (by omega)]
      rcases inner i hi with ⟨hx, _⟩ | ⟨_, e⟩
      · exact absurd hx hh
      · rw [e]
        simp only [Option.bind_some]
        rw [ask_pos (by unfold InI; omega)]; rfl) (fun i hi hh => by
      unfold F_impl_faultOf_l2
      rw [if_pos (by omega), ask_pos (by omega), hq i hi hh]
      rfl) (by
      unfold F_impl_faultOf_l2
      rw [if_neg (by omega)]) with ⟨i, hi, hh, _, e⟩ | ⟨hno, e⟩
  · rw [show ((0 : Int)) = (((0 : Nat)) : Int) from rfl, e]
    refine ⟨_, rfl, ?_⟩
    rw [decide_eq_decide]
    exact ⟨fun hc => by dsimp only at hc; omega, fun hc => absurd ⟨i, hi, hh⟩ hc⟩
  · rw [show ((0 : Int)) = (((0 : Nat)) : Int) from rfl, e]
    refine ⟨_, rfl, ?_⟩
    rw [decide_eq_decide]
    exact ⟨fun _ ⟨i, hi, hh⟩ => hno i hi hh, fun _ => by decide⟩
theorem F_l7Fault (h : Homs a b f n m) : ∃ r, F_spec_l7Fault a b f = some r ∧ ((!r.2.2) = decide (¬ faulty a b f n m)) := by
  obtain ⟨hn, hn8, _, hm⟩ := h.pos
  have hop4 := h.ga.2.2.1
  have inner : ∀ i, i < a.Ops.length → ((∃ k, k < (nth a.Ops i).Table.length ∧ faultAt a b f n m i k) ∧ ∃ q, loopO (F_spec_l7Fault_l1 a b f (i : Int)) 0 = some (.inl q)) ∨ ((¬ ∃ k, k < (nth a.Ops i).Table.length ∧ faultAt a b f n m i k) ∧ loopO (F_spec_l7Fault_l1 a b f (i : Int)) 0 = some (.inr ())) := by
    intro i hi
    obtain ⟨r, hr, e1, e2, l1, l2, t1, l3⟩ := h.op hi
    have hops := h.ops
    have body : ∀ k, k < (nth a.Ops i).Table.length → F_spec_l7Fault_l1 a b f (i : Int) (k : Int) = if faultAt a b f n m i k then some (.inr (.inl (argL n r k))) else some (.inl ((k + 1 : Nat) : Int)) := by
      intro k hk
      have hv := t1 _ (nth_mem hk)
      have hlen := h.len
      have hal := argL_len n r k
      unfold F_spec_l7Fault_l1
      rw [ask_pos (by omega), Int.toNat_natCast, if_pos (by omega), ask_pos (by omega), e1, h.sa, F_l2Args hn hn8 hr (by omega)]
      simp only [Option.bind_some]
      rw [ask_pos (by omega), ask_pos (by omega), Int.toNat_natCast, ask_pos (by omega), F_l7Images (by omega) (by rw [h.len]; exact argL_in hn r k)]
      simp only [Option.bind_some]
      rw [F_value hm h.sb (by omega) (by rw [List.length_map, hal]; exact hr) (images_in hn h.len h.fin r k) (by rw [List.length_map, hal]; exact l2), horn_low]
      simp only [Option.bind_some]
      have er : (nth a.Ops i).Arity.toNat = r := by omega
      by_cases hF : faultAt a b f n m i k
      · have hF' := hF
        unfold faultAt at hF'
        rw [er] at hF'
        rw [if_pos hF', if_pos hF]
      · have hF' := hF
        unfold faultAt at hF'
        rw [er] at hF'
        rw [if_neg hF', if_neg hF, ask_pos (by unfold InI; omega)]; rfl
    rcases loop_pick (body := F_spec_l7Fault_l1 a b f (i : Int)) (fun k => (k : Int)) (nth a.Ops i).Table.length (faultAt a b f n m i) (fun k => .inl (argL n r k)) (.inr ()) (fun k hk hh => by rw [body k hk, if_neg hh]) (fun k hk hh => by rw [body k hk, if_pos hh]) (by
      unfold F_spec_l7Fault_l1
      rw [ask_pos (by omega), Int.toNat_natCast, if_neg (by omega)]) with ⟨k, hk, hh, _, e⟩ | ⟨hno, e⟩
    · exact .inl ⟨⟨k, hk, hh⟩, _, e⟩
    · exact .inr ⟨fun ⟨k, hk, hh⟩ => hno k hk hh, e⟩
  have inner2 : ∀ i, ∃ q : List Int, ∀ hi : i < a.Ops.length, (∃ k, k < (nth a.Ops i).Table.length ∧ faultAt a b f n m i k) → loopO (F_spec_l7Fault_l1 a b f (i : Int)) 0 = some (.inl q) := by
    intro i
    by_cases hi : i < a.Ops.length
    · rcases inner i hi with ⟨_, k, e⟩ | ⟨hno, _⟩
      · exact ⟨k, fun _ _ => e⟩
      · exact ⟨[], fun _ hx => absurd hx hno⟩
    · exact ⟨[], fun h2 => absurd h2 hi⟩
  obtain ⟨q, hq⟩ : ∃ q : Nat → List Int, ∀ i (_ : i < a.Ops.length), (∃ k, k < (nth a.Ops i).Table.length ∧ faultAt a b f n m i k) → loopO (F_spec_l7Fault_l1 a b f (i : Int)) 0 = some (.inl (q i)) := ⟨fun i => Classical.choose (inner2 i), fun i => Classical.choose_spec (inner2 i)⟩
  unfold F_spec_l7Fault
  rcases loop_pick (body := F_spec_l7Fault_l2 a b f) (fun i => (i : Int)) a.Ops.length (fun i => ∃ k, k < (nth a.Ops i).Table.length ∧ faultAt a b f n m i k) (fun i => .inl (q i, (i : Int))) (.inr ()) (fun i hi hh => by
      unfold F_spec_l7Fault_l2
      rw [if_pos (by omega)]
      rcases inner i hi with ⟨hx, _⟩ | ⟨_, e⟩
      · exact absurd hx hh
      · rw [e]
        simp only [Option.bind_some]
        rw [ask_pos (by unfold InI; omega)]; rfl) (fun i hi hh => by
      unfold F_spec_l7Fault_l2
      rw [if_pos (by omega), hq i hi hh]
      rfl) (by
      unfold F_spec_l7Fault_l2
      rw [if_neg (by omega)]) with ⟨i, hi, hh, _, e⟩ | ⟨hno, e⟩
  · rw [show ((0 : Int)) = (((0 : Nat)) : Int) from rfl, e]
    refine ⟨_, rfl, ?_⟩
    have hd : decide (¬ faulty a b f n m) = false := decide_eq_false (fun hc => hc ⟨i, hi, hh⟩)
    rw [hd]; rfl
  · rw [show ((0 : Int)) = (((0 : Nat)) : Int) from rfl, e]
    refine ⟨_, rfl, ?_⟩
    have hd : decide (¬ faulty a b f n m) = true := decide_eq_true (fun ⟨i, hi, hh⟩ => hno i hi hh)
    rw [hd]; rfl
end

/-- no number twice -/
def uniq (f : List Int) : Prop := ∀ i, i < f.length → nth f i ∉ f.take i
theorem F_isOrderL {f : List Int} (hl : f.length ≤ LIM) (n : Int) (hn1 : n ≤ 8) : F_impl_isOrder f n = some (decide ((f.length : Int) = n ∧ inSize f n ∧ uniq f)) := by
  unfold F_impl_isOrder
  by_cases h1 : (f.length : Int) = n
  · rw [if_neg (by simpa using h1), F_inSize _ _ hl]
    simp only [Option.bind_some]
    by_cases h2 : inSize f n
    · rw [decide_eq_true h2, if_pos rfl]
      simp only [Option.bind_some]
      subst h1
      rw [ask_pos (by rw [lim_def]; omega), Int.toNat_natCast]
      have this := loop_find (body := F_impl_isOrder_l1 f) (fun i => ((i : Int), btab f.length fun z => decide ((z : Int) ∈ f.take i))) f.length (fun i => nth f i ∈ f.take i) () () (fun i hi hb => by
        have hv := h2 _ (nth_mem hi)
        have hc : nth f i = (((nth f i).toNat : Nat) : Int) := by omega
        have hlen := btab_len f.length fun z => decide ((z : Int) ∈ f.take i)
        unfold F_impl_isOrder_l1
        dsimp only
        rw [if_pos (by omega), ask_pos (by omega), Int.toNat_natCast, ask_pos (by omega), btab_at (by omega), if_neg (by rw [← hc]; simpa using hb), ask_pos (by omega), ask_pos (by unfold InI; omega), btab_set (by omega)]
        refine congrArg (fun x => some (Sum.inl (_, x))) (btab_congr fun z _ => ?_)
        rw [take_nth hi]
        by_cases hz : z = (nth f i).toNat
        · rw [if_pos hz]
          refine (decide_eq_true ?_).symm
          rw [List.mem_append, List.mem_singleton]; right; omega
        · rw [if_neg hz, decide_eq_decide, List.mem_append, List.mem_singleton]
          exact ⟨.inl, fun h => h.resolve_right (by omega)⟩) (fun i hi hb => by
        have hv := h2 _ (nth_mem hi)
        have hc : nth f i = (((nth f i).toNat : Nat) : Int) := by omega
        have hlen := btab_len f.length fun z => decide ((z : Int) ∈ f.take i)
        unfold F_impl_isOrder_l1
        dsimp only
        rw [if_pos (by omega), ask_pos (by omega), Int.toNat_natCast, ask_pos (by omega), btab_at (by omega), if_pos (by rw [← hc]; simpa using hb)]) (by
        unfold F_impl_isOrder_l1
        dsimp only
        rw [if_neg (by omega)]) 0 (by omega)
      have e0 : (btab f.length fun z => decide ((z : Int) ∈ f.take 0)) = List.replicate f.length false := by
        rw [btab_false]; exact btab_congr fun z _ => by simp
      simp only [e0] at this
      refine (find_bool this false true).trans (congrArg some (dec_not ?_))
      constructor
      · intro hno
        exact ⟨rfl, h2, fun i hi hm => hno ⟨i, by omega, hi, hm⟩⟩
      · rintro ⟨_, _, hu⟩ ⟨i, _, hi, hm⟩
        exact hu i hi hm
    · rw [decide_eq_false h2, if_neg (by simp), decide_eq_false (fun h => h2 h.2.1)]; rfl
  · rw [if_pos (by simpa using h1), decide_eq_false (fun h => h1 h.1)]; rfl
theorem F_l7Into {f : List Int} (hl : f.length ≤ 1048576) {n : Nat} (h2 : inSize f n) : F_spec_l7Into f = some (decide (uniq f)) := by
  unfold F_spec_l7Into
  have body : ∀ i, i < f.length → F_spec_l7Into_l1 f (i : Int) = if nth f i ∈ f.take i then some (.inr (.inl ())) else some (.inl ((i + 1 : Nat) : Int)) := by
    intro i hi
    have hv := h2 _ (nth_mem hi)
    unfold F_spec_l7Into_l1
    rw [if_pos (by omega), ask_pos (by omega), Int.toNat_natCast, if_pos (by omega), ask_pos (by omega), ask_pos (by omega)]
    have e : List.take (i - Int.toNat 0) (List.drop (Int.toNat 0) f) = f.take i := by simp
    rw [e, F_l1Has _ _ (by rw [lim_def, List.length_take]; omega)]
    simp only [Option.bind_some]
    by_cases hm : nth f i ∈ f.take i
    · rw [decide_eq_true hm, if_pos rfl, if_pos hm]
    · rw [decide_eq_false hm, if_neg (by simp), if_neg hm, ask_pos (by unfold InI; omega)]; rfl
  have this := loop_find (body := F_spec_l7Into_l1 f) (fun i => (i : Int)) f.length (fun i => nth f i ∈ f.take i) () () (fun i hi hb => by rw [body i hi, if_neg hb]) (fun i hi hb => by rw [body i hi, if_pos hb]) (by
    unfold F_spec_l7Into_l1
    rw [if_neg (by omega)]) 0 (by omega)
  refine (find_bool this false true).trans (congrArg some (dec_not ?_))
  exact ⟨fun hno i hi hm => hno ⟨i, by omega, hi, hm⟩, fun hu ⟨i, _, hi, hm⟩ => hu i hi hm⟩

theorem F_inverse {f : List Int} (hl : f.length ≤ 1048576) (h2 : inSize f f.length) : ∃ r, loopO (F_impl_inverse_l1 f) (0, List.replicate f.length 0) = some r ∧ r.length = f.length := by
  obtain ⟨t, ht, hp⟩ := loop_inv (body := F_impl_inverse_l1 f) (fun s => 0 ≤ s.1 ∧ s.1 ≤ f.length ∧ s.2.length = f.length) (fun s => f.length - s.1.toNat) (fun t => t.length = f.length) (by
    rintro ⟨i, ys⟩ ⟨b1, b2, b3⟩
    dsimp only at b1 b2 b3
    unfold F_impl_inverse_l1
    dsimp only
    by_cases hi : i < f.length
    · have hv := h2 _ (nth_mem (show i.toNat < f.length by omega))
      rw [if_pos hi, ask_pos (by omega), ask_pos (by omega), ask_pos (by unfold InI; omega)]
      exact .inl ⟨_, rfl, ⟨by dsimp only; omega, by dsimp only; omega, by simpa using b3⟩, by dsimp only; omega⟩
    · rw [if_neg hi]
      exact .inr ⟨_, rfl, b3⟩) (s := (0, List.replicate f.length 0)) ⟨by simp, by simp, by simp⟩
  exact ⟨t, ht, hp⟩
theorem F_implI {a b : SAlgebra} (h : smallA a) (h' : smallA b) : F_impl_areAlike a b = some (decide (goodA a ∧ goodA b ∧ typeA a = typeA b)) := by
  unfold F_impl_areAlike
  rw [F_IsAlgebra h, F_IsAlgebra h']
  simp only [Option.bind_some]
  by_cases ga : goodA a
  · by_cases gb : goodA b
    · rw [decide_eq_true ga, decide_eq_true gb]
      simp only [if_true]
      unfold F_impl_alike F_impl_SameType
      rw [F_IsAlgebra h, F_IsAlgebra h', decide_eq_true ga, decide_eq_true gb]
      simp only [Option.bind_some, if_true]
      rw [F_typeOf h, F_typeOf h']
      simp only [Option.bind_some]
      rw [F_sameList (typeA_len h)]
      simp only [Option.bind_some, if_true]
      congr 1
      rw [decide_eq_decide]
      exact ⟨fun ht => ⟨ga, gb, ht⟩, fun hh => hh.2.2⟩
    · rw [decide_eq_true ga, decide_eq_false gb, decide_eq_false (show ¬ (goodA a ∧ goodA b ∧ typeA a = typeA b) from fun hh => gb hh.2.1)]; simp
  · rw [decide_eq_false ga, decide_eq_false (show ¬ (goodA a ∧ goodA b ∧ typeA a = typeA b) from fun hh => ga hh.1)]; simp
theorem F_specI {a b : SAlgebra} (h : smallA a) (h' : smallA b) : F_spec_l7Two a b = some (decide (goodA a ∧ goodA b ∧ typeA a = typeA b)) := by
  unfold F_spec_l7Two
  rw [F_l2Good h, F_l2Good h']
  simp only [Option.bind_some]
  by_cases ga : goodA a
  · by_cases gb : goodA b
    · rw [decide_eq_true ga, decide_eq_true gb]
      simp only [if_true]
      unfold F_spec_l2Same
      rw [F_l2Type h, F_l2Type h']
      simp only [Option.bind_some]
      rw [F_l1Same (typeA_len h)]
      simp only [Option.bind_some]
      congr 1
      rw [decide_eq_decide]
      exact ⟨fun ht => ⟨ga, gb, ht⟩, fun hh => hh.2.2⟩
    · rw [decide_eq_true ga, decide_eq_false gb, decide_eq_false (show ¬ (goodA a ∧ goodA b ∧ typeA a = typeA b) from fun hh => gb hh.2.1)]; simp
  · rw [decide_eq_false ga, decide_eq_false (show ¬ (goodA a ∧ goodA b ∧ typeA a = typeA b) from fun hh => ga hh.1)]; simp
theorem both_InverseIso {a b : SAlgebra} (h : smallA a) (h' : smallA b) {f : List Int} (hl : f.length ≤ 1048576) : ∃ r, F_spec_InverseIso a b f = some r ∧ F_impl_InverseIso a b f = some r ∧ r.1.length ≤ LIM := by
  have hL : f.length ≤ LIM := by rw [lim_def]; omega
  unfold F_spec_InverseIso F_impl_InverseIso
  rw [F_specI h h', F_implI h h']
  simp only [Option.bind_some]
  by_cases hT : goodA a ∧ goodA b ∧ typeA a = typeA b
  · rw [decide_eq_true hT]
    simp only [if_true]
    by_cases hS : a.Size = b.Size
    · rw [if_neg (by simpa using hS), if_neg (by simpa using hS)]
      obtain ⟨ga, gb, ty⟩ := hT
      obtain ⟨n, hn⟩ := Int.eq_ofNat_of_zero_le (show 0 ≤ a.Size by have := ga.1; omega)
      have hb : b.Size = n := by rw [← hS, hn]
      have hn8 : n ≤ 8 := by have := ga.2.1; omega
      unfold F_spec_l7Is F_impl_isHom F_spec_l7Map F_impl_isMap
      rw [hn, hb]
      by_cases hln : (f.length : Int) = n
      · rw [if_pos hln, if_pos hln, F_l2Elements n f hL (by rw [lim_def]; omega), F_inSize _ _ hL]
        simp only [Option.bind_some]
        by_cases hx : inSize f n
        · rw [decide_eq_true hx]
          simp only [if_true]
          have H : Homs a b f n n := ⟨ga, gb, ty, hn, hb, by omega, hx⟩
          obtain ⟨r1, e1, h1⟩ := F_l7Fault H
          obtain ⟨r2, e2, h2⟩ := F_faultOf H
          rw [e1, e2]
          simp only [Option.bind_some]
          rw [h1, h2]
          by_cases hfa : ¬ faulty a b f n n
          · rw [decide_eq_true hfa]
            simp only [if_true]
            rw [F_l7Into hl hx, F_isOrderL hL _ (by omega)]
            simp only [Option.bind_some]
            by_cases hu : uniq f
            · rw [decide_eq_true hu, decide_eq_true (show (f.length : Int) = n ∧ inSize f n ∧ uniq f from ⟨hln, hx, hu⟩)]
              simp only [if_true, Option.bind_some]
              unfold F_impl_inverse
              have hnl : n = f.length := by omega
              subst hnl
              obtain ⟨r, e, hr⟩ := F_inverse hl hx
              have es : loopO (F_spec_InverseIso_l1 f) (0, List.replicate f.length 0) = some r := e
              rw [ask_pos (by rw [lim_def]; omega), ask_pos (by rw [lim_def]; omega), Int.toNat_natCast, e, es]
              exact ⟨(r, true), rfl, rfl, by dsimp only; rw [hr]; exact hL⟩
            · rw [decide_eq_false hu, decide_eq_false (fun hh => hu hh.2.2)]
              exact ⟨([], false), by simp, by simp, by simp⟩
          · rw [decide_eq_false hfa]
            exact ⟨([], false), by simp, by simp, by simp⟩
        · rw [decide_eq_false hx]
          exact ⟨([], false), by simp, by simp, by simp⟩
      · rw [if_neg hln, if_neg hln]
        exact ⟨([], false), by simp, by simp, by simp⟩
    · rw [if_pos (by simpa using hS), if_pos (by simpa using hS)]
      exact ⟨([], false), rfl, rfl, by simp⟩
  · rw [decide_eq_false hT]
    exact ⟨([], false), by simp, by simp, by simp⟩

end Go.Proofs.Ytdodfnbbfkcgnaa.Ax
