/-
  RenameElements: what the program and the reference compute.
-/
import Derived.Test.YtdodfnbbfkcgnaaP29
namespace Go.Proofs.Ytdodfnbbfkcgnaa.Ax
open Go Classical

theorem F_l2Perm {f : List Int} (hl : f.length ≤ LIM) {n : Nat} (hn1 : n ≤ 8) : F_spec_l2Perm f n = some (decide ((f.length : Int) = n ∧ inSize f n ∧ uniq f)) := by
  unfold F_spec_l2Perm
  by_cases h1 : (f.length : Int) = n
  · rw [if_neg (by simpa using h1), F_l2Elements n f hl (by rw [lim_def]; omega)]
    simp only [Option.bind_some]
    by_cases h2 : inSize f n
    · rw [decide_eq_true h2, if_pos rfl]
      simp only [Option.bind_some]
      have hn : n = f.length := by omega
      subst hn
      rw [ask_pos (by rw [lim_def]; omega), Int.toNat_natCast]
      have this := loop_find (body := F_spec_l2Perm_l1 f f.length) (fun i => ((i : Int), btab f.length fun z => decide ((z : Int) ∈ f.take i))) f.length (fun i => nth f i ∈ f.take i) () () (fun i hi hb => by
        have hv := h2 _ (nth_mem hi)
        have hc : nth f i = (((nth f i).toNat : Nat) : Int) := by omega
        have hlen := btab_len f.length fun z => decide ((z : Int) ∈ f.take i)
        unfold F_spec_l2Perm_l1
        dsimp only
        rw [if_pos (by omega), ask_pos (by omega), Int.toNat_natCast, ask_pos (by omega), btab_at (by omega), if_neg (by rw [← hc]; simpa using hb), ask_pos (by omega), ask_pos (by omega), ask_pos (by unfold InI; omega), btab_set (by omega)]
        refine congrArg (fun x => some (Sum.inl (_, x))) (btab_congr fun z _ => ?_)
        rw [take_nth hi]
        by_cases hz : z = (nth f i).toNat
        · rw [if_pos hz]
          refine (decide_eq_true ?_).symm
          rw [List.mem_append, List.mem_singleton]; right; omega
        · rw [if_neg hz, decide_eq_decide, List.mem_append, List.mem_singleton]
          exact ⟨.inl, fun h => h.resolve_right (by omega)⟩) (fun i hi hb => by
        have hv := h2 _ (nth_mem hi)
        have hc : nth f i = (((nth f i).toNat : Nat) : Int) := by omega
        have hlen := btab_len f.length fun z => decide ((z : Int) ∈ f.take i)
        unfold F_spec_l2Perm_l1
        dsimp only
        rw [if_pos (by omega), ask_pos (by omega), Int.toNat_natCast, ask_pos (by omega), btab_at (by omega), if_pos (by rw [← hc]; simpa using hb)]) (by
        unfold F_spec_l2Perm_l1
        dsimp only
        rw [if_neg (by omega)]) 0 (by omega)
      have e0 : (btab f.length fun z => decide ((z : Int) ∈ f.take 0)) = List.replicate f.length false := by
        rw [btab_false]; exact btab_congr fun z _ => by simp
      simp only [e0] at this
      refine (find_bool this false true).trans (congrArg some (dec_not ?_))
      constructor
      · intro hno
        exact ⟨rfl, h2, fun i hi hm => hno ⟨i, by omega, hi, hm⟩⟩
      · rintro ⟨_, _, hu⟩ ⟨i, _, hi, hm⟩
        exact hu i hi hm
    · rw [decide_eq_false h2, if_neg (by simp), decide_eq_false (fun h => h2 h.2.1)]; rfl
  · rw [if_pos (by simpa using h1), decide_eq_false (fun h => h1 h.1)]; rfl

theorem F_cloneAlgebra {a : SAlgebra} (h : smallA a) : F_impl_cloneAlgebra a = some a := by
  unfold F_impl_cloneAlgebra
  have h0 := h.1
  have key := loop_seq (body := F_impl_cloneAlgebra_l1 a) (fun i => ((i : Int), (⟨a.Size, a.Ops.take i⟩ : SAlgebra))) a.Ops.length a (fun i hi => by
    have ht := h.2 _ (nth_mem hi)
    unfold F_impl_cloneAlgebra_l1
    dsimp only
    rw [if_pos (by omega), ask_pos (by omega), Int.toNat_natCast]
    unfold F_impl_cloneOp F_impl_clone
    rw [ask_pos (by rw [lim_def]; simp only [List.length_nil]; omega)]
    simp only [Option.bind_some, List.nil_append]
    rw [ask_pos (by rw [lim_def]; simp only [List.length_take, List.length_cons, List.length_nil]; omega), ask_pos (by unfold InI; omega), take_nth hi]
    rfl) (by
    unfold F_impl_cloneAlgebra_l1
    dsimp only
    rw [if_neg (by omega), List.take_length])
  have key' : loopO (F_impl_cloneAlgebra_l1 a) (0, { Size := a.Size, Ops := nilL SOp }) = _ := key
  rw [key']; rfl

/-- a permutation -/
structure Perm (f : List Int) (n : Nat) : Prop where
  len : f.length = n
  fin : inSize f n
  un : uniq f
theorem Perm.count {f : List Int} {n : Nat} (h : Perm f n) : ∀ i, i ≤ n → (sieve n fun z => decide ((z : Int) ∈ f.take i)).length = i := by
  intro i
  induction i with
  | zero =>
    intro _
    rw [List.length_eq_zero_iff]
    exact sieve_nil.2 fun z _ => by simp
  | succ i ih =>
    intro hi
    have hil : i < f.length := by rw [h.len]; exact hi
    have hv := h.fin _ (nth_mem hil)
    have hu := h.un i hil
    have hc : nth f i = (((nth f i).toNat : Nat) : Int) := by omega
    have := sieve_one (q := fun z => decide ((z : Int) ∈ f.take i)) (q' := fun z => decide ((z : Int) ∈ f.take (i + 1))) (x := (nth f i).toNat) (decide_eq_false (by rw [← hc]; exact hu)) (fun z => by
      rw [take_nth hil, Bool.eq_iff_iff]
      simp only [decide_eq_true_eq, List.mem_append, List.mem_singleton, Bool.or_eq_true]
      constructor
      · rintro (h1 | h1)
        · exact .inl h1
        · exact .inr (by omega)
      · rintro (h1 | h1)
        · exact .inl h1
        · exact .inr (by omega)) n
    rw [this, ih (by omega), if_pos (by omega)]
theorem Perm.onto {f : List Int} {n : Nat} (h : Perm f n) {v : Nat} (hv : v < n) : ∃ x, x < n ∧ nth f x = (v : Int) := by
  have hc := h.count n (Nat.le_refl _)
  have hm : (v : Int) ∈ f := by
    apply Classical.byContradiction
    intro hno
    have hlt := sieve_lt (q := fun z => decide ((z : Int) ∈ f.take n)) (q' := fun _ => true) (x := v) (decide_eq_false fun hm => hno (List.mem_of_mem_take hm)) rfl n hv fun _ _ _ => rfl
    rw [sieve_all, hc] at hlt
    omega
  obtain ⟨x, hx, e⟩ := mem_nth.1 hm
  exact ⟨x, by rw [← h.len]; exact hx, e⟩
theorem low_onto {f : List Int} {n : Nat} (h : Perm f n) (hn : 0 < n) : ∀ r p, p < n ^ r → ∃ k, k < n ^ r ∧ lowI n n f r k = (p : Int) := by
  intro r
  induction r with
  | zero =>
    intro p hp
    have : p = 0 := by simpa using hp
    subst this
    exact ⟨0, by simp, rfl⟩
  | succ r ih =>
    intro p hp
    rw [Nat.pow_succ] at hp
    obtain ⟨k, hk, e⟩ := ih (p / n) (Nat.div_lt_of_lt_mul (by rw [Nat.mul_comm]; exact hp))
    obtain ⟨x, hx, ex⟩ := h.onto (Nat.mod_lt p hn)
    have d1 : (k * n + x) / n = k := by rw [Nat.mul_comm, Nat.mul_add_div hn, Nat.div_eq_of_lt hx]; omega
    have d2 : (k * n + x) % n = x := by rw [Nat.mul_comm, Nat.mul_add_mod, Nat.mod_eq_of_lt hx]
    refine ⟨k * n + x, ?_, ?_⟩
    · have h1 := Nat.mul_le_mul_right n (show k + 1 ≤ n ^ r by omega)
      rw [Nat.succ_mul] at h1
      rw [Nat.pow_succ]; omega
    · simp only [lowI]
      rw [d1, d2, e, ex]
      have := Nat.div_add_mod p n
      rw [Nat.mul_comm] at this
      exact_mod_cast this

/-- what is written, one after the other -/
def wr (f T : List Int) (n r : Nat) (t0 : List Int) : Nat → List Int
  | 0 => t0
  | k + 1 => (wr f T n r t0 k).set (lowI n n f r k).toNat (nth f (nth T k).toNat)
theorem wr_len (f T : List Int) (n r : Nat) (t0 : List Int) : ∀ k, (wr f T n r t0 k).length = t0.length := by
  intro k
  induction k with
  | zero => rfl
  | succ k ih => simp [wr, ih]
theorem wr_same {f T : List Int} {n r : Nat} {t0 t1 : List Int} (hl : t0.length = t1.length) : ∀ k p, p < t0.length → (∃ j, j < k ∧ (lowI n n f r j).toNat = p) → nth (wr f T n r t0 k) p = nth (wr f T n r t1 k) p := by
  intro k
  induction k with
  | zero => rintro p _ ⟨j, hj, _⟩; omega
  | succ k ih =>
    intro p hp hx
    simp only [wr]
    rw [nth_set _ _ _ _ (by rw [wr_len]; exact hp), nth_set _ _ _ _ (by rw [wr_len]; omega)]
    by_cases e : (lowI n n f r k).toNat = p
    · rw [if_pos e, if_pos e]
    · rw [if_neg e, if_neg e]
      refine ih p hp ?_
      obtain ⟨j, hj, ej⟩ := hx
      exact ⟨j, by
        rcases Nat.lt_succ_iff_lt_or_eq.1 hj with h | rfl
        · exact h
        · exact absurd ej e, ej⟩
theorem wr_eq {f T : List Int} {n r : Nat} (h : Perm f n) (hn : 0 < n) {t0 t1 : List Int} (hl : t0.length = n ^ r) (hl1 : t1.length = n ^ r) : wr f T n r t0 (n ^ r) = wr f T n r t1 (n ^ r) := by
  refine nth_ext (by rw [wr_len, wr_len, hl, hl1]) fun p hp => ?_
  rw [wr_len] at hp
  obtain ⟨k, hk, e⟩ := low_onto h hn r p (by rw [← hl]; exact hp)
  exact wr_same (by rw [hl, hl1]) _ p hp ⟨k, hk, by rw [e]; rfl⟩

/-- the operation with other names -/
def renOp (f : List Int) (n : Nat) (o : SOp) : SOp := ⟨o.Arity, wr f o.Table n o.Arity.toNat (List.replicate o.Table.length 0) o.Table.length⟩
section
variable {a : SAlgebra} {f : List Int} {n : Nat}
theorem ren_op (ga : goodA a) (hn : a.Size = n) {i : Nat} (hi : i < a.Ops.length) : ∃ r : Nat, r ≤ 3 ∧ (nth a.Ops i).Arity = r ∧ (nth a.Ops i).Table.length = n ^ r ∧ inSize (nth a.Ops i).Table n ∧ n ^ r ≤ 512 ∧ 0 < n ∧ n ≤ 8 := by
  have hnn : a.Size.toNat = n := by omega
  have := ga.1
  have := ga.2.1
  obtain ⟨h1, h2, h3, h4⟩ := ga.2.2.2 _ (nth_mem hi)
  rw [hnn] at h3 h4
  exact ⟨(nth a.Ops i).Arity.toNat, by omega, by omega, h3, h4, pow_le (by omega) (by omega), by omega, by omega⟩
theorem low_lt (h : Perm f n) (hn : 0 < n) (hn8 : n ≤ 8) {r : Nat} (hr : r ≤ 3) (k : Nat) : ∃ c : Nat, lowI n n f r k = (c : Int) ∧ c < n ^ r := by
  obtain ⟨c, h1, h2, _⟩ := horn_bound hn8 (xs := (argL n r k).map fun x => nth f x.toNat) (by rw [List.length_map, argL_len]; exact hr) (images_in hn h.len h.fin r k)
  rw [horn_low] at h1
  rw [List.length_map, argL_len] at h2
  exact ⟨c, h1, h2⟩
theorem F_ren2 (ga : goodA a) (hn : a.Size = n) (h : Perm f n) {i : Nat} (hi : i < a.Ops.length) (x5 : SAlgebra) : loopO (F_spec_l2Rename_l2 a f (i : Int) x5) (0, (⟨(nth a.Ops i).Arity, List.replicate (nth a.Ops i).Table.length 0⟩ : SOp)) = some (renOp f n (nth a.Ops i)) := by
  obtain ⟨r, hr, e1, l1, t1, l3, hn0, hn8⟩ := ren_op ga hn hi
  have hlf := h.len
  have er : (nth a.Ops i).Arity.toNat = r := by omega
  exact loop_seq (body := F_spec_l2Rename_l2 a f (i : Int) x5) (fun k => ((k : Int), (⟨(nth a.Ops i).Arity, wr f (nth a.Ops i).Table n (nth a.Ops i).Arity.toNat (List.replicate (nth a.Ops i).Table.length 0) k⟩ : SOp))) (nth a.Ops i).Table.length (renOp f n (nth a.Ops i)) (fun k hk => by
    have hv := t1 _ (nth_mem hk)
    have hwl : (wr f (nth a.Ops i).Table n r (List.replicate (nth a.Ops i).Table.length 0) k).length = (nth a.Ops i).Table.length := by rw [wr_len, List.length_replicate]
    obtain ⟨c, hc1, hc2⟩ := low_lt h hn0 hn8 hr k
    unfold F_spec_l2Rename_l2
    dsimp only
    simp only [hwl, e1, hn, Int.toNat_natCast]
    rw [if_pos (by omega), F_l2Args hn0 hn8 hr (by omega)]
    simp only [Option.bind_some]
    have hal := argL_len n r k
    have key := loop_seq (body := F_spec_l2Rename_l1 a f (i : Int) x5 (k : Int) (⟨(r : Int), wr f (nth a.Ops i).Table n r (List.replicate (nth a.Ops i).Table.length 0) k⟩ : SOp) (argL n r k)) (fun j => ((j : Int), horn n (((argL n r k).map fun x => nth f x.toNat).take j))) (argL n r k).length (lowI n n f r k) (fun j hj => by
      have hx := argL_in hn0 r k _ (nth_mem hj)
      have hml : ((argL n r k).map fun x => nth f x.toNat).length ≤ 3 := by rw [List.length_map, hal]; exact hr
      have hjl : j < ((argL n r k).map fun x => nth f x.toNat).length := by rw [List.length_map]; exact hj
      obtain ⟨s1, s2⟩ := horn_step hn8 hml (images_in hn0 h.len h.fin r k) hjl
      rw [nth_map' _ hj] at s2
      unfold F_spec_l2Rename_l1
      dsimp only
      rw [hn, if_pos (by omega), ask_pos s1, ask_pos (by omega), Int.toNat_natCast, ask_pos (by omega), ask_pos s2, ask_pos (by unfold InI; omega), horn_take hjl, nth_map' _ hj]
      rfl) (by
      unfold F_spec_l2Rename_l1
      dsimp only
      rw [if_neg (by omega)]
      have e : ((argL n r k).map fun x => nth f x.toNat).take (argL n r k).length = (argL n r k).map fun x => nth f x.toNat := List.take_of_length_le (by rw [List.length_map]; exact Nat.le_refl _)
      rw [e, horn_low])
    have key' : loopO (F_spec_l2Rename_l1 a f (i : Int) x5 (k : Int) (⟨(r : Int), wr f (nth a.Ops i).Table n r (List.replicate (nth a.Ops i).Table.length 0) k⟩ : SOp) (argL n r k)) (0, 0) = some (lowI n n f r k) := key
    rw [key']
    simp only [Option.bind_some]
    rw [ask_pos (by omega), ask_pos (by omega), ask_pos (by omega), ask_pos (by rw [hc1]; omega), ask_pos (by unfold InI; omega)]
    rfl) (by
    unfold F_spec_l2Rename_l2
    dsimp only
    rw [wr_len, List.length_replicate, if_neg (by omega)]
    rfl)
theorem F_l2Rename (ga : goodA a) (hn : a.Size = n) (h : Perm f n) : F_spec_l2Rename a f = some ⟨a.Size, a.Ops.map (renOp f n)⟩ := by
  have h4 := ga.2.2.1
  unfold F_spec_l2Rename
  have key := loop_seq (body := F_spec_l2Rename_l3 a f) (fun i => ((i : Int), (⟨a.Size, (a.Ops.take i).map (renOp f n)⟩ : SAlgebra))) a.Ops.length ⟨a.Size, a.Ops.map (renOp f n)⟩ (fun i hi => by
    obtain ⟨r, hr, e1, l1, t1, l3, hn0, hn8⟩ := ren_op ga hn hi
    unfold F_spec_l2Rename_l3
    dsimp only
    simp only [Int.toNat_natCast]
    rw [if_pos (by omega)]
    repeat rw [ask_pos (by first | omega | (rw [lim_def]; omega))]
    rw [F_ren2 ga hn h hi]
    simp only [Option.bind_some]
    rw [ask_pos (by rw [lim_def]; simp only [List.length_map, List.length_take, List.length_cons, List.length_nil]; omega), ask_pos (by unfold InI; omega), take_nth hi, List.map_append]
    rfl) (by
    unfold F_spec_l2Rename_l3
    dsimp only
    rw [if_neg (by omega), List.take_length])
  have key' : loopO (F_spec_l2Rename_l3 a f) (0, { Size := a.Size, Ops := nilL SOp }) = _ := key
  rw [key']; rfl

theorem F_names (h : Perm f n) (_hn8 : n ≤ 8) (x18 x26 : Int) (x5 : SAlgebra) {xs : List Int} (hl : xs.length ≤ 3) (hx : inSize xs n) : loopO (F_impl_rename_l1 a f x18 x26 x5 xs) (0, xs) = some (xs.map fun x => nth f x.toNat) := by
  have hlf := h.len
  have key := loop_seq (body := F_impl_rename_l1 a f x18 x26 x5 xs) (fun j => ((j : Int), (xs.take j).map (fun x => nth f x.toNat) ++ xs.drop j)) xs.length (xs.map fun x => nth f x.toNat) (fun j hj => by
    have hv := hx _ (nth_mem hj)
    have hll : ((xs.take j).map (fun x => nth f x.toNat) ++ xs.drop j).length = xs.length := by simp; omega
    have hnj : nth ((xs.take j).map (fun x => nth f x.toNat) ++ xs.drop j) j = nth xs j := by
      rw [nth_lt (by omega), nth_lt hj, List.getElem_append_right (by simp; omega), List.getElem_drop]
      congr 1
      simp; omega
    unfold F_impl_rename_l1
    dsimp only
    rw [if_pos (by omega), ask_pos (by omega), Int.toNat_natCast, hnj, ask_pos (by omega), ask_pos (by omega), ask_pos (by unfold InI; omega)]
    have e : ((xs.take j).map (fun x => nth f x.toNat) ++ xs.drop j).set j (nth f (nth xs j).toNat) = (xs.take (j + 1)).map (fun x => nth f x.toNat) ++ xs.drop (j + 1) := by
      have hml : ((xs.take j).map fun x => nth f x.toNat).length = j := by simp; omega
      rw [List.set_append_right _ _ (by omega), hml, Nat.sub_self, drop_nth' hj, List.set_cons_zero, take_nth hj, List.map_append, List.append_assoc]
      rfl
    rw [e]
    rfl) (by
    unfold F_impl_rename_l1
    dsimp only
    rw [if_neg (by omega)]
    simp)
  have key' : loopO (F_impl_rename_l1 a f x18 x26 x5 xs) (0, xs) = some (xs.map fun x => nth f x.toNat) := by simpa using key
  exact key'
theorem F_impl2 (ga : goodA a) (hn : a.Size = n) (h : Perm f n) {i : Nat} (hi : i < a.Ops.length) (os : List SOp) (ho : os.length = a.Ops.length) (hoi : nth os i = nth a.Ops i) (z : Int) : loopO (F_impl_rename_l2 a f (i : Int)) (0, (⟨z, os⟩ : SAlgebra)) = some ⟨z, os.set i (renOp f n (nth a.Ops i))⟩ := by
  obtain ⟨r, hr, e1, l1, t1, l3, hn0, hn8⟩ := ren_op ga hn hi
  have hlf := h.len
  have er : (nth a.Ops i).Arity.toNat = r := by omega
  have key := loop_seq (body := F_impl_rename_l2 a f (i : Int)) (fun k => ((k : Int), (⟨z, os.set i ⟨(nth a.Ops i).Arity, wr f (nth a.Ops i).Table n r (nth a.Ops i).Table k⟩⟩ : SAlgebra))) (nth a.Ops i).Table.length ⟨z, os.set i (renOp f n (nth a.Ops i))⟩ (fun k hk => by
    have hv := t1 _ (nth_mem hk)
    have hal := argL_len n r k
    obtain ⟨c, hc1, hc2⟩ := low_lt h hn0 hn8 hr k
    have hs : nth (os.set i ⟨(nth a.Ops i).Arity, wr f (nth a.Ops i).Table n r (nth a.Ops i).Table k⟩) i = ⟨(nth a.Ops i).Arity, wr f (nth a.Ops i).Table n r (nth a.Ops i).Table k⟩ := by
      rw [nth_set _ _ _ _ (by omega), if_pos rfl]
    have hwl := wr_len f (nth a.Ops i).Table n r (nth a.Ops i).Table k
    unfold F_impl_rename_l2
    dsimp only
    rw [Int.toNat_natCast, if_pos (by omega), ask_pos (by omega), e1, hn, F_argsAt hn0 hn8 hr (by omega)]
    simp only [Option.bind_some]
    rw [F_names h hn8 _ _ _ (by omega) (argL_in hn0 r k)]
    simp only [Option.bind_some]
    rw [ask_pos (by rw [List.length_set]; omega), F_indexOf hn8 (by rw [List.length_map, hal]; exact hr) (images_in hn0 h.len h.fin r k), horn_low]
    simp only [Option.bind_some, Int.toNat_natCast]
    rw [← e1, hs]
    dsimp only
    rw [hwl, ask_pos (by omega), ask_pos (by rw [hc1]; omega), ask_pos (by unfold InI; omega), List.set_set]
    rfl) (by
    unfold F_impl_rename_l2
    dsimp only
    rw [Int.toNat_natCast, if_neg (by omega)]
    have e : renOp f n (nth a.Ops i) = ⟨(nth a.Ops i).Arity, wr f (nth a.Ops i).Table n r (nth a.Ops i).Table (nth a.Ops i).Table.length⟩ := by
      unfold renOp
      rw [er]
      congr 1
      rw [l1]
      exact wr_eq h hn0 (by simp) l1
    rw [e])
  have e0 : os.set i ⟨(nth a.Ops i).Arity, wr f (nth a.Ops i).Table n r (nth a.Ops i).Table 0⟩ = os := by
    have : (⟨(nth a.Ops i).Arity, wr f (nth a.Ops i).Table n r (nth a.Ops i).Table 0⟩ : SOp) = nth os i := by rw [hoi]; rfl
    rw [this]
    refine nth_ext (by simp) fun j hj => ?_
    have hj' : j < os.length := by simpa using hj
    rw [nth_set _ _ _ _ hj']
    by_cases hij : i = j
    · subst hij; rw [if_pos rfl]
    · rw [if_neg hij]
  simp only [e0] at key
  exact key
theorem F_rename (hsm : smallA a) (ga : goodA a) (hn : a.Size = n) (h : Perm f n) : F_impl_rename a f = some ⟨a.Size, a.Ops.map (renOp f n)⟩ := by
  have h4 := ga.2.2.1
  unfold F_impl_rename
  rw [F_cloneAlgebra hsm]
  simp only [Option.bind_some]
  have key := loop_seq (body := F_impl_rename_l3 a f) (fun i => ((i : Int), (⟨a.Size, (a.Ops.take i).map (renOp f n) ++ a.Ops.drop i⟩ : SAlgebra))) a.Ops.length ⟨a.Size, a.Ops.map (renOp f n)⟩ (fun i hi => by
    have hml : ((a.Ops.take i).map (renOp f n)).length = i := by simp; omega
    have hnj : nth ((a.Ops.take i).map (renOp f n) ++ a.Ops.drop i) i = nth a.Ops i := by
      rw [nth_lt (by simp; omega), nth_lt hi, List.getElem_append_right (by omega), List.getElem_drop]
      congr 1
      omega
    unfold F_impl_rename_l3
    dsimp only
    rw [if_pos (by omega), ask_pos (by omega), F_impl2 ga hn h hi _ (by simp; omega) hnj]
    simp only [Option.bind_some]
    rw [ask_pos (by unfold InI; omega), List.set_append_right _ _ (by omega), hml, Nat.sub_self, drop_nth' hi, List.set_cons_zero, take_nth hi, List.map_append, List.append_assoc]
    rfl) (by
    unfold F_impl_rename_l3
    dsimp only
    rw [if_neg (by omega)]
    simp)
  have key' : loopO (F_impl_rename_l3 a f) (0, a) = some ⟨a.Size, a.Ops.map (renOp f n)⟩ := by simpa using key
  rw [key']; rfl
end

theorem both_RenameElements {a : SAlgebra} (h : smallA a) {f : List Int} (hl : f.length ≤ LIM) : ∃ r, F_spec_RenameElements a f = some r ∧ F_impl_RenameElements a f = some r ∧ smallA r.1 := by
  unfold F_spec_RenameElements F_impl_RenameElements
  rw [F_l2Good h, F_IsAlgebra h]
  simp only [Option.bind_some]
  by_cases ga : goodA a
  · obtain ⟨n, hn⟩ := Int.eq_ofNat_of_zero_le (show 0 ≤ a.Size by have := ga.1; omega)
    have hn8 : n ≤ 8 := by have := ga.2.1; omega
    rw [decide_eq_true ga, hn]
    simp only [if_true]
    rw [F_l2Perm hl hn8, F_isOrderL hl _ (by omega)]
    simp only [Option.bind_some]
    by_cases hp : (f.length : Int) = n ∧ inSize f n ∧ uniq f
    · have P : Perm f n := ⟨by omega, hp.2.1, hp.2.2⟩
      rw [decide_eq_true hp]
      simp only [if_true]
      rw [F_l2Rename ga hn P, F_rename h ga hn P]
      refine ⟨_, rfl, rfl, by dsimp only; rw [List.length_map]; exact h.1, fun o ho => ?_⟩
      dsimp only at ho
      obtain ⟨g, hg, rfl⟩ := List.mem_map.1 ho
      have := h.2 g hg
      unfold renOp
      dsimp only
      rw [wr_len, List.length_replicate]; exact this
    · rw [decide_eq_false hp]
      exact ⟨(⟨0, []⟩, false), by simp, by simp, ⟨by simp, fun o ho => by cases ho⟩⟩
  · rw [decide_eq_false ga]
    exact ⟨(⟨0, []⟩, false), by simp, by simp, ⟨by simp, fun o ho => by cases ho⟩⟩

end Go.Proofs.Ytdodfnbbfkcgnaa.Ax
