/-
  Congruences: a partition that no operation breaks; IsSeparating.
-/
import Derived.Test.YtdodfnbbfkcgnaaP22
import Derived.Test.YtdodfnbbfkcgnaaP31
namespace Go.Proofs.Ytdodfnbbfkcgnaa.Ax
open Go Classical

/-- q lies below p -/
def leP (q p : List Int) : Prop := q.length = p.length ∧ ∀ i, i < p.length → nth q i ≤ nth p i
theorem leP.refl (p : List Int) : leP p p := ⟨rfl, fun _ _ => Int.le_refl _⟩
theorem leP.trans {a b c : List Int} (h : leP a b) (h' : leP b c) : leP a c := ⟨h.1.trans h'.1, fun i hi => Int.le_trans (h.2 i (by rw [h'.1]; exact hi)) (h'.2 i hi)⟩
theorem leP.anti {a b : List Int} (h : leP a b) (h' : leP b a) : a = b := nth_ext h.1 fun i hi => Int.le_antisymm (h.2 i (by rw [← h.1]; exact hi)) (h'.2 i hi)

/-- two blocks become one -/
def mgF (u v z : Int) : Int := if z = (if u > v then u else v) then (if u < v then u else v) else z
theorem mgF_gt {u v : Int} (h : u > v) (z : Int) : mgF u v z = if z = u then v else z := by
  unfold mgF; rw [if_pos h, if_neg (show ¬ u < v by omega)]
theorem mgF_lt {u v : Int} (h : u < v) (z : Int) : mgF u v z = if z = v then u else z := by
  unfold mgF; rw [if_neg (show ¬ u > v by omega), if_pos h]
theorem mgF_eq (u z : Int) : mgF u u z = z := by
  unfold mgF; rw [if_neg (show ¬ u > u by omega)]
  try rw [if_neg (show ¬ u < u by omega)]
  by_cases h : z = u
  · rw [if_pos h, h]
  · rw [if_neg h]
theorem mgF_le (u v z : Int) : mgF u v z ≤ z := by
  rcases Int.lt_trichotomy u v with h | h | h
  · rw [mgF_lt h]; split <;> omega
  · rw [h, mgF_eq]; omega
  · rw [mgF_gt h]; split <;> omega
theorem mgF_in {u v z n : Int} (hu : 0 ≤ u ∧ u < n) (hv : 0 ≤ v ∧ v < n) (hz : 0 ≤ z ∧ z < n) : 0 ≤ mgF u v z ∧ mgF u v z < n := by
  rcases Int.lt_trichotomy u v with h | h | h
  · rw [mgF_lt h]; split <;> omega
  · rw [h, mgF_eq]; omega
  · rw [mgF_gt h]; split <;> omega
def mg (p : List Int) (u v : Int) : List Int := p.map (mgF u v)
theorem mg_len (p : List Int) (u v : Int) : (mg p u v).length = p.length := by simp [mg]
theorem mg_id (p : List Int) (u : Int) : mg p u u = p := by
  unfold mg
  rw [show mgF u u = id from funext (mgF_eq u), List.map_id]
theorem mg_le (p : List Int) (u v : Int) : leP (mg p u v) p := ⟨mg_len p u v, fun i hi => by unfold mg; rw [nth_map' _ hi]; exact mgF_le _ _ _⟩
theorem mg_iff {out p : List Int} {x y : Nat} (h : leP out p) (hx : x < p.length) (hy : y < p.length) : mg out (nth out x) (nth out y) = p ↔ out = p ∧ nth p x = nth p y := by
  constructor
  · intro e
    have h1 : leP p out := by
      have := mg_le out (nth out x) (nth out y)
      rw [e] at this; exact this
    have h2 : out = p := leP.anti h h1
    subst h2
    refine ⟨rfl, ?_⟩
    have e1 : nth (mg out (nth out x) (nth out y)) x = nth out x := by rw [e]
    have e2 : nth (mg out (nth out x) (nth out y)) y = nth out y := by rw [e]
    unfold mg at e1 e2
    rw [nth_map' _ hx] at e1
    rw [nth_map' _ hy] at e2
    rcases Int.lt_trichotomy (nth out x) (nth out y) with hh | hh | hh
    · rw [mgF_lt hh, if_pos rfl] at e2; exact e2
    · exact hh
    · rw [mgF_gt hh, if_pos rfl] at e1; exact e1.symm
  · rintro ⟨rfl, e⟩
    rw [e, mg_id]
def okP (n : Nat) (q : List Int) : Prop := q.length = n ∧ inSize q n
theorem mg_ok {n : Nat} {q : List Int} (h : okP n q) {x y : Nat} (hx : x < n) (hy : y < n) : okP n (mg q (nth q x) (nth q y)) := by
  refine ⟨by rw [mg_len]; exact h.1, fun z hz => ?_⟩
  obtain ⟨w, hw, rfl⟩ := List.mem_map.1 hz
  exact mgF_in (h.2 _ (nth_mem (by rw [h.1]; exact hx))) (h.2 _ (nth_mem (by rw [h.1]; exact hy))) (h.2 _ hw)

/-- a loop that sets each place of a list anew -/
theorem sweep {body : (Int × List Int) → Option ((Int × List Int) ⊕ List Int)} (p : List Int) (f : Int → Int)
    (h : ∀ (i : Nat) (w : List Int), i < p.length → w.length = p.length → nth w i = nth p i → ∃ w', body ((i : Int), w) = some (.inl (((i + 1 : Nat) : Int), w')) ∧ w' = w.set i (f (nth p i)))
    (he : ∀ w : List Int, w.length = p.length → body ((p.length : Int), w) = some (.inr w)) : loopO body (0, p) = some (p.map f) := by
  obtain ⟨t, ht, hp⟩ := loop_inv (body := body) (fun s => ∃ i : Nat, s.1 = (i : Int) ∧ i ≤ p.length ∧ s.2.length = p.length ∧ ∀ j, j < p.length → nth s.2 j = if j < i then f (nth p j) else nth p j) (fun s => p.length - s.1.toNat) (fun t => t = p.map f) (by
    rintro ⟨x, w⟩ ⟨i, h0, h1, h2, h3⟩
    dsimp only at h0 h1 h2 h3
    subst h0
    by_cases hi : i < p.length
    · obtain ⟨w', e, ew⟩ := h i w hi h2 (by rw [h3 i hi, if_neg (by omega)])
      refine .inl ⟨_, e, ⟨i + 1, rfl, by omega, by rw [ew, List.length_set]; exact h2, fun j hj => ?_⟩, by dsimp only; omega⟩
      dsimp only
      rw [ew, nth_set _ _ _ _ (by omega)]
      by_cases hij : i = j
      · subst hij
        rw [if_pos rfl, if_pos (by omega)]
      · rw [if_neg hij, h3 j hj]
        by_cases hlt : j < i
        · rw [if_pos hlt, if_pos (by omega)]
        · rw [if_neg hlt, if_neg (by omega)]
    · have ei : i = p.length := by omega
      subst ei
      refine .inr ⟨_, he w h2, nth_ext (by rw [h2, List.length_map]) fun j hj => ?_⟩
      rw [h3 j (by omega), if_pos (by omega), nth_map' _ (by omega)]) (s := (0, p)) ⟨0, rfl, by omega, rfl, fun j hj => by simp⟩
  rw [ht, hp]
theorem set_nth {w : List Int} {i : Nat} {z : Int} (h : nth w i = z) : w = w.set i z := by
  refine nth_ext (by simp) fun j hj => ?_
  rw [nth_set _ _ _ _ hj]
  by_cases hij : i = j
  · subst hij; rw [if_pos rfl, h]
  · rw [if_neg hij]

theorem F_unite {p : List Int} (hl : p.length ≤ 1048576) {X Y : Int} (hx : 0 ≤ X ∧ X < p.length) (hy : 0 ≤ Y ∧ Y < p.length) : F_impl_unite p X Y = some (decide (¬ nth p X.toNat = nth p Y.toNat), mg p (nth p X.toNat) (nth p Y.toNat)) := by
  unfold F_impl_unite
  rw [ask_pos hx, ask_pos hy]
  by_cases h : nth p X.toNat = nth p Y.toNat
  · rw [if_pos h, h, mg_id, decide_eq_false (fun hh => hh rfl)]
  · have key : ∀ hi lo : Int, loopO (F_impl_unite_l1 p hi lo) (0, p) = some (p.map fun z => if z = hi then lo else z) := fun hi lo =>
      sweep (body := F_impl_unite_l1 p hi lo) p _ (fun i w hi' hw hn => by
        unfold F_impl_unite_l1
        dsimp only
        rw [if_pos (by omega), ask_pos (by omega), Int.toNat_natCast, hn]
        by_cases hz : nth p i = hi
        · rw [if_pos hz, ask_pos (by omega), ask_pos (by unfold InI; omega), if_pos hz]
          exact ⟨_, rfl, rfl⟩
        · rw [if_neg hz, ask_pos (by unfold InI; omega), if_neg hz]
          exact ⟨_, rfl, set_nth hn⟩) (fun w hw => by
        unfold F_impl_unite_l1
        dsimp only
        rw [if_neg (by omega)])
    rw [if_neg h, decide_eq_true h]
    unfold mg
    by_cases hg : nth p X.toNat > nth p Y.toNat
    · rw [if_pos hg]
      simp only [Option.bind_some]
      rw [key, show mgF (nth p X.toNat) (nth p Y.toNat) = fun z => if z = nth p X.toNat then nth p Y.toNat else z from funext (mgF_gt hg)]
      rfl
    · rw [if_neg hg]
      simp only [Option.bind_some]
      rw [key, show mgF (nth p X.toNat) (nth p Y.toNat) = fun z => if z = nth p Y.toNat then nth p X.toNat else z from funext (mgF_lt (by omega))]
      rfl
theorem F_l6Unite {p : List Int} (hl : p.length ≤ 1048576) {X Y : Int} (hx : 0 ≤ X ∧ X < p.length) (hy : 0 ≤ Y ∧ Y < p.length) : F_spec_l6Unite p X Y = some (mg p (nth p X.toNat) (nth p Y.toNat)) := by
  unfold F_spec_l6Unite
  have e1 : ∀ a b : Int, F_spec_l1Least a b = some (if a < b then a else b) := fun a b => by
    unfold F_spec_l1Least; split <;> rfl
  rw [ask_pos hx, ask_pos hy, e1]
  simp only [Option.bind_some]
  rw [ask_pos hx, ask_pos hy, F_l1Most]
  simp only [Option.bind_some]
  have key : ∀ hi lo : Int, loopO (F_spec_l6Unite_l1 p lo hi) (0, nilL Int) = some (p.map fun z => if z = hi then lo else z) := fun hi lo =>
    loop_seq (body := F_spec_l6Unite_l1 p lo hi) (fun i => ((i : Int), (p.take i).map fun z => if z = hi then lo else z)) p.length _ (fun i hi' => by
      unfold F_spec_l6Unite_l1
      dsimp only
      rw [if_pos (by omega), ask_pos (by omega), Int.toNat_natCast, take_nth hi', List.map_append]
      by_cases hz : nth p i = hi
      · rw [if_pos hz, ask_pos (by rw [lim_def, List.length_map, List.length_take]; simp; omega), ask_pos (by unfold InI; omega)]
        simp only [List.map_cons, List.map_nil, if_pos hz]
        rfl
      · rw [if_neg hz, ask_pos (by omega), ask_pos (by rw [lim_def, List.length_map, List.length_take]; simp; omega), ask_pos (by unfold InI; omega)]
        simp only [List.map_cons, List.map_nil, if_neg hz]
        rfl) (by
      unfold F_spec_l6Unite_l1
      dsimp only
      rw [if_neg (by omega), List.take_length])
  rw [key]
  rfl

/-- one stretch of a round: nothing happens, or something falls -/
def Rel (n : Nat) (s t : Bool × Bool × List Int) (D : Prop) : Prop :=
  okP n t.2.2 ∧ leP t.2.2 s.2.2 ∧ ((t = s ∧ D) ∨ (t.2.2 ≠ s.2.2 ∧ t.1 = true ∧ t.2.1 = true ∧ ¬ D))
theorem Rel.congr {n : Nat} {s t : Bool × Bool × List Int} {D E : Prop} (h : Rel n s t D) (e : D ↔ E) : Rel n s t E := by
  rw [← propext e]; exact h
theorem Rel.comp {n : Nat} {s t r : Bool × Bool × List Int} {D E E' : Prop} (h : Rel n s t D) (h' : Rel n t r E) (hE : t = s → (E ↔ E')) : Rel n s r (D ∧ E') := by
  obtain ⟨_, a2, a3⟩ := h
  obtain ⟨b1, b2, b3⟩ := h'
  refine ⟨b1, b2.trans a2, ?_⟩
  rcases a3 with ⟨e, d⟩ | ⟨e, d1, d2, d3⟩
  · have hE := hE e
    rw [e] at b3
    rcases b3 with ⟨e', x⟩ | ⟨e', x1, x2, x3⟩
    · exact .inl ⟨e', d, hE.1 x⟩
    · exact .inr ⟨e', x1, x2, fun hh => x3 (hE.2 hh.2)⟩
  · have hne : r.2.2 ≠ s.2.2 := fun hh => e (leP.anti a2 (by rw [← hh]; exact b2))
    rcases b3 with ⟨e', _⟩ | ⟨_, x1, x2, _⟩
    · rw [e'] at hne ⊢
      exact .inr ⟨hne, d1, d2, fun hh => d3 hh.1⟩
    · exact .inr ⟨hne, x1, x2, fun hh => d3 hh.1⟩
theorem loop_rel {σ : Type} {n : Nat} {body : σ → Option (σ ⊕ (Bool × Bool × List Int))} (st : Nat → Bool × Bool × List Int → σ) (N : Nat) (C : Nat → List Int → Prop)
    (h : ∀ i s, i < N → okP n s.2.2 → ∃ s', body (st i s) = some (.inl (st (i + 1) s')) ∧ Rel n s s' (C i s.2.2))
    (he : ∀ s, okP n s.2.2 → body (st N s) = some (.inr s)) (s : Bool × Bool × List Int) (hs : okP n s.2.2) : ∃ s', loopO body (st 0 s) = some s' ∧ Rel n s s' (∀ i, i < N → C i s.2.2) := by
  have key : ∀ k, k ≤ N → ∀ s, okP n s.2.2 → ∃ s', loopO body (st (N - k) s) = some s' ∧ Rel n s s' (∀ i, N - k ≤ i → i < N → C i s.2.2) := by
    intro k
    induction k with
    | zero =>
      intro _ s hs
      exact ⟨s, loopO_stop (he s hs), hs, leP.refl _, .inl ⟨rfl, fun i h1 h2 => by omega⟩⟩
    | succ k ih =>
      intro hk s hs
      obtain ⟨t, e1, r1⟩ := h (N - (k + 1)) s (by omega) hs
      obtain ⟨r, e2, r2⟩ := ih (by omega) t r1.1
      have e : N - (k + 1) + 1 = N - k := by omega
      refine ⟨r, by rw [loopO_next e1, e]; exact e2, ?_⟩
      refine (Rel.comp r1 r2 (E' := ∀ i, N - k ≤ i → i < N → C i s.2.2) (fun hh => by rw [hh])).congr ?_
      constructor
      · rintro ⟨h1, h2⟩ i h3 h4
        by_cases hi : i = N - (k + 1)
        · subst hi; exact h1
        · exact h2 i (by omega) h4
      · intro hh
        exact ⟨hh _ (Nat.le_refl _) (by omega), fun i h1 h2 => hh i (by omega) h2⟩
  obtain ⟨r, e, hr⟩ := key N (Nat.le_refl _) s hs
  rw [Nat.sub_self] at e hr
  exact ⟨r, e, hr.congr ⟨fun hh i hi => hh i (Nat.zero_le _) hi, fun hh i _ hi => hh i hi⟩⟩

/-- the place that an index comes to when the digit of weight n^e is replaced by the element that p names for it -/
def swI (n : Nat) (p : List Int) (e i : Nat) : Int := (i : Int) + (nth p (i / n ^ e % n) - ((i / n ^ e % n : Nat) : Int)) * ((n ^ e : Nat) : Int)
theorem split_nat (i n : Nat) : ((i / n : Nat) : Int) * (n : Int) + ((i % n : Nat) : Int) = (i : Int) := by
  rw [← Int.natCast_mul, ← Int.natCast_add, Nat.mul_comm, Nat.div_add_mod]
theorem div_pow {n r i : Nat} (hi : i < n ^ (r + 1)) : i / n < n ^ r := by
  rw [Nat.pow_succ, Nat.mul_comm] at hi
  exact Nat.div_lt_of_lt_mul hi
theorem horn_arg {n : Nat} : ∀ r i, i < n ^ r → horn n (argL n r i) = (i : Int) := by
  intro r
  induction r with
  | zero => intro i hi; have : i = 0 := by simpa using hi
            subst this; rfl
  | succ r ih =>
    intro i hi
    simp only [argL]
    rw [horn_snoc, ih _ (div_pow hi), split_nat]
theorem horn_swap {n : Nat} (p : List Int) : ∀ r i k, i < n ^ r → k < r → horn n ((argL n r i).set k (nth p (nth (argL n r i) k).toNat)) = swI n p (r - 1 - k) i := by
  intro r
  induction r with
  | zero => intro i k _ hk; omega
  | succ r ih =>
    intro i k hi hk
    simp only [argL]
    have hl := argL_len n r (i / n)
    by_cases hkr : k = r
    · subst hkr
      have e1 : nth (argL n k (i / n) ++ [((i % n : Nat) : Int)]) k = ((i % n : Nat) : Int) := by
        have := nth_append_len (xs := argL n k (i / n)) (y := ((i % n : Nat) : Int))
        rw [hl] at this; exact this
      rw [e1, Int.toNat_natCast]
      have e2 : ∀ v : Int, (argL n k (i / n) ++ [((i % n : Nat) : Int)]).set k v = argL n k (i / n) ++ [v] := fun v => by
        rw [List.set_append, if_neg (by omega), hl, Nat.sub_self]; rfl
      rw [e2, horn_snoc, horn_arg _ _ (div_pow hi)]
      unfold swI
      rw [show k + 1 - 1 - k = 0 by omega, Nat.pow_zero, Nat.div_one, Int.natCast_one, Int.mul_one]
      have := split_nat i n
      omega
    · have hkl : k < r := by omega
      rw [nth_append_left (by omega), List.set_append, if_pos (by omega), horn_snoc, ih _ _ (div_pow hi) hkl]
      unfold swI
      rw [show r + 1 - 1 - k = r - 1 - k + 1 by omega, Nat.pow_succ, Nat.div_div_eq_div_mul, Nat.mul_comm n]
      have := split_nat i n
      rw [Int.add_mul, Int.natCast_mul, Int.mul_assoc]
      omega
theorem in_set {xs : List Int} {n v : Int} (h : inSize xs n) (hv : 0 ≤ v ∧ v < n) (k : Nat) : inSize (xs.set k v) n := by
  intro x hx
  rcases List.mem_or_eq_of_mem_set hx with hx | hx
  · exact h x hx
  · rw [hx]; exact hv
theorem arg_in {n : Nat} (hn : 0 < n) {q : List Int} (hq : okP n q) {r i k : Nat} (hk : k < r) : inSize ((argL n r i).set k (nth q (nth (argL n r i) k).toNat)) n := by
  have h1 := argL_in hn r i
  have h2 := h1 _ (nth_mem (show k < (argL n r i).length by rw [argL_len]; exact hk))
  exact in_set h1 (hq.2 _ (nth_mem (by rw [hq.1]; omega))) k
theorem swI_lt {n : Nat} (hn : 0 < n) {q : List Int} (hq : okP n q) {r i e : Nat} (hi : i < n ^ r) (he : e < r) : ∃ c : Nat, swI n q e i = (c : Int) ∧ c < n ^ r := by
  have h1 := horn_swap q r i (r - 1 - e) hi (by omega)
  rw [show r - 1 - (r - 1 - e) = e by omega] at h1
  rw [← h1]
  exact horn_lt r _ (by rw [List.length_set, argL_len]) (arg_in hn hq (by omega))

section
variable {a : SAlgebra} {n : Nat}
theorem opX (ga : goodA a) (hn : a.Size = n) {i : Nat} (hi : i < a.Ops.length) : ∃ r : Nat, r ≤ 3 ∧ (nth a.Ops i).Arity = r ∧ (nth a.Ops i).Table.length = n ^ r ∧ inSize (nth a.Ops i).Table n ∧ n ^ r ≤ 512 ∧ 0 < n ∧ n ≤ 8 := by
  have hn' : a.Size.toNat = n := by omega
  have h1 := ga.1
  have h2 := ga.2.1
  obtain ⟨b1, b2, b3, b4⟩ := ga.2.2.2 _ (nth_mem hi)
  rw [hn'] at b3 b4
  exact ⟨(nth a.Ops i).Arity.toNat, by omega, by omega, b3, b4, pow_le (by omega) (by omega), by omega, by omega⟩
def tame (a : SAlgebra) (n o e i : Nat) (q : List Int) : Prop := nth q (nth (nth a.Ops o).Table i).toNat = nth q (nth (nth a.Ops o).Table (swI n q e i).toNat).toNat
def kept (a : SAlgebra) (n : Nat) (q : List Int) : Prop := ∀ o, o < a.Ops.length → ∀ e, e < (nth a.Ops o).Arity.toNat → ∀ i, i < (nth a.Ops o).Table.length → tame a n o e i q

theorem F_close1 (ga : goodA a) (hn : a.Size = n) {o e : Nat} (ho : o < a.Ops.length) (he : e < (nth a.Ops o).Arity.toNat) (s : Bool × Bool × List Int) (hs : okP n s.2.2) :
    ∃ s', loopO (F_impl_closePartition_l1 a (o : Int) (e : Int) ((n ^ e : Nat) : Int)) (0, s.1, s.2.1, s.2.2) = some s' ∧ Rel n s s' (∀ i, i < (nth a.Ops o).Table.length → tame a n o e i s.2.2) := by
  obtain ⟨r, r3, hr, hT, hTi, h512, hn0, hn8⟩ := opX ga hn ho
  refine loop_rel (body := F_impl_closePartition_l1 a (o : Int) (e : Int) ((n ^ e : Nat) : Int)) (fun i s => ((i : Int), s.1, s.2.1, s.2.2)) (nth a.Ops o).Table.length (fun i q => tame a n o e i q) (fun i s hi hs => ?_) (fun s hs => ?_) s hs
  · obtain ⟨c, w, q⟩ := s
    dsimp only at hs ⊢
    obtain ⟨x, ex⟩ : ∃ x, x = i / n ^ e % n := ⟨_, rfl⟩
    have hx : x < n := by rw [ex]; exact Nat.mod_lt _ hn0
    obtain ⟨y, ey⟩ : ∃ y, y = i / n ^ e := ⟨_, rfl⟩
    have c1 : (i : Int).tdiv ((n ^ e : Nat) : Int) = (y : Int) := by rw [ey]; rfl
    have c2 : (y : Int).tmod (n : Int) = (x : Int) := by rw [ex, ey]; rfl
    have sw : swI n q e i = (i : Int) + (nth q x - (x : Int)) * ((n ^ e : Nat) : Int) := by rw [ex]; rfl
    obtain ⟨d, hd, hd2⟩ := swI_lt hn0 hs (r := r) (i := i) (by omega) (show e < r by omega)
    have hok : tame a n o e i q ↔ nth q (nth (nth a.Ops o).Table i).toNat = nth q (nth (nth a.Ops o).Table d).toNat := by
      unfold tame; rw [hd, Int.toNat_natCast]
    rw [sw] at hd
    have hpow : 0 < n ^ e := Nat.pow_pos hn0
    have hq := hs.2 _ (nth_mem (show x < q.length by rw [hs.1]; exact hx))
    have hsl := hs.1
    have y1 := hTi _ (nth_mem (show i < (nth a.Ops o).Table.length from hi))
    have y2 := hTi _ (nth_mem (show d < (nth a.Ops o).Table.length by omega))
    have hdiv : y ≤ i := by rw [ey]; exact Nat.div_le_self _ _
    have hu := F_unite (p := q) (by omega) (X := nth (nth a.Ops o).Table i) (Y := nth (nth a.Ops o).Table d) (by omega) (by omega)
    unfold F_impl_closePartition_l1
    dsimp only
    simp only [hn, c1, c2, Int.toNat_natCast, hd]
    rw [if_pos (by omega), ask_pos (by omega), ask_pos (by unfold InI; omega), ask_pos (by omega), ask_pos (by omega), ask_pos (by unfold InI; omega), ask_pos (by unfold InI; omega), ask_pos (by unfold InI; omega), ask_pos (by omega), hu]
    simp only [Option.bind_some]
    by_cases hk : nth q (nth (nth a.Ops o).Table i).toNat = nth q (nth (nth a.Ops o).Table d).toNat
    · rw [decide_eq_false (fun hh => hh hk), if_neg (by simp), ask_pos (by unfold InI; omega), hk, mg_id]
      exact ⟨(c, w, q), rfl, hs, leP.refl _, .inl ⟨rfl, hok.2 hk⟩⟩
    · rw [decide_eq_true hk, if_pos rfl, ask_pos (by unfold InI; omega)]
      refine ⟨(true, true, _), rfl, mg_ok hs (by omega) (by omega), mg_le _ _ _, .inr ⟨fun hh => ?_, rfl, rfl, fun hh => hk (hok.1 hh)⟩⟩
      exact hk ((mg_iff (leP.refl q) (by omega) (by omega)).1 hh).2
  · unfold F_impl_closePartition_l1
    dsimp only
    rw [Int.toNat_natCast, if_neg (by omega)]
theorem F_closeR2 (ga : goodA a) (hn : a.Size = n) {o : Nat} (ho : o < a.Ops.length) (s : Bool × Bool × List Int) (hs : okP n s.2.2) :
    ∃ s', loopO (F_impl_closePartition_l2 a (o : Int)) (0, 1, s.1, s.2.1, s.2.2) = some s' ∧ Rel n s s' (∀ e, e < (nth a.Ops o).Arity.toNat → ∀ i, i < (nth a.Ops o).Table.length → tame a n o e i s.2.2) := by
  obtain ⟨r, r3, hr, hT, hTi, h512, hn0, hn8⟩ := opX ga hn ho
  refine loop_rel (body := F_impl_closePartition_l2 a (o : Int)) (fun e s => ((e : Int), ((n ^ e : Nat) : Int), s.1, s.2.1, s.2.2)) (nth a.Ops o).Arity.toNat (fun e q => ∀ i, i < (nth a.Ops o).Table.length → tame a n o e i q) (fun e s he hs => ?_) (fun s hs => ?_) s hs
  · obtain ⟨s', e1, r1⟩ := F_close1 ga hn ho he s hs
    refine ⟨s', ?_, r1⟩
    unfold F_impl_closePartition_l2
    dsimp only
    have hp : n ^ e * n ≤ 512 := by rw [← Nat.pow_succ]; exact pow_le hn8 (by omega)
    have hp' : ((n ^ e : Nat) : Int) * (n : Int) = ((n ^ e * n : Nat) : Int) := by rw [Int.natCast_mul]
    rw [Int.toNat_natCast, if_pos (by omega), e1]
    simp only [Option.bind_some]
    rw [hn, hp', ask_pos (by unfold InI; omega), ask_pos (by unfold InI; omega), Nat.pow_succ]
    rfl
  · unfold F_impl_closePartition_l2
    dsimp only
    rw [Int.toNat_natCast, if_neg (by omega)]
theorem F_closeR3 (ga : goodA a) (hn : a.Size = n) (s : Bool × Bool × List Int) (hs : okP n s.2.2) :
    ∃ s', loopO (F_impl_closePartition_l3 a) (0, s.1, s.2.1, s.2.2) = some s' ∧ Rel n s s' (kept a n s.2.2) := by
  refine loop_rel (body := F_impl_closePartition_l3 a) (fun o s => ((o : Int), s.1, s.2.1, s.2.2)) a.Ops.length (fun o q => ∀ e, e < (nth a.Ops o).Arity.toNat → ∀ i, i < (nth a.Ops o).Table.length → tame a n o e i q) (fun o s ho hs => ?_) (fun s hs => ?_) s hs
  · obtain ⟨s', e1, r1⟩ := F_closeR2 ga hn ho s hs
    refine ⟨s', ?_, r1⟩
    unfold F_impl_closePartition_l3
    dsimp only
    have := ga.2.2.1
    rw [if_pos (by omega), ask_pos (by omega), e1]
    simp only [Option.bind_some]
    rw [ask_pos (by unfold InI; omega)]
    rfl
  · unfold F_impl_closePartition_l3
    dsimp only
    rw [if_neg (by omega)]

/-- what falls in a round -/
def wgt (q : List Int) : Nat := (q.map Int.toNat).sum
theorem wgt_lt : ∀ xs ys : List Int, xs.length = ys.length → (∀ i, i < ys.length → nth xs i ≤ nth ys i) → (∀ x ∈ xs, 0 ≤ x) → wgt xs ≤ wgt ys ∧ (xs ≠ ys → wgt xs < wgt ys) := by
  intro xs
  induction xs with
  | nil =>
    intro ys hl _ _
    have : ys = [] := List.length_eq_zero_iff.1 hl.symm
    subst this
    exact ⟨Nat.le_refl _, fun h => (h rfl).elim⟩
  | cons x r ih =>
    intro ys hl h h0
    match ys, hl with
    | y :: t, hl =>
      have h1 : x ≤ y := h 0 (by simp)
      have h2 := h0 x (by simp)
      obtain ⟨h3, h4⟩ := ih t (by simpa using hl) (fun i hi => h (i + 1) (by simpa using hi)) (fun z hz => h0 z (by simp [hz]))
      have e1 : wgt (x :: r) = x.toNat + wgt r := rfl
      have e2 : wgt (y :: t) = y.toNat + wgt t := rfl
      refine ⟨by omega, fun hne => ?_⟩
      by_cases hxy : x = y
      · have := h4 (fun hh => hne (by rw [hxy, hh]))
        omega
      · omega

theorem F_closePartition (ga : goodA a) (hn : a.Size = n) {p : List Int} (hp : okP n p) : ∃ q, F_impl_closePartition a p = some (decide (¬ kept a n p), q) := by
  unfold F_impl_closePartition
  obtain ⟨t, ht, hpost⟩ := loop_inv (body := F_impl_closePartition_l4 a) (fun s => okP n s.2.2 ∧ ((s.1 = true ∧ ((s.2.2 = p ∧ s.2.1 = false) ∨ (leP s.2.2 p ∧ s.2.2 ≠ p ∧ s.2.1 = true ∧ ¬ kept a n p))) ∨ (s.1 = false ∧ s.2.1 = decide (¬ kept a n p))))
    (fun s => if s.1 = true then 1 + wgt s.2.2 else 0) (fun t => t.1 = decide (¬ kept a n p)) (by
    rintro ⟨c, w, q⟩ ⟨h1, h2⟩
    dsimp only at h1 h2
    unfold F_impl_closePartition_l4
    dsimp only
    rcases h2 with ⟨hc, h2⟩ | ⟨hc, h2⟩
    · subst hc
      obtain ⟨s', e1, r1, r2, r3⟩ := F_closeR3 ga hn (false, w, q) h1
      dsimp only at e1 r2 r3
      rw [if_pos rfl, e1]
      simp only [Option.bind_some]
      obtain ⟨c', w', q'⟩ := s'
      dsimp only at r1 r2 r3
      rcases r3 with ⟨r3, r4⟩ | ⟨r3, r4, r5, r6⟩
      · cases r3
        refine .inl ⟨_, rfl, ⟨h1, .inr ⟨rfl, ?_⟩⟩, by simp; omega⟩
        rcases h2 with ⟨h2, h3⟩ | ⟨_, _, h3, h4⟩
        · subst h2
          rw [h3, decide_eq_false (fun hh => hh r4)]
        · rw [h3, decide_eq_true h4]
      · subst r4 r5
        have hlt := (wgt_lt q' q r2.1 r2.2 (fun z hz => (r1.2 z hz).1)).2 r3
        refine .inl ⟨_, rfl, ⟨r1, .inl ⟨rfl, .inr ?_⟩⟩, by simp; exact hlt⟩
        rcases h2 with ⟨h2, h3⟩ | ⟨h2, h2', h3, h4⟩
        · subst h2
          exact ⟨r2, r3, rfl, r6⟩
        · exact ⟨r2.trans h2, fun hh => r3 (leP.anti r2 (by dsimp only at hh; rw [hh]; exact h2)), rfl, h4⟩
    · subst hc
      rw [if_neg (by simp)]
      exact .inr ⟨_, rfl, h2⟩) (s := (true, false, p)) ⟨hp, .inl ⟨rfl, .inl ⟨rfl, rfl⟩⟩⟩
  rw [ht]
  exact ⟨t.2, by simp only [Option.bind_some]; rw [← hpost]⟩

/-- a loop whose steps fall or change nothing -/
theorem loop_push {body : (Int × List Int) → Option ((Int × List Int) ⊕ List Int)} (p : List Int) (N : Nat) (C : Nat → Prop)
    (h : ∀ (i : Nat) (q : List Int), i < N → leP q p → ∃ q', body ((i : Int), q) = some (.inl (((i + 1 : Nat) : Int), q')) ∧ leP q' p ∧ (q' = p ↔ q = p ∧ C i))
    (he : ∀ q : List Int, body ((N : Int), q) = some (.inr q)) (q : List Int) (hq : leP q p) : ∃ r, loopO body (0, q) = some r ∧ leP r p ∧ (r = p ↔ q = p ∧ ∀ i, i < N → C i) := by
  have key : ∀ k, k ≤ N → ∀ q, leP q p → ∃ r, loopO body (((N - k : Nat) : Int), q) = some r ∧ leP r p ∧ (r = p ↔ q = p ∧ ∀ i, N - k ≤ i → i < N → C i) := by
    intro k
    induction k with
    | zero =>
      intro _ q hq
      exact ⟨q, loopO_stop (he q), hq, fun hh => ⟨hh, fun i h1 h2 => by omega⟩, fun hh => hh.1⟩
    | succ k ih =>
      intro hk q hq
      obtain ⟨q', e1, h1, h2⟩ := h (N - (k + 1)) q (by omega) hq
      obtain ⟨r, e2, h3, h4⟩ := ih (by omega) q' h1
      have e : N - (k + 1) + 1 = N - k := by omega
      refine ⟨r, by rw [loopO_next e1, e]; exact e2, h3, ?_⟩
      rw [h4, h2]
      constructor
      · rintro ⟨⟨x1, x2⟩, x3⟩
        refine ⟨x1, fun i h5 h6 => ?_⟩
        by_cases hi : i = N - (k + 1)
        · subst hi; exact x2
        · exact x3 i (by omega) h6
      · rintro ⟨x1, x2⟩
        exact ⟨⟨x1, x2 _ (Nat.le_refl _) (by omega)⟩, fun i h5 h6 => x2 i (by omega) h6⟩
  obtain ⟨r, e, h1, h2⟩ := key N (Nat.le_refl _) q hq
  rw [Nat.sub_self] at e h2
  exact ⟨r, e, h1, h2.trans ⟨fun hh => ⟨hh.1, fun i hi => hh.2 i (Nat.zero_le _) hi⟩, fun hh => ⟨hh.1, fun i _ hi => hh.2 i hi⟩⟩⟩

theorem F_push1 (ga : goodA a) (hn : a.Size = n) {p : List Int} (hp : okP n p) {o r i : Nat} (ho : o < a.Ops.length) (hr : (nth a.Ops o).Arity = r) (hi : i < (nth a.Ops o).Table.length) (q : List Int) (hq : leP q p) :
    ∃ t, loopO (F_spec_l6Push_l1 a p (o : Int) (i : Int) (argL n r i)) (0, q) = some t ∧ leP t p ∧ (t = p ↔ q = p ∧ ∀ k, k < r → tame a n o (r - 1 - k) i p) := by
  obtain ⟨r', r3, hr', hT, hTi, h512, hn0, hn8⟩ := opX ga hn ho
  obtain rfl : r = r' := by omega
  have hal := argL_len n r i
  refine loop_push (body := F_spec_l6Push_l1 a p (o : Int) (i : Int) (argL n r i)) p r (fun k => tame a n o (r - 1 - k) i p) (fun k q hk hq => ?_) (fun q => ?_) q hq
  · have hin := arg_in hn0 hp (i := i) hk
    have hsw := horn_swap (n := n) p r i k (by omega) hk
    obtain ⟨c, hc, hc2⟩ := swI_lt hn0 hp (r := r) (i := i) (e := r - 1 - k) (by omega) (by omega)
    have y0 := argL_in hn0 r i _ (nth_mem (show k < (argL n r i).length by omega))
    have y1 := hTi _ (nth_mem (show i < (nth a.Ops o).Table.length from hi))
    have y2 := hTi _ (nth_mem (show c < (nth a.Ops o).Table.length by omega))
    have hql := hq.1
    have hpl := hp.1
    have hv := F_value hn8 hn ho (xs := (argL n r i).set k (nth p (nth (argL n r i) k).toNat)) (by rw [List.length_set]; omega) hin (by rw [List.length_set, hal]; exact hT)
    rw [hsw, hc, Int.toNat_natCast] at hv
    have hu := F_l6Unite (p := q) (by omega) (X := nth (nth a.Ops o).Table i) (Y := nth (nth a.Ops o).Table c) (by omega) (by omega)
    unfold F_spec_l6Push_l1
    dsimp only
    rw [if_pos (by omega), F_own _ (by rw [lim_def]; omega)]
    simp only [Option.bind_some, Int.toNat_natCast]
    rw [ask_pos (by omega), ask_pos (by omega), ask_pos (by omega), ask_pos (by omega), ask_pos (by omega), hv]
    simp only [Option.bind_some]
    rw [hu]
    simp only [Option.bind_some]
    rw [ask_pos (by unfold InI; omega)]
    refine ⟨_, rfl, (mg_le _ _ _).trans hq, (mg_iff hq (by omega) (by omega)).trans ?_⟩
    unfold tame
    rw [hc, Int.toNat_natCast]
  · unfold F_spec_l6Push_l1
    dsimp only
    rw [if_neg (by omega)]
theorem F_push2 (ga : goodA a) (hn : a.Size = n) {p : List Int} (hp : okP n p) {o r : Nat} (ho : o < a.Ops.length) (hr : (nth a.Ops o).Arity = r) (q : List Int) (hq : leP q p) :
    ∃ t, loopO (F_spec_l6Push_l2 a p (o : Int)) (0, q) = some t ∧ leP t p ∧ (t = p ↔ q = p ∧ ∀ i, i < (nth a.Ops o).Table.length → ∀ k, k < r → tame a n o (r - 1 - k) i p) := by
  obtain ⟨r', r3, hr', hT, hTi, h512, hn0, hn8⟩ := opX ga hn ho
  obtain rfl : r = r' := by omega
  refine loop_push (body := F_spec_l6Push_l2 a p (o : Int)) p (nth a.Ops o).Table.length (fun i => ∀ k, k < r → tame a n o (r - 1 - k) i p) (fun i q hi hq => ?_) (fun q => ?_) q hq
  · obtain ⟨t, e1, e2, e3⟩ := F_push1 ga hn hp ho hr hi q hq
    refine ⟨t, ?_, e2, e3⟩
    unfold F_spec_l6Push_l2
    dsimp only
    rw [ask_pos (by omega), Int.toNat_natCast, if_pos (by omega), ask_pos (by omega), hn, hr, F_l2Args hn0 hn8 r3 (by omega)]
    simp only [Option.bind_some]
    rw [e1]
    simp only [Option.bind_some]
    rw [ask_pos (by unfold InI; omega)]
    rfl
  · unfold F_spec_l6Push_l2
    dsimp only
    rw [ask_pos (by omega), Int.toNat_natCast, if_neg (by omega)]
theorem F_l6Push (ga : goodA a) (hn : a.Size = n) {p : List Int} (hp : okP n p) : ∃ t, F_spec_l6Push a p = some t ∧ t.length = n ∧ (t = p ↔ kept a n p) := by
  have h8 := ga.2.1
  have hpl := hp.1
  unfold F_spec_l6Push
  rw [F_own _ (by rw [lim_def]; omega)]
  simp only [Option.bind_some]
  obtain ⟨t, e1, e2, e3⟩ := loop_push (body := F_spec_l6Push_l3 a p) p a.Ops.length (fun o => ∀ i, i < (nth a.Ops o).Table.length → ∀ k, k < (nth a.Ops o).Arity.toNat → tame a n o ((nth a.Ops o).Arity.toNat - 1 - k) i p) (fun o q ho hq => by
    obtain ⟨r, r3, hr, _⟩ := opX ga hn ho
    obtain ⟨t, e1, e2, e3⟩ := F_push2 ga hn hp ho (show (nth a.Ops o).Arity = ((nth a.Ops o).Arity.toNat : Nat) by omega) q hq
    refine ⟨t, ?_, e2, e3⟩
    unfold F_spec_l6Push_l3
    dsimp only
    have := ga.2.2.1
    rw [if_pos (by omega), e1]
    simp only [Option.bind_some]
    rw [ask_pos (by unfold InI; omega)]
    rfl) (fun q => by
    unfold F_spec_l6Push_l3
    dsimp only
    rw [if_neg (by omega)]) p (leP.refl p)
  rw [e1]
  refine ⟨t, rfl, by rw [e2.1]; exact hpl, e3.trans ?_⟩
  constructor
  · rintro ⟨_, h⟩ o ho e he i hi
    have := h o ho i hi ((nth a.Ops o).Arity.toNat - 1 - e) (by omega)
    rw [show (nth a.Ops o).Arity.toNat - 1 - ((nth a.Ops o).Arity.toNat - 1 - e) = e by omega] at this
    exact this
  · intro h
    exact ⟨rfl, fun o ho i hi k hk => h o ho _ (by omega) i hi⟩

/-- p is a congruence of a -/
def cong (a : SAlgebra) (n : Nat) (p : List Int) : Prop := partP n p ∧ kept a n p
theorem F_isCongruence (ga : goodA a) (hn : a.Size = n) {p : List Int} (hl : p.length ≤ 1048576) : F_impl_isCongruence a p = some (decide (cong a n p)) := by
  unfold F_impl_isCongruence
  rw [hn, F_isPartition hl]
  simp only [Option.bind_some]
  by_cases h : partP n p
  · rw [decide_eq_true h, if_pos rfl]
    unfold F_impl_clone
    rw [ask_pos (by rw [lim_def]; show 0 + p.length ≤ _; omega)]
    simp only [Option.bind_some]
    obtain ⟨q, e⟩ := F_closePartition ga hn (p := p) ⟨h.1, h.inS⟩
    rw [show nilL Int ++ p = p from rfl, e]
    simp only [Option.bind_some]
    by_cases hk : kept a n p
    · rw [decide_eq_false (fun hh => hh hk), decide_eq_true (show cong a n p from ⟨h, hk⟩)]; rfl
    · rw [decide_eq_true hk, decide_eq_false (fun hh : cong a n p => hk hh.2)]; rfl
  · rw [decide_eq_false h, if_neg (by simp), decide_eq_false (fun hh : cong a n p => h hh.1)]
theorem F_l6Is (ga : goodA a) (hn : a.Size = n) {p : List Int} (hl : p.length ≤ 1048576) : F_spec_l6Is a p = some (decide (cong a n p)) := by
  unfold F_spec_l6Is
  rw [hn, F_l6Partition hl]
  simp only [Option.bind_some]
  by_cases h : partP n p
  · rw [decide_eq_true h, if_pos rfl]
    obtain ⟨q, e, e2, e3⟩ := F_l6Push ga hn (p := p) ⟨h.1, h.inS⟩
    have := h.1
    rw [e]
    simp only [Option.bind_some]
    rw [F_l1Same (by rw [lim_def]; omega)]
    simp only [Option.bind_some]
    exact congrArg some (decide_eq_decide.2 (e3.trans ⟨fun hh => ⟨h, hh⟩, fun hh => hh.2⟩))
  · rw [decide_eq_false h, if_neg (by simp), decide_eq_false (fun hh : cong a n p => h hh.1)]

def congs (a : SAlgebra) (ps : List (List Int)) : Prop := goodA a ∧ ps.length ≤ 20 ∧ ∀ i, i < ps.length → cong a a.Size.toNat (nth ps i)
theorem F_areCongruences (h : smallA a) {ps : List (List Int)} (hl : ∀ r ∈ ps, r.length ≤ 1048576) : F_impl_areCongruences a ps = some (decide (congs a ps)) := by
  unfold F_impl_areCongruences
  rw [F_IsAlgebra h]
  simp only [Option.bind_some]
  by_cases hg : goodA a
  · rw [decide_eq_true hg, if_pos rfl]
    by_cases h20 : ps.length ≤ 20
    · rw [if_neg (by omega)]
      simp only [Option.bind_some]
      have hn : a.Size = (a.Size.toNat : Nat) := by have := hg.1; omega
      have this := loop_find (body := F_impl_areCongruences_l1 a ps) (fun i => (i : Int)) ps.length (fun i => ¬ cong a a.Size.toNat (nth ps i)) () () (fun i hi hb => by
        have hb := Classical.not_not.1 hb
        unfold F_impl_areCongruences_l1
        rw [if_pos (by omega), ask_pos (by omega), Int.toNat_natCast, F_isCongruence hg hn (hl _ (nth_mem hi))]
        simp only [Option.bind_some]
        rw [decide_eq_true hb, if_pos rfl, ask_pos (by unfold InI; omega)]; rfl) (fun i hi hb => by
        unfold F_impl_areCongruences_l1
        rw [if_pos (by omega), ask_pos (by omega), Int.toNat_natCast, F_isCongruence hg hn (hl _ (nth_mem hi))]
        simp only [Option.bind_some]
        rw [decide_eq_false hb, if_neg (by simp)]) (by
        unfold F_impl_areCongruences_l1
        rw [if_neg (by omega)]) 0 (by omega)
      refine (find_bool this false true).trans (congrArg some (dec_not ?_))
      rw [find_all]
      exact ⟨fun hh => ⟨hg, h20, hh⟩, fun hh => hh.2.2⟩
    · rw [if_pos (by omega), decide_eq_false (fun hh : congs a ps => h20 hh.2.1)]; rfl
  · rw [decide_eq_false hg, if_neg (by simp), decide_eq_false (fun hh : congs a ps => hg hh.1)]; rfl
theorem F_l10List (h : smallA a) {ps : List (List Int)} (hl : ∀ r ∈ ps, r.length ≤ 1048576) : F_spec_l10List a ps = some (decide (congs a ps)) := by
  unfold F_spec_l10List
  rw [F_l2Good h]
  simp only [Option.bind_some]
  by_cases hg : goodA a
  · rw [decide_eq_true hg, if_pos rfl]
    by_cases h20 : ps.length ≤ 20
    · rw [if_neg (by omega)]
      simp only [Option.bind_some]
      have hn : a.Size = (a.Size.toNat : Nat) := by have := hg.1; omega
      have this := loop_find (body := F_spec_l10List_l1 a ps) (fun i => (i : Int)) ps.length (fun i => ¬ cong a a.Size.toNat (nth ps i)) () () (fun i hi hb => by
        have hb := Classical.not_not.1 hb
        unfold F_spec_l10List_l1
        rw [if_pos (by omega), ask_pos (by omega), Int.toNat_natCast, F_l6Is hg hn (hl _ (nth_mem hi))]
        simp only [Option.bind_some]
        rw [decide_eq_true hb, if_pos rfl, ask_pos (by unfold InI; omega)]; rfl) (fun i hi hb => by
        unfold F_spec_l10List_l1
        rw [if_pos (by omega), ask_pos (by omega), Int.toNat_natCast, F_l6Is hg hn (hl _ (nth_mem hi))]
        simp only [Option.bind_some]
        rw [decide_eq_false hb, if_neg (by simp)]) (by
        unfold F_spec_l10List_l1
        rw [if_neg (by omega)]) 0 (by omega)
      refine (find_bool this false true).trans (congrArg some (dec_not ?_))
      rw [find_all]
      exact ⟨fun hh => ⟨hg, h20, hh⟩, fun hh => hh.2.2⟩
    · rw [if_pos (by omega), decide_eq_false (fun hh : congs a ps => h20 hh.2.1)]; rfl
  · rw [decide_eq_false hg, if_neg (by simp), decide_eq_false (fun hh : congs a ps => hg hh.1)]; rfl

theorem both_IsSeparating (h : smallA a) {ps : List (List Int)} (hl : ∀ r ∈ ps, r.length ≤ 1048576) : ∃ r, F_spec_IsSeparating a ps = some r ∧ F_impl_IsSeparating a ps = some r := by
  unfold F_spec_IsSeparating F_impl_IsSeparating
  rw [F_l10List h hl, F_areCongruences h hl]
  simp only [Option.bind_some]
  by_cases hc : congs a ps
  · rw [decide_eq_true hc]
    simp only [if_true]
    obtain ⟨hg, h20, hh⟩ := hc
    have h8 := hg.2.1
    obtain ⟨n, hn⟩ := Int.eq_ofNat_of_zero_le (show 0 ≤ a.Size by have := hg.1; omega)
    have hps : ∀ q ∈ ps, q.length = n ∧ inSize q n := fun q hq => by
      obtain ⟨i, hi, rfl⟩ := mem_nth.1 hq
      have hpp := (hh i hi).1
      rw [show a.Size.toNat = n by omega] at hpp
      exact ⟨hpp.1, hpp.inS⟩
    have hm := (metI_ok (n := n) (ps := ps) ps.length (Nat.le_refl _)).1
    rw [hn, F_l10Meet (by omega) h20 hps, F_meetAllC (by omega) h20 hps]
    simp only [Option.bind_some]
    rw [F_l6Count (by omega), F_blockCount (by omega)]
    exact ⟨_, rfl, rfl⟩
  · rw [decide_eq_false hc]
    exact ⟨(false, false), by simp, by simp⟩
end

end Go.Proofs.Ytdodfnbbfkcgnaa.Ax
