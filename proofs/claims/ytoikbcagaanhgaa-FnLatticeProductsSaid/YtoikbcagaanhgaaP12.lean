/-
  Lattices: what the program and the reference compute of bounds.
-/
import Derived.Test.YtoikbcagaanhgaaP11
namespace Go.Proofs.Ytoikbcagaanhgaa.Ax
open Go Classical
theorem take_all {xs : List Int} {P : Int → Prop} {i : Nat} (hi : i < xs.length) : (∀ x ∈ xs.take (i + 1), P x) ↔ (∀ x ∈ xs.take i, P x) ∧ P (nth xs i) := by
  rw [take_nth hi]
  constructor
  · intro h
    exact ⟨fun x hx => h x (by simp [hx]), h _ (by simp)⟩
  · rintro ⟨h1, h2⟩ x hx
    rcases List.mem_append.1 hx with hx | hx
    · exact h1 x hx
    · simp only [List.mem_singleton] at hx; subst hx; exact h2
section
variable {p : SPoset}
theorem F_l24Bound1 (hs : small p) (xs : List Int) (hx : inSize xs p.Below.length) (hl : xs.length ≤ LIM) (z : Nat) (acc : List Int) :
    loopO (F_spec_l24Bound_l1 p xs (z : Int) acc) (0, true) = some (loA (below p.Below) xs z) := by
  have e : loA (below p.Below) xs z = decide (∀ x ∈ xs.take xs.length, below p.Below z x.toNat = true) := by rw [List.take_length]; rfl
  rw [e]
  have key : loopO (F_spec_l24Bound_l1 p xs (z : Int) acc) (((0 : Nat) : Int), decide (∀ x ∈ xs.take 0, below p.Below z x.toNat = true)) = some (decide (∀ x ∈ xs.take xs.length, below p.Below z x.toNat = true)) :=
    loop_seq (body := F_spec_l24Bound_l1 p xs (z : Int) acc) (fun i => ((i : Int), decide (∀ x ∈ xs.take i, below p.Below z x.toNat = true))) xs.length _ (fun i hi => by
    unfold F_spec_l24Bound_l1
    dsimp only
    rw [lim_def] at hl
    have hr := hx _ (nth_mem hi)
    have hc : nth xs i = (((nth xs i).toNat : Nat) : Int) := by omega
    by_cases ha : ∀ x ∈ xs.take i, below p.Below z x.toNat = true
    · rw [decide_eq_true ha]
      simp (disch := omega) only [ask_pos, if_pos, if_true, InI_def, Int.toNat_natCast, Int.natCast_add, Int.natCast_one]
      rw [hc, F_l23Leq hs z _ (by omega)]
      simp (disch := omega) only [Option.bind_some]
      have : (∀ x ∈ xs.take (i + 1), below p.Below z x.toNat = true) ↔ below p.Below z (nth xs i).toNat = true := by
        rw [take_all hi]; exact ⟨fun h => h.2, fun h => ⟨ha, h⟩⟩
      simp only [this, Bool.decide_eq_true]
    · have hb : ¬ ∀ x ∈ xs.take (i + 1), below p.Below z x.toNat = true := fun h => ha ((take_all hi).1 h).1
      rw [decide_eq_false ha, decide_eq_false hb]
      simp (disch := omega) only [ask_pos, if_pos, if_false, InI_def, Int.toNat_natCast, Int.natCast_add, Int.natCast_one, Bool.false_eq_true]) (by
    unfold F_spec_l24Bound_l1
    dsimp only
    rw [if_neg (by omega)])
  have e0 : decide (∀ x ∈ xs.take 0, below p.Below z x.toNat = true) = true := by simp
  rw [e0] at key
  exact key
theorem mem_below (y x : Nat) : (y : Int) ∈ nth p.Below x ↔ below p.Below y x = true := by simp [below]
theorem F_l24Bound (hs : small p) (hg : good p.Below) (xs : List Int) (hx : inSize xs p.Below.length) (hl : xs.length ≤ LIM) :
    F_spec_l24Bound p xs = some (bnd p.Below.length (below p.Below) (loA (below p.Below) xs)) := by
  unfold F_spec_l24Bound
  have h0 := hs.1
  have h10 : p.Below.length ≤ 10 := hg.1
  rw [loop_sieve (body := F_spec_l24Bound_l2 p xs) p.Below.length (loA (below p.Below) xs) (fun i acc hi ha => by
    unfold F_spec_l24Bound_l2
    dsimp only
    rw [if_pos (by omega), F_l24Bound1 hs xs hx hl i acc]
    simp only [Option.bind_some]
    by_cases hp : loA (below p.Below) xs i = true
    · rw [if_pos hp, if_pos hp]
      simp (disch := omega) only [ask_pos, InI_def, lim_def, List.length_cons, List.length_nil, Int.natCast_add, Int.natCast_one]
    · rw [if_neg hp, if_neg hp]
      simp (disch := omega) only [ask_pos, InI_def, Int.natCast_add, Int.natCast_one]) (fun acc => by
    unfold F_spec_l24Bound_l2
    dsimp only
    rw [if_neg (by omega)])]
  simp only [Option.bind_some]
  have hsl := sieve_len p.Below.length (loA (below p.Below) xs)
  have hin : ∀ i, i < (sieve p.Below.length (loA (below p.Below) xs)).length → ∃ m : Nat, nth (sieve p.Below.length (loA (below p.Below) xs)) i = m ∧ m < p.Below.length := by
    intro i hi
    obtain ⟨m, h1, _, h3⟩ := mem_sieve.1 (nth_mem hi)
    exact ⟨m, h3, h1⟩
  generalize hLs : sieve p.Below.length (loA (below p.Below) xs) = ls at hsl hin
  rcases loop_pick (body := F_spec_l24Bound_l3 p ls) (fun i => (i : Int)) ls.length (fun i => ∀ x ∈ ls, x ∈ nth p.Below (nth ls i).toNat) (fun i => .inl (nth ls i)) (.inr ()) (fun i hi hh => by
      unfold F_spec_l24Bound_l3
      obtain ⟨m, hm, hm2⟩ := hin i hi
      rw [if_pos (by omega), ask_pos (by omega), ask_pos (by rw [Int.toNat_natCast, hm]; omega), F_l5Within _ _ (by rw [lim_def]; omega) (hs.2 _ (nth_mem (by rw [Int.toNat_natCast, hm]; omega))), Int.toNat_natCast]
      simp only [Option.bind_some]
      rw [if_neg (by simpa using hh), ask_pos (by unfold InI; omega)]
      rfl) (fun i hi hh => by
      unfold F_spec_l24Bound_l3
      obtain ⟨m, hm, hm2⟩ := hin i hi
      rw [if_pos (by omega), ask_pos (by omega), ask_pos (by rw [Int.toNat_natCast, hm]; omega), F_l5Within _ _ (by rw [lim_def]; omega) (hs.2 _ (nth_mem (by rw [Int.toNat_natCast, hm]; omega))), Int.toNat_natCast]
      simp only [Option.bind_some]
      rw [if_pos (by simpa using hh), ask_pos (by omega)]) (by
      unfold F_spec_l24Bound_l3
      rw [if_neg (by omega)]) with ⟨i, hi, hh, _, e⟩ | ⟨hn, e⟩
  · rw [show ((0 : Int)) = (((0 : Nat)) : Int) from rfl, e]
    simp only [Option.bind_some]
    subst hLs
    rw [bnd_hit (good_ord hg) hi fun x hx => ?_]
    obtain ⟨z, _, _, rfl⟩ := mem_sieve.1 hx
    rw [Int.toNat_natCast]
    exact (mem_below _ _).1 (hh _ hx)
  · rw [show ((0 : Int)) = (((0 : Nat)) : Int) from rfl, e]
    simp only [Option.bind_some]
    subst hLs
    rw [bnd_nohit fun i hi hc => hn i hi fun x hx => ?_]
    obtain ⟨z, _, _, rfl⟩ := mem_sieve.1 hx
    have := hc _ hx
    rw [Int.toNat_natCast] at this
    exact (mem_below _ _).2 this
theorem dual_opp (hg : good p.Below) (L : (Nat → Nat → Bool) → Nat → Bool) (hL : ∀ z, z < p.Below.length → L (below (dualP p).Below) z = L (opp (below p.Below)) z) :
    bnd (dualP p).Below.length (below (dualP p).Below) (L (below (dualP p).Below)) = bnd p.Below.length (opp (below p.Below)) (L (opp (below p.Below))) := by
  have ho := good_ord (good_dual hg)
  rw [dual_len] at ho ⊢
  exact bnd_congr (good_ord hg).opp (fun x y hx hy => below_dual hy hx) hL
theorem F_l24BoundD (hs : small p) (hg : good p.Below) (xs : List Int) (hx : inSize xs p.Below.length) (hl : xs.length ≤ LIM) :
    F_spec_l24Bound (dualP p) xs = some (bnd p.Below.length (opp (below p.Below)) (loA (opp (below p.Below)) xs)) := by
  rw [F_l24Bound (small_dual hs) (good_dual hg) xs (by rw [dual_len]; exact hx) hl, dual_opp hg (fun g => loA g xs) fun z hz => ?_]
  unfold loA
  rw [decide_eq_decide]
  constructor
  · intro h x hxx
    have := hx x hxx
    have h2 := h x hxx
    rw [below_dual (by omega) hz] at h2; exact h2
  · intro h x hxx
    have := hx x hxx
    rw [below_dual (by omega) hz]; exact h x hxx
end
section
variable {n : Nat} {f : Nat → Nat → Bool}
theorem F_greatest1 (hn : n ≤ LIM) (ls : List Int) (hx : inSize ls n) (hl : ls.length ≤ n) (k : Nat) (hk : k < ls.length) :
    loopO (F_impl_order_greatest_l1 (tab n f) ls (k : Int)) (0, true) = some (decide (∀ x ∈ ls, f x.toNat (nth ls k).toNat = true)) := by
  have key : loopO (F_impl_order_greatest_l1 (tab n f) ls (k : Int)) (((0 : Nat) : Int), decide (∀ x ∈ ls.take 0, f x.toNat (nth ls k).toNat = true)) = some (decide (∀ x ∈ ls.take ls.length, f x.toNat (nth ls k).toNat = true)) :=
    loop_seq (body := F_impl_order_greatest_l1 (tab n f) ls (k : Int)) (fun i => ((i : Int), decide (∀ x ∈ ls.take i, f x.toNat (nth ls k).toNat = true))) ls.length _ (fun i hi => by
    unfold F_impl_order_greatest_l1
    dsimp only
    rw [lim_def] at hn
    have hr := hx _ (nth_mem hi)
    have hr2 := hx _ (nth_mem hk)
    have hlen := tab_row_len n f (nth ls i).toNat (by omega)
    have htl := tab_len n f
    by_cases ha : ∀ x ∈ ls.take i, f x.toNat (nth ls k).toNat = true
    · rw [decide_eq_true ha]
      simp (disch := omega) only [ask_pos, if_pos, if_true, InI_def, Int.toNat_natCast, Int.natCast_add, Int.natCast_one, htl, hlen]
      have : (∀ x ∈ ls.take (i + 1), f x.toNat (nth ls k).toNat = true) ↔ f (nth ls i).toNat (nth ls k).toNat = true := by
        rw [take_all hi]; exact ⟨fun h => h.2, fun h => ⟨ha, h⟩⟩
      simp only [this, Bool.decide_eq_true]
      rw [tab_at n f _ _ (by omega) (by omega)]
    · have hb : ¬ ∀ x ∈ ls.take (i + 1), f x.toNat (nth ls k).toNat = true := fun h => ha ((take_all hi).1 h).1
      rw [decide_eq_false ha, decide_eq_false hb]
      simp (disch := omega) only [ask_pos, if_pos, if_false, InI_def, Int.toNat_natCast, Int.natCast_add, Int.natCast_one, Bool.false_eq_true]) (by
    unfold F_impl_order_greatest_l1
    dsimp only
    rw [if_neg (by omega)])
  have e0 : decide (∀ x ∈ ls.take 0, f x.toNat (nth ls k).toNat = true) = true := by simp
  rw [e0, List.take_length] at key
  exact key
theorem F_greatest (ho : Ord n f) (hn : n ≤ LIM) (L : Nat → Bool) : F_impl_order_greatest (tab n f) (sieve n L) = some (bnd n f L) := by
  unfold F_impl_order_greatest
  have hsl := sieve_len n L
  have hin : inSize (sieve n L) n := by
    intro x hx
    obtain ⟨m, h1, _, rfl⟩ := mem_sieve.1 hx
    omega
  rw [lim_def] at hn
  rcases loop_pick (body := F_impl_order_greatest_l2 (tab n f) (sieve n L)) (fun i => (i : Int)) (sieve n L).length (fun i => ∀ x ∈ sieve n L, f x.toNat (nth (sieve n L) i).toNat = true) (fun i => .inl (nth (sieve n L) i)) (.inr ()) (fun i hi hh => by
      unfold F_impl_order_greatest_l2
      rw [if_pos (by omega), ask_pos (by omega), F_greatest1 hn _ hin hsl i hi, decide_eq_false hh]
      simp (disch := omega) only [ask_pos, if_false, InI_def, Int.toNat_natCast, Int.natCast_add, Int.natCast_one, Option.bind_some, Bool.false_eq_true]) (fun i hi hh => by
      unfold F_impl_order_greatest_l2
      rw [if_pos (by omega), ask_pos (by omega), F_greatest1 hn _ hin hsl i hi, decide_eq_true hh]
      simp (disch := omega) only [ask_pos, if_true, InI_def, Int.toNat_natCast, Option.bind_some]) (by
      unfold F_impl_order_greatest_l2
      rw [if_neg (by omega)]) with ⟨i, hi, hh, _, e⟩ | ⟨hnn, e⟩
  · rw [show ((0 : Int)) = (((0 : Nat)) : Int) from rfl, e, bnd_hit ho hi hh]; rfl
  · rw [show ((0 : Int)) = (((0 : Nat)) : Int) from rfl, e, bnd_nohit hnn]; rfl
theorem F_meetTable1 (x y z : Nat) (hx : x < n) (hy : y < n) (hz : z < n) : F_impl_order_meetTable_1 (z : Int) (tab n f) (x : Int) (y : Int) = some (lo2 f x y z) := by
  unfold F_impl_order_meetTable_1
  have htl := tab_len n f
  have hlen := tab_row_len n f z hz
  rw [ask_pos (by omega), Int.toNat_natCast, ask_pos (by omega), Int.toNat_natCast, tab_at n f z x hz hx]
  unfold lo2
  cases h : f z x
  · simp
  · rw [if_pos rfl, ask_pos (by omega), ask_pos (by omega), Int.toNat_natCast, tab_at n f z y hz hy]; simp
noncomputable def mtab (n : Nat) (f : Nat → Nat → Bool) : List (List Int) := (List.range n).map fun x => (List.range n).map fun y => bnd n f (lo2 f x y)
noncomputable def mrow (n : Nat) (f : Nat → Nat → Bool) (x i : Nat) : List Int := (List.range i).map fun y => bnd n f (lo2 f x y)
noncomputable def mrows (n : Nat) (f : Nat → Nat → Bool) (i : Nat) : List (List Int) := (List.range i).map fun x => mrow n f x n
theorem mrow_succ (x i : Nat) : mrow n f x (i + 1) = mrow n f x i ++ [bnd n f (lo2 f x i)] := by simp [mrow, List.range_succ]
theorem mrows_succ (i : Nat) : mrows n f (i + 1) = mrows n f i ++ [mrow n f i n] := by simp [mrows, List.range_succ]
theorem mrow_len (x i : Nat) : (mrow n f x i).length = i := by simp [mrow]
theorem mrows_len (i : Nat) : (mrows n f i).length = i := by simp [mrows]
theorem mtab_len : (mtab n f).length = n := by simp [mtab]
theorem mtab_row {x : Nat} (hx : x < n) : nth (mtab n f) x = mrow n f x n := by
  unfold mtab
  rw [nth_map' _ (by simpa using hx), nth_range hx]; rfl
theorem mtab_at {x y : Nat} (hx : x < n) (hy : y < n) : nth (nth (mtab n f) x) y = bnd n f (lo2 f x y) := by
  rw [mtab_row hx]
  unfold mrow
  rw [nth_map' _ (by simpa using hy), nth_range hy]
theorem F_meetRow (ho : Ord n f) (hn : n ≤ LIM) (x : Nat) (hx : x < n) (acc : List (List Int)) : (loopO (F_impl_order_meetTable_l1 (tab n f) (x : Int) acc) (0, nilL Int) = some (.inl ()) ∧ ∃ y, y < n ∧ bnd n f (lo2 f x y) < 0) ∨
    (loopO (F_impl_order_meetTable_l1 (tab n f) (x : Int) acc) (0, nilL Int) = some (.inr (mrow n f x n)) ∧ ∀ y, y < n → ¬ bnd n f (lo2 f x y) < 0) := by
  have htl := tab_len n f
  have hth : ∀ y, y < n → F_impl_order_those (tab n f) (fun w => F_impl_order_meetTable_1 w (tab n f) (x : Int) (y : Int)) = some (sieve n (lo2 f x y)) := fun y hy =>
    F_those (n := n) (p := lo2 f x y) htl hn fun z hz => F_meetTable1 x y z hx hy hz
  have hn' := hn
  rw [lim_def] at hn'
  rcases loop_pick (body := F_impl_order_meetTable_l1 (tab n f) (x : Int) acc) (fun i => ((i : Int), mrow n f x i)) n (fun y => bnd n f (lo2 f x y) < 0) (fun _ => .inl ()) (.inr (mrow n f x n)) (fun y hy hh => by
      unfold F_impl_order_meetTable_l1
      dsimp only
      rw [if_pos (by omega), hth y hy]
      simp only [Option.bind_some]
      rw [F_greatest ho hn]
      have hl := mrow_len (n := n) (f := f) x y
      simp only [Option.bind_some]
      rw [if_neg hh, ask_pos (by rw [lim_def]; simp; omega), ask_pos (by unfold InI; omega), mrow_succ]
      rfl) (fun y hy hh => by
      unfold F_impl_order_meetTable_l1
      dsimp only
      rw [if_pos (by omega), hth y hy]
      simp only [Option.bind_some]
      rw [F_greatest ho hn]
      simp only [Option.bind_some]
      rw [if_pos hh]) (by
      unfold F_impl_order_meetTable_l1
      dsimp only
      rw [if_neg (by omega)]) with ⟨i, hi, hh, _, e⟩ | ⟨hnn, e⟩
  · exact .inl ⟨e, i, hi, hh⟩
  · exact .inr ⟨e, hnn⟩
theorem F_meetTable (ho : Ord n f) (hn : n ≤ LIM) : F_impl_order_meetTable (tab n f) = some (if meets n f then (mtab n f, true) else (nilL (List Int), false)) := by
  unfold F_impl_order_meetTable
  have htl := tab_len n f
  have hn' := hn
  rw [lim_def] at hn'
  rcases loop_pick (body := F_impl_order_meetTable_l2 (tab n f)) (fun i => ((i : Int), mrows n f i)) n (fun x => ∃ y, y < n ∧ bnd n f (lo2 f x y) < 0) (fun _ => .inl ()) (.inr (mrows n f n)) (fun x hx hh => by
      unfold F_impl_order_meetTable_l2
      dsimp only
      have hl := mrows_len (n := n) (f := f) x
      rcases F_meetRow ho hn x hx (mrows n f x) with ⟨_, hc⟩ | ⟨e, _⟩
      · exact absurd hc hh
      · rw [if_pos (by omega), e]
        simp only [Option.bind_some]
        rw [ask_pos (by rw [lim_def]; simp; omega), ask_pos (by unfold InI; omega), mrows_succ]
        rfl) (fun x hx hh => by
      unfold F_impl_order_meetTable_l2
      dsimp only
      rcases F_meetRow ho hn x hx (mrows n f x) with ⟨e, _⟩ | ⟨_, hc⟩
      · rw [if_pos (by omega), e]; rfl
      · obtain ⟨y, hy, hb⟩ := hh
        exact absurd hb (hc y hy)) (by
      unfold F_impl_order_meetTable_l2
      dsimp only
      rw [if_neg (by omega)]) with ⟨i, hi, ⟨y, hy, hb⟩, _, e⟩ | ⟨hnn, e⟩
  · have : ¬ meets n f := fun hm => by have := hm i y hi hy; omega
    rw [if_neg this]
    rw [show (((0 : Int), nilL (List Int))) = ((((0 : Nat)) : Int), mrows n f 0) from rfl, e]; rfl
  · have : meets n f := fun x y hx hy => by
      exact Int.not_lt.1 fun hb => hnn x hx ⟨y, hy, hb⟩
    rw [if_pos this]
    rw [show (((0 : Int), nilL (List Int))) = ((((0 : Nat)) : Int), mrows n f 0) from rfl, e]; rfl
def half (f : Nat → Nat → Bool) (x y : Nat) : Nat → Nat → Bool := fun a b => if a < x ∨ (a = x ∧ b < y) then f b a else false
theorem F_dual1 (hn : n ≤ LIM) (x : Nat) (hx : x < n) : loopO (F_impl_order_dual_l1 (tab n f) (x : Int)) (0, tab n (half f x 0)) = some (tab n (half f (x + 1) 0)) := by
  have htl := tab_len n f
  have hn' := hn
  rw [lim_def] at hn'
  refine loop_seq (body := F_impl_order_dual_l1 (tab n f) (x : Int)) (fun y => ((y : Int), tab n (half f x y))) n _ (fun y hy => ?_) ?_
  · unfold F_impl_order_dual_l1
    dsimp only
    have h1 := tab_len n (half f x y)
    have h2 := tab_row_len n f y hy
    have h3 := tab_row_len n (half f x y) x hx
    simp (disch := omega) only [ask_pos, if_pos, InI_def, Int.toNat_natCast, Int.natCast_add, Int.natCast_one, htl, h1, h2, h3]
    rw [tab_at n f y x hy hx, tab_set n _ x y _ hx hy]
    congr 4
    funext a b
    unfold half
    by_cases hab : a = x ∧ b = y
    · obtain ⟨rfl, rfl⟩ := hab
      simp
    · rw [if_neg hab]
      have : (a < x ∨ a = x ∧ b < y) ↔ (a < x ∨ a = x ∧ b < y + 1) := by omega
      simp only [this]
  · unfold F_impl_order_dual_l1
    dsimp only
    rw [if_neg (by omega)]
    congr 2
    refine tab_congr fun a b ha hb => ?_
    unfold half
    have : (a < x ∨ a = x ∧ b < n) ↔ (a < x + 1 ∨ a = x + 1 ∧ b < 0) := by omega
    simp only [this]
theorem F_order_dual (hn : n ≤ LIM) : F_impl_order_dual (tab n f) = some (tab n (opp f)) := by
  unfold F_impl_order_dual
  have htl := tab_len n f
  rw [htl, F_newOrder n hn]
  simp only [Option.bind_some]
  have hn' := hn
  rw [lim_def] at hn'
  have key : loopO (F_impl_order_dual_l2 (tab n f)) (((0 : Nat) : Int), tab n (half f 0 0)) = some (tab n (half f n 0)) :=
    loop_seq (body := F_impl_order_dual_l2 (tab n f)) (fun x => ((x : Int), tab n (half f x 0))) n _ (fun x hx => by
      unfold F_impl_order_dual_l2
      dsimp only
      rw [if_pos (by omega), F_dual1 hn x hx]
      simp only [Option.bind_some]
      rw [ask_pos (by unfold InI; omega)]; rfl) (by
      unfold F_impl_order_dual_l2
      dsimp only
      rw [if_neg (by omega)])
  have e0 : tab n (half f 0 0) = tab n fun _ _ => false := tab_congr fun a b _ _ => by simp [half]
  have e1 : tab n (half f n 0) = tab n (opp f) := tab_congr fun a b ha _ => by simp [half, opp, ha]
  rw [e0, e1] at key
  rw [show ((0 : Int)) = (((0 : Nat)) : Int) from rfl, key]; rfl
end
def isLat (p : SPoset) : Prop := good p.Below ∧ p.Below.length ≠ 0 ∧ meets p.Below.length (below p.Below) ∧ meets p.Below.length (opp (below p.Below))
noncomputable def latOf (p : SPoset) : Slattice := ⟨tab p.Below.length (below p.Below), mtab p.Below.length (below p.Below), mtab p.Below.length (opp (below p.Below))⟩
section
variable {p : SPoset}
theorem F_latticeOf_yes (hs : small p) (h : isLat p) : F_impl_latticeOf p = some (some (latOf p), true) := by
  obtain ⟨hg, h0, h1, h2⟩ := h
  unfold F_impl_latticeOf
  have htl := tab_len p.Below.length (below p.Below)
  rw [order_good p hs.1 hs.2 hg]
  simp only [Option.bind_some, if_true, htl]
  rw [if_neg (by omega)]
  simp only [Option.bind_some]
  rw [F_meetTable (good_ord hg) hs.1, F_order_dual hs.1]
  simp only [Option.bind_some]
  rw [F_meetTable (good_ord hg).opp hs.1, if_pos h1, if_pos h2]
  rfl
theorem F_latticeOf_no (hs : small p) (h : ¬ isLat p) : ∃ l, F_impl_latticeOf p = some (l, false) := by
  unfold F_impl_latticeOf
  by_cases hg : good p.Below
  · have htl := tab_len p.Below.length (below p.Below)
    rw [order_good p hs.1 hs.2 hg]
    simp only [Option.bind_some, if_true, htl]
    by_cases h0 : p.Below.length = 0
    · rw [if_pos (by omega)]; exact ⟨_, rfl⟩
    rw [if_neg (by omega)]
    simp only [Option.bind_some]
    rw [F_meetTable (good_ord hg) hs.1, F_order_dual hs.1]
    simp only [Option.bind_some]
    rw [F_meetTable (good_ord hg).opp hs.1]
    simp only [Option.bind_some]
    by_cases h1 : meets p.Below.length (below p.Below)
    · have h2 : ¬ meets p.Below.length (opp (below p.Below)) := fun h2 => h ⟨hg, h0, h1, h2⟩
      rw [if_pos h1, if_neg h2]
      exact ⟨_, rfl⟩
    · rw [if_neg h1]
      exact ⟨_, rfl⟩
  · obtain ⟨o, e⟩ := order_bad p hs.1 hs.2 hg
    rw [e]
    exact ⟨none, by simp⟩
theorem two_in {x y n : Nat} (hx : x < n) (hy : y < n) : inSize [(x : Int), (y : Int)] n := by
  intro z hz
  simp only [List.mem_cons, List.not_mem_nil, or_false] at hz
  rcases hz with rfl | rfl <;> omega
theorem F_l24Two (hs : small p) (hg : good p.Below) {x y : Nat} (hx : x < p.Below.length) (hy : y < p.Below.length) : F_spec_l24Bound p [(x : Int), (y : Int)] = some (bnd p.Below.length (below p.Below) (lo2 (below p.Below) x y)) := by
  rw [F_l24Bound hs hg _ (two_in hx hy) (by rw [lim_def]; simp), loA_two]
theorem F_l24TwoD (hs : small p) (hg : good p.Below) {x y : Nat} (hx : x < p.Below.length) (hy : y < p.Below.length) : F_spec_l24Bound (dualP p) [(x : Int), (y : Int)] = some (bnd p.Below.length (opp (below p.Below)) (lo2 (opp (below p.Below)) x y)) := by
  rw [F_l24BoundD hs hg _ (two_in hx hy) (by rw [lim_def]; simp), loA_two]
theorem F_l24Good (hs : small p) : F_spec_l24Good p = some (decide (isLat p)) := by
  unfold F_spec_l24Good
  rw [F_l23Good p hs.1 hs.2]
  simp only [Option.bind_some]
  by_cases hg : good p.Below
  · rw [decide_eq_true hg]
    by_cases h0 : p.Below.length = 0
    · simp only [if_true]
      rw [if_pos (by omega), decide_eq_false (fun h => h.2.1 h0)]; rfl
    simp only [if_true]
    rw [if_neg (by omega)]
    simp only [Option.bind_some]
    rw [F_l23Dual hs]
    simp only [Option.bind_some]
    have h10 : p.Below.length ≤ 10 := hg.1
    let bad : Nat → Nat → Prop := fun x y => bnd p.Below.length (below p.Below) (lo2 (below p.Below) x y) < 0 ∨ bnd p.Below.length (opp (below p.Below)) (lo2 (opp (below p.Below)) x y) < 0
    have inner : ∀ x, x < p.Below.length → (∃ y, y < x ∧ bad x y ∧ loopO (F_spec_l24Good_l1 p (dualP p) (x : Int)) 0 = some (.inl ())) ∨ ((∀ y, y < x → ¬ bad x y) ∧ loopO (F_spec_l24Good_l1 p (dualP p) (x : Int)) 0 = some (.inr ())) := by
      intro x hx
      rcases loop_pick (body := F_spec_l24Good_l1 p (dualP p) (x : Int)) (fun y => (y : Int)) x (bad x) (fun _ => .inl ()) (.inr ()) (fun y hy hh => by
          unfold F_spec_l24Good_l1
          rw [if_pos (by omega), F_l24Two hs hg hx (by omega)]
          simp only [Option.bind_some]
          rw [if_neg (fun h => hh (.inl h)), F_l24TwoD hs hg hx (by omega)]
          simp only [Option.bind_some]
          rw [if_neg (fun h => hh (.inr h)), ask_pos (by unfold InI; omega)]; rfl) (fun y hy hh => by
          unfold F_spec_l24Good_l1
          rw [if_pos (by omega), F_l24Two hs hg hx (by omega)]
          simp only [Option.bind_some]
          by_cases h1 : bnd p.Below.length (below p.Below) (lo2 (below p.Below) x y) < 0
          · rw [if_pos h1]
          · rw [if_neg h1, F_l24TwoD hs hg hx (by omega)]
            simp only [Option.bind_some]
            rw [if_pos (hh.resolve_left h1)]) (by
          unfold F_spec_l24Good_l1
          rw [if_neg (by omega)]) with ⟨y, hy, hh, _, e⟩ | ⟨hn, e⟩
      · exact .inl ⟨y, hy, hh, e⟩
      · exact .inr ⟨hn, e⟩
    rcases loop_pick (body := F_spec_l24Good_l2 p (dualP p)) (fun x => (x : Int)) p.Below.length (fun x => ∃ y, y < x ∧ bad x y) (fun _ => .inl ()) (.inr ()) (fun x hx hh => by
        unfold F_spec_l24Good_l2
        rw [if_pos (by omega)]
        rcases inner x hx with ⟨y, hy, hb, _⟩ | ⟨_, e⟩
        · exact absurd ⟨y, hy, hb⟩ hh
        · rw [e]
          simp only [Option.bind_some]
          rw [ask_pos (by unfold InI; omega)]; rfl) (fun x hx hh => by
        unfold F_spec_l24Good_l2
        rw [if_pos (by omega)]
        rcases inner x hx with ⟨_, _, _, e⟩ | ⟨hb, _⟩
        · rw [e]; rfl
        · obtain ⟨y, hy, hc⟩ := hh
          exact absurd hc (hb y hy)) (by
        unfold F_spec_l24Good_l2
        rw [if_neg (by omega)]) with ⟨x, hx, ⟨y, hy, hb⟩, _, e⟩ | ⟨hn, e⟩
    · rw [show ((0 : Int)) = (((0 : Nat)) : Int) from rfl, e, decide_eq_false]
      · rfl
      · rintro ⟨_, _, h1, h2⟩
        have := h1 x y hx (by omega)
        have := h2 x y hx (by omega)
        rcases hb with hb | hb <;> omega
    · rw [show ((0 : Int)) = (((0 : Nat)) : Int) from rfl, e, decide_eq_true]
      · rfl
      · refine ⟨hg, h0, (meets_iff (good_ord hg)).2 fun x hx y hy hc => hn x hx ⟨y, hy, .inl hc⟩, (meets_iff (good_ord hg).opp).2 fun x hx y hy hc => hn x hx ⟨y, hy, .inr hc⟩⟩
  · rw [decide_eq_false hg, decide_eq_false (fun h => hg h.1)]
    rfl
end
end Go.Proofs.Ytoikbcagaanhgaa.Ax
