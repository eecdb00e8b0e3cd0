/-
  The order of a poset, as the program makes it; the reference's test; that they agree.
-/
import Derived.Test.YtbnoclklhcbidaaDoorP3
namespace Go.Proofs.YtbnoclklhcbidaaDoor.Ax
open Go Classical

def posOk (xss : List (List Int)) : Prop := xss.length ≤ 10 ∧ ∀ r ∈ xss, rises r ∧ inSize r xss.length
noncomputable def below (xss : List (List Int)) (y x : Nat) : Bool := decide ((y : Int) ∈ nth xss x)
noncomputable def below1 (xss : List (List Int)) (i : Nat) (y x : Nat) : Bool := decide (x < i ∧ (y : Int) ∈ nth xss x)
noncomputable def below2 (xss : List (List Int)) (i j : Nat) (y x : Nat) : Bool := decide ((x < i ∧ (y : Int) ∈ nth xss x) ∨ (x = i ∧ (y : Int) ∈ (nth xss i).take j))

theorem below2_0 (xss : List (List Int)) (i : Nat) : below2 xss i 0 = below1 xss i := by
  funext y x; simp [below2, below1]
theorem below2_end (xss : List (List Int)) (i j : Nat) (h : (nth xss i).length ≤ j) : below2 xss i j = below1 xss (i + 1) := by
  funext y x
  simp only [below2, below1, List.take_of_length_le h, decide_eq_decide]
  constructor
  · rintro (⟨h1, h2⟩ | ⟨rfl, h2⟩)
    · exact ⟨by omega, h2⟩
    · exact ⟨by omega, h2⟩
  · rintro ⟨h1, h2⟩
    rcases Nat.lt_succ_iff_lt_or_eq.1 h1 with h | rfl
    · exact .inl ⟨h, h2⟩
    · exact .inr ⟨rfl, h2⟩
theorem below2_succ (xss : List (List Int)) (i j c : Nat) (h : j < (nth xss i).length) (hc : nth (nth xss i) j = (c : Int)) :
    (fun a b => if a = c ∧ b = i then true else below2 xss i j a b) = below2 xss i (j + 1) := by
  funext a b
  simp only [below2]
  rw [take_nth h, hc]
  by_cases hab : a = c ∧ b = i
  · obtain ⟨rfl, rfl⟩ := hab
    simp
  · rw [if_neg hab, decide_eq_decide]
    simp only [List.mem_append, List.mem_singleton]
    constructor
    · rintro (h1 | ⟨h1, h2⟩)
      · exact .inl h1
      · exact .inr ⟨h1, .inl h2⟩
    · rintro (h1 | ⟨h1, h2 | h2⟩)
      · exact .inl h1
      · exact .inr ⟨h1, h2⟩
      · exact absurd ⟨by omega, h1⟩ hab
theorem below1_end (xss : List (List Int)) (n : Nat) (_h : n = xss.length) : tab n (below1 xss n) = tab n (below xss) := by
  refine tab_congr fun y x _ hx => ?_
  simp [below1, below, hx]

theorem orderOf1 (p : SPoset) (i : Nat) (hi : i < p.Below.length) (hl : (nth p.Below i).length ≤ LIM) (hs : inSize (nth p.Below i) p.Below.length) :
    loopO (F_impl_orderOf_l1 p i) (0, tab p.Below.length (below1 p.Below i)) = some (tab p.Below.length (below1 p.Below (i + 1))) := by
  rw [lim_def] at hl
  have := loop_seq (body := F_impl_orderOf_l1 p i) (fun j => ((j : Int), tab p.Below.length (below2 p.Below i j))) (nth p.Below i).length (tab p.Below.length (below1 p.Below (i + 1))) (fun j hj => by
    unfold F_impl_orderOf_l1
    dsimp only
    obtain ⟨c, hc⟩ := Int.eq_ofNat_of_zero_le (hs _ (nth_mem hj)).1
    have hcn : c < p.Below.length := by have := (hs _ (nth_mem hj)).2; omega
    have tl := tab_len p.Below.length (below2 p.Below i j)
    have tr := tab_row_len p.Below.length (below2 p.Below i j) c hcn
    simp only [Int.toNat_natCast, hc]
    rw [if_pos (by omega), ask_pos (by omega), ask_pos (by omega), ask_pos (by omega), ask_pos (by unfold InI; omega), tab_set _ _ _ _ _ hcn hi, below2_succ _ _ _ _ hj hc]
    rfl) (by
    unfold F_impl_orderOf_l1
    dsimp only
    simp only [Int.toNat_natCast]
    rw [if_neg (by omega), below2_end _ _ _ (Nat.le_refl _)])
  simp only [below2_0] at this
  exact this

theorem F_orderOf (p : SPoset) (h0 : p.Below.length ≤ LIM) (h1 : ∀ r ∈ p.Below, r.length ≤ LIM) :
    F_impl_orderOf p = some (if posOk p.Below then (tab p.Below.length (below p.Below), decide (isOrd p.Below.length (below p.Below))) else ([], false)) := by
  unfold F_impl_orderOf
  have h0' := h0
  rw [lim_def] at h0'
  split
  · rename_i h
    rw [if_neg (by rintro ⟨h2, _⟩; omega)]
  rename_i h
  have hn : p.Below.length ≤ 10 := by omega
  rw [F_newOrder _ h0]
  simp only [Option.bind_some]
  have := loop_find (body := F_impl_orderOf_l2 p) (fun i => ((i : Int), tab p.Below.length (below1 p.Below i))) p.Below.length (fun i => ¬ (rises (nth p.Below i) ∧ inSize (nth p.Below i) p.Below.length)) () (tab p.Below.length (below p.Below)) (fun i hi hb => by
    have hb := Classical.not_not.1 hb
    have hl := h1 _ (nth_mem hi)
    unfold F_impl_orderOf_l2
    dsimp only
    rw [if_pos (by omega), ask_pos (by omega)]
    simp only [Int.toNat_natCast]
    rw [F_rises _ hl, F_inSize _ _ hl]
    simp only [Option.bind_some, hb.1, hb.2, decide_true, if_true]
    rw [orderOf1 p i hi hl hb.2]
    simp only [Option.bind_some]
    rw [ask_pos (by unfold InI; omega)]; rfl) (fun i hi hb => by
    have hl := h1 _ (nth_mem hi)
    unfold F_impl_orderOf_l2
    dsimp only
    rw [if_pos (by omega), ask_pos (by omega)]
    simp only [Int.toNat_natCast]
    rw [F_rises _ hl, F_inSize _ _ hl]
    by_cases h2 : rises (nth p.Below i)
    · have h3 : ¬ inSize (nth p.Below i) p.Below.length := fun hc => hb ⟨h2, hc⟩
      simp [h2, h3]
    · simp [h2]) (by
    unfold F_impl_orderOf_l2
    dsimp only
    rw [if_neg (by omega), below1_end _ _ rfl]) 0 (by omega)
  have e0 : below1 p.Below 0 = fun _ _ => false := by funext y x; simp [below1]
  simp only [e0] at this
  rw [show (((0 : Nat) : Int)) = 0 from rfl] at this
  rw [this]
  by_cases hx : ∃ i, 0 ≤ i ∧ i < p.Below.length ∧ ¬ (rises (nth p.Below i) ∧ inSize (nth p.Below i) p.Below.length)
  · rw [if_pos hx, if_neg]
    · rfl
    · rintro ⟨_, hp⟩; obtain ⟨i, _, hi, hc⟩ := hx; exact hc (hp _ (nth_mem hi))
  · have hall := find_all.1 hx
    rw [if_neg hx, if_pos ⟨hn, fun r hr => by obtain ⟨i, hi, rfl⟩ := mem_nth.1 hr; exact hall i hi⟩]
    simp only [Option.bind_some]
    rw [F_isOrder _ _ h0]; rfl

def good (xss : List (List Int)) : Prop := xss.length ≤ 10 ∧ (∀ x, x < xss.length → rising (nth xss x) 0 (xss.length - 1) ∧ (x : Int) ∈ nth xss x) ∧
  ∀ x, x < xss.length → ∀ i, i < (nth xss x).length → ¬ (nth (nth xss x) i ≠ x ∧ (x : Int) ∈ nth xss (nth (nth xss x) i).toNat) ∧
    ∀ z ∈ nth xss (nth (nth xss x) i).toNat, z ∈ nth xss x

theorem l23Good2 (p : SPoset) (h1 : ∀ r ∈ p.Below, r.length ≤ LIM) (x : Nat) (hx : x < p.Below.length) (hb : rising (nth p.Below x) 0 (p.Below.length - 1)) :
    loopO (F_spec_l23Good_l2 p x) 0 = some (if ∃ i, 0 ≤ i ∧ i < (nth p.Below x).length ∧ ¬ (¬ (nth (nth p.Below x) i ≠ x ∧ (x : Int) ∈ nth p.Below (nth (nth p.Below x) i).toNat) ∧ ∀ z ∈ nth p.Below (nth (nth p.Below x) i).toNat, z ∈ nth p.Below x) then .inl () else .inr ()) := by
  have hl := h1 _ (nth_mem hx)
  have hl' := hl
  rw [lim_def] at hl'
  have step : ∀ i, i < (nth p.Below x).length → F_spec_l23Good_l2 p x i = some (if ¬ (nth (nth p.Below x) i ≠ x ∧ (x : Int) ∈ nth p.Below (nth (nth p.Below x) i).toNat) ∧ ∀ z ∈ nth p.Below (nth (nth p.Below x) i).toNat, z ∈ nth p.Below x then .inl ((i + 1 : Nat) : Int) else .inr (.inl ())) := by
    intro i hi
    have hv := (hb i hi).1
    unfold F_spec_l23Good_l2
    rw [ask_pos (by omega)]
    simp only [Int.toNat_natCast]
    rw [if_pos (by omega), ask_pos (by omega), ask_pos (by omega)]
    have hy : (nth (nth p.Below x) i).toNat < p.Below.length := by omega
    have hly := h1 _ (nth_mem hy)
    by_cases h2 : nth (nth p.Below x) i = x
    · rw [if_neg (by simpa using h2), ask_pos (by omega), ask_pos (by omega), F_l5Within _ _ hly hl]
      simp only [Option.bind_some]
      by_cases h3 : ∀ z ∈ nth p.Below (nth (nth p.Below x) i).toNat, z ∈ nth p.Below x
      · rw [if_pos (by simpa using h3), ask_pos (by unfold InI; omega), if_pos ⟨fun hc => hc.1 h2, h3⟩]; rfl
      · rw [if_neg (by simpa using h3), if_neg (fun hc => h3 hc.2)]
    · rw [if_pos (by simpa using h2), ask_pos (by omega), F_l1Has _ _ hly]
      simp only [Option.bind_some]
      by_cases h4 : (x : Int) ∈ nth p.Below (nth (nth p.Below x) i).toNat
      · rw [if_pos (by simpa using h4), if_neg (fun hc => hc.1 ⟨h2, h4⟩)]
      · rw [if_neg (by simpa using h4), ask_pos (by omega), ask_pos (by omega), F_l5Within _ _ hly hl]
        simp only [Option.bind_some]
        by_cases h3 : ∀ z ∈ nth p.Below (nth (nth p.Below x) i).toNat, z ∈ nth p.Below x
        · rw [if_pos (by simpa using h3), ask_pos (by unfold InI; omega), if_pos ⟨fun hc => h4 hc.2, h3⟩]; rfl
        · rw [if_neg (by simpa using h3), if_neg (fun hc => h3 hc.2)]
  refine loop_find (body := F_spec_l23Good_l2 p x) (fun i => (i : Int)) (nth p.Below x).length _ () () (fun i hi hb => ?_) (fun i hi hb => ?_) ?_ 0 (by omega)
  · rw [step i hi, if_pos (Classical.not_not.1 hb)]
  · rw [step i hi, if_neg hb]
  · unfold F_spec_l23Good_l2
    rw [ask_pos (by omega), if_neg (by simp)]

theorem F_l23Good (p : SPoset) (h0 : p.Below.length ≤ LIM) (h1 : ∀ r ∈ p.Below, r.length ≤ LIM) : F_spec_l23Good p = some (decide (good p.Below)) := by
  unfold F_spec_l23Good
  rw [lim_def] at h0
  split
  · rename_i h; rw [decide_eq_false]; rintro ⟨h2, _⟩; omega
  rename_i h
  have hn : p.Below.length ≤ 10 := by omega
  have hA := loop_find (body := F_spec_l23Good_l1 p) (fun i => (i : Int)) p.Below.length (fun x => ¬ (rising (nth p.Below x) 0 (p.Below.length - 1) ∧ (x : Int) ∈ nth p.Below x)) () () (fun x hx hb => by
    have hb := Classical.not_not.1 hb
    have hl := h1 _ (nth_mem hx)
    unfold F_spec_l23Good_l1
    rw [if_pos (by omega), ask_pos (by omega), ask_pos (by unfold InI; omega)]
    simp only [Int.toNat_natCast]
    rw [F_l1Rising _ _ _ hl]
    simp only [Option.bind_some]
    rw [if_pos (by simpa using hb.1), ask_pos (by omega), F_l1Has _ _ hl]
    simp only [Option.bind_some]
    rw [if_pos (by simpa using hb.2), ask_pos (by unfold InI; omega)]; rfl) (fun x hx hb => by
    have hl := h1 _ (nth_mem hx)
    unfold F_spec_l23Good_l1
    rw [if_pos (by omega), ask_pos (by omega), ask_pos (by unfold InI; omega)]
    simp only [Int.toNat_natCast]
    rw [F_l1Rising _ _ _ hl]
    simp only [Option.bind_some]
    by_cases h2 : rising (nth p.Below x) 0 (p.Below.length - 1)
    · rw [if_pos (by simpa using h2), ask_pos (by omega), F_l1Has _ _ hl]
      simp only [Option.bind_some]
      rw [if_neg (by simpa using fun hc => hb ⟨h2, hc⟩)]
    · rw [if_neg (by simpa using h2)]) (by unfold F_spec_l23Good_l1; rw [if_neg (by omega)]) 0 (by omega)
  by_cases hxA : ∃ i, 0 ≤ i ∧ i < p.Below.length ∧ ¬ (rising (nth p.Below i) 0 (p.Below.length - 1) ∧ (i : Int) ∈ nth p.Below i)
  · rw [if_pos hxA] at hA
    rw [show (((0 : Nat) : Int)) = 0 from rfl] at hA
    rw [hA, decide_eq_false]
    · rfl
    · rintro ⟨_, hc, _⟩; obtain ⟨i, _, hi, hd⟩ := hxA; exact hd (hc i hi)
  rw [if_neg hxA, show (((0 : Nat) : Int)) = 0 from rfl] at hA
  have hall := find_all.1 hxA
  rw [hA]
  simp only [Option.bind_some]
  have stepB : ∀ x, x < p.Below.length → F_spec_l23Good_l3 p x = some (if ∀ i, i < (nth p.Below x).length → ¬ (nth (nth p.Below x) i ≠ x ∧ (x : Int) ∈ nth p.Below (nth (nth p.Below x) i).toNat) ∧ ∀ z ∈ nth p.Below (nth (nth p.Below x) i).toNat, z ∈ nth p.Below x then .inl ((x + 1 : Nat) : Int) else .inr (.inl ())) := by
    intro x hx
    unfold F_spec_l23Good_l3
    rw [if_pos (by omega), l23Good2 p h1 x hx (hall x hx).1]
    by_cases h2 : ∃ i, 0 ≤ i ∧ i < (nth p.Below x).length ∧ ¬ (¬ (nth (nth p.Below x) i ≠ x ∧ (x : Int) ∈ nth p.Below (nth (nth p.Below x) i).toNat) ∧ ∀ z ∈ nth p.Below (nth (nth p.Below x) i).toNat, z ∈ nth p.Below x)
    · rw [if_pos h2, if_neg]
      · rfl
      · intro hc; obtain ⟨i, _, hi, hd⟩ := h2; exact hd (hc i hi)
    · rw [if_neg h2, if_pos (find_all.1 h2)]
      simp only [Option.bind_some]
      rw [ask_pos (by unfold InI; omega)]; rfl
  have hB := loop_find (body := F_spec_l23Good_l3 p) (fun i => (i : Int)) p.Below.length (fun x => ¬ ∀ i, i < (nth p.Below x).length → ¬ (nth (nth p.Below x) i ≠ x ∧ (x : Int) ∈ nth p.Below (nth (nth p.Below x) i).toNat) ∧ ∀ z ∈ nth p.Below (nth (nth p.Below x) i).toNat, z ∈ nth p.Below x) () () (fun x hx hb => by
    rw [stepB x hx, if_pos (Classical.not_not.1 hb)]) (fun x hx hb => by rw [stepB x hx, if_neg hb]) (by unfold F_spec_l23Good_l3; rw [if_neg (by omega)]) 0 (by omega)
  refine (find_bool hB false true).trans (congrArg some (dec_not ?_))
  rw [find_all]
  exact ⟨fun hh => ⟨hn, hall, hh⟩, fun hh => hh.2.2⟩

theorem rising_iff (xs : List Int) (n : Nat) : rising xs 0 (n - 1) ↔ rises xs ∧ inSize xs n := by
  constructor
  · intro h
    refine ⟨fun i h1 h2 => (h i h2).2 h1, fun x hx => ?_⟩
    obtain ⟨i, h1, rfl⟩ := mem_nth.1 hx
    have := (h i h1).1
    omega
  · rintro ⟨h1, h2⟩ i hi
    have := h2 _ (nth_mem hi)
    exact ⟨by omega, fun h => h1 i h hi⟩

/-- the program's test and the reference's are one -/
theorem good_iff (xss : List (List Int)) : (posOk xss ∧ isOrd xss.length (below xss)) ↔ good xss := by
  constructor
  · rintro ⟨⟨h1, h2⟩, h3⟩
    have hs : ∀ x, x < xss.length → rises (nth xss x) ∧ inSize (nth xss x) xss.length := fun x hx => h2 _ (nth_mem hx)
    refine ⟨h1, fun x hx => ⟨(rising_iff _ _).2 (hs x hx), by simpa [below] using (h3 x hx).1⟩, fun x hx i hi => ?_⟩
    have hm := nth_mem hi
    have hb := (hs x hx).2 _ hm
    obtain ⟨y, hy⟩ := Int.eq_ofNat_of_zero_le hb.1
    rw [hy] at hm ⊢
    have hyn : y < xss.length := by omega
    simp only [Int.toNat_natCast]
    refine ⟨fun hc => ?_, fun z hz => ?_⟩
    · refine ((h3 y hyn).2 x hx).1 ⟨fun e => hc.1 (by rw [e]), by simpa [below] using hm, by simpa [below] using hc.2⟩
    · have hzb := (hs y hyn).2 z hz
      obtain ⟨w, rfl⟩ := Int.eq_ofNat_of_zero_le hzb.1
      have := ((h3 w (by omega)).2 y hyn).2 x hx (by simpa [below] using hz) (by simpa [below] using hm)
      simpa [below] using this
  · rintro ⟨h1, h2, h3⟩
    refine ⟨⟨h1, fun r hr => ?_⟩, fun x hx => ⟨by simpa [below] using (h2 x hx).2, fun y hy => ⟨?_, fun z hz a b => ?_⟩⟩⟩
    · obtain ⟨x, hx, rfl⟩ := mem_nth.1 hr
      exact (rising_iff _ _).1 (h2 x hx).1
    · rintro ⟨a, b, c⟩
      obtain ⟨i, hi, he⟩ := mem_nth.1 (show (x : Int) ∈ nth xss y by simpa [below] using b)
      have := (h3 y hy i hi).1
      rw [he] at this
      exact this ⟨by omega, by simpa [below] using c⟩
    · obtain ⟨i, hi, he⟩ := mem_nth.1 (show (y : Int) ∈ nth xss z by simpa [below] using b)
      have := (h3 z hz i hi).2
      rw [he] at this
      have := this x (by simpa [below] using a)
      simpa [below] using this

/-- the two tests -/
theorem order_good (p : SPoset) (h0 : p.Below.length ≤ LIM) (h1 : ∀ r ∈ p.Below, r.length ≤ LIM) (hg : good p.Below) : F_impl_orderOf p = some (tab p.Below.length (below p.Below), true) := by
  have hh := (good_iff _).2 hg
  rw [F_orderOf p h0 h1, if_pos hh.1, decide_eq_true hh.2]
theorem order_bad (p : SPoset) (h0 : p.Below.length ≤ LIM) (h1 : ∀ r ∈ p.Below, r.length ≤ LIM) (hg : ¬ good p.Below) : ∃ o, F_impl_orderOf p = some (o, false) := by
  rw [F_orderOf p h0 h1]
  by_cases hp : posOk p.Below
  · rw [if_pos hp, decide_eq_false]
    · exact ⟨_, rfl⟩
    · exact fun ho => hg ((good_iff _).1 ⟨hp, ho⟩)
  · rw [if_neg hp]; exact ⟨_, rfl⟩

end Go.Proofs.YtbnoclklhcbidaaDoor.Ax
