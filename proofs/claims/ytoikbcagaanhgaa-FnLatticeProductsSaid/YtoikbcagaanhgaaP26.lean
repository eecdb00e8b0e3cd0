/-
  ProductLattice and StackLattice: what the program and the reference compute.
-/
import Derived.Test.YtoikbcagaanhgaaP24
namespace Go.Proofs.Ytoikbcagaanhgaa.Ax
open Go Classical
theorem fill_tab {N : Nat} (F : Nat → Nat → Bool) {inner : Nat → List (List Bool) → (Int × List (List Bool)) → Option ((Int × List (List Bool)) ⊕ List (List Bool))} {outer : (Int × List (List Bool)) → Option ((Int × List (List Bool)) ⊕ List (List Bool))}
    (h1 : ∀ x y H0 H, x < N → y < N → inner x (tab N H0) ((y : Int), tab N H) = some (.inl (((y + 1 : Nat) : Int), tab N (fun a b => if a = x ∧ b = y then F x y else H a b))))
    (h2 : ∀ x H0 H, x < N → inner x (tab N H0) ((N : Int), tab N H) = some (.inr (tab N H)))
    (h3 : ∀ x H T, x < N → loopO (inner x (tab N H)) (0, tab N H) = some T → outer ((x : Int), tab N H) = some (.inl (((x + 1 : Nat) : Int), T)))
    (h4 : ∀ H, outer ((N : Int), tab N H) = some (.inr (tab N H))) : loopO outer (0, tab N fun _ _ => false) = some (tab N F) := by
  have inn : ∀ x, x < N → loopO (inner x (tab N fun a b => if a < x then F a b else false)) (0, tab N fun a b => if a < x then F a b else false) = some (tab N fun a b => if a < x + 1 then F a b else false) := by
    intro x hx
    have key := loop_seq (body := inner x (tab N fun a b => if a < x then F a b else false)) (fun k => ((k : Int), tab N fun a b => if a < x ∨ (a = x ∧ b < k) then F a b else false)) N (tab N fun a b => if a < x + 1 then F a b else false) (fun k hk => by
      rw [h1 x k _ _ hx hk]
      refine congrArg (fun z => some (Sum.inl (_, z))) (tab_congr fun a b _ _ => ?_)
      by_cases hab : a = x ∧ b = k
      · obtain ⟨rfl, rfl⟩ := hab
        rw [if_pos ⟨rfl, rfl⟩, if_pos (by omega)]
      · rw [if_neg hab]
        have : (a < x ∨ a = x ∧ b < k) ↔ (a < x ∨ a = x ∧ b < k + 1) := by omega
        simp only [this]) (by
      rw [h2 x _ _ hx]
      refine congrArg (fun z => some (Sum.inr z)) (tab_congr fun a b _ hb => ?_)
      have : (a < x ∨ a = x ∧ b < N) ↔ a < x + 1 := by omega
      simp only [this])
    have e0 : (tab N fun a b => if a < x ∨ (a = x ∧ b < 0) then F a b else false) = tab N fun a b => if a < x then F a b else false := tab_congr fun a b _ _ => by
      have : (a < x ∨ a = x ∧ b < 0) ↔ a < x := by omega
      simp only [this]
    simp only [e0] at key
    exact key
  have key := loop_seq (body := outer) (fun x => ((x : Int), tab N fun a b => if a < x then F a b else false)) N (tab N F) (fun x hx => h3 x _ _ hx (inn x hx)) (by
    rw [h4]
    exact congrArg (fun z => some (Sum.inr z)) (tab_congr fun a b ha _ => by rw [if_pos ha]))
  have e0 : (tab N fun a b => if a < 0 then F a b else false) = tab N fun _ _ => false := tab_congr fun a b _ _ => by rw [if_neg (by omega)]
  simp only [e0] at key
  exact key
theorem prodRow_len (m : Nat) (us vs : List Int) : (prodRow m us vs).length = us.length * vs.length := by
  unfold prodRow
  induction us with
  | nil => simp
  | cons u r ih => rw [List.flatMap_cons, List.length_append, ih, List.length_map, List.length_cons, Nat.succ_mul]; omega
section
variable {p q : SPoset}
theorem row_len (hg : good p.Below) {x : Nat} (hx : x < p.Below.length) : (nth p.Below x).length ≤ p.Below.length := by
  rw [row_eq hg x hx]; exact sieve_len _ _
theorem F_prod1 (hp : good p.Below) (hq : good q.Below) {x y i : Nat} (hx : x < p.Below.length) (hy : y < q.Below.length) (hi : i < (nth p.Below x).length) (s : SPoset) (acc : List Int) (ha : acc.length ≤ 100) :
    loopO (F_spec_l24Product_l1 p q (x : Int) (y : Int) s (i : Int)) (0, acc) = some (acc ++ (nth q.Below y).map fun v => nth (nth p.Below x) i * (q.Below.length : Int) + v) := by
  have h10 : p.Below.length ≤ 10 := hp.1
  have k10 : q.Below.length ≤ 10 := hq.1
  have hl := row_len hq hy
  obtain ⟨c, hc⟩ := Int.eq_ofNat_of_zero_le ((good_row hp x hx).2 _ (nth_mem hi)).1
  have hcn : c < p.Below.length := by have := ((good_row hp x hx).2 _ (nth_mem hi)).2; omega
  have hmul : c * q.Below.length ≤ 10 * 10 := Nat.mul_le_mul (by omega) k10
  have key := loop_seq (body := F_spec_l24Product_l1 p q (x : Int) (y : Int) s (i : Int)) (fun k => ((k : Int), acc ++ ((nth q.Below y).take k).map fun v => nth (nth p.Below x) i * (q.Below.length : Int) + v)) (nth q.Below y).length (acc ++ (nth q.Below y).map fun v => nth (nth p.Below x) i * (q.Below.length : Int) + v) (fun k hk => by
    obtain ⟨d, hd⟩ := Int.eq_ofNat_of_zero_le ((good_row hq y hy).2 _ (nth_mem hk)).1
    have hdn : d < q.Below.length := by have := ((good_row hq y hy).2 _ (nth_mem hk)).2; omega
    unfold F_spec_l24Product_l1
    dsimp only
    simp only [Int.toNat_natCast, hc, hd, ← Int.natCast_mul]
    rw [ask_pos (by omega), if_pos (by omega), ask_pos (by omega), ask_pos (by omega), ask_pos (by unfold InI; omega), ask_pos (by omega), ask_pos (by omega), ask_pos (by unfold InI; omega),
      ask_pos (by rw [lim_def]; simp only [List.length_append, List.length_map, List.length_take, List.length_cons, List.length_nil]; omega), ask_pos (by unfold InI; omega), take_nth hk, List.map_append, ← List.append_assoc, List.map_cons, List.map_nil, hd]
    rfl) (by
    unfold F_spec_l24Product_l1
    dsimp only
    simp only [Int.toNat_natCast]
    rw [ask_pos (by omega), if_neg (by omega), List.take_length])
  simp only [List.take_zero, List.map_nil, List.append_nil] at key
  exact key
theorem F_prod2 (hp : good p.Below) (hq : good q.Below) {x y : Nat} (hx : x < p.Below.length) (hy : y < q.Below.length) (s : SPoset) :
    loopO (F_spec_l24Product_l2 p q (x : Int) (y : Int) s) (0, nilL Int) = some (prodRow q.Below.length (nth p.Below x) (nth q.Below y)) := by
  have h10 : p.Below.length ≤ 10 := hp.1
  have k10 : q.Below.length ≤ 10 := hq.1
  have hl := row_len hq hy
  have hlp := row_len hp hx
  have key := loop_seq (body := F_spec_l24Product_l2 p q (x : Int) (y : Int) s) (fun i => ((i : Int), prodRow q.Below.length ((nth p.Below x).take i) (nth q.Below y))) (nth p.Below x).length (prodRow q.Below.length (nth p.Below x) (nth q.Below y)) (fun i hi => by
    unfold F_spec_l24Product_l2
    dsimp only
    simp only [Int.toNat_natCast]
    have hm : ((nth p.Below x).take i).length * (nth q.Below y).length ≤ 10 * 10 := Nat.mul_le_mul (by rw [List.length_take]; omega) (by omega)
    rw [ask_pos (by omega), if_pos (by omega), F_prod1 hp hq hx hy hi s _ (by rw [prodRow_len]; omega)]
    simp only [Option.bind_some]
    rw [ask_pos (by unfold InI; omega), take_nth hi]
    unfold prodRow
    rw [List.flatMap_append, List.flatMap_cons, List.flatMap_nil, List.append_nil]
    rfl) (by
    unfold F_spec_l24Product_l2
    dsimp only
    simp only [Int.toNat_natCast]
    rw [ask_pos (by omega), if_neg (by omega), List.take_length])
  exact key
theorem F_l24Product (hp : good p.Below) (hq : good q.Below) : F_spec_l24Product p q = some (posOf (p.Below.length * q.Below.length) (prodF (below p.Below) (below q.Below) q.Below.length)) := by
  have h10 : p.Below.length ≤ 10 := hp.1
  have k10 : q.Below.length ≤ 10 := hq.1
  unfold F_spec_l24Product
  have inner : ∀ x, x < p.Below.length → ∀ s : List (List Int), s.length ≤ 1000 → loopO (F_spec_l24Product_l3 p q (x : Int)) (0, (⟨s⟩ : SPoset)) = some ⟨s ++ (List.range q.Below.length).map fun y => prodRow q.Below.length (nth p.Below x) (nth q.Below y)⟩ := by
    intro x hx s hsl
    have key := loop_seq (body := F_spec_l24Product_l3 p q (x : Int)) (fun y => ((y : Int), (⟨s ++ (List.range y).map fun y => prodRow q.Below.length (nth p.Below x) (nth q.Below y)⟩ : SPoset))) q.Below.length ⟨s ++ (List.range q.Below.length).map fun y => prodRow q.Below.length (nth p.Below x) (nth q.Below y)⟩ (fun y hy => by
      unfold F_spec_l24Product_l3
      dsimp only
      rw [if_pos (by omega), F_prod2 hp hq hx hy]
      simp only [Option.bind_some]
      rw [ask_pos (by rw [lim_def]; simp only [List.length_append, List.length_map, List.length_range, List.length_cons, List.length_nil]; omega), ask_pos (by unfold InI; omega), List.range_succ, List.map_append, ← List.append_assoc]
      rfl) (by
      unfold F_spec_l24Product_l3
      dsimp only
      rw [if_neg (by omega)])
    simp only [List.range_zero, List.map_nil, List.append_nil] at key
    exact key
  have hlen : ∀ x, ((List.range x).flatMap fun x => (List.range q.Below.length).map fun y => prodRow q.Below.length (nth p.Below x) (nth q.Below y)).length = x * q.Below.length := by
    intro x
    induction x with
    | zero => simp
    | succ x ih => rw [List.range_succ, List.flatMap_append, List.length_append, ih, Nat.succ_mul]; simp
  have key := loop_seq (body := F_spec_l24Product_l4 p q) (fun x => ((x : Int), (⟨(List.range x).flatMap fun x => (List.range q.Below.length).map fun y => prodRow q.Below.length (nth p.Below x) (nth q.Below y)⟩ : SPoset))) p.Below.length
    ⟨(List.range p.Below.length).flatMap fun x => (List.range q.Below.length).map fun y => prodRow q.Below.length (nth p.Below x) (nth q.Below y)⟩ (fun x hx => by
    unfold F_spec_l24Product_l4
    dsimp only
    have hb : x * q.Below.length ≤ 10 * 10 := Nat.mul_le_mul (by omega) k10
    rw [if_pos (by omega), inner x hx _ (by rw [hlen]; omega)]
    simp only [Option.bind_some]
    rw [ask_pos (by unfold InI; omega), List.range_succ, List.flatMap_append]
    simp only [List.flatMap_cons, List.flatMap_nil, List.append_nil]
    rfl) (by
    unfold F_spec_l24Product_l4
    dsimp only
    rw [if_neg (by omega)])
  have key' : loopO (F_spec_l24Product_l4 p q) (0, { Below := nilL (List Int) }) = _ := key
  rw [key']
  simp only [Option.bind_some]
  refine congrArg some ?_
  have e : (posOf (p.Below.length * q.Below.length) (prodF (below p.Below) (below q.Below) q.Below.length)) = ⟨(posOf (p.Below.length * q.Below.length) (prodF (below p.Below) (below q.Below) q.Below.length)).Below⟩ := rfl
  rw [e, prod_rows]
  refine congrArg SPoset.mk (flatMap_eq fun x hx => List.map_congr_left fun y hy => ?_)
  rw [row_eq hp x (List.mem_range.1 hx), row_eq hq y (List.mem_range.1 hy)]
theorem F_prodI (hp : good p.Below) (hq : good q.Below) (r13 : List (List Bool)) (hr : r13.length = p.Below.length * q.Below.length) : loopO (F_impl_ProductLattice_l2 (latOf p) (latOf q) r13) (0, tab (p.Below.length * q.Below.length) fun _ _ => false) = some (tab (p.Below.length * q.Below.length) (prodF (below p.Below) (below q.Below) q.Below.length)) := by
  have h10 : p.Below.length ≤ 10 := hp.1
  have k10 : q.Below.length ≤ 10 := hq.1
  have hN : p.Below.length * q.Below.length ≤ 10 * 10 := Nat.mul_le_mul h10 k10
  refine fill_tab (prodF (below p.Below) (below q.Below) q.Below.length) (inner := fun x T => F_impl_ProductLattice_l1 (latOf p) (latOf q) r13 (x : Int) T) (fun x y H0 H hx hy => ?_) (fun x H0 H hx => ?_) (fun x H T hx e => ?_) (fun H => ?_)
  · have hm : 0 < q.Below.length := by
      rcases Nat.eq_zero_or_pos q.Below.length with h | h
      · rw [h, Nat.mul_zero] at hx; omega
      · exact h
    obtain ⟨x1, ex1⟩ : ∃ k, k = x / q.Below.length := ⟨_, rfl⟩
    obtain ⟨y1, ey1⟩ : ∃ k, k = y / q.Below.length := ⟨_, rfl⟩
    obtain ⟨x2, ex2⟩ : ∃ k, k = x % q.Below.length := ⟨_, rfl⟩
    obtain ⟨y2, ey2⟩ : ∃ k, k = y % q.Below.length := ⟨_, rfl⟩
    have a1 : x1 < p.Below.length := by rw [ex1]; exact Nat.div_lt_of_lt_mul (by rw [Nat.mul_comm]; exact hx)
    have a2 : y1 < p.Below.length := by rw [ey1]; exact Nat.div_lt_of_lt_mul (by rw [Nat.mul_comm]; exact hy)
    have b1 : x2 < q.Below.length := by rw [ex2]; exact Nat.mod_lt _ hm
    have b2 : y2 < q.Below.length := by rw [ey2]; exact Nat.mod_lt _ hm
    have c1 : (x : Int).tdiv (q.Below.length : Int) = (x1 : Int) := by rw [ex1]; rfl
    have c2 : (y : Int).tdiv (q.Below.length : Int) = (y1 : Int) := by rw [ey1]; rfl
    have c3 : (x : Int).tmod (q.Below.length : Int) = (x2 : Int) := by rw [ex2]; rfl
    have c4 : (y : Int).tmod (q.Below.length : Int) = (y2 : Int) := by rw [ey2]; rfl
    have eF : prodF (below p.Below) (below q.Below) q.Below.length x y = (below p.Below x1 y1 && below q.Below x2 y2) := by
      unfold prodF; rw [← ex1, ← ey1, ← ex2, ← ey2]
    unfold F_impl_ProductLattice_l1
    dsimp only
    have t1 := tab_len p.Below.length (below p.Below)
    have t2 := tab_len q.Below.length (below q.Below)
    have t3 := tab_row_len p.Below.length (below p.Below) _ a1
    have t4 := tab_row_len q.Below.length (below q.Below) _ b1
    have t5 := tab_len (p.Below.length * q.Below.length) H0
    have t6 := tab_len (p.Below.length * q.Below.length) H
    have t7 := tab_row_len (p.Below.length * q.Below.length) H x hx
    simp only [latOf_order, t1, t2, t5, t6, c1, c2, c3, c4, Int.toNat_natCast, t3, t4, t7]
    rw [if_pos (by omega), ask_pos (by omega), ask_pos (by unfold InI; omega), ask_pos (by omega), ask_pos (by unfold InI; omega), ask_pos (by omega), tab_at _ _ _ _ a1 a2]
    rw [eF]
    by_cases hf : below p.Below x1 y1 = true
    · rw [if_pos hf]
      repeat rw [ask_pos (by first | omega | (unfold InI; omega))]
      rw [tab_at _ _ _ _ b1 b2, tab_set _ _ _ _ _ hx hy, hf, Bool.true_and]
      rfl
    · rw [if_neg hf]
      repeat rw [ask_pos (by first | omega | (unfold InI; omega))]
      rw [tab_set _ _ _ _ _ hx hy]
      have hf' : below p.Below x1 y1 = false := by simpa using hf
      rw [hf', Bool.false_and]
      rfl
  · unfold F_impl_ProductLattice_l1
    dsimp only
    rw [tab_len, if_neg (by omega)]
  · unfold F_impl_ProductLattice_l2
    dsimp only
    rw [hr, if_pos (by omega), e]
    simp only [Option.bind_some]
    rw [ask_pos (by unfold InI; omega)]; rfl
  · unfold F_impl_ProductLattice_l2
    dsimp only
    rw [hr, if_neg (by omega)]
theorem F_two_yes (hs : small p) (ht : small q) (hp : isLat p) (hq : isLat q) : F_impl_twoLattices p q = some (some (latOf p), some (latOf q), true) := by
  unfold F_impl_twoLattices
  rw [F_latticeOf_yes hs hp]
  simp only [Option.bind_some]
  rw [F_latticeOf_yes ht hq]
  simp only [Option.bind_some, if_true]
theorem F_two_no (hs : small p) (ht : small q) (h : ¬ (isLat p ∧ isLat q)) : ∃ a b, F_impl_twoLattices p q = some (a, b, false) := by
  unfold F_impl_twoLattices
  by_cases hp : isLat p
  · have hq : ¬ isLat q := fun hq => h ⟨hp, hq⟩
    rw [F_latticeOf_yes hs hp]
    simp only [Option.bind_some]
    obtain ⟨l, e⟩ := F_latticeOf_no ht hq
    rw [e]
    cases l
    · exact ⟨_, _, rfl⟩
    · exact ⟨_, _, rfl⟩
  · obtain ⟨l, e⟩ := F_latticeOf_no hs hp
    rw [e]
    by_cases hq : isLat q
    · cases l <;> (simp only [Option.bind_some]; rw [F_latticeOf_yes ht hq]; exact ⟨_, _, rfl⟩)
    · obtain ⟨l2, e2⟩ := F_latticeOf_no ht hq
      cases l <;> (simp only [Option.bind_some]; rw [e2]; cases l2 <;> exact ⟨_, _, rfl⟩)
theorem F_identity {n : Nat} (hn : n ≤ 1000) : F_spec_l6Identity n = some (upTo n) := by
  unfold F_spec_l6Identity
  have key := loop_seq (body := F_spec_l6Identity_l1 n) (fun i => ((i : Int), upTo i)) n (upTo n) (fun i hi => by
    unfold F_spec_l6Identity_l1
    dsimp only
    have hl : (upTo i).length = i := by simp [upTo]
    rw [if_pos (by omega), ask_pos (by rw [lim_def]; simp only [List.length_cons, List.length_nil]; omega), ask_pos (by unfold InI; omega)]
    have e : upTo (i + 1) = upTo i ++ [(i : Int)] := by simp [upTo, List.range_succ]
    rw [e]; rfl) (by
    unfold F_spec_l6Identity_l1
    dsimp only
    rw [if_neg (by omega)])
  have key' : loopO (F_spec_l6Identity_l1 n) (0, nilL Int) = _ := key
  rw [key']; rfl
theorem F_stackI (hp : good p.Below) (hq : good q.Below) (r13 : List (List Bool)) (hr : r13.length = p.Below.length + q.Below.length) : loopO (F_impl_StackLattice_l2 (latOf p) (latOf q) r13) (0, tab (p.Below.length + q.Below.length) fun _ _ => false) = some (tab (p.Below.length + q.Below.length) (stackF (below p.Below) (below q.Below) p.Below.length)) := by
  have h10 : p.Below.length ≤ 10 := hp.1
  have k10 : q.Below.length ≤ 10 := hq.1
  refine fill_tab (stackF (below p.Below) (below q.Below) p.Below.length) (inner := fun x T => F_impl_StackLattice_l1 (latOf p) (latOf q) r13 (x : Int) T) (fun x y H0 H hx hy => ?_) (fun x H0 H hx => ?_) (fun x H T hx e => ?_) (fun H => ?_)
  · unfold F_impl_StackLattice_l1
    dsimp only
    have t1 := tab_len p.Below.length (below p.Below)
    have t2 := tab_len q.Below.length (below q.Below)
    have t5 := tab_len (p.Below.length + q.Below.length) H0
    have t6 := tab_len (p.Below.length + q.Below.length) H
    have t7 := tab_row_len (p.Below.length + q.Below.length) H x hx
    simp only [latOf_order, t1, t2, t5, t6, Int.toNat_natCast, t7]
    rw [if_pos (by omega)]
    by_cases hxn : x < p.Below.length
    · have t3 := tab_row_len p.Below.length (below p.Below) x hxn
      rw [if_pos (by omega)]
      simp only [Option.bind_some]
      by_cases hyn : y < p.Below.length
      · rw [decide_eq_true (show (y : Int) < p.Below.length by omega), if_pos rfl]
        repeat rw [ask_pos (by first | omega | (unfold InI; omega))]
        rw [tab_at _ _ _ _ hxn hyn, tab_set _ _ _ _ _ hx hy]
        unfold stackF
        rw [if_pos hxn, if_pos hyn]
        rfl
      · rw [decide_eq_false (show ¬ (y : Int) < p.Below.length by omega), if_neg (by simp), if_neg (by omega)]
        simp only [Option.bind_some, Bool.false_eq_true, if_false]
        repeat rw [ask_pos (by first | omega | (unfold InI; omega))]
        rw [tab_set _ _ _ _ _ hx hy, decide_eq_true (show (x : Int) < p.Below.length by omega)]
        unfold stackF
        rw [if_pos hxn, if_neg hyn]
        rfl
    · rw [if_neg (by omega)]
      simp only [Option.bind_some, Bool.false_eq_true, if_false]
      rw [if_pos (by omega)]
      simp only [Option.bind_some]
      have ex : ((x : Int) - (p.Below.length : Int)) = ((x - p.Below.length : Nat) : Int) := by omega
      by_cases hyn : y < p.Below.length
      · rw [decide_eq_false (show ¬ (y : Int) ≥ p.Below.length by omega), if_neg (by simp)]
        repeat rw [ask_pos (by first | omega | (unfold InI; omega))]
        rw [tab_set _ _ _ _ _ hx hy, decide_eq_false (show ¬ (x : Int) < p.Below.length by omega)]
        unfold stackF
        rw [if_neg hxn, if_pos hyn]
        rfl
      · have ey : ((y : Int) - (p.Below.length : Int)) = ((y - p.Below.length : Nat) : Int) := by omega
        have t4 := tab_row_len q.Below.length (below q.Below) (x - p.Below.length) (by omega)
        rw [decide_eq_true (show (y : Int) ≥ p.Below.length by omega), if_pos rfl, ex, ey]
        simp only [Int.toNat_natCast, t4]
        repeat rw [ask_pos (by first | omega | (unfold InI; omega))]
        rw [tab_at _ _ _ _ (by omega) (by omega), tab_set _ _ _ _ _ hx hy]
        unfold stackF
        rw [if_neg hxn, if_neg hyn]
        rfl
  · unfold F_impl_StackLattice_l1
    dsimp only
    rw [tab_len, if_neg (by omega)]
  · unfold F_impl_StackLattice_l2
    dsimp only
    rw [hr, if_pos (by omega), e]
    simp only [Option.bind_some]
    rw [ask_pos (by unfold InI; omega)]; rfl
  · unfold F_impl_StackLattice_l2
    dsimp only
    rw [hr, if_neg (by omega)]
theorem F_stackS (hs : small p) (hp : good p.Below) (hq : good q.Below) : ((loopO (F_spec_StackLattice_l1 p q) (0, { Below := nilL (List Int) })).bind fun r => loopO (F_spec_StackLattice_l3 p q) (0, r)) = some (posOf (p.Below.length + q.Below.length) (stackF (below p.Below) (below q.Below) p.Below.length)) := by
  have h10 : p.Below.length ≤ 10 := hp.1
  have k10 : q.Below.length ≤ 10 := hq.1
  have key1 := loop_seq (body := F_spec_StackLattice_l1 p q) (fun x => ((x : Int), (⟨(List.range x).map fun x => nth p.Below x⟩ : SPoset))) p.Below.length ⟨(List.range p.Below.length).map fun x => nth p.Below x⟩ (fun x hx => by
    unfold F_spec_StackLattice_l1
    dsimp only
    rw [if_pos (by omega), ask_pos (by omega), Int.toNat_natCast, F_own _ (hs.2 _ (nth_mem hx))]
    simp only [Option.bind_some]
    rw [ask_pos (by rw [lim_def]; simp only [List.length_map, List.length_range, List.length_cons, List.length_nil]; omega), ask_pos (by unfold InI; omega), List.range_succ, List.map_append]
    rfl) (by
    unfold F_spec_StackLattice_l1
    dsimp only
    rw [if_neg (by omega)])
  have key1' : loopO (F_spec_StackLattice_l1 p q) (0, { Below := nilL (List Int) }) = _ := key1
  rw [key1']
  simp only [Option.bind_some]
  have inner : ∀ y, y < q.Below.length → ∀ s, loopO (F_spec_StackLattice_l2 p q (y : Int) s) (0, upTo p.Below.length) = some (upTo p.Below.length ++ (nth q.Below y).map fun v => (p.Below.length : Int) + v) := by
    intro y hy s
    have hl := row_len hq hy
    have hu : (upTo p.Below.length).length = p.Below.length := by simp [upTo]
    have key := loop_seq (body := F_spec_StackLattice_l2 p q (y : Int) s) (fun k => ((k : Int), upTo p.Below.length ++ ((nth q.Below y).take k).map fun v => (p.Below.length : Int) + v)) (nth q.Below y).length (upTo p.Below.length ++ (nth q.Below y).map fun v => (p.Below.length : Int) + v) (fun k hk => by
      have hv := (good_row hq y hy).2 _ (nth_mem hk)
      unfold F_spec_StackLattice_l2
      dsimp only
      simp only [Int.toNat_natCast]
      rw [ask_pos (by omega), if_pos (by omega), ask_pos (by omega), ask_pos (by omega), ask_pos (by unfold InI; omega),
        ask_pos (by rw [lim_def]; simp only [List.length_append, List.length_map, List.length_take, List.length_cons, List.length_nil]; omega), ask_pos (by unfold InI; omega), take_nth hk, List.map_append, ← List.append_assoc]
      rfl) (by
      unfold F_spec_StackLattice_l2
      dsimp only
      simp only [Int.toNat_natCast]
      rw [ask_pos (by omega), if_neg (by omega), List.take_length])
    simp only [List.take_zero, List.map_nil, List.append_nil] at key
    exact key
  have key2 := loop_seq (body := F_spec_StackLattice_l3 p q) (fun y => ((y : Int), (⟨((List.range p.Below.length).map fun x => nth p.Below x) ++ (List.range y).map fun y => upTo p.Below.length ++ (nth q.Below y).map fun v => (p.Below.length : Int) + v⟩ : SPoset))) q.Below.length
    ⟨((List.range p.Below.length).map fun x => nth p.Below x) ++ (List.range q.Below.length).map fun y => upTo p.Below.length ++ (nth q.Below y).map fun v => (p.Below.length : Int) + v⟩ (fun y hy => by
    unfold F_spec_StackLattice_l3
    dsimp only
    rw [if_pos (by omega), F_identity (by omega)]
    simp only [Option.bind_some]
    rw [inner y hy]
    simp only [Option.bind_some]
    rw [ask_pos (by rw [lim_def]; simp only [List.length_append, List.length_map, List.length_range, List.length_cons, List.length_nil]; omega), ask_pos (by unfold InI; omega), List.range_succ, List.map_append, ← List.append_assoc]
    rfl) (by
    unfold F_spec_StackLattice_l3
    dsimp only
    rw [if_neg (by omega)])
  simp only [List.range_zero, List.map_nil, List.append_nil] at key2
  have key2' : loopO (F_spec_StackLattice_l3 p q) (0, { Below := (List.range p.Below.length).map fun x => nth p.Below x }) = _ := key2
  rw [key2']
  refine congrArg some ?_
  have e : (posOf (p.Below.length + q.Below.length) (stackF (below p.Below) (below q.Below) p.Below.length)) = ⟨(posOf (p.Below.length + q.Below.length) (stackF (below p.Below) (below q.Below) p.Below.length)).Below⟩ := rfl
  rw [e, stack_rows]
  have h1 : (List.range p.Below.length).map (fun x => nth p.Below x) = (List.range p.Below.length).map fun x => sieve p.Below.length fun a => below p.Below a x := List.map_congr_left fun x hx => row_eq hp x (List.mem_range.1 hx)
  have h2 : (List.range q.Below.length).map (fun y => upTo p.Below.length ++ (nth q.Below y).map fun v => (p.Below.length : Int) + v) = (List.range q.Below.length).map fun y => upTo p.Below.length ++ (sieve q.Below.length fun b => below q.Below b y).map fun v => (p.Below.length : Int) + v := List.map_congr_left fun y hy => by rw [row_eq hq y (List.mem_range.1 hy)]
  rw [h1, h2]
end
end Go.Proofs.Ytoikbcagaanhgaa.Ax
