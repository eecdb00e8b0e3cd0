/-
  Is it a poset? The program, the reference, and that they agree.
-/
import Derived.Test.YtnpdibedhdlclaaFd
namespace Go.Proofs.Ytnpdibedhdlclaa.Ax
open Go Classical

theorem t_implIsPoset (xss : List (List Int)) (h0 : xss.length ≤ LIM) (h1 : ∀ r ∈ xss, r.length ≤ LIM) :
    Ret Try.prog f_impl_IsPoset [.agg [rows xss]] (.bool (decide (posOk xss ∧ isOrd xss.length (below xss)))) := by
  refine ret_vc k_impl_IsPoset (by simp) ?_
  by_cases hp : posOk xss
  · have ho := t_orderOf xss h0 h1
    rw [if_pos hp] at ho
    repeat' ((conv => whnf); first | refine Br.yes ?_ | refine Br.no ?_ | refine Br.prop (fun h => ?_) fun h => ?_ | refine Br.beq (fun h => ?_) fun h => ?_ | refine Br.bne (fun h => ?_) fun h => ?_ | refine Br.not ?_ | refine Len.map ?_ | refine Ask.el 0 (by omega) ?_ | refine Ask.el [] (by omega) ?_ | refine Ask.mk (by omega) ?_ | refine Cells.lit rfl ?_ | refine CallQ.ret ho ?_ | fail)
    conv => whnf
    refine fin_bool ?_
    simp [hp]
  · have ho := t_orderOf xss h0 h1
    rw [if_neg hp] at ho
    repeat' ((conv => whnf); first | refine Br.yes ?_ | refine Br.no ?_ | refine Br.prop (fun h => ?_) fun h => ?_ | refine Br.beq (fun h => ?_) fun h => ?_ | refine Br.bne (fun h => ?_) fun h => ?_ | refine Br.not ?_ | refine Len.map ?_ | refine Ask.el 0 (by omega) ?_ | refine Ask.el [] (by omega) ?_ | refine Ask.mk (by omega) ?_ | refine Cells.lit rfl ?_ | refine CallQ.ret ho ?_ | fail)
    conv => whnf
    refine fin_false ?_
    simp [hp]

def good (xss : List (List Int)) : Prop := xss.length ≤ 10 ∧ (∀ x, x < xss.length → rising (xss.getD x []) 0 (xss.length - 1) ∧ (x : Int) ∈ xss.getD x []) ∧
  ∀ x, x < xss.length → ∀ i, i < (xss.getD x []).length → ¬ ((xss.getD x []).getD i 0 ≠ x ∧ (x : Int) ∈ xss.getD ((xss.getD x []).getD i 0).toNat []) ∧
    ∀ z ∈ xss.getD ((xss.getD x []).getD i 0).toNat [], z ∈ xss.getD x []

set_option maxHeartbeats 4000000 in
theorem t_l23Good (xss : List (List Int)) (h0 : xss.length ≤ LIM) (h1 : ∀ r ∈ xss, r.length ≤ LIM) : Ret Try.prog f_spec_l23Good [.agg [rows xss]] (.bool (decide (good xss))) := by
  refine ret_vc k_spec_l23Good (by simp) ?_
  have h0' := h0
  unfold LIM at h0'
  repeat' ((conv => whnf); first | refine Br.yes ?_ | refine Br.no ?_ | refine Br.prop (fun h => ?_) fun h => ?_ | refine Br.beq (fun h => ?_) fun h => ?_ | refine Br.bne (fun h => ?_) fun h => ?_ | refine Br.not ?_ | refine Len.map ?_ | refine Ask.el 0 (by omega) ?_ | refine Ask.el [] (by omega) ?_ | refine Ask.mk (by omega) ?_ | refine Cells.lit rfl ?_ | fail)
  all_goals (conv => whnf)
  · exact fin_false fun hg => by have := hg.1; omega
  have hn : xss.length ≤ 10 := by omega
  clear h
  refine LoopQ.by [1, 3, 4] (fun i : Nat => [(1, .val (.ptr true (.agg [rows xss]))), (3, .val (vint (xss.length : Nat))), (4, .val (vint i))])
    (fun i => i ≤ xss.length ∧ ∀ x, x < i → rising (xss.getD x []) 0 (xss.length - 1) ∧ (x : Int) ∈ xss.getD x []) (fun i => xss.length - i) 0 rfl ⟨by omega, by intro j hj; omega⟩ ?_
  rintro i ⟨hi, hP⟩
  repeat' ((conv => whnf); first | refine Br.yes ?_ | refine Br.no ?_ | refine Br.prop (fun h => ?_) fun h => ?_ | refine Br.beq (fun h => ?_) fun h => ?_ | refine Br.bne (fun h => ?_) fun h => ?_ | refine Br.not ?_ | refine Len.map ?_ | refine Ask.el 0 (by omega) ?_ | refine Ask.el [] (by omega) ?_ | refine Ask.mk (by omega) ?_ | refine Cells.lit rfl ?_ | refine CallQ.ret (t_l1Rising _ _ _ (h1 _ (getD_mem _ _ (by omega)))) ?_ | refine CallQ.ret (t_l1Has _ _ (h1 _ (getD_mem _ _ (by omega)))) ?_ | fail)
  all_goals (conv => whnf)
  all_goals (try simp only [Int.toNat_natCast] at *)
  · rename_i hr
    refine ⟨i + 1, rfl, ⟨by omega, fun j hj2 => ?_⟩, by show _ - _ < _; omega⟩
    rcases Nat.lt_succ_iff_lt_or_eq.1 hj2 with h3 | rfl
    · exact hP j h3
    · exact ⟨hr, h⟩
  · exact fin_false fun hg => h (hg.2.1 i (by omega)).2
  · exact fin_false fun hg => h (hg.2.1 i (by omega)).1
  have hall : ∀ x, x < xss.length → rising (xss.getD x []) 0 (xss.length - 1) ∧ (x : Int) ∈ xss.getD x [] := fun x hx => hP x (by omega)
  clear h hP hi
  refine LoopQ.by [1, 3, 5] (fun i : Nat => [(1, .val (.ptr true (.agg [rows xss]))), (3, .val (vint (xss.length : Nat))), (5, .val (vint i))])
    (fun x => x ≤ xss.length ∧ ∀ w, w < x → ∀ i, i < (xss.getD w []).length → ¬ ((xss.getD w []).getD i 0 ≠ w ∧ (w : Int) ∈ xss.getD ((xss.getD w []).getD i 0).toNat []) ∧
    ∀ z ∈ xss.getD ((xss.getD w []).getD i 0).toNat [], z ∈ xss.getD w []) (fun i => xss.length - i) 0 rfl ⟨by omega, by intro j hj; omega⟩ ?_
  rintro x ⟨hx, hQ⟩
  repeat' ((conv => whnf); first | refine Br.yes ?_ | refine Br.no ?_ | refine Br.prop (fun h => ?_) fun h => ?_ | refine Br.beq (fun h => ?_) fun h => ?_ | refine Br.bne (fun h => ?_) fun h => ?_ | refine Br.not ?_ | refine Len.map ?_ | refine Ask.el 0 (by omega) ?_ | refine Ask.el [] (by omega) ?_ | refine Ask.mk (by omega) ?_ | fail)
  all_goals (conv => whnf)
  · have hxn : x < xss.length := by omega
    have hrow := h1 _ (getD_mem xss [] hxn)
    have hrow' := hrow
    unfold LIM at hrow'
    have hY : ∀ i, i < (xss.getD x []).length → 0 ≤ (xss.getD x []).getD i 0 ∧ (xss.getD x []).getD i 0 < xss.length := fun i hi => by
      have := ((hall x hxn).1 i hi).1; omega
    clear h
    refine LoopQ.by [1, 3, 5, 6] (fun i : Nat => [(1, .val (.ptr true (.agg [rows xss]))), (3, .val (vint (xss.length : Nat))), (5, .val (vint x)), (6, .val (vint i))])
      (fun i => i ≤ (xss.getD x []).length ∧ ∀ i', i' < i → ¬ ((xss.getD x []).getD i' 0 ≠ x ∧ (x : Int) ∈ xss.getD ((xss.getD x []).getD i' 0).toNat []) ∧
      ∀ z ∈ xss.getD ((xss.getD x []).getD i' 0).toNat [], z ∈ xss.getD x []) (fun i => (xss.getD x []).length - i) 0 rfl ⟨by omega, by intro j hj; omega⟩ ?_
    rintro i ⟨hi, hR⟩
    repeat' ((conv => whnf); first | refine Br.yes ?_ | refine Br.no ?_ | refine Br.prop (fun h => ?_) fun h => ?_ | refine Br.beq (fun h => ?_) fun h => ?_ | refine Br.bne (fun h => ?_) fun h => ?_ | refine Br.not ?_ | refine Len.map ?_ | refine Ask.el 0 (by omega) ?_ | refine Ask.el [] (by omega) ?_ | refine Ask.mk (by omega) ?_ | refine Cells.lit rfl ?_ | refine Ask.el 0 (by simp only [Int.toNat_natCast]; omega) ?_ | refine Ask.el [] (by simp only [Int.toNat_natCast] at *; have := hY i (by omega); omega) ?_ | refine CallP.ret (t_l1Has _ _ (h1 _ (getD_mem _ _ (by simp only [Int.toNat_natCast] at *; have := hY i (by omega); omega)))) ?_ | refine CallP.ret (t_l5Within _ _ (h1 _ (getD_mem _ _ (by simp only [Int.toNat_natCast] at *; have := hY i (by omega); omega))) hrow) ?_ | refine CallQ.ret (t_l5Within _ _ (h1 _ (getD_mem _ _ (by simp only [Int.toNat_natCast] at *; have := hY i (by omega); omega))) hrow) ?_ | fail)
    all_goals (conv => whnf)
    all_goals (try simp only [Int.toNat_natCast] at *)
    · rename_i h3 h2
      exact fin_false fun hg => (hg.2.2 x hxn i (by omega)).1 ⟨h2, h⟩
    · rename_i h4 h3 h2
      refine ⟨i + 1, rfl, ⟨by omega, fun j hj2 => ?_⟩, by show _ - _ < _; omega⟩
      rcases Nat.lt_succ_iff_lt_or_eq.1 hj2 with h5 | rfl
      · exact hR j h5
      · exact ⟨fun hc => h2 hc.2, h⟩
    · exact fin_false fun hg => h (hg.2.2 x hxn i (by omega)).2
    · rename_i h3 h2
      refine ⟨i + 1, rfl, ⟨by omega, fun j hj2 => ?_⟩, by show _ - _ < _; omega⟩
      rcases Nat.lt_succ_iff_lt_or_eq.1 hj2 with h5 | rfl
      · exact hR j h5
      · exact ⟨fun hc => hc.1 h2, h⟩
    · exact fin_false fun hg => h (hg.2.2 x hxn i (by omega)).2
    · refine ⟨x + 1, rfl, ⟨by omega, fun w hw => ?_⟩, by show _ - _ < _; omega⟩
      rcases Nat.lt_succ_iff_lt_or_eq.1 hw with h5 | rfl
      · exact hQ w h5
      · exact fun j hj => hR j (by omega)
  · refine fin_true ⟨hn, hall, fun w hw => hQ w (by omega)⟩

theorem t_specIsPoset (xss : List (List Int)) (h0 : xss.length ≤ LIM) (h1 : ∀ r ∈ xss, r.length ≤ LIM) : Ret Try.prog f_spec_IsPoset [.agg [rows xss]] (.bool (decide (good xss))) := by
  refine ret_vc k_spec_IsPoset (by simp) ?_
  repeat' ((conv => whnf); first | refine Br.yes ?_ | refine Br.no ?_ | refine Br.prop (fun h => ?_) fun h => ?_ | refine Br.beq (fun h => ?_) fun h => ?_ | refine Br.bne (fun h => ?_) fun h => ?_ | refine Br.not ?_ | refine Len.map ?_ | refine Ask.el 0 (by omega) ?_ | refine Ask.el [] (by omega) ?_ | refine Ask.mk (by omega) ?_ | refine Cells.lit rfl ?_ | refine CallQ.ret (t_l23Good _ h0 h1) ?_ | fail)
  conv => whnf
  rfl

theorem rising_iff (xs : List Int) (n : Nat) : rising xs 0 (n - 1) ↔ rises xs ∧ inSize xs n := by
  constructor
  · intro h
    refine ⟨fun i h1 h2 => (h i h2).2 h1, fun x hx => ?_⟩
    obtain ⟨i, h1, rfl⟩ := (mem_iff_at xs x).1 hx
    have := (h i h1).1
    omega
  · rintro ⟨h1, h2⟩ i hi
    have := h2 _ (getD_mem xs 0 hi)
    exact ⟨by omega, fun h => h1 i h hi⟩

theorem mem_rows {xss : List (List Int)} {r : List Int} (h : r ∈ xss) : ∃ x, x < xss.length ∧ xss.getD x [] = r := by
  obtain ⟨k, hk, rfl⟩ := List.mem_iff_getElem.1 h
  exact ⟨k, hk, by simp [List.getD_eq_getElem?_getD, hk]⟩

/-- the program's test and the reference's are one -/
theorem good_iff (xss : List (List Int)) : (posOk xss ∧ isOrd xss.length (below xss)) ↔ good xss := by
  constructor
  · rintro ⟨⟨h1, h2⟩, h3⟩
    have hs : ∀ x, x < xss.length → rises (xss.getD x []) ∧ inSize (xss.getD x []) xss.length := fun x hx => h2 _ (getD_mem xss [] hx)
    refine ⟨h1, fun x hx => ⟨(rising_iff _ _).2 (hs x hx), by simpa [below] using (h3 x hx).1⟩, fun x hx i hi => ?_⟩
    have hm := getD_mem (xss.getD x []) 0 hi
    have hb := (hs x hx).2 _ hm
    obtain ⟨y, hy⟩ := Int.eq_ofNat_of_zero_le hb.1
    rw [hy] at hm ⊢
    have hyn : y < xss.length := by omega
    simp only [Int.toNat_natCast]
    refine ⟨fun hc => ?_, fun z hz => ?_⟩
    · refine ((h3 y hyn).2 x hx).1 ⟨fun e => hc.1 (by rw [e]), by simpa [below] using hm, by simpa [below] using hc.2⟩
    · have hzb := (hs y hyn).2 z hz
      obtain ⟨w, rfl⟩ := Int.eq_ofNat_of_zero_le hzb.1
      have := ((h3 w (by omega)).2 y hyn).2 x hx (by simpa [below] using hz) (by simpa [below] using hm)
      simpa [below] using this
  · rintro ⟨h1, h2, h3⟩
    refine ⟨⟨h1, fun r hr => ?_⟩, fun x hx => ⟨by simpa [below] using (h2 x hx).2, fun y hy => ⟨?_, fun z hz a b => ?_⟩⟩⟩
    · obtain ⟨x, hx, rfl⟩ := mem_rows hr
      exact (rising_iff _ _).1 (h2 x hx).1
    · rintro ⟨a, b, c⟩
      obtain ⟨i, hi, he⟩ := (mem_iff_at _ _).1 (show (x : Int) ∈ xss.getD y [] by simpa [below] using b)
      have := (h3 y hy i hi).1
      rw [he] at this
      exact this ⟨by omega, by simpa [below] using c⟩
    · obtain ⟨i, hi, he⟩ := (mem_iff_at _ _).1 (show (y : Int) ∈ xss.getD z [] by simpa [below] using b)
      have := (h3 z hz i hi).2
      rw [he] at this
      have := this x (by simpa [below] using a)
      simpa [below] using this

theorem fz_oorows (xss : List (List Int)) : (oorows xss).fz = rows xss := by simp [V.fz, fzL_orows]
theorem fz_poset (xss : List (List Int)) : (V.agg [oorows xss]).fz = .agg [rows xss] := by simp [V.fz, fzL, fzL_orows]

set_option maxHeartbeats 4000000 in
theorem t_FnExactIsPoset (xss : List (List Int)) (h0 : xss.length ≤ BIG) (h1 : ∀ r ∈ xss, r.length ≤ BIG) : Ret Try.prog f_laws_FnExactIsPoset [.agg [rows xss]] (.bool true) := by
  refine ret_vc k_laws_FnExactIsPoset (by simp) ?_
  repeat' ((conv => whnf); first | refine Br.yes ?_ | refine Br.no ?_ | refine Br.prop (fun h => ?_) fun h => ?_ | refine Br.beq (fun h => ?_) fun h => ?_ | refine Br.bne (fun h => ?_) fun h => ?_ | refine Br.not ?_ | refine Len.map ?_ | refine Ask.el 0 (by omega) ?_ | refine Ask.el [] (by omega) ?_ | refine Ask.mk (by omega) ?_ | refine Cells.lit rfl ?_ | refine CallQ.ret (t_szPoset _ _ h0 h1 (by omega) (by omega)) ?_ | fail)
  all_goals (conv => whnf)
  · rfl
  have hs : 0 ≤ szSS xss 1048576 := by split at h <;> omega
  have hs1 : xss.length ≤ LIM ∧ 0 ≤ szRows xss (1048576 - xss.length) := by
    unfold szSS at hs; unfold LIM; split at hs <;> omega
  have hl0 := hs1.1
  have hl1 : ∀ r ∈ xss, r.length ≤ LIM := fun r hr => by
    have := szRows_small hs1.2 r hr; unfold LIM; omega
  clear h hs hs1
  repeat' ((conv => whnf); first | refine Br.yes ?_ | refine Br.no ?_ | refine Br.prop (fun h => ?_) fun h => ?_ | refine Br.beq (fun h => ?_) fun h => ?_ | refine Br.bne (fun h => ?_) fun h => ?_ | refine Br.not ?_ | refine Len.map ?_ | refine Ask.el 0 (by omega) ?_ | refine Ask.el [] (by omega) ?_ | refine Ask.mk (by omega) ?_ | refine Cells.lit rfl ?_ | refine SetKids.lit rfl ?_ | refine CallQ.ret (t_toPoset _ hl0 hl1) ?_ | refine CallQ.rdE (by rw [fz_poset]) (t_specIsPoset _ hl0 hl1) rfl ?_ | refine CallQ.rdE (by rw [fz_oorows]) (t_implIsPoset _ hl0 hl1) rfl ?_ | refine CallP.ret (t_toPoset _ hl0 hl1) ?_ | refine CallQ.rdE (by rw [fz_oorows, fz_poset]) (t_eqPoset xss xss hl0 hl1) rfl ?_ | fail)
  all_goals (conv => whnf)
  · rfl
  · exact absurd rfl h
  · exact absurd (by rw [decide_eq_decide]; exact good_iff xss) h

end Go.Proofs.Ytnpdibedhdlclaa.Ax
