/-
  The order of a poset, as the program makes it.
-/
import Derived.Test.YtnpdibedhdlclaaFc
namespace Go.Proofs.Ytnpdibedhdlclaa.Ax
open Go Classical

def posOk (xss : List (List Int)) : Prop := xss.length ≤ 10 ∧ ∀ r ∈ xss, rises r ∧ inSize r xss.length
noncomputable def below (xss : List (List Int)) (y x : Nat) : Bool := decide ((y : Int) ∈ xss.getD x [])
noncomputable def below1 (xss : List (List Int)) (i : Nat) (y x : Nat) : Bool := decide (x < i ∧ (y : Int) ∈ xss.getD x [])
noncomputable def below2 (xss : List (List Int)) (i j : Nat) (y x : Nat) : Bool := decide ((x < i ∧ (y : Int) ∈ xss.getD x []) ∨ (x = i ∧ (y : Int) ∈ (xss.getD i []).take j))

theorem below2_0 (xss : List (List Int)) (i : Nat) : below2 xss i 0 = below1 xss i := by
  funext y x; simp [below2, below1]
theorem below2_end (xss : List (List Int)) (i j : Nat) (h : (xss.getD i []).length ≤ j) : below2 xss i j = below1 xss (i + 1) := by
  funext y x
  simp only [below2, below1, List.take_of_length_le h, decide_eq_decide]
  constructor
  · rintro (⟨h1, h2⟩ | ⟨rfl, h2⟩)
    · exact ⟨by omega, h2⟩
    · exact ⟨by omega, h2⟩
  · rintro ⟨h1, h2⟩
    rcases Nat.lt_succ_iff_lt_or_eq.1 h1 with h | rfl
    · exact .inl ⟨h, h2⟩
    · exact .inr ⟨rfl, h2⟩
theorem below2_succ (xss : List (List Int)) (i j c : Nat) (h : j < (xss.getD i []).length) (hc : (xss.getD i []).getD j 0 = (c : Int)) :
    (fun a b => if a = c ∧ b = i then true else below2 xss i j a b) = below2 xss i (j + 1) := by
  funext a b
  simp only [below2]
  rw [← take_put _ 0 h, hc]
  by_cases hab : a = c ∧ b = i
  · obtain ⟨rfl, rfl⟩ := hab
    simp
  · rw [if_neg hab, decide_eq_decide]
    simp only [List.mem_append, List.mem_singleton]
    constructor
    · rintro (h1 | ⟨h1, h2⟩)
      · exact .inl h1
      · exact .inr ⟨h1, .inl h2⟩
    · rintro (h1 | ⟨h1, h2 | h2⟩)
      · exact .inl h1
      · exact .inr ⟨h1, h2⟩
      · exact absurd ⟨by omega, h1⟩ hab
theorem below1_end (xss : List (List Int)) (n : Nat) (h : n = xss.length) : tab n (below1 xss n) = tab n (below xss) := by
  unfold tab
  refine List.map_congr_left fun y _ => List.map_congr_left fun x hx => ?_
  have := List.mem_range.1 hx
  simp [below1, below, this]

set_option maxHeartbeats 4000000 in
theorem t_orderOf (xss : List (List Int)) (h0 : xss.length ≤ LIM) (h1 : ∀ r ∈ xss, r.length ≤ LIM) :
    Ret Try.prog f_impl_orderOf [.agg [rows xss]] (if posOk xss then .tup [otab (tab xss.length (below xss)), .bool (decide (isOrd xss.length (below xss)))] else .tup [.nilsl 1, .bool false]) := by
  refine ret_vc k_impl_orderOf (by simp) ?_
  have h0' := h0
  unfold LIM at h0'
  repeat' ((conv => whnf); first | refine Br.yes ?_ | refine Br.no ?_ | refine Br.prop (fun h => ?_) fun h => ?_ | refine Br.beq (fun h => ?_) fun h => ?_ | refine Br.bne (fun h => ?_) fun h => ?_ | refine Br.not ?_ | refine Len.map ?_ | refine Ask.el 0 (by omega) ?_ | refine Ask.el [] (by omega) ?_ | refine Ask.mk (by omega) ?_ | refine Cells.lit rfl ?_ | refine CallQ.ret (t_newOrder _ h0) ?_ | fail)
  all_goals (conv => whnf)
  · rw [if_neg (by rintro ⟨h2, _⟩; omega)]; rfl
  have hn : xss.length ≤ 10 := by omega
  refine LoopQ.by [4, 5, 18, 19, 20] (fun x : Nat × (Nat → Nat → Bool) => [(4, .val (vint (xss.length : Nat))), (5, .val (otab (tab xss.length x.2))), (18, .val (rows xss)), (19, .val (vint (xss.length : Nat))), (20, .val (vint x.1))])
    (fun x => x.1 ≤ xss.length ∧ x.2 = below1 xss x.1 ∧ ∀ i, i < x.1 → rises (xss.getD i []) ∧ inSize (xss.getD i []) xss.length) (fun x => xss.length - x.1) (0, _) rfl
    ⟨by omega, by funext y x; simp [below1], by intro i hi; exact absurd hi (Nat.not_lt_zero _)⟩ ?_
  rintro ⟨i, f⟩ ⟨hi, hf, hP⟩
  dsimp only at hi hf hP
  subst hf
  repeat' ((conv => whnf); first | refine Br.yes ?_ | refine Br.no ?_ | refine Br.prop (fun h => ?_) fun h => ?_ | refine Br.beq (fun h => ?_) fun h => ?_ | refine Br.bne (fun h => ?_) fun h => ?_ | refine Br.not ?_ | refine Len.map ?_ | refine Ask.el 0 (by omega) ?_ | refine Ask.el [] (by omega) ?_ | refine Ask.mk (by omega) ?_ | refine CallQ.ret (t_rises _ (h1 _ (getD_mem _ _ (by omega)))) ?_ | refine CallQ.ret (t_inSize _ _ (h1 _ (getD_mem _ _ (by omega)))) ?_ | fail)
  all_goals (conv => whnf)
  all_goals (try simp only [Int.toNat_natCast] at *)
  · -- the list of one element
    rename_i hlt hri
    have hsz := h
    clear h
    have hin : i < xss.length := by omega
    have hll := h1 _ (getD_mem xss [] hin)
    unfold LIM at hll
    refine LoopQ.by [4, 5, 6, 34, 35, 36, 18, 19, 20] (fun x : Nat × (Nat → Nat → Bool) => [(4, .val (vint (xss.length : Nat))), (5, .val (otab (tab xss.length x.2))), (6, .val (vint i)), (34, .val (ints (xss.getD i []))),
        (35, .val (vint ((xss.getD i []).length : Nat))), (36, .val (vint x.1)), (18, .val (rows xss)), (19, .val (vint (xss.length : Nat))), (20, .val (vint i))])
      (fun x => x.1 ≤ (xss.getD i []).length ∧ x.2 = below2 xss i x.1) (fun x => (xss.getD i []).length - x.1) (0, _) rfl ⟨by omega, (below2_0 xss i).symm⟩ ?_
    rintro ⟨j, f⟩ ⟨hj, hf⟩
    dsimp only at hj hf
    subst hf
    repeat' ((conv => whnf); first | refine Br.yes ?_ | refine Br.no ?_ | refine Br.prop (fun h => ?_) fun h => ?_ | refine Br.beq (fun h => ?_) fun h => ?_ | refine Br.bne (fun h => ?_) fun h => ?_ | refine Br.not ?_ | refine Len.map ?_ | refine Ask.el 0 (by omega) ?_ | refine Ask.el [] (by omega) ?_ | refine Ask.mk (by omega) ?_ | fail)
    all_goals (conv => whnf)
    · have hjl : j < (xss.getD i []).length := by omega
      have hb := hsz _ (getD_mem (xss.getD i []) 0 hjl)
      obtain ⟨c, hc⟩ := Int.eq_ofNat_of_zero_le hb.1
      have hcn : c < xss.length := by omega
      have ec : ((xss.getD i []).getD j 0).toNat * 1 = c := by rw [hc]; omega
      have hA : ((xss.getD i []).getD j 0).toNat * 1 < (tab xss.length (below2 xss i j)).length := by rw [tab_len, ec]; exact hcn
      have hB : ((tab xss.length (below2 xss i j)).getD (((xss.getD i []).getD j 0).toNat * 1) []).length = xss.length := by rw [ec]; exact tab_row_len _ _ _ hcn
      refine Ask.mk ⟨hb.1, by show (xss.getD i []).getD j 0 < ((List.map obools _).length : Int); rw [List.length_map, tab_len]; exact hb.2⟩ ?_
      conv => whnf
      refine Cells.el one_obools [] hA ?_
      conv => whnf
      refine Part.el one_obools [] hA ?_
      conv => whnf
      refine Ask.mk ⟨by show (0 : Int) ≤ (i : Int); omega, by
        show (i : Int) < ((List.map V.bool ((tab xss.length (below2 xss i j)).getD (((xss.getD i []).getD j 0).toNat * 1) [])).length : Nat)
        rw [List.length_map, hB]; omega⟩ ?_
      conv => whnf
      refine Part.el one_obools [] hA ?_
      conv => whnf
      refine SetKids.el one_bool true (by refine Nat.lt_of_lt_of_eq ?_ hB.symm; show (i : Int).toNat * 1 < _; omega) ?_
      conv => whnf
      refine Change.elE one_obools _ hA (ys := tab xss.length (below2 xss i (j + 1))) ?_ ?_
      · show (tab _ (below2 xss i j)).set (((xss.getD i []).getD j 0).toNat * 1) (((tab _ (below2 xss i j)).getD (((xss.getD i []).getD j 0).toNat * 1) []).set ((i : Int).toNat * 1) true) = _
        rw [ec]
        simp only [Int.toNat_natCast, Nat.mul_one]
        rw [tab_set _ _ _ _ _ hcn hin, below2_succ xss i j c hjl hc]
      repeat' ((conv => whnf); first | refine Br.yes ?_ | refine Br.no ?_ | refine Br.prop (fun h => ?_) fun h => ?_ | refine Br.beq (fun h => ?_) fun h => ?_ | refine Br.bne (fun h => ?_) fun h => ?_ | refine Br.not ?_ | refine Len.map ?_ | refine Ask.el 0 (by omega) ?_ | refine Ask.el [] (by omega) ?_ | refine Ask.mk (by omega) ?_ | fail)
      conv => whnf
      exact ⟨(j + 1, _), rfl, ⟨by show j + 1 ≤ _; omega, rfl⟩, by show _ - (j + 1) < _ - j; omega⟩
    · have : j = (xss.getD i []).length := by omega
      refine ⟨(i + 1, _), rfl, ⟨by show i + 1 ≤ _; omega, below2_end xss i j (by omega), fun k hk => ?_⟩, by show _ - (i + 1) < _ - i; omega⟩
      rcases Nat.lt_succ_iff_lt_or_eq.1 hk with h5 | rfl
      · exact hP k h5
      · exact ⟨hri, hsz⟩
  · rw [if_neg (fun hp => h (hp.2 _ (getD_mem xss [] (by omega))).2)]; rfl
  · rw [if_neg (fun hp => h (hp.2 _ (getD_mem xss [] (by omega))).1)]; rfl
  · have hi' : i = xss.length := by omega
    subst hi'
    rw [below1_end xss _ rfl]
    refine CallQ.rdE (by rw [fz_otab]) (t_isOrder _ _ h0) rfl ?_
    conv => whnf
    rw [if_pos]
    · rfl
    · refine ⟨hn, fun r hr => ?_⟩
      obtain ⟨k, hk, rfl⟩ := List.mem_iff_getElem.1 hr
      have := hP k hk
      simpa [List.getD_eq_getElem?_getD, hk] using this

end Go.Proofs.Ytnpdibedhdlclaa.Ax
