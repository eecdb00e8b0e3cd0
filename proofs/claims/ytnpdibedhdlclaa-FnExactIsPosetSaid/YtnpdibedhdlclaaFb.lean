/-
  Functions on rows of numbers.
-/
import Derived.Test.YtnpdibedhdlclaaFa
namespace Go.Proofs.Ytnpdibedhdlclaa.Ax
open Go Classical

def szL (n : Int) (xs : List Int) : Int := if n - xs.length < 0 then -1 else n - xs.length
def szRows : List (List Int) → Int → Int
  | [], n => n
  | x :: r, n => if szL n x < 0 then -1 else szRows r (szL n x)
def szSS (xss : List (List Int)) (n : Int) : Int := if n - xss.length < 0 then -1 else szRows xss (n - xss.length)

theorem szL_le (n : Int) (xs : List Int) (h : 0 ≤ n) : -1 ≤ szL n xs ∧ szL n xs ≤ n := by
  unfold szL; split <;> omega

theorem szRows_small : ∀ {xss : List (List Int)} {n : Int}, 0 ≤ szRows xss n → ∀ r ∈ xss, (r.length : Int) ≤ n := by
  intro xss
  induction xss with
  | nil => intro n _ r hr; cases hr
  | cons x t ih =>
    intro n h r hr
    simp only [szRows] at h
    split at h
    · omega
    rename_i hx
    have hx' : (x.length : Int) ≤ n ∧ szL n x ≤ n := by unfold szL at hx ⊢; split at hx <;> split <;> omega
    cases hr with
    | head => exact hx'.1
    | tail _ hr => have := ih h r hr; omega

theorem drop_at {α : Type} (xs : List α) (d : α) {i : Nat} (hi : i < xs.length) : xs.drop i = xs.getD i d :: xs.drop (i + 1) := by
  rw [List.drop_eq_getElem_cons hi]
  simp [List.getD_eq_getElem?_getD, hi]

theorem getD_mem {α : Type} (xs : List α) (d : α) {i : Nat} (hi : i < xs.length) : xs.getD i d ∈ xs := by
  simp [List.getD_eq_getElem?_getD, hi]

theorem t_szIntSS (xss : List (List Int)) (n : Int) (h0 : xss.length ≤ BIG) (h1 : ∀ r ∈ xss, r.length ≤ BIG) (h2 : 0 ≤ n) (h3 : n ≤ 1048576) : Ret Try.prog f_laws_szIntSS [rows xss, vint n] (vint (szSS xss n)) := by
  refine ret_vc k_laws_szIntSS (by simp) ?_
  have h0' := h0
  unfold BIG at h0'
  repeat' ((conv => whnf); first | refine Br.yes ?_ | refine Br.no ?_ | refine Br.prop (fun h => ?_) fun h => ?_ | refine Br.beq (fun h => ?_) fun h => ?_ | refine Br.bne (fun h => ?_) fun h => ?_ | refine Br.not ?_ | refine Len.map ?_ | refine Ask.el 0 (by omega) ?_ | refine Ask.el [] (by omega) ?_ | refine Ask.mk (by omega) ?_ | fail)
  all_goals (conv => whnf)
  · unfold szSS; rw [if_pos (by omega)]; rfl
  refine LoopQ.by [0, 1, 5] (fun x : Nat × Int => [(0, .val (rows xss)), (1, .val (vint x.2)), (5, .val (vint x.1))])
    (fun x => x.1 ≤ xss.length ∧ 0 ≤ x.2 ∧ x.2 ≤ 1048576 ∧ szRows (xss.drop x.1) x.2 = szSS xss n) (fun x => xss.length - x.1) (0, _) rfl
    ⟨by omega, by show 0 ≤ n - _; omega, by show n - _ ≤ _; omega, by unfold szSS; rw [if_neg (by omega)]; rfl⟩ ?_
  rintro ⟨i, m⟩ ⟨hi, hm0, hm1, hm⟩
  dsimp only at hi hm0 hm1 hm
  repeat' ((conv => whnf); first | refine Br.yes ?_ | refine Br.no ?_ | refine Br.prop (fun h => ?_) fun h => ?_ | refine Br.beq (fun h => ?_) fun h => ?_ | refine Br.bne (fun h => ?_) fun h => ?_ | refine Br.not ?_ | refine Len.map ?_ | refine Ask.el 0 (by omega) ?_ | refine Ask.el [] (by omega) ?_ | refine Ask.mk (by omega) ?_ | refine CallQ.ret (t_szIntS _ _ (h1 _ (getD_mem _ _ (by omega))) (by omega) (by omega)) ?_ | fail)
  all_goals (conv => whnf)
  all_goals (try simp only [Int.toNat_natCast] at *)
  · rename_i h
    have hlt : i < xss.length := by omega
    rw [drop_at xss [] hlt] at hm
    simp only [szRows] at hm
    rw [if_pos (show szL m (xss.getD i []) < 0 from h)] at hm
    rw [← hm]; rfl
  · rename_i h
    have hlt : i < xss.length := by omega
    rw [drop_at xss [] hlt] at hm
    simp only [szRows] at hm
    rw [if_neg (show ¬ szL m (xss.getD i []) < 0 from h)] at hm
    have hz := szL_le m (xss.getD i []) hm0
    exact ⟨(i + 1, szL m (xss.getD i [])), rfl, ⟨by omega, by have : ¬ szL m (xss.getD i []) < 0 := h; show 0 ≤ szL _ _; omega, by show szL _ _ ≤ _; omega, hm⟩, by show _ - (i + 1) < _ - i; omega⟩
  · have : i = xss.length := by omega
    subst this
    simp only [List.drop_length, szRows] at hm
    rw [← hm]; rfl

theorem t_szPoset (xss : List (List Int)) (n : Int) (h0 : xss.length ≤ BIG) (h1 : ∀ r ∈ xss, r.length ≤ BIG) (h2 : 0 ≤ n) (h3 : n ≤ 1048576) :
    Ret Try.prog f_laws_szPoset [.agg [rows xss], vint n] (vint (if szSS xss n < 0 then -1 else szSS xss n)) := by
  refine ret_vc k_laws_szPoset (by simp) ?_
  repeat' ((conv => whnf); first | refine Br.yes ?_ | refine Br.no ?_ | refine Br.prop (fun h => ?_) fun h => ?_ | refine Br.beq (fun h => ?_) fun h => ?_ | refine Br.bne (fun h => ?_) fun h => ?_ | refine Br.not ?_ | refine Len.map ?_ | refine Ask.el 0 (by omega) ?_ | refine Ask.el [] (by omega) ?_ | refine Ask.mk (by omega) ?_ | refine Cells.lit rfl ?_ | refine CallQ.ret (t_szIntSS _ _ h0 h1 h2 h3) ?_ | fail)
  all_goals (conv => whnf)
  · rw [if_pos h]; rfl
  · rw [if_neg h]; rfl

theorem t_toIntSS (xss : List (List Int)) (h0 : xss.length ≤ LIM) (h1 : ∀ r ∈ xss, r.length ≤ LIM) : Ret Try.prog f_laws_toIntSS [rows xss] (oorows xss) := by
  refine ret_vc k_laws_toIntSS (by simp) ?_
  unfold LIM at h0
  repeat' ((conv => whnf); first | refine Br.yes ?_ | refine Br.no ?_ | refine Br.prop (fun h => ?_) fun h => ?_ | refine Br.beq (fun h => ?_) fun h => ?_ | refine Br.bne (fun h => ?_) fun h => ?_ | refine Br.not ?_ | refine Len.map ?_ | refine Ask.el 0 (by omega) ?_ | refine Ask.el [] (by omega) ?_ | refine Ask.mk (by omega) ?_ | refine Ask.mk (by unfold LIM; omega) ?_ | fail)
  conv => whnf
  refine LoopQ.by [0, 3, 4] (fun x : Nat × List V => [(0, .val (rows xss)), (3, .val (.sl true 1 x.2)), (4, .val (vint x.1))])
    (fun x => x.1 ≤ xss.length ∧ x.2 = ((xss.take x.1).map some ++ List.replicate (xss.length - x.1) none).map orow) (fun x => xss.length - x.1) (0, _) rfl ⟨by omega, by simp⟩ ?_
  rintro ⟨i, us⟩ ⟨hi, hu⟩
  dsimp only at hi hu
  subst hu
  have hl : ((xss.take i).map some ++ List.replicate (xss.length - i) (none : Option (List Int))).length = xss.length := by simp; omega
  repeat' ((conv => whnf); first | refine Br.yes ?_ | refine Br.no ?_ | refine Br.prop (fun h => ?_) fun h => ?_ | refine Br.beq (fun h => ?_) fun h => ?_ | refine Br.bne (fun h => ?_) fun h => ?_ | refine Br.not ?_ | refine Len.map ?_ | refine Ask.el 0 (by omega) ?_ | refine Ask.el [] (by omega) ?_ | refine Ask.mk (by omega) ?_ | refine CallQ.ret (t_toIntS _ (h1 _ (getD_mem _ _ (by omega)))) ?_ | refine SetKids.el one_orow (some _) (by rw [hl]; omega) ?_ | refine Ask.mk (by rw [List.length_map, hl]; omega) ?_ | fail)
  all_goals (conv => whnf)
  · refine ⟨(i + 1, _), rfl, ⟨by show i + 1 ≤ _; omega, ?_⟩, by show _ - (i + 1) < _ - i; omega⟩
    show List.map orow _ = List.map orow _
    congr 1
    simp only [Int.toNat_natCast, Nat.mul_one]
    rw [set_put _ _ _ (by omega) (by simp; omega), ← take_put xss [] (by omega)]
    simp
  · have : i = xss.length := by omega
    subst this
    simp
    rfl

theorem t_toPoset (xss : List (List Int)) (h0 : xss.length ≤ LIM) (h1 : ∀ r ∈ xss, r.length ≤ LIM) : Ret Try.prog f_laws_toPoset [.agg [rows xss]] (.agg [oorows xss]) := by
  refine ret_vc k_laws_toPoset (by simp) ?_
  repeat' ((conv => whnf); first | refine Br.yes ?_ | refine Br.no ?_ | refine Br.prop (fun h => ?_) fun h => ?_ | refine Br.beq (fun h => ?_) fun h => ?_ | refine Br.bne (fun h => ?_) fun h => ?_ | refine Br.not ?_ | refine Len.map ?_ | refine Ask.el 0 (by omega) ?_ | refine Ask.el [] (by omega) ?_ | refine Ask.mk (by omega) ?_ | refine Cells.lit rfl ?_ | refine CallQ.ret (t_toIntSS _ h0 h1) ?_ | refine SetKids.lit rfl ?_ | fail)
  all_goals (conv => whnf)
  all_goals rfl

theorem t_eqIntSS (xss yss : List (List Int)) (h0 : xss.length ≤ LIM) (h1 : ∀ r ∈ xss, r.length ≤ LIM) : Ret Try.prog f_laws_eqIntSS [rows xss, rows yss] (.bool (decide (xss = yss))) := by
  refine ret_vc k_laws_eqIntSS (by simp) ?_
  unfold LIM at h0
  repeat' ((conv => whnf); first | refine Br.yes ?_ | refine Br.no ?_ | refine Br.prop (fun h => ?_) fun h => ?_ | refine Br.beq (fun h => ?_) fun h => ?_ | refine Br.bne (fun h => ?_) fun h => ?_ | refine Br.not ?_ | refine Len.map ?_ | refine Ask.el 0 (by omega) ?_ | refine Ask.el [] (by omega) ?_ | refine Ask.mk (by omega) ?_ | fail)
  all_goals (conv => whnf)
  · refine fin_false ?_
    rintro rfl; exact h rfl
  have hl : xss.length = yss.length := by omega
  refine LoopQ.by [0, 1, 5] (fun i : Nat => [(0, .val (rows xss)), (1, .val (rows yss)), (5, .val (vint i))])
    (fun i => i ≤ xss.length ∧ ∀ j, j < i → xss.getD j [] = yss.getD j []) (fun i => xss.length - i) 0 rfl ⟨by omega, by intro j hj; omega⟩ ?_
  rintro i ⟨hi, hj⟩
  repeat' ((conv => whnf); first | refine Br.yes ?_ | refine Br.no ?_ | refine Br.prop (fun h => ?_) fun h => ?_ | refine Br.beq (fun h => ?_) fun h => ?_ | refine Br.bne (fun h => ?_) fun h => ?_ | refine Br.not ?_ | refine Len.map ?_ | refine Ask.el 0 (by omega) ?_ | refine Ask.el [] (by omega) ?_ | refine Ask.mk (by omega) ?_ | refine CallQ.ret (t_eqIntS _ _ (h1 _ (getD_mem _ _ (by omega)))) ?_ | fail)
  all_goals (conv => whnf)
  all_goals (try simp only [Int.toNat_natCast] at *)
  · refine ⟨i + 1, rfl, ⟨by omega, fun j hj2 => ?_⟩, by show _ - _ < _; omega⟩
    rcases Nat.lt_succ_iff_lt_or_eq.1 hj2 with h3 | rfl
    · exact hj j h3
    · assumption
  · refine fin_false ?_
    rintro rfl
    rename_i h
    exact h rfl
  · refine fin_true ?_
    refine List.ext_getElem hl fun k hk1 hk2 => ?_
    have := hj k (by omega)
    simpa [List.getD_eq_getElem?_getD, hk1, hk2] using this

theorem t_eqPoset (xss yss : List (List Int)) (h0 : xss.length ≤ LIM) (h1 : ∀ r ∈ xss, r.length ≤ LIM) : Ret Try.prog f_laws_eqPoset [.agg [rows xss], .agg [rows yss]] (.bool (decide (xss = yss))) := by
  refine ret_vc k_laws_eqPoset (by simp) ?_
  repeat' ((conv => whnf); first | refine Br.yes ?_ | refine Br.no ?_ | refine Br.prop (fun h => ?_) fun h => ?_ | refine Br.beq (fun h => ?_) fun h => ?_ | refine Br.bne (fun h => ?_) fun h => ?_ | refine Br.not ?_ | refine Len.map ?_ | refine Ask.el 0 (by omega) ?_ | refine Ask.el [] (by omega) ?_ | refine Ask.mk (by omega) ?_ | refine Cells.lit rfl ?_ | refine CallQ.ret (t_eqIntSS _ _ h0 h1) ?_ | fail)
  all_goals (conv => whnf)
  · exact fin_true h
  · exact fin_false h

end Go.Proofs.Ytnpdibedhdlclaa.Ax
