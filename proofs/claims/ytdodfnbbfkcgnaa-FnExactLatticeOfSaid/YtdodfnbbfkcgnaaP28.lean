/-
  LatticeOf: what the program and the reference compute.
-/
import Derived.Test.YtdodfnbbfkcgnaaP25
import Derived.Test.YtdodfnbbfkcgnaaP26
import Derived.Test.YtdodfnbbfkcgnaaP27
namespace Go.Proofs.Ytdodfnbbfkcgnaa.Ax
open Go Classical

theorem F_sameAlgebra {a b : SAlgebra} (h : smallA a) : F_impl_sameAlgebra a b = some (decide (a = b)) := by
  unfold F_impl_sameAlgebra
  have h0 := h.1
  by_cases hs : a.Size = b.Size
  · rw [if_neg (by simpa using hs)]
    by_cases hl : a.Ops.length = b.Ops.length
    · rw [if_neg (by omega)]
      simp only [Option.bind_some]
      have this := loop_find (body := F_impl_sameAlgebra_l1 a b) (fun i => (i : Int)) a.Ops.length (fun i => ¬ nth a.Ops i = nth b.Ops i) () () (fun i hi hb => by
        have hb := Classical.not_not.1 hb
        have ht := h.2 _ (nth_mem hi)
        unfold F_impl_sameAlgebra_l1
        rw [if_pos (by omega), ask_pos (by omega), ask_pos (by omega)]
        simp only [Int.toNat_natCast]
        rw [if_neg (by rw [hb]; simp), ask_pos (by omega), F_sameList (by rw [lim_def]; omega)]
        simp only [Option.bind_some]
        rw [decide_eq_true (by rw [hb]), if_pos rfl, ask_pos (by unfold InI; omega)]; rfl) (fun i hi hb => by
        have ht := h.2 _ (nth_mem hi)
        unfold F_impl_sameAlgebra_l1
        rw [if_pos (by omega), ask_pos (by omega), ask_pos (by omega)]
        simp only [Int.toNat_natCast]
        by_cases ha : (nth a.Ops i).Arity = (nth b.Ops i).Arity
        · rw [if_neg (by simpa using ha), ask_pos (by omega), F_sameList (by rw [lim_def]; omega)]
          simp only [Option.bind_some]
          have hne : ¬ (nth a.Ops i).Table = (nth b.Ops i).Table := fun ht => hb (by
            cases h1 : nth a.Ops i; cases h2 : nth b.Ops i
            rw [h1, h2] at ha ht
            simp_all)
          rw [decide_eq_false hne, if_neg (by simp)]
        · rw [if_pos ha]) (by
        unfold F_impl_sameAlgebra_l1
        rw [if_neg (by omega)]) 0 (by omega)
      refine (find_bool this false true).trans (congrArg some (dec_not ?_))
      rw [find_all]
      constructor
      · intro hh
        have := nth_ext hl hh
        cases a; cases b; simp_all
      · intro hh i _; rw [hh]
    · rw [if_pos (by omega), decide_eq_false (fun hh => hl (by rw [hh]))]; rfl
  · rw [if_pos hs, decide_eq_false (fun hh => hs (by rw [hh]))]; rfl

/-- what the first operation says of the order -/
noncomputable def meetF (n : Nat) (T : List Int) (x y : Nat) : Bool := decide (nth T (x * n + y) = (x : Int))
theorem F_orderOfMeet {n : Nat} (hn : n ≤ 8) {T : List Int} (hT : T.length = n * n) : F_impl_orderOfMeet n T = some (tab n (meetF n T)) := by
  unfold F_impl_orderOfMeet
  rw [F_newOrder _ (by rw [lim_def]; omega)]
  simp only [Option.bind_some]
  have key := fill_tab (N := n) (meetF n T) (inner := fun x t => F_impl_orderOfMeet_l1 n T (tab n fun _ _ => false) (x : Int) t) (outer := F_impl_orderOfMeet_l2 n T (tab n fun _ _ => false)) (fun x y H0 H hx hy => by
    unfold F_impl_orderOfMeet_l1
    dsimp only
    have t5 := tab_len n H0
    have t6 := tab_len n H
    have t7 := tab_row_len n H x hx
    have h1 := Nat.mul_le_mul_right n (show x + 1 ≤ n by omega)
    rw [Nat.succ_mul] at h1
    have h2 : n * n ≤ 8 * 8 := Nat.mul_le_mul hn hn
    simp only [t5, t6, ← Int.natCast_mul, Int.toNat_natCast, t7]
    rw [if_pos (by omega), ask_pos (by omega), ask_pos (by unfold InI; omega), ask_pos (by unfold InI; omega), ask_pos (by omega), ask_pos (by omega), ask_pos (by unfold InI; omega), tab_set _ _ _ _ _ hx hy]
    have e : (nth T (((x * n : Nat) : Int) + (y : Int)).toNat == (x : Int)) = meetF n T x y := by
      rw [show (((x * n : Nat) : Int) + (y : Int)).toNat = x * n + y by omega]
      unfold meetF
      rw [Bool.eq_iff_iff, beq_iff_eq, decide_eq_true_eq]
    rw [e]
    rfl) (fun x H0 H hx => by
    unfold F_impl_orderOfMeet_l1
    dsimp only
    rw [tab_len, if_neg (by omega)]) (fun x H t hx e => by
    unfold F_impl_orderOfMeet_l2
    dsimp only
    rw [tab_len, if_pos (by omega), e]
    simp only [Option.bind_some]
    rw [ask_pos (by unfold InI; omega)]; rfl) (fun H => by
    unfold F_impl_orderOfMeet_l2
    dsimp only
    rw [tab_len, if_neg (by omega)])
  rw [key]; rfl

theorem F_value2 {a : SAlgebra} {n : Nat} (hn : n ≤ 8) (ha : a.Size = n) {f : SOp} (h0 : 0 < a.Ops.length) (hf : nth a.Ops 0 = f) (hT : f.Table.length = n * n) {x y : Nat} (hx : x < n) (hy : y < n) : F_spec_l2Value a 0 [(x : Int), (y : Int)] = some (nth f.Table (x * n + y)) := by
  unfold F_spec_l2Value
  have h1 := Nat.mul_le_mul_right n (show x + 1 ≤ n by omega)
  rw [Nat.succ_mul] at h1
  have h2 : n * n ≤ 8 * 8 := Nat.mul_le_mul hn hn
  have hl : (([(x : Int), (y : Int)].length : Nat) : Int) = 2 := rfl
  have s0 : F_spec_l2Value_l1 a 0 [(x : Int), (y : Int)] (0, 0) = some (.inl (1, (x : Int))) := by
    unfold F_spec_l2Value_l1
    dsimp only
    rw [hl, if_pos (by omega), ask_pos (by rw [Int.zero_mul]; unfold InI; omega), ask_pos (by omega)]
    have e : nth [(x : Int), (y : Int)] (Int.toNat 0) = (x : Int) := rfl
    rw [e, Int.zero_mul, Int.zero_add, ask_pos (by unfold InI; omega), ask_pos (by unfold InI; omega)]
    rfl
  have s1 : F_spec_l2Value_l1 a 0 [(x : Int), (y : Int)] (1, (x : Int)) = some (.inl (2, ((x * n + y : Nat) : Int))) := by
    unfold F_spec_l2Value_l1
    dsimp only
    rw [hl, ha, ← Int.natCast_mul, if_pos (by omega), ask_pos (by unfold InI; omega), ask_pos (by omega)]
    have e : nth [(x : Int), (y : Int)] (Int.toNat 1) = (y : Int) := rfl
    rw [e, ask_pos (by unfold InI; omega), ask_pos (by unfold InI; omega)]
    rfl
  have s2 : F_spec_l2Value_l1 a 0 [(x : Int), (y : Int)] (2, ((x * n + y : Nat) : Int)) = some (.inr ((x * n + y : Nat) : Int)) := by
    unfold F_spec_l2Value_l1
    dsimp only
    rw [hl, if_neg (by omega)]
  rw [loopO_next s0, loopO_next s1, loopO_stop s2]
  simp only [Option.bind_some]
  have e0 : nth a.Ops (Int.toNat 0) = f := hf
  rw [ask_pos (by omega), e0, ask_pos (by omega), Int.toNat_natCast]

theorem F_specPos {a : SAlgebra} {n : Nat} (hn : n ≤ 8) (ha : a.Size = n) {f : SOp} (h0 : 0 < a.Ops.length) (hf : nth a.Ops 0 = f) (hT : f.Table.length = n * n) : loopO (F_spec_LatticeOf_l2 a) (0, { Below := nilL (List Int) }) = some (posOf n (meetF n f.Table)) := by
  have inner : ∀ y, y < n → ∀ s, loopO (F_spec_LatticeOf_l1 a (y : Int) s) (0, nilL Int) = some (sieve n fun x => meetF n f.Table x y) := by
    intro y hy s
    refine loop_sieve (body := F_spec_LatticeOf_l1 a (y : Int) s) n (fun x => meetF n f.Table x y) (fun x acc hx hacc => ?_) (fun acc => ?_)
    · unfold F_spec_LatticeOf_l1
      dsimp only
      rw [ha, if_pos (by omega), F_value2 hn ha h0 hf hT hx hy]
      simp only [Option.bind_some]
      by_cases hm : nth f.Table (x * n + y) = (x : Int)
      · have : meetF n f.Table x y = true := decide_eq_true hm
        rw [if_pos hm, this, if_pos rfl, ask_pos (by rw [lim_def]; simp; omega), ask_pos (by unfold InI; omega)]; rfl
      · have : meetF n f.Table x y = false := decide_eq_false hm
        rw [if_neg hm, this, if_neg (by simp), ask_pos (by unfold InI; omega)]; rfl
    · unfold F_spec_LatticeOf_l1
      dsimp only
      rw [ha, if_neg (by omega)]
  exact loop_seq (body := F_spec_LatticeOf_l2 a) (fun y => ((y : Int), (⟨rowsOf n (meetF n f.Table) y⟩ : SPoset))) n _ (fun y hy => by
    unfold F_spec_LatticeOf_l2
    dsimp only
    have hl := rowsOf_len n (meetF n f.Table) y
    rw [ha, if_pos (by omega), inner y hy]
    simp only [Option.bind_some]
    rw [ask_pos (by rw [lim_def]; simp; omega), ask_pos (by unfold InI; omega), rowsOf_succ]
    rfl) (by
    unfold F_spec_LatticeOf_l2
    dsimp only
    rw [ha, if_neg (by omega)]
    rfl)

theorem alg_eq {A a : SAlgebra} {f g : SOp} {T0 T1 : List Int} {i0 i1 : Nat} (hi0 : i0 = 0) (hi1 : i1 = 1) (hA : A.Ops = [⟨2, T0⟩, ⟨2, T1⟩] ∧ A.Size = a.Size) (hO : a.Ops = [f, g]) (hf : f.Arity = 2) (hg : g.Arity = 2) : A = a ↔ f.Table = (nth A.Ops i0).Table ∧ g.Table = (nth A.Ops i1).Table := by
  obtain ⟨hA, hs⟩ := hA
  obtain ⟨As, Ao⟩ := A
  obtain ⟨s, o⟩ := a
  obtain ⟨fa, ft⟩ := f
  obtain ⟨ga, gt⟩ := g
  dsimp only at hA hs hO hf hg ⊢
  subst hA hs hO hf hg hi0 hi1
  constructor
  · intro hh
    injection hh with _ h2
    injection h2 with h3 h4
    injection h4 with h5 _
    injection h3 with _ h3
    injection h5 with _ h5
    exact ⟨h3.symm, h5.symm⟩
  · rintro ⟨h1, h2⟩
    have h1 : ft = T0 := h1
    have h2 : gt = T1 := h2
    rw [h1, h2]

theorem both_LatticeOf {a : SAlgebra} (h : smallA a) : ∃ r, F_spec_LatticeOf a = some r ∧ F_impl_LatticeOf a = some r ∧ r.1.Below.length ≤ 1048576 ∧ ∀ row ∈ r.1.Below, row.length ≤ 1048576 := by
  unfold F_spec_LatticeOf F_impl_LatticeOf
  rw [F_l2Good h, F_IsAlgebra h]
  simp only [Option.bind_some]
  by_cases hg : goodA a
  · rw [decide_eq_true hg, F_l2Type h, F_typeOf h]
    simp only [if_true, Option.bind_some]
    rw [F_l1Same (typeA_len h), F_sameList (typeA_len h)]
    simp only [Option.bind_some]
    by_cases ht : typeA a = [2, 2]
    · rw [decide_eq_true ht]
      simp only [if_true, Option.bind_some]
      obtain ⟨n, hn⟩ := Int.eq_ofNat_of_zero_le (show 0 ≤ a.Size by have := hg.1; omega)
      have hn8 : n ≤ 8 := by have := hg.2.1; omega
      have hnn : a.Size.toNat = n := by omega
      have hops : ∃ f g, a.Ops = [f, g] ∧ f.Arity = 2 ∧ g.Arity = 2 := by
        unfold typeA at ht
        match hO : a.Ops with
        | [] => rw [hO] at ht; simp at ht
        | [f] => rw [hO] at ht; simp at ht
        | [f, g] => rw [hO] at ht; simp at ht; exact ⟨f, g, rfl, ht.1, ht.2⟩
        | f :: g :: k :: r => rw [hO] at ht; simp at ht
      obtain ⟨f, g, hO, hf2, hg2⟩ := hops
      have hTf : f.Table.length = n * n := by
        have := (hg.2.2.2 f (by rw [hO]; simp)).2.2.1
        rw [hnn, hf2] at this
        rw [this, show Int.toNat 2 = 2 from rfl, Nat.pow_two]
      have h64 : n * n ≤ 8 * 8 := Nat.mul_le_mul hn8 hn8
      have hlO : a.Ops.length = 2 := by rw [hO]; rfl
      have e0 : nth a.Ops (Int.toNat 0) = f := by rw [hO]; rfl
      have e1 : nth a.Ops (Int.toNat 1) = g := by rw [hO]; rfl
      have e00 : nth a.Ops 0 = f := by rw [hO]; rfl
      rw [F_specPos hn8 hn (by omega) e00 hTf, ask_pos (by omega), e0, hn, F_orderOfMeet hn8 hTf]
      simp only [Option.bind_some]
      rw [F_order_poset (by rw [lim_def]; omega)]
      simp only [Option.bind_some]
      have hs : small (posOf n (meetF n f.Table)) := posOf_small (by rw [lim_def]; omega)
      have hpl : (posOf n (meetF n f.Table)).Below.length = n := posOf_len
      have hrow : ∀ row ∈ (posOf n (meetF n f.Table)).Below, row.length ≤ 1048576 := fun row hr => by
        have := posOf_rows row hr; omega
      rw [F_l24Good hs]
      simp only [Option.bind_some]
      by_cases hlat : isLat (posOf n (meetF n f.Table))
      · rw [decide_eq_true hlat, F_latticeOf_yes hs hlat]
        simp only [if_true, Option.bind_some]
        rw [F_l24Algebra hs hlat, F_lattice_algebra hlat]
        simp only [Option.bind_some]
        have hal : (algOf (posOf n (meetF n f.Table))).Ops.length = 2 := rfl
        rw [ask_pos (by omega), ask_pos (by omega), F_l1Same (by rw [lim_def]; omega), F_sameAlgebra (algOf_small hlat)]
        simp only [Option.bind_some]
        have hA : algOf (posOf n (meetF n f.Table)) = a ↔ f.Table = (nth (algOf (posOf n (meetF n f.Table))).Ops (Int.toNat 0)).Table ∧ g.Table = (nth (algOf (posOf n (meetF n f.Table))).Ops (Int.toNat 1)).Table := by
          exact alg_eq rfl rfl ⟨rfl, by rw [show (algOf (posOf n (meetF n f.Table))).Size = ((posOf n (meetF n f.Table)).Below.length : Int) from rfl, hpl, hn]⟩ hO hf2 hg2
        by_cases h1 : f.Table = (nth (algOf (posOf n (meetF n f.Table))).Ops (Int.toNat 0)).Table
        · rw [decide_eq_true h1, if_pos rfl, ask_pos (by omega), ask_pos (by omega), e1]
          have hgl : g.Table.length ≤ LIM := by
            have := h.2 g (by rw [hO]; simp)
            rw [lim_def]; omega
          rw [F_l1Same hgl]
          simp only [Option.bind_some]
          by_cases h2 : g.Table = (nth (algOf (posOf n (meetF n f.Table))).Ops (Int.toNat 1)).Table
          · rw [decide_eq_true h2, if_pos rfl, decide_eq_true (hA.2 ⟨h1, h2⟩), if_pos rfl]
            exact ⟨_, rfl, rfl, by dsimp only; rw [hpl]; omega, hrow⟩
          · rw [decide_eq_false h2, if_neg (by simp), decide_eq_false (fun hh => h2 (hA.1 hh).2), if_neg (by simp)]
            exact ⟨(⟨[]⟩, false), rfl, rfl, by simp, by simp⟩
        · rw [decide_eq_false h1, if_neg (by simp), decide_eq_false (fun hh => h1 (hA.1 hh).1), if_neg (by simp)]
          exact ⟨(⟨[]⟩, false), rfl, rfl, by simp, by simp⟩
      · obtain ⟨l, e⟩ := F_latticeOf_no hs hlat
        rw [e, decide_eq_false hlat]
        refine ⟨(⟨[]⟩, false), by simp, ?_, by simp, by simp⟩
        cases l <;> simp
    · rw [decide_eq_false ht]
      exact ⟨(⟨[]⟩, false), by simp, by simp, by simp, by simp⟩
  · rw [decide_eq_false hg]
    exact ⟨(⟨[]⟩, false), by simp, by simp, by simp, by simp⟩

end Go.Proofs.Ytdodfnbbfkcgnaa.Ax
