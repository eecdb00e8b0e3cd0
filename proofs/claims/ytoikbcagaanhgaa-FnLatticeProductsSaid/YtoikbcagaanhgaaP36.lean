/-
  What the program's lattice functions give, where they give something.
-/
import Derived.Test.YtoikbcagaanhgaaP35
namespace Go.Proofs.Ytoikbcagaanhgaa.Ax
open Go Classical
section
variable {p q : SPoset}
theorem val_IsLattice (hs : small p) : F_impl_IsLattice p = some (decide (isLat p)) := by
  unfold F_impl_IsLattice
  by_cases h : isLat p
  · rw [F_latticeOf_yes hs h, decide_eq_true h]; rfl
  · obtain ⟨l, e⟩ := F_latticeOf_no hs h
    rw [e, decide_eq_false h]
    cases l <;> rfl
theorem val_AtomsOf (hs : small p) (h : isLat p) : F_spec_AtomsOf p = some (atoms p.Below.length (below p.Below), true) ∧ F_impl_AtomsOf p = some (atoms p.Below.length (below p.Below), true) := by
  unfold F_spec_AtomsOf F_impl_AtomsOf
  rw [F_l24Good hs, F_listOf hs (fun h => F_atoms hs h), decide_eq_true h, if_pos h]
  simp only [Option.bind_some, if_true]
  rw [F_specAtoms hs h]
  exact ⟨rfl, trivial⟩
theorem val_JoinIrreducibles (hs : small p) (h : isLat p) : F_impl_JoinIrreducibles p = some (irr p.Below.length (below p.Below), true) := by
  unfold F_impl_JoinIrreducibles
  rw [F_listOf hs (fun _ => F_irr hs), if_pos h]; rfl
theorem val_EndsOf (hs : small p) (h : isLat p) : F_impl_EndsOf p = some ((botN p.Below.length (below p.Below) p.Below.length : Int), (botN p.Below.length (opp (below p.Below)) p.Below.length : Int), true) := by
  unfold F_impl_EndsOf
  rw [F_latticeOf_yes hs h]
  simp only [Option.bind_some, if_true]
  rw [F_bottom h]
  simp only [Option.bind_some]
  rw [F_top h]; rfl
theorem val_ProductLattice (hs : small p) (ht : small q) : ∃ r, F_spec_ProductLattice p q = some r ∧ F_impl_ProductLattice p q = some r ∧ (small r.1 ∧ r.1.Below.length ≤ 1000) ∧
    (r.2 = true → isLat p ∧ isLat q ∧ p.Below.length * q.Below.length ≤ 10 ∧ r.1 = posOf (p.Below.length * q.Below.length) (prodF (below p.Below) (below q.Below) q.Below.length)) := by
  unfold F_spec_ProductLattice F_impl_ProductLattice
  rw [F_l24Good hs, F_l24Good ht]
  simp only [Option.bind_some]
  have hno : small ⟨[]⟩ ∧ (⟨[]⟩ : SPoset).Below.length ≤ 1000 := ⟨⟨by simp, by simp⟩, by simp⟩
  by_cases h : isLat p ∧ isLat q
  · obtain ⟨hp, hq⟩ := h
    have h10 : p.Below.length ≤ 10 := hp.1.1
    have k10 : q.Below.length ≤ 10 := hq.1.1
    have hN : p.Below.length * q.Below.length ≤ 10 * 10 := Nat.mul_le_mul h10 k10
    rw [F_two_yes hs ht hp hq, decide_eq_true hp, decide_eq_true hq]
    simp only [Option.bind_some, if_true, latOf_order, tab_len, ← Int.natCast_mul]
    rw [ask_pos (by unfold InI; omega), ask_pos (by unfold InI; omega)]
    by_cases hb : ((p.Below.length * q.Below.length : Nat) : Int) > 10
    · rw [if_pos hb, if_pos hb]
      exact ⟨(⟨[]⟩, false), rfl, rfl, hno, fun h => by cases h⟩
    · rw [if_neg hb, if_neg hb, F_l24Product hp.1 hq.1]
      simp only [Option.bind_some]
      rw [ask_pos (by unfold InI; omega), F_newOrder _ (by rw [lim_def]; omega)]
      simp only [Option.bind_some]
      rw [F_prodI hp.1 hq.1 _ (tab_len _ _)]
      simp only [Option.bind_some]
      rw [F_order_poset (by rw [lim_def]; omega)]
      exact ⟨_, rfl, rfl, ⟨posOf_small (by rw [lim_def]; omega), by rw [posOf_len]; omega⟩, fun _ => ⟨hp, hq, by omega, rfl⟩⟩
  · obtain ⟨a, b, e⟩ := F_two_no hs ht h
    rw [e]
    refine ⟨(⟨[]⟩, false), ?_, ?_, hno, fun h => by cases h⟩
    · by_cases hp : isLat p
      · have hq : ¬ isLat q := fun hq => h ⟨hp, hq⟩
        simp [hp, hq]
      · simp [hp]
    · cases a <;> cases b <;> rfl
theorem val_StackLattice (hs : small p) (ht : small q) : ∃ r, F_spec_StackLattice p q = some r ∧ F_impl_StackLattice p q = some r ∧ (small r.1 ∧ r.1.Below.length ≤ 1000) ∧
    (r.2 = true → isLat p ∧ isLat q ∧ p.Below.length + q.Below.length ≤ 10 ∧ r.1 = posOf (p.Below.length + q.Below.length) (stackF (below p.Below) (below q.Below) p.Below.length)) := by
  unfold F_spec_StackLattice F_impl_StackLattice
  rw [F_l24Good hs, F_l24Good ht]
  simp only [Option.bind_some]
  have hno : small ⟨[]⟩ ∧ (⟨[]⟩ : SPoset).Below.length ≤ 1000 := ⟨⟨by simp, by simp⟩, by simp⟩
  by_cases h : isLat p ∧ isLat q
  · obtain ⟨hp, hq⟩ := h
    have h10 : p.Below.length ≤ 10 := hp.1.1
    have k10 : q.Below.length ≤ 10 := hq.1.1
    rw [F_two_yes hs ht hp hq, decide_eq_true hp, decide_eq_true hq]
    simp only [Option.bind_some, if_true, latOf_order, tab_len, ← Int.natCast_add]
    rw [ask_pos (by unfold InI; omega), ask_pos (by unfold InI; omega)]
    by_cases hb : ((p.Below.length + q.Below.length : Nat) : Int) > 10
    · rw [if_pos hb]
      exact ⟨(⟨[]⟩, false), rfl, rfl, hno, fun h => by cases h⟩
    · rw [if_neg hb]
      simp only [Option.bind_some]
      have hS := F_stackS hs hp.1 hq.1
      rw [F_newOrder _ (by rw [lim_def]; omega)]
      simp only [Option.bind_some]
      rw [F_stackI hp.1 hq.1 _ (tab_len _ _)]
      simp only [Option.bind_some]
      rw [F_order_poset (by rw [lim_def]; omega)]
      refine ⟨(posOf (p.Below.length + q.Below.length) (stackF (below p.Below) (below q.Below) p.Below.length), true), ?_, rfl, ⟨posOf_small (by rw [lim_def]; omega), by rw [posOf_len]; omega⟩, fun _ => ⟨hp, hq, by omega, rfl⟩⟩
      cases h1 : loopO (F_spec_StackLattice_l1 p q) (0, { Below := nilL (List Int) }) with
      | none => rw [h1] at hS; cases hS
      | some s =>
        rw [h1] at hS
        simp only [Option.bind_some] at hS ⊢
        rw [hS]; rfl
  · obtain ⟨a, b, e⟩ := F_two_no hs ht h
    rw [e]
    refine ⟨(⟨[]⟩, false), ?_, ?_, hno, fun h => by cases h⟩
    · by_cases hp : isLat p
      · have hq : ¬ isLat q := fun hq => h ⟨hp, hq⟩
        simp [hp, hq]
      · simp [hp]
    · cases a <;> cases b <;> rfl
end
theorem F_rInts {xs : List Int} (h : xs.length ≤ LIM) : F_laws_rInts xs xs = some true := by
  have hL := lim_def
  unfold F_laws_rInts
  rw [if_neg (by simp)]
  have := loop_seq (body := F_laws_rInts_l1 xs xs) (fun i => (i : Int)) xs.length (.inr ()) (fun i hi => by
    unfold F_laws_rInts_l1
    rw [if_pos (by omega)]
    repeat rw [ask_pos (by first | omega | (unfold InI; omega))]
    rw [if_neg (by simp)]
    rfl) (by
    unfold F_laws_rInts_l1
    rw [if_neg (by omega)])
  have h0 : loopO (F_laws_rInts_l1 xs xs) 0 = some (.inr ()) := this
  rw [h0]; rfl
theorem F_rTable {xss : List (List Int)} (h : xss.length ≤ LIM) (h1 : ∀ r ∈ xss, r.length ≤ LIM) : F_laws_rTable xss xss = some true := by
  have hL := lim_def
  unfold F_laws_rTable
  rw [if_neg (by simp)]
  have := loop_seq (body := F_laws_rTable_l1 xss xss) (fun i => (i : Int)) xss.length (.inr ()) (fun i hi => by
    unfold F_laws_rTable_l1
    rw [if_pos (by omega)]
    repeat rw [ask_pos (by first | omega | (unfold InI; omega))]
    rw [Int.toNat_natCast, F_rInts (h1 _ (nth_mem hi))]
    simp only [Option.bind_some, if_true]
    rfl) (by
    unfold F_laws_rTable_l1
    rw [if_neg (by omega)])
  have h0 : loopO (F_laws_rTable_l1 xss xss) 0 = some (.inr ()) := this
  rw [h0]; rfl
section
variable {n m : Nat} {f g : Nat → Nat → Bool}
theorem bot_uniq {N : Nat} {F : Nat → Nat → Bool} (ho : Ord N F) (hm : meets N F) (h0 : N ≠ 0) {w : Nat} (hw : w < N) (hle : ∀ z, z < N → F w z = true) : botN N F N = w :=
  isBnd_uniq ho.opp (botN_bnd ho hm h0) ⟨hw, rfl, fun z hz _ => hle z hz⟩
theorem irr_many (n : Nat) (f : Nat → Nat → Bool) : (irr n f).length = many n (isJ n f) := rfl
theorem irr_congr {N : Nat} {F G : Nat → Nat → Bool} (h : ∀ x y, x < N → y < N → F x y = G x y) : irr N F = irr N G := by
  unfold irr
  refine sieve_congr fun y hy => ?_
  have : (sieve N fun x => cov N F x y) = sieve N fun x => cov N G x y := sieve_congr fun x hx => cov_congr h hx hy
  rw [this]
theorem atoms_congr {N : Nat} {F G : Nat → Nat → Bool} (hg : Ord N G) (hm : meets N F) (h0 : N ≠ 0) (h : ∀ x y, x < N → y < N → F x y = G x y) : atoms N F = atoms N G := by
  unfold atoms
  rw [botN_congr hg hm h0 h N (Nat.le_refl _)]
  refine sieve_congr fun x hx => cov_congr h ?_ hx
  rw [← botN_congr hg hm h0 h N (Nat.le_refl _)]
  exact botN_lt hm h0 N (Nat.le_refl _)
theorem atoms_prod (hf : Ord n f) (hg : Ord m g) (mf : meets n f) (mg : meets m g) (n0 : n ≠ 0) (m0 : m ≠ 0) : (atoms (n * m) (prodF f g m)).length = (atoms n f).length + (atoms m g).length := by
  have bf := botN_lt mf n0 n (Nat.le_refl _)
  have bg := botN_lt mg m0 m (Nat.le_refl _)
  have hb : botN (n * m) (prodF f g m) (n * m) = botN n f n * m + botN m g m := by
    refine bot_uniq (ord_prod hf hg) (meets_prod hf hg mf mg) (Nat.mul_ne_zero n0 m0) (pair_lt bf bg) fun z hz => ?_
    obtain ⟨a, b, ha, hb, rfl⟩ := pair_of hz
    rw [prodF_at bg hb, botN_le hf mf n0 n (Nat.le_refl _) a ha, botN_le hg mg m0 m (Nat.le_refl _) b hb]; rfl
  have := up_prod hf hg bf bg
  show (sieve (n * m) fun x => cov (n * m) (prodF f g m) (botN (n * m) (prodF f g m) (n * m)) x).length = _
  rw [hb]
  show (many (n * m) fun x => cov (n * m) (prodF f g m) (botN n f n * m + botN m g m) x) = _
  rw [this, Nat.add_comm]; rfl
theorem irr_len_prod (hf : Ord n f) (hg : Ord m g) (mf : meets n f) (mg : meets m g) (n0 : n ≠ 0) (m0 : m ≠ 0) : (irr (n * m) (prodF f g m)).length = (irr n f).length + (irr m g).length := by
  rw [irr_many, irr_many, irr_many, irr_prod hf hg (botN_lt mf n0 n (Nat.le_refl _)) (botN_lt mg m0 m (Nat.le_refl _)) (fun x hx => botN_le hf mf n0 n (Nat.le_refl _) x hx) (fun y hy => botN_le hg mg m0 m (Nat.le_refl _) y hy), Nat.add_comm]
end
end Go.Proofs.Ytoikbcagaanhgaa.Ax
