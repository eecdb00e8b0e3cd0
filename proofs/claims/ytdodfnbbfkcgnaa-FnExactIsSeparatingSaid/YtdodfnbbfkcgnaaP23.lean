/-
  Algebras: sizes, copies, comparisons, marks.
-/
import Derived.Test.YtdodfnbbfkcgnaaP22
namespace Go.Proofs.Ytdodfnbbfkcgnaa.Ax
open Go Classical

def smallA (a : SAlgebra) : Prop := a.Ops.length ≤ 1048576 ∧ ∀ f ∈ a.Ops, f.Table.length ≤ 1048576
def readA (a : SAlgebra) : Prop := a.Ops.length ≤ BIG ∧ ∀ f ∈ a.Ops, f.Table.length ≤ BIG

theorem F_szOp {f : SOp} {n : Int} (h1 : f.Table.length ≤ BIG) (h2 : 0 ≤ n) (h3 : n ≤ 1048576) : F_laws_szOp f n = some (if n - f.Table.length < 0 then -1 else n - f.Table.length) := by
  unfold F_laws_szOp
  rw [F_szIntS h1 h2 h3]
  simp only [Option.bind_some]
  by_cases h : n - (f.Table.length : Int) < 0
  · rw [if_pos h, if_pos (by omega)]
  · rw [if_neg h, if_neg h]
theorem F_szAlgebra {a : SAlgebra} (h : readA a) {n : Int} (h2 : 0 ≤ n) (h3 : n ≤ 1048576) : ∃ r, F_laws_szAlgebra a n = some r ∧ (r < 0 ∨ (¬ r < 0 ∧ r ≤ n ∧ smallA a)) := by
  obtain ⟨h0, h1⟩ := h
  unfold F_laws_szAlgebra F_laws_szOpS
  unfold BIG at h0
  rw [ask_pos (by unfold InI; omega)]
  by_cases hn : n - (a.Ops.length : Int) < 0
  · rw [if_pos hn]; exact ⟨-1, rfl, .inl (by omega)⟩
  rw [if_neg hn]
  obtain ⟨t, ht, hp⟩ := loop_inv (body := F_laws_szOpS_l1 a.Ops) (fun s => 0 ≤ s.1 ∧ s.1 ≤ a.Ops.length ∧ 0 ≤ s.2 ∧ s.2 ≤ n ∧ ∀ j, j < s.1.toNat → (nth a.Ops j).Table.length ≤ n) (fun s => a.Ops.length - s.1.toNat)
    (fun t => ∀ r, t = .inr r → 0 ≤ r ∧ r ≤ n ∧ ∀ f ∈ a.Ops, f.Table.length ≤ n) (by
    rintro ⟨i, m⟩ ⟨b1, b2, b3, b4, b5⟩
    dsimp only at b1 b2 b3 b4 b5
    unfold F_laws_szOpS_l1
    dsimp only
    by_cases hi : i < a.Ops.length
    · rw [if_pos hi, ask_pos ⟨b1, hi⟩, F_szOp (h1 _ (nth_mem (by omega))) b3 (by omega)]
      simp only [Option.bind_some]
      by_cases hm : m - ((nth a.Ops i.toNat).Table.length : Int) < 0
      · rw [if_pos hm, if_pos (by omega)]
        exact .inr ⟨_, rfl, fun r hr => by cases hr⟩
      · rw [if_neg hm, if_neg hm, ask_pos (by unfold InI; omega)]
        refine .inl ⟨_, rfl, ⟨by dsimp only; omega, by dsimp only; omega, by dsimp only; omega, by dsimp only; omega, fun j hj => ?_⟩, by dsimp only; omega⟩
        dsimp only at hj
        by_cases hji : j = i.toNat
        · subst hji; omega
        · exact b5 j (by omega)
    · rw [if_neg hi]
      refine .inr ⟨_, rfl, ?_⟩
      rintro r hr
      cases hr
      refine ⟨b3, b4, fun f hf => ?_⟩
      obtain ⟨j, hj, rfl⟩ := mem_nth.1 hf
      exact b5 j (by omega)) (s := (0, n - a.Ops.length)) ⟨by simp, by simp, by dsimp only; omega, by dsimp only; omega, by intro j hj; simp at hj⟩
  rw [ht]
  cases t with
  | inl u => exact ⟨-1, rfl, .inl (by omega)⟩
  | inr r =>
    obtain ⟨c1, c2, c3⟩ := hp r rfl
    refine ⟨r, ?_, .inr ⟨by omega, c2, by omega, fun f hf => by have := c3 f hf; omega⟩⟩
    simp only [Option.bind_some]
    rw [if_neg (by omega)]

theorem F_toAlgebra {a : SAlgebra} (h : smallA a) : F_laws_toAlgebra a = some a := by
  obtain ⟨h0, h1⟩ := h
  unfold F_laws_toAlgebra F_laws_toOpS
  rw [ask_pos (by rw [lim_def]; omega)]
  have key := loop_seq (body := F_laws_toOpS_l1 a.Ops) (fun i => ((i : Int), a.Ops.take i ++ List.replicate (a.Ops.length - i) ({ Arity := 0, Table := nilL Int } : SOp))) a.Ops.length a.Ops (fun i hi => by
    unfold F_laws_toOpS_l1
    dsimp only
    have hr := h1 _ (nth_mem hi)
    rw [if_pos (by omega), ask_pos (by omega), Int.toNat_natCast]
    unfold F_laws_toOp
    rw [F_toIntS (by rw [lim_def]; omega)]
    simp only [Option.bind_some]
    rw [ask_pos (by simp; omega), ask_pos (by unfold InI; omega), set_put _ _ _ hi (by simp; omega), ← take_nth hi]
    rfl) (by
    unfold F_laws_toOpS_l1
    dsimp only
    rw [if_neg (by omega)]
    simp)
  simp only [List.take_zero, List.nil_append, Nat.sub_zero] at key
  rw [Int.toNat_natCast]
  show ((loopO _ (((0 : Nat) : Int), _)).bind _).bind _ = _
  rw [key]; rfl

theorem F_eqAlgebra {a : SAlgebra} (h : smallA a) : F_laws_eqAlgebra a a = some true := by
  obtain ⟨h0, h1⟩ := h
  unfold F_laws_eqAlgebra F_laws_eqOpS
  rw [if_neg (by simp), if_neg (by simp)]
  have key := loop_seq (body := F_laws_eqOpS_l1 a.Ops a.Ops) (fun i => (i : Int)) a.Ops.length (.inr ()) (fun i hi => by
    unfold F_laws_eqOpS_l1
    have hr := h1 _ (nth_mem hi)
    rw [if_pos (by omega), ask_pos (by omega), ask_pos (by omega), Int.toNat_natCast]
    unfold F_laws_eqOp
    rw [if_neg (by simp), F_eqIntS (by rw [lim_def]; omega)]
    simp only [decide_true, Option.bind_some, if_true]
    rw [ask_pos (by unfold InI; omega)]; rfl) (by
    unfold F_laws_eqOpS_l1
    rw [if_neg (by omega)])
  show ((loopO _ ((0 : Nat) : Int)).bind _).bind _ = _
  rw [key]; rfl

/-- where the marks of the operations begin -/
def offO (os : List SOp) (k : Int) : Nat → Int
  | 0 => k
  | j + 1 => offO os k j + 1 + (nth os j).Table.length
theorem offO_le (os : List SOp) (h1 : ∀ f ∈ os, f.Table.length ≤ 1048576) (k : Int) : ∀ j, j ≤ os.length → k ≤ offO os k j ∧ offO os k j ≤ k + j * 1048577 := by
  intro j
  induction j with
  | zero => intro _; simp [offO]
  | succ j ih =>
    intro hj
    have := ih (by omega)
    have hr := h1 _ (nth_mem (show j < os.length by omega))
    simp only [offO]; omega
end Go.Proofs.Ytdodfnbbfkcgnaa.Ax
