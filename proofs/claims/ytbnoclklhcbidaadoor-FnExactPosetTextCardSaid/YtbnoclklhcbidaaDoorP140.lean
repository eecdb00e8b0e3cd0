/-
  Numbers' texts, and the text of a poset.
-/
import Derived.Test.YtbnoclklhcbidaaDoorP16
namespace Go.Proofs.YtbnoclklhcbidaaDoor.Ax
open Go Classical

theorem limO_uniq {α : Type} {f : Nat → Option α} {v : α} {n : Nat} (h : f n = some v) (hu : ∀ m w, f m = some w → w = v) : limO f = some v := by
  unfold limO
  rw [dif_pos ⟨v, n, h⟩]
  obtain ⟨m, hm⟩ := Classical.choose_spec (⟨v, n, h⟩ : ∃ v n, f n = some v)
  rw [hu m _ hm]

theorem digit_at : ∀ i : Nat, i < 10 → (ByteArray.mk #[(48 : UInt8), 49, 50, 51, 52, 53, 54, 55, 56, 57]).extract i (i + 1) = ⟨#[48 + UInt8.ofNat i]⟩ := by decide +kernel
noncomputable def numT (x : Int) : ByteArray := ⟨(digs x.toNat).toArray⟩
theorem numT_size (x : Int) : (numT x).size ≤ 2 := by
  show ((digs x.toNat).toArray).size ≤ 2
  unfold digs
  split <;> simp
theorem numT_pos (x : Int) : 0 < (numT x).size := by
  show 0 < ((digs x.toNat).toArray).size
  unfold digs
  split <;> simp
theorem l1Num_low {x : Int} (h0 : 0 ≤ x) (h1 : x < 10) (m : Nat) : F_spec_l1Num (m + 1) x = some (numT x) := by
  show F_spec_l1Num_s _ x = _
  unfold F_spec_l1Num_s
  rw [if_neg (by omega), if_pos h1, ask_pos (by unfold InI; omega), ask_pos (by
    refine ⟨h0, by omega, ?_⟩
    show x + 1 ≤ ((10 : Nat) : Int)
    omega)]
  obtain ⟨i, rfl⟩ : ∃ i : Nat, x = i := ⟨x.toNat, by omega⟩
  rw [show ((i : Int) + 1).toNat = i + 1 by omega, Int.toNat_natCast, digit_at i (by omega)]
  unfold numT digs
  rw [Int.toNat_natCast, if_pos (by omega)]
theorem l1Num_two {x : Int} (h0 : 10 ≤ x) (h1 : x < 100) (m : Nat) : F_spec_l1Num (m + 2) x = some (numT x) := by
  show F_spec_l1Num_s (F_spec_l1Num (m + 1)) x = _
  unfold F_spec_l1Num_s
  obtain ⟨i, rfl⟩ : ∃ i : Nat, x = i := ⟨x.toNat, by omega⟩
  have e1 : (i : Int).tdiv 10 = ((i / 10 : Nat) : Int) := rfl
  have e2 : (i : Int).tmod 10 = ((i % 10 : Nat) : Int) := rfl
  rw [if_neg (by omega), if_neg (by omega), e1, e2, ask_pos ⟨by omega, by unfold InI; omega⟩, l1Num_low (by omega) (by omega)]
  simp only [Option.bind_some]
  have hn := numT_size ((i / 10 : Nat) : Int)
  rw [ask_pos (by unfold InI; omega), ask_pos (by
    refine ⟨by omega, by omega, ?_⟩
    show _ ≤ ((10 : Nat) : Int)
    omega)]
  rw [show (((i % 10 : Nat) : Int) + 1).toNat = i % 10 + 1 by omega, Int.toNat_natCast, digit_at _ (by omega), ask_pos (by
    have e : (ByteArray.mk #[48 + UInt8.ofNat (i % 10)]).size = 1 := rfl
    rw [e]; omega)]
  unfold numT digs
  rw [Int.toNat_natCast, Int.toNat_natCast, if_pos (by omega), if_neg (by omega)]
  rfl
theorem l1Num_one {x : Int} (h0 : 10 ≤ x) : F_spec_l1Num 1 x = none := by
  show F_spec_l1Num_s (F_spec_l1Num 0) x = _
  unfold F_spec_l1Num_s
  rw [if_neg (by omega), if_neg (by omega)]
  by_cases h : (10 : Int) ≠ 0 ∧ InI (x.tdiv 10)
  · rw [ask_pos h]; rfl
  · unfold ask; rw [if_neg h]
theorem l1Num {x : Int} (h0 : 0 ≤ x) (h1 : x < 100) : (limO fun n => F_spec_l1Num n x) = some (numT x) := by
  by_cases h : x < 10
  · refine limO_uniq (n := 1) (l1Num_low h0 h 0) fun m w hw => ?_
    cases m with
    | zero => cases hw
    | succ m => rw [l1Num_low h0 h m] at hw; exact (Option.some.inj hw).symm
  · refine limO_uniq (n := 2) (l1Num_two (by omega) h1 0) fun m w hw => ?_
    match m, hw with
    | 0, hw => cases hw
    | 1, hw => rw [l1Num_one (by omega)] at hw; cases hw
    | m + 2, hw => rw [l1Num_two (by omega) h1 m] at hw; exact (Option.some.inj hw).symm
theorem F_itoa {x : Int} (h0 : 0 ≤ x) (h1 : x < 100) : F_strconv_Itoa x = some (numT x) := by
  unfold F_strconv_Itoa
  rw [ask_pos ⟨h0, h1⟩]; rfl
theorem wr_ok {b s : ByteArray} (h : b.size + s.size ≤ 4294967296) : F_strings_Builder_WriteString b s = some ((), b ++ s) := by
  unfold F_strings_Builder_WriteString
  rw [ask_pos (by rw [lim_def]; exact h)]

/-- the text of some pairs -/
noncomputable def prText (r : List (Int × Int)) (s : ByteArray) : Nat → ByteArray
  | 0 => s
  | i + 1 => prText r s i ++ ⟨#[32]⟩ ++ numT (nth r i).1 ++ ⟨#[60]⟩ ++ numT (nth r i).2
theorem prText_size (r : List (Int × Int)) (s : ByteArray) (hs : s.size ≤ 2) : ∀ i, (prText r s i).size ≤ 2 + 6 * i := by
  intro i
  induction i with
  | zero => simpa [prText] using hs
  | succ i ih =>
    have h1 := numT_size (nth r i).1
    have h2 := numT_size (nth r i).2
    have e1 : (ByteArray.mk #[(32 : UInt8)]).size = 1 := rfl
    have e2 : (ByteArray.mk #[(60 : UInt8)]).size = 1 := rfl
    simp only [prText, ByteArray.size_append, e1, e2]
    omega
theorem prText_pos (r : List (Int × Int)) (s : ByteArray) (hs : 0 < s.size) : ∀ i, 0 < (prText r s i).size := by
  intro i
  cases i with
  | zero => exact hs
  | succ i =>
    have h2 := numT_pos (nth r i).2
    simp only [prText, ByteArray.size_append]
    omega

theorem specText {r : List (Int × Int)} (hr : ∀ i, i < r.length → (0 ≤ (nth r i).1 ∧ (nth r i).1 < 100) ∧ 0 ≤ (nth r i).2 ∧ (nth r i).2 < 100) (hl : r.length ≤ 1000) {s : ByteArray} (hs : s.size ≤ 2) :
    loopO (F_spec_l23Text_l1 r) (0, s) = some (prText r s r.length) := by
  refine loop_seq (body := F_spec_l23Text_l1 r) (fun i => ((i : Int), prText r s i)) r.length _ (fun i hi => ?_) ?_
  · unfold F_spec_l23Text_l1
    dsimp only
    have h1 := numT_size (nth r i).1
    have h2 := numT_size (nth r i).2
    have h3 := prText_size r s hs i
    obtain ⟨⟨a1, a2⟩, a3, a4⟩ := hr i hi
    have e1 : (ByteArray.mk #[(32 : UInt8)]).size = 1 := rfl
    have e2 : (ByteArray.mk #[(60 : UInt8)]).size = 1 := rfl
    rw [if_pos (by omega), ask_pos (by rw [e1]; omega), ask_pos (by omega), Int.toNat_natCast, l1Num a1 a2]
    simp only [Option.bind_some]
    rw [ask_pos (by simp only [ByteArray.size_append, e1]; omega), ask_pos (by simp only [ByteArray.size_append, e1, e2]; omega), ask_pos (by omega), l1Num a3 a4]
    simp only [Option.bind_some]
    rw [ask_pos (by simp only [ByteArray.size_append, e1, e2]; omega), ask_pos (by unfold InI; omega)]
    rfl
  · unfold F_spec_l23Text_l1
    dsimp only
    rw [if_neg (by omega)]
theorem implText {r : List (Int × Int)} (hr : ∀ i, i < r.length → (0 ≤ (nth r i).1 ∧ (nth r i).1 < 100) ∧ 0 ≤ (nth r i).2 ∧ (nth r i).2 < 100) (hl : r.length ≤ 1000) {s : ByteArray} (hs : s.size ≤ 2) :
    loopO (F_impl_PosetText_l1 r) (0, s) = some (prText r s r.length) := by
  refine loop_seq (body := F_impl_PosetText_l1 r) (fun i => ((i : Int), prText r s i)) r.length _ (fun i hi => ?_) ?_
  · unfold F_impl_PosetText_l1
    dsimp only
    have h1 := numT_size (nth r i).1
    have h2 := numT_size (nth r i).2
    have h3 := prText_size r s hs i
    obtain ⟨⟨a1, a2⟩, a3, a4⟩ := hr i hi
    have e1 : (ByteArray.mk #[(32 : UInt8)]).size = 1 := rfl
    have e2 : (ByteArray.mk #[(60 : UInt8)]).size = 1 := rfl
    rw [if_pos (by omega), ask_pos (by omega), Int.toNat_natCast, F_itoa a1 a2]
    simp only [Option.bind_some]
    rw [ask_pos (by rw [e1]; omega), ask_pos (by simp only [ByteArray.size_append, e1, e2]; omega), F_itoa a3 a4]
    simp only [Option.bind_some]
    rw [ask_pos (by simp only [ByteArray.size_append, e1, e2]; omega), wr_ok (by simp only [ByteArray.size_append, e1, e2]; omega)]
    simp only [Option.bind_some]
    rw [ask_pos (by unfold InI; omega)]
    have e : prText r s i ++ (⟨#[32]⟩ ++ numT (nth r i).1 ++ ⟨#[60]⟩ ++ numT (nth r i).2) = prText r s (i + 1) := by simp only [prText, ByteArray.append_assoc]
    rw [e]; rfl
  · unfold F_impl_PosetText_l1
    dsimp only
    rw [if_neg (by omega)]

theorem prRow_in {n : Nat} {f : Nat → Nat → Bool} {x : Nat} {acc : List (Int × Int)} (hx : x < n) (ha : ∀ q ∈ acc, (0 ≤ q.1 ∧ q.1 < n) ∧ 0 ≤ q.2 ∧ q.2 < n) : ∀ y, y ≤ n → ∀ q ∈ prRow n f x acc y, (0 ≤ q.1 ∧ q.1 < n) ∧ 0 ≤ q.2 ∧ q.2 < n := by
  intro y
  induction y with
  | zero => intro _; simpa [prRow] using ha
  | succ y ih =>
    intro hy q hq
    simp only [prRow] at hq
    split at hq
    · rcases List.mem_append.1 hq with h | h
      · exact ih (by omega) q h
      · simp at h; subst h; exact ⟨⟨by dsimp only; omega, by dsimp only; omega⟩, by dsimp only; omega, by dsimp only; omega⟩
    · exact ih (by omega) q hq
theorem prAll_in {n : Nat} {f : Nat → Nat → Bool} : ∀ x, x ≤ n → ∀ q ∈ prAll n f x, (0 ≤ q.1 ∧ q.1 < n) ∧ 0 ≤ q.2 ∧ q.2 < n := by
  intro x
  induction x with
  | zero => simp [prAll]
  | succ x ih =>
    intro hx
    simp only [prAll]
    exact prRow_in (by omega) (ih (by omega)) n (Nat.le_refl _)

theorem both_PosetText {p : SPoset} (hs : small p) : ∃ r, F_spec_PosetText p = some r ∧ F_impl_PosetText p = some r := by
  unfold F_spec_PosetText F_impl_PosetText
  rw [F_l23Good p hs.1 hs.2]
  simp only [Option.bind_some]
  by_cases hg : good p.Below
  · have h10 : p.Below.length ≤ 10 := hg.1
    rw [order_good p hs.1 hs.2 hg, decide_eq_true hg]
    simp only [Option.bind_some, if_true]
    unfold F_spec_l23Text
    have htl := tab_len p.Below.length (below p.Below)
    have hl := prAll_len p.Below.length (below p.Below) p.Below.length
    have hm : p.Below.length * p.Below.length ≤ 10 * 10 := Nat.mul_le_mul h10 h10
    have hin := prAll_in (n := p.Below.length) (f := below p.Below) p.Below.length (Nat.le_refl _)
    have hz : (ByteArray.empty : ByteArray).size = 0 := rfl
    have hn := numT_size (p.Below.length : Int)
    have hp := numT_pos (p.Below.length : Int)
    generalize hr : prAll p.Below.length (below p.Below) p.Below.length = r at hl hin
    have hr2 : ∀ i, i < r.length → (0 ≤ (nth r i).1 ∧ (nth r i).1 < 100) ∧ 0 ≤ (nth r i).2 ∧ (nth r i).2 < 100 := by
      intro i hi
      obtain ⟨⟨b1, b2⟩, b3, b4⟩ := hin (nth r i) (nth_mem hi)
      exact ⟨⟨b1, by omega⟩, b3, by omega⟩
    rw [htl, l1Num (by omega) (by omega), F_itoa (by omega) (by omega), F_specPairs hs h10, F_coverPairs h10, hr]
    simp only [Option.bind_some]
    rw [wr_ok (by rw [hz]; omega), ByteArray.empty_append]
    simp only [Option.bind_some]
    rw [specText hr2 (by omega) hn, implText hr2 (by omega) hn]
    simp only [Option.bind_some]
    have hpos := prText_pos r (numT (p.Below.length : Int)) hp r.length
    unfold F_strings_Builder_String
    rw [ask_pos hpos]
    exact ⟨_, rfl, rfl⟩
  · obtain ⟨o, e⟩ := order_bad p hs.1 hs.2 hg
    rw [e, decide_eq_false hg]
    exact ⟨(⟨#[]⟩, false), by simp, by simp⟩

end Go.Proofs.YtbnoclklhcbidaaDoor.Ax
