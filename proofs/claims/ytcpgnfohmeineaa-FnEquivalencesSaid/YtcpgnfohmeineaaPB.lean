/-
 Plain facts, joined.
-/
import Derived.Test.YtcpgnfohmeineaaPA
namespace Go.Proofs.Ytcpgnfohmeineaa.Ax
open Go Classical
def A1j (m i : Nat) : Bool := decide (m / 2 ^ i % 2 = 1)
def Ab3 (a b : List Int) : Prop := ∃ i, i < a.length ∧ (∀ j, j < i → nth a j = nth b j) ∧ nth a i < nth b i
theorem Ab4 {a b : List Int} (hl : a.length = b.length) (h : a.length ≤ LIM) : Fv a b = some (decide (Ab3 a b)) := by
 unfold Fv
 rw [Bc] at h
 rw [show ((0 : Int)) = (((0 : Nat)) : Int) from rfl]
 rcases Ad4 (body := Ef a b) (fun i => (i : Int)) a.length (fun i => nth a i ≠ nth b i) (fun i => .inl (decide (nth a i < nth b i))) (.inr ()) (fun i hi hh => by
   unfold Ef
   rw [if_pos (by omega), Ae (by omega), Ae (by omega), Int.toNat_natCast, if_neg hh, Ae (by unfold InI; omega)]; rfl) (fun i hi hh => by
   unfold Ef
   rw [if_pos (by omega), Ae (by omega), Ae (by omega), Int.toNat_natCast, if_pos hh, Ae (by omega), Ae (by omega)]) (by
   unfold Ef
   rw [if_neg (by omega)]) with ⟨i, hi, hh, hf, e⟩ | ⟨hn, e⟩
 ·rw [e]
  simp only [Option.bind_some]
  congr 1
  rw [decide_eq_decide]
  constructor
  ·intro hlt
   exact ⟨i, hi, fun j hj => Classical.not_not.1 (hf j hj), hlt⟩
  ·rintro ⟨k, hk, h1, h2⟩
   rcases Nat.lt_trichotomy k i with hki | hki | hki
   ·have := Classical.not_not.1 (hf k hki); omega
   ·subst hki; exact h2
   ·exact absurd (h1 i hki) hh
 ·rw [e, decide_eq_false]
  ·rfl
  ·rintro ⟨k, hk, _, h2⟩
   have := Classical.not_not.1 (hn k hk); omega
theorem Ait {a b : List Int} (hl : a.length = b.length) (h : a.length ≤ LIM) : ∃ c, Fk a b = some c ∧ (¬ c ≥ 0 ↔ Ab3 a b) := by
 unfold Fk
 rw [Bc] at h
 rw [show ((0 : Int)) = (((0 : Nat)) : Int) from rfl]
 rcases Ad4 (body := Ca a b) (fun i => (i : Int)) a.length (fun i => nth a i ≠ nth b i) (fun i => .inl (if nth a i < nth b i then -1 else 1)) (.inr ()) (fun i hi hh => by
   unfold Ca
   rw [if_pos (by omega), if_pos (by omega)]
   simp only [Option.bind_some]
   rw [Ae (by omega), Ae (by omega), Int.toNat_natCast, if_neg hh, Ae (by unfold InI; omega)]; rfl) (fun i hi hh => by
   unfold Ca
   rw [if_pos (by omega), if_pos (by omega)]
   simp only [Option.bind_some]
   rw [Ae (by omega), Ae (by omega), Int.toNat_natCast, if_pos hh, Ae (by omega), Ae (by omega)]
   split <;> rfl) (by
   unfold Ca
   rw [if_neg (by omega)]; rfl) with ⟨i, hi, hh, hf, e⟩ | ⟨hn, e⟩
 ·rw [e]
  refine ⟨_, rfl, ?_⟩
  constructor
  ·intro hlt
   refine ⟨i, hi, fun j hj => Classical.not_not.1 (hf j hj), ?_⟩
   by_cases hc : nth a i < nth b i
   ·exact hc
   ·rw [if_neg hc] at hlt; omega
  ·rintro ⟨k, hk, h1, h2⟩
   have hki : k = i := by
    rcases Nat.lt_trichotomy k i with hki | hki | hki
    ·have := Classical.not_not.1 (hf k hki); omega
    ·exact hki
    ·exact absurd (h1 i hki) hh
   subst hki
   rw [if_pos h2]; omega
 ·rw [e]
  simp only [Option.bind_some]
  rw [if_neg (by omega), if_neg (by omega)]
  refine ⟨_, rfl, ?_⟩
  constructor
  ·intro hc; omega
  ·rintro ⟨k, hk, _, h2⟩
   have := Classical.not_not.1 (hn k hk); omega
def anti (f : Nat → Nat → Bool) (ls : List Int) : Prop := ∀ x ∈ ls, ∀ y ∈ ls, ¬ (x.toNat ≠ y.toNat ∧ f x.toNat y.toNat = true)
section
end
end Go.Proofs.Ytcpgnfohmeineaa.Ax
namespace Go.Proofs.Ytcpgnfohmeineaa.Ax
open Go Classical
def pc (n m : Nat) : Nat := (Kb n (A1j m)).length
theorem Aut {q q' : Nat → Bool} {x : Nat} (hq : q x = false) (h : ∀ i, q' i = (q i || decide (x = i))) : ∀ n, (Kb n q').length = (Kb n q).length + if x < n then 1 else 0 := by
 intro n
 induction n with
 | zero => simp [Kb]
 | succ n ih =>
   rw [Aa2, Aa2, h n]
   by_cases hxn : x = n
   ·subst hxn
    rw [hq]
    simp only [decide_true, Bool.or_true, if_true, Bool.false_eq_true, if_false]
    rw [List.length_append, ih, if_neg (by omega), if_pos (by omega)]; rfl
   ·rw [decide_eq_false hxn, Bool.or_false]
    by_cases hqn : q n = true
    ·rw [if_pos hqn, if_pos hqn, List.length_append, List.length_append, ih]
     by_cases hx : x < n
     ·rw [if_pos hx, if_pos (by omega)]; simp
     ·rw [if_neg hx, if_neg (by omega)]; rfl
    ·rw [if_neg hqn, if_neg hqn, ih]
     by_cases hx : x < n
     ·rw [if_pos hx, if_pos (by omega)]
     ·rw [if_neg hx, if_neg (by omega)]
def wt (n m : Nat) : Nat := 10 ^ (10 - pc n m)
def phi (n : Nat) (ws : List Int) : Nat → Nat → Int
 | _, 0 => 0
 | M, k + 1 => nth ws M * wt n M + phi n ws (M + 1) k
section
variable {n : Nat} {f : Nat → Nat → Bool}
structure okW (n m : Nat) (ws : List Int) : Prop where
 len : ws.length = 2 ^ n
 pos : ∀ i, i < ws.length → 0 ≤ nth ws i
 sum : phi n ws m (2 ^ n - m) ≤ 10000000000
end
section
end
end Go.Proofs.Ytcpgnfohmeineaa.Ax
namespace Go.Proofs.Ytcpgnfohmeineaa.Ax
open Go Classical
section
variable {n : Nat} {ps : List (Int × Int)}
end
end Go.Proofs.Ytcpgnfohmeineaa.Ax
namespace Go.Proofs.Ytcpgnfohmeineaa.Ax
open Go Classical
theorem Als (xs : List Int) (h : xs.length ≤ LIM) : Gx xs = some xs := by
 unfold Gx
 rw [Ae (by simp [Av]; exact h)]
 rfl
section
variable {n : Nat} {f : Nat → Nat → Bool}
end
section
end
end Go.Proofs.Ytcpgnfohmeineaa.Ax
namespace Go.Proofs.Ytcpgnfohmeineaa.Ax
open Go Classical
noncomputable def A00 (n : Nat) (g h : Nat → Nat → Nat) (S : Nat → Bool) : Nat → Bool := fun z => decide (S z = true ∨ ∃ x y, x < n ∧ y < n ∧ S x = true ∧ S y = true ∧ (z = g x y ∨ z = h x y))
noncomputable def Amp (n : Nat) (g h : Nat → Nat → Nat) (S : Nat → Bool) : Nat → Nat → Bool
 | 0 => S
 | k + 1 => A00 n g h (Amp n g h S k)
section
variable {n : Nat} {g h : Nat → Nat → Nat} {S : Nat → Bool}
def A1k (n : Nat) (g h : Nat → Nat → Nat) (S : Nat → Bool) (k : Nat) : Prop := ∀ z, z < n → Amp n g h S (k + 1) z = Amp n g h S k z
noncomputable def closed (n : Nat) (g h : Nat → Nat → Nat) (S : Nat → Bool) : Nat → Bool := Amp n g h S n
def A1i (n : Nat) (S : Nat → Bool) : List Nat := (List.range n).filter S
end
end Go.Proofs.Ytcpgnfohmeineaa.Ax
namespace Go.Proofs.Ytcpgnfohmeineaa.Ax
open Go Classical
theorem Ahw {xs ys : List Int} (h : xs.length ≤ LIM) : Ip xs ys = some (decide (xs = ys)) := by
 unfold Ip
 rw [Bc] at h
 split
 ·rename_i hl
  rw [decide_eq_false]
  rintro rfl; exact hl rfl
 rename_i hl
 have hl : xs.length = ys.length := by omega
 have := Is (body := En xs ys) (fun i => (i : Int)) xs.length (fun i => ¬ nth xs i = nth ys i) () () (fun i hi hb => by
  unfold En
  rw [if_pos (by omega), Ae (by omega), Ae (by omega)]
  simp only [Int.toNat_natCast]
  rw [if_neg (by simpa using hb), Ae (by unfold InI; omega)]; rfl) (fun i hi hb => by
  unfold En
  rw [if_pos (by omega), Ae (by omega), Ae (by omega)]
  simp only [Int.toNat_natCast]
  rw [if_pos hb]) (by unfold En; rw [if_neg (by omega)]) 0 (by omega)
 show ((Al _ ((0 : Nat) : Int)).bind _) = _
 rw [this]
 by_cases hx : ∃ i, 0 ≤ i ∧ i < xs.length ∧ ¬ nth xs i = nth ys i
 ·rw [if_pos hx, decide_eq_false]
  ·rfl
  ·rintro rfl; obtain ⟨i, _, _, hc⟩ := hx; exact hc rfl
 ·rw [if_neg hx, decide_eq_true (Qm hl (K2.1 hx))]
  rfl
section
end
end Go.Proofs.Ytcpgnfohmeineaa.Ax
namespace Go.Proofs.Ytcpgnfohmeineaa.Ax
open Go Classical
def Ag4 (a : SAlgebra) : Prop := a.Ops.length ≤ 1048576 ∧ ∀ f ∈ a.Ops, f.Table.length ≤ 1048576
end Go.Proofs.Ytcpgnfohmeineaa.Ax
namespace Go.Proofs.Ytcpgnfohmeineaa.Ax
open Go Classical
def Abu (n : Nat) : List Int := (List.range n).map fun i : Nat => (i : Int)
end Go.Proofs.Ytcpgnfohmeineaa.Ax
namespace Go.Proofs.Ytcpgnfohmeineaa.Ax
open Go Classical
section
theorem Abh {n : Nat} (hn : n ≤ 1000) : Da n = some (Abu n) := by
 unfold Da
 have key := Dm (body := Cw n) (fun i => ((i : Int), Abu i)) n (Abu n) (fun i hi => by
  unfold Cw
  dsimp only
  have hl : (Abu i).length = i := by simp [Abu]
  rw [if_pos (by omega), Ae (by rw [Bc]; simp only [List.length_cons, List.length_nil]; omega), Ae (by unfold InI; omega)]
  have e : Abu (i + 1) = Abu i ++ [(i : Int)] := by simp [Abu, List.range_succ]
  rw [e]; rfl) (by
  unfold Cw
  dsimp only
  rw [if_neg (by omega)])
 have key' : Al (Cw n) (0, Av Int) = _ := key
 rw [key']; rfl
end
end Go.Proofs.Ytcpgnfohmeineaa.Ax
namespace Go.Proofs.Ytcpgnfohmeineaa.Ax
open Go Classical
def Aog (n : Nat) (f : SOp) : Prop := 0 ≤ f.Arity ∧ f.Arity ≤ 3 ∧ f.Table.length = n ^ f.Arity.toNat ∧ Cb f.Table n
def Jv (a : SAlgebra) : Prop := 1 ≤ a.Size ∧ a.Size ≤ 8 ∧ a.Ops.length ≤ 4 ∧ ∀ f ∈ a.Ops, Aog a.Size.toNat f
theorem Ahi {n k : Nat} (hn : n ≤ 8) (hk : k ≤ 3) : n ^ k ≤ 512 :=
 Nat.le_trans (Nat.pow_le_pow_left hn k) (Nat.le_trans (Nat.pow_le_pow_right (by omega) hk) (by decide))
theorem Ayk {n k : Nat} (hn : n ≤ 8) (hk : k ≤ 3) : Er n k = some ((n ^ k : Nat) : Int) := by
 unfold Er
 have key := Dm (body := Cd n) (fun j => (((n ^ j : Nat) : Int), ((k : Int) - (j : Int)))) k ((n ^ k : Nat) : Int) (fun j hj => by
  unfold Cd
  dsimp only
  have hp := Ahi hn (show j + 1 ≤ 3 by omega)
  rw [Nat.pow_succ] at hp
  rw [if_pos (by omega), ← Int.natCast_mul, Nat.pow_succ]
  generalize n ^ j * n = N at hp ⊢
  rw [Ae (by unfold InI; omega), Ae (by unfold InI; omega), show ((k : Int) - (j : Int) - 1) = (k : Int) - ((j + 1 : Nat) : Int) by omega]) (by
  unfold Cd
  dsimp only
  rw [if_neg (by omega)])
 have key' : Al (Cd n) (1, (k : Int)) = some ((n ^ k : Nat) : Int) := by simpa using key
 rw [key']; rfl
theorem As6 {n k : Nat} (hn : n ≤ 8) (hk : k ≤ 3) : Dz n k = some ((n ^ k : Nat) : Int) := by
 unfold Dz
 have key := Dm (body := Cc n) (fun j => (((n ^ j : Nat) : Int), ((k : Int) - (j : Int)))) k ((n ^ k : Nat) : Int) (fun j hj => by
  unfold Cc
  dsimp only
  have hp := Ahi hn (show j + 1 ≤ 3 by omega)
  rw [Nat.pow_succ] at hp
  rw [if_pos (by omega), ← Int.natCast_mul, Nat.pow_succ]
  generalize n ^ j * n = N at hp ⊢
  rw [Ae (by unfold InI; omega), Ae (by unfold InI; omega), show ((k : Int) - (j : Int) - 1) = (k : Int) - ((j + 1 : Nat) : Int) by omega]) (by
  unfold Cc
  dsimp only
  rw [if_neg (by omega)])
 have key' : Al (Cc n) (1, (k : Int)) = some ((n ^ k : Nat) : Int) := by simpa using key
 rw [key']; rfl
theorem Ar7 {n : Nat} (hn : n ≤ 8) {f : SOp} (hl : f.Table.length ≤ LIM) : Lu f n = some (decide (Aog n f)) := by
 unfold Lu
 by_cases h0 : 0 ≤ f.Arity
 ·rw [if_pos (show f.Arity ≥ 0 from h0)]
  by_cases h3 : f.Arity ≤ 3
  ·have e : Er (n : Int) f.Arity = some ((n ^ f.Arity.toNat : Nat) : Int) := by
    have := Ayk hn (k := f.Arity.toNat) (by omega)
    rwa [show ((f.Arity.toNat : Nat) : Int) = f.Arity by omega] at this
   rw [if_pos h3, e]
   simp only [Option.bind_some]
   by_cases hL : f.Table.length = n ^ f.Arity.toNat
   ·rw [if_pos (by rw [hL]), Apm _ _ hl]
    simp only [Option.bind_some]
    congr 1
    rw [decide_eq_decide]
    exact ⟨fun h => ⟨h0, h3, hL, h⟩, fun h => h.2.2.2⟩
   ·rw [if_neg (fun hc => hL (Int.ofNat_inj.1 hc)), decide_eq_false (fun h => hL h.2.2.1)]
  ·rw [if_neg h3, decide_eq_false (fun h => h3 h.2.1)]
 ·rw [if_neg (by omega), decide_eq_false (fun h => h0 h.1)]
theorem Avy {n : Nat} (hn1 : 1 ≤ n) (hn : n ≤ 8) {f : SOp} (hl : f.Table.length ≤ LIM) : Pl n f = some (decide (Aog n f)) := by
 unfold Pl
 rw [Mk]
 simp only [Option.bind_some]
 by_cases h0 : 0 ≤ f.Arity ∧ f.Arity ≤ 3
 ·have e : Dz (n : Int) f.Arity = some ((n ^ f.Arity.toNat : Nat) : Int) := by
   have := As6 hn (k := f.Arity.toNat) (by omega)
   rwa [show ((f.Arity.toNat : Nat) : Int) = f.Arity by omega] at this
  rw [decide_eq_true h0, if_pos rfl, e]
  simp only [Option.bind_some]
  by_cases hL : f.Table.length = n ^ f.Arity.toNat
  ·rw [if_neg (by rw [hL]; simp)]
   simp only [Option.bind_some]
   have hl' := hl
   rw [Bc] at hl'
   have this := Is (body := F6 n f) (fun i => (i : Int)) f.Table.length (fun i => ¬ (0 ≤ nth f.Table i ∧ nth f.Table i ≤ (n : Int) - 1)) () () (fun i hi hb => by
    unfold F6
    rw [if_pos (by omega), Ae (by omega), Ae (by unfold InI; omega), Mk]
    simp only [Int.toNat_natCast, Option.bind_some]
    rw [decide_eq_true (Classical.not_not.1 hb), if_pos rfl, Ae (by unfold InI; omega)]; rfl) (fun i hi hb => by
    unfold F6
    rw [if_pos (by omega), Ae (by omega), Ae (by unfold InI; omega), Mk]
    simp only [Int.toNat_natCast, Option.bind_some]
    rw [decide_eq_false hb, if_neg (by simp)]) (by
    unfold F6
    rw [if_neg (by omega)]) 0 (by omega)
   refine (Nq this false true).trans (congrArg some (Wq ?_))
   rw [K2]
   constructor
   ·intro h
    refine ⟨h0.1, h0.2, hL, fun x hx => ?_⟩
    obtain ⟨i, hi, rfl⟩ := Mh.1 hx
    have := h i hi; omega
   ·intro h i hi
    have := h.2.2.2 _ (As hi); omega
  ·rw [if_pos (fun hc => hL (Int.ofNat_inj.1 hc)), decide_eq_false (fun h => hL h.2.2.1)]; rfl
 ·rw [decide_eq_false h0, if_neg (by simp), decide_eq_false (fun h => h0 ⟨h.1, h.2.1⟩)]; rfl
theorem Afa {a : SAlgebra} (h : Ag4 a) : F1 a = some (decide (Jv a)) := by
 unfold F1
 by_cases h1 : a.Size < 1
 ·rw [if_pos h1, decide_eq_false (fun hg => by have := hg.1; omega)]; rfl
 rw [if_neg h1]
 by_cases h8 : a.Size > 8
 ·rw [if_pos h8, decide_eq_false (fun hg => by have := hg.2.1; omega)]; rfl
 rw [if_neg h8]
 by_cases h4 : (a.Ops.length : Int) > 4
 ·rw [if_pos h4, decide_eq_false (fun hg => by have := hg.2.2.1; omega)]; rfl
 rw [if_neg h4]
 simp only [Option.bind_some]
 obtain ⟨n, hn⟩ := Int.eq_ofNat_of_zero_le (show 0 ≤ a.Size by omega)
 have this := Is (body := C9 a) (fun i => (i : Int)) a.Ops.length (fun i => ¬ Aog n (nth a.Ops i)) () () (fun i hi hb => by
  have hl := h.2 _ (As hi)
  unfold C9
  rw [if_pos (by omega), Ae (by omega), Int.toNat_natCast, hn, Ar7 (by omega) (by rw [Bc]; omega)]
  simp only [Option.bind_some]
  rw [decide_eq_true (Classical.not_not.1 hb), if_pos rfl, Ae (by unfold InI; omega)]; rfl) (fun i hi hb => by
  have hl := h.2 _ (As hi)
  unfold C9
  rw [if_pos (by omega), Ae (by omega), Int.toNat_natCast, hn, Ar7 (by omega) (by rw [Bc]; omega)]
  simp only [Option.bind_some]
  rw [decide_eq_false hb, if_neg (by simp)]) (by
  unfold C9
  rw [if_neg (by omega)]) 0 (by omega)
 refine (Nq this false true).trans (congrArg some (Wq ?_))
 rw [K2]
 have hnn : a.Size.toNat = n := by omega
 constructor
 ·intro hh
  refine ⟨by omega, by omega, by omega, fun f hf => ?_⟩
  obtain ⟨i, hi, rfl⟩ := Mh.1 hf
  rw [hnn]; exact hh i hi
 ·intro hg i hi
  have := hg.2.2.2 _ (As hi)
  rwa [hnn] at this
theorem Awc {a : SAlgebra} (h : Ag4 a) : K9 a = some (decide (Jv a)) := by
 unfold K9
 rw [Mk]
 simp only [Option.bind_some]
 by_cases h1 : 1 ≤ a.Size ∧ a.Size ≤ 8
 ·rw [decide_eq_true h1, if_pos rfl]
  by_cases h4 : (a.Ops.length : Int) > 4
  ·rw [if_pos h4, decide_eq_false (fun hg => by have := hg.2.2.1; omega)]; rfl
  rw [if_neg h4]
  simp only [Option.bind_some]
  obtain ⟨n, hn⟩ := Int.eq_ofNat_of_zero_le (show 0 ≤ a.Size by omega)
  have this := Is (body := Em a) (fun i => (i : Int)) a.Ops.length (fun i => ¬ Aog n (nth a.Ops i)) () () (fun i hi hb => by
   have hl := h.2 _ (As hi)
   unfold Em
   rw [if_pos (by omega), Ae (by omega), Int.toNat_natCast, hn, Avy (by omega) (by omega) (by rw [Bc]; omega)]
   simp only [Option.bind_some]
   rw [decide_eq_true (Classical.not_not.1 hb), if_pos rfl, Ae (by unfold InI; omega)]; rfl) (fun i hi hb => by
   have hl := h.2 _ (As hi)
   unfold Em
   rw [if_pos (by omega), Ae (by omega), Int.toNat_natCast, hn, Avy (by omega) (by omega) (by rw [Bc]; omega)]
   simp only [Option.bind_some]
   rw [decide_eq_false hb, if_neg (by simp)]) (by
   unfold Em
   rw [if_neg (by omega)]) 0 (by omega)
  refine (Nq this false true).trans (congrArg some (Wq ?_))
  rw [K2]
  have hnn : a.Size.toNat = n := by omega
  constructor
  ·intro hh
   refine ⟨by omega, by omega, by omega, fun f hf => ?_⟩
   obtain ⟨i, hi, rfl⟩ := Mh.1 hf
   rw [hnn]; exact hh i hi
  ·intro hg i hi
   have := hg.2.2.2 _ (As hi)
   rwa [hnn] at this
 ·rw [decide_eq_false h1, if_neg (by simp), decide_eq_false (fun hg => h1 ⟨hg.1, hg.2.1⟩)]; rfl
def Azg (a : SAlgebra) : List Int := a.Ops.map (·.Arity)
end Go.Proofs.Ytcpgnfohmeineaa.Ax
namespace Go.Proofs.Ytcpgnfohmeineaa.Ax
open Go Classical
def Bt (n : Nat) : Nat → Nat → List Int
 | 0, _ => []
 | r + 1, k => Bt n r (k / n) ++ [((k % n : Nat) : Int)]
theorem E1 (n : Nat) : ∀ r k, (Bt n r k).length = r := by
 intro r
 induction r with
 | zero => intro k; rfl
 | succ r ih => intro k; simp [Bt, ih]
theorem Qr {n : Nat} (hn : 0 < n) : ∀ r k, Cb (Bt n r k) n := by
 intro r
 induction r with
 | zero => intro k x hx; cases hx
 | succ r ih =>
   intro k x hx
   simp only [Bt] at hx
   rcases List.mem_append.1 hx with hx | hx
   ·exact ih _ x hx
   ·rw [List.mem_singleton.1 hx]
    have := Nat.mod_lt k hn
    omega
theorem Ate {n : Nat} (hn : 0 < n) (hn8 : n ≤ 8) : ∀ (r k : Nat) (xs : List Int), r ≤ xs.length → xs.length ≤ 1000 → k ≤ 1048576 → Al (Ej n) ((r : Int) - 1, xs, (k : Int)) = some (Bt n r k ++ xs.drop r) := by
 intro r
 induction r with
 | zero =>
   intro k xs _ _ _
   refine Li ?_
   unfold Ej
   dsimp only
   rw [if_neg (by omega)]
   simp [Bt]
 | succ r ih =>
   intro k xs hr hl hk
   have c1 : (k : Int).tdiv (n : Int) = ((k / n : Nat) : Int) := rfl
   have c2 : (k : Int).tmod (n : Int) = ((k % n : Nat) : Int) := rfl
   have hd : k / n ≤ k := Nat.div_le_self k n
   have step : Ej n (((r + 1 : Nat) : Int) - 1, xs, (k : Int)) = some (.inl ((r : Int) - 1, xs.set r ((k % n : Nat) : Int), ((k / n : Nat) : Int))) := by
    unfold Ej
    dsimp only
    rw [show (((r + 1 : Nat) : Int) - 1) = (r : Int) by omega, c1, c2]
    generalize k / n = kd at hd
    rw [if_pos (by omega), Ae (by omega), Ae (by omega), Ae (by unfold InI; omega), Ae (by unfold InI; omega), Int.toNat_natCast]
   rw [Np step, ih _ _ (by rw [List.length_set]; omega) (by rw [List.length_set]; exact hl) (by omega)]
   congr 1
   simp only [Bt]
   rw [List.append_assoc]
   congr 1
   have e : (xs.set r ((k % n : Nat) : Int)).drop r = ((k % n : Nat) : Int) :: xs.drop (r + 1) := by
    refine List.ext_getElem (by simp; omega) fun i h1 h2 => ?_
    rw [List.getElem_drop, List.getElem_set]
    cases i with
    | zero => simp
    | succ i =>
      rw [if_neg (by omega), List.getElem_cons_succ, List.getElem_drop]
      congr 1; omega
   rw [e]; rfl
theorem Apu {n r k : Nat} (hn : 0 < n) (hn8 : n ≤ 8) (hr : r ≤ 3) (hk : k ≤ 1048576) : Fq n r k = some (Bt n r k) := by
 unfold Fq
 rw [Ae (by rw [Bc]; omega), Ae (by unfold InI; omega), Int.toNat_natCast, Ate hn hn8 r k _ (by simp) (by simp; omega) hk]
 simp
def Gt (m : Nat) (xs : List Int) : Int := xs.foldl (fun s x => s * (m : Int) + x) 0
theorem Fy (m : Nat) (xs : List Int) (y : Int) : Gt m (xs ++ [y]) = Gt m xs * (m : Int) + y := by
 unfold Gt; rw [List.foldl_append]; rfl
theorem Sm {m : Nat} : ∀ (r : Nat) (xs : List Int), xs.length = r → Cb xs m → ∃ c : Nat, Gt m xs = (c : Int) ∧ c < m ^ r := by
 intro r
 induction r with
 | zero =>
   intro xs hl _
   have : xs = [] := List.length_eq_zero_iff.1 hl
   subst this
   exact ⟨0, rfl, by simp⟩
 | succ r ih =>
   intro xs hl hx
   obtain ⟨ys, y, rfl⟩ : ∃ ys y, xs = ys ++ [y] := by
    refine ⟨xs.take r, nth xs r, ?_⟩
    rw [← Jo (by omega), List.take_of_length_le (by omega)]
   have hy := hx y (by simp)
   obtain ⟨c, h1, h2⟩ := ih ys (by simpa using hl) fun z hz => hx z (by simp [hz])
   obtain ⟨d, rfl⟩ := Int.eq_ofNat_of_zero_le hy.1
   refine ⟨c * m + d, by rw [Fy, h1]; push_cast; rfl, ?_⟩
   have h3 := Nat.mul_le_mul_right m (show c + 1 ≤ m ^ r from h2)
   rw [Nat.succ_mul] at h3
   rw [Nat.pow_succ]
   omega
theorem Wi {m : Nat} (hm : m ≤ 8) {xs : List Int} (hl : xs.length ≤ 3) (hx : Cb xs m) : ∃ c : Nat, Gt m xs = (c : Int) ∧ c < m ^ xs.length ∧ c < 512 := by
 obtain ⟨c, h1, h2⟩ := Sm xs.length xs rfl hx
 have := Ahi hm hl
 exact ⟨c, h1, h2, by omega⟩
theorem Au1 {m : Nat} {xs : List Int} {i : Nat} (hi : i < xs.length) : Gt m (xs.take (i + 1)) = Gt m (xs.take i) * (m : Int) + nth xs i := by
 rw [Jo hi, Fy]
theorem Auv {m : Nat} (hm : m ≤ 8) {xs : List Int} (hl : xs.length ≤ 3) (hx : Cb xs m) {i : Nat} (hi : i < xs.length) :
  InI (Gt m (xs.take i) * (m : Int)) ∧ InI (Gt m (xs.take i) * (m : Int) + nth xs i) := by
 obtain ⟨c, h1, _, h3⟩ := Wi hm (xs := xs.take i) (by rw [List.length_take]; omega) fun z hz => hx z (List.mem_of_mem_take hz)
 have hv := hx _ (As hi)
 have h4 : c * m ≤ 512 * 8 := Nat.mul_le_mul (by omega) hm
 rw [h1, ← Int.natCast_mul]
 generalize c * m = d at h4
 unfold InI
 omega
theorem Atd {b : SAlgebra} {m : Nat} (hm : m ≤ 8) (hb : b.Size = m) {i : Nat} (hi : i < b.Ops.length) {xs : List Int} (hl : xs.length ≤ 3) (hx : Cb xs m) (hT : (nth b.Ops i).Table.length = m ^ xs.length) :
  Jc b i xs = some (nth (nth b.Ops i).Table (Gt m xs).toNat) := by
 unfold Jc
 have key := Dm (body := D4 b i xs) (fun j => ((j : Int), Gt m (xs.take j))) xs.length (Gt m xs) (fun j hj => by
  unfold D4
  dsimp only
  obtain ⟨h1, h2⟩ := Auv hm hl hx hj
  rw [hb, if_pos (by omega), Ae h1, Ae (by omega), Int.toNat_natCast, Ae h2, Ae (by unfold InI; omega), Au1 hj]
  rfl) (by
  unfold D4
  dsimp only
  rw [if_neg (by omega), List.take_length])
 have key' : Al (D4 b i xs) (0, 0) = _ := key
 rw [key']
 simp only [Option.bind_some]
 obtain ⟨c, h1, h2, _⟩ := Wi hm hl hx
 rw [Ae (by omega), Int.toNat_natCast, Ae (by rw [h1, hT]; omega)]
def Ay2 (n m : Nat) (f : List Int) : Nat → Nat → Int
 | 0, _ => 0
 | r + 1, k => Ay2 n m f r (k / n) * (m : Int) + nth f (k % n)
theorem Awy (n m : Nat) (f : List Int) : ∀ r k, Gt m ((Bt n r k).map fun x => nth f x.toNat) = Ay2 n m f r k := by
 intro r
 induction r with
 | zero => intro k; rfl
 | succ r ih =>
   intro k
   simp only [Bt, Ay2, List.map_append, List.map_cons, List.map_nil, Int.toNat_natCast]
   rw [Fy, ih]
theorem Aua {n m : Nat} (hn : 0 < n) {f : List Int} (hf : f.length = n) (hfx : Cb f m) (r k : Nat) : Cb ((Bt n r k).map fun x => nth f x.toNat) m := by
 intro y hy
 obtain ⟨x, hx, rfl⟩ := List.mem_map.1 hy
 have := Qr hn r k x hx
 exact hfx _ (As (by omega))
structure Homs (a b : SAlgebra) (f : List Int) (n m : Nat) : Prop where
 ga : Jv a
 gb : Jv b
 ty : Azg a = Azg b
 sa : a.Size = n
 sb : b.Size = m
 len : f.length = n
 fin : Cb f m
section
variable {a b : SAlgebra} {f : List Int} {n m : Nat}
theorem Homs.pos (h : Homs a b f n m) : 0 < n ∧ n ≤ 8 ∧ 0 < m ∧ m ≤ 8 := by
 have := h.sa; have := h.sb; have := h.ga.1; have := h.ga.2.1; have := h.gb.1; have := h.gb.2.1
 omega
theorem Homs.low (h : Homs a b f n m) {r k : Nat} (hr : r ≤ 3) : ∃ c : Nat, Ay2 n m f r k = (c : Int) ∧ c < m ^ r := by
 obtain ⟨hn, _, _, hm⟩ := h.pos
 obtain ⟨c, h1, h2, _⟩ := Wi hm (xs := (Bt n r k).map fun x => nth f x.toNat) (by rw [List.length_map, E1]; exact hr) (Aua hn h.len h.fin r k)
 rw [Awy] at h1
 rw [List.length_map, E1] at h2
 exact ⟨c, h1, h2⟩
end
def uniq (f : List Int) : Prop := ∀ i, i < f.length → nth f i ∉ f.take i
end Go.Proofs.Ytcpgnfohmeineaa.Ax
namespace Go.Proofs.Ytcpgnfohmeineaa.Ax
open Go Classical
structure Perm (f : List Int) (n : Nat) : Prop where
 len : f.length = n
 fin : Cb f n
 un : uniq f
theorem Perm.count {f : List Int} {n : Nat} (h : Perm f n) : ∀ i, i ≤ n → (Kb n fun z => decide ((z : Int) ∈ f.take i)).length = i := by
 intro i
 induction i with
 | zero =>
   intro _
   rw [List.length_eq_zero_iff]
   exact At5.2 fun z _ => by simp
 | succ i ih =>
   intro hi
   have hil : i < f.length := by rw [h.len]; exact hi
   have hv := h.fin _ (As hil)
   have hu := h.un i hil
   have hc : nth f i = (((nth f i).toNat : Nat) : Int) := by omega
   have := Aut (q := fun z => decide ((z : Int) ∈ f.take i)) (q' := fun z => decide ((z : Int) ∈ f.take (i + 1))) (x := (nth f i).toNat) (decide_eq_false (by rw [← hc]; exact hu)) (fun z => by
    rw [Jo hil, Bool.eq_iff_iff]
    simp only [decide_eq_true_eq, List.mem_append, List.mem_singleton, Bool.or_eq_true]
    constructor
    ·rintro (h1 | h1)
     ·exact .inl h1
     ·exact .inr (by omega)
    ·rintro (h1 | h1)
     ·exact .inl h1
     ·exact .inr (by omega)) n
   rw [this, ih (by omega), if_pos (by omega)]
section
variable {a : SAlgebra} {f : List Int} {n : Nat}
end
end Go.Proofs.Ytcpgnfohmeineaa.Ax
namespace Go.Proofs.Ytcpgnfohmeineaa.Ax
open Go Classical
def Gu (n : Nat) (p : List Int) : Prop := p.length = n ∧ ∀ i, i < n → 0 ≤ nth p i ∧ nth p i ≤ i ∧ nth p (nth p i).toNat = nth p i
theorem Z9 {p : List Int} (hl : p.length ≤ 1048576) (n : Nat) : El n p = some (decide (Gu n p)) := by
 unfold El
 by_cases h : p.length = n
 ·rw [if_neg (by omega)]
  have this := Is (body := Ck p) (fun i => (i : Int)) p.length (fun i => ¬ (0 ≤ nth p i ∧ nth p i ≤ i ∧ nth p (nth p i).toNat = nth p i)) () () (fun i hi hb => by
   have hb := Classical.not_not.1 hb
   unfold Ck
   rw [if_pos (by omega), Ae (by omega), Int.toNat_natCast, if_neg (by omega), if_neg (by omega), Ae (by omega), if_neg (by simpa using hb.2.2), Ae (by unfold InI; omega)]; rfl) (fun i hi hb => by
   unfold Ck
   rw [if_pos (by omega), Ae (by omega), Int.toNat_natCast]
   by_cases h1 : nth p i < 0
   ·rw [if_pos h1]
   ·rw [if_neg h1]
    by_cases h2 : nth p i > i
    ·rw [if_pos h2]
    ·rw [if_neg h2, Ae (by omega), if_pos (fun h3 => hb ⟨by omega, by omega, h3⟩)]) (by
   unfold Ck
   rw [if_neg (by omega)]) 0 (by omega)
  refine (Nq this false true).trans (congrArg some (Wq ?_))
  rw [K2]
  unfold Gu
  constructor
  ·intro hh; exact ⟨h, fun i hi => hh i (by omega)⟩
  ·rintro ⟨_, hh⟩ i hi; exact hh i (by omega)
 ·rw [if_pos (by omega), decide_eq_false (fun hh => h hh.1)]
theorem Akl {p : List Int} (hl : p.length ≤ 1048576) (n : Nat) : F8 n p = some (decide (Gu n p)) := by
 unfold F8
 by_cases h : p.length = n
 ·rw [if_neg (by omega)]
  have this := Is (body := Cm n p) (fun i => (i : Int)) p.length (fun i => ¬ (0 ≤ nth p i ∧ nth p i ≤ i ∧ nth p (nth p i).toNat = nth p i)) () () (fun i hi hb => by
   have hb := Classical.not_not.1 hb
   unfold Cm
   rw [if_pos (by omega), Ae (by omega), Int.toNat_natCast, Mk]
   simp only [Option.bind_some]
   rw [decide_eq_true ⟨hb.1, hb.2.1⟩, if_pos rfl, Ae (by omega), Ae (by omega), Ae (by omega), if_neg (by simpa using hb.2.2), Ae (by unfold InI; omega)]; rfl) (fun i hi hb => by
   unfold Cm
   rw [if_pos (by omega), Ae (by omega), Int.toNat_natCast, Mk]
   simp only [Option.bind_some]
   by_cases h1 : 0 ≤ nth p i ∧ nth p i ≤ i
   ·rw [decide_eq_true h1, if_pos rfl, Ae (by omega), Ae (by omega), Ae (by omega), if_pos (fun h3 => hb ⟨h1.1, h1.2, h3⟩)]
   ·rw [decide_eq_false h1, if_neg (by simp)]) (by
   unfold Cm
   rw [if_neg (by omega)]) 0 (by omega)
  refine (Nq this false true).trans (congrArg some (Wq ?_))
  rw [K2]
  unfold Gu
  constructor
  ·intro hh; exact ⟨h, fun i hi => hh i (by omega)⟩
  ·rintro ⟨_, hh⟩ i hi; exact hh i (by omega)
 ·rw [if_pos (by omega), decide_eq_false (fun hh => h hh.1)]
theorem Gu.inS {n : Nat} {p : List Int} (h : Gu n p) : Cb p n := by
 intro x hx
 obtain ⟨i, hi, rfl⟩ := Mh.1 hx
 have := h.2 i (by have := h.1; omega)
 have := h.1
 omega
theorem Aln (P : Nat → Prop) : ∀ x, P x → ∃ y, y ≤ x ∧ P y ∧ ∀ z, z < y → ¬ P z := by
 intro x
 induction x using Nat.strongRecOn with
 | _ x ih =>
   intro h
   by_cases hz : ∃ z, z < x ∧ P z
   ·obtain ⟨z, h1, h2⟩ := hz
    obtain ⟨y, a, b, c⟩ := ih z h1 h2
    exact ⟨y, by omega, b, c⟩
   ·exact ⟨x, Nat.le_refl _, h, fun z hz' h' => hz ⟨z, hz', h'⟩⟩
theorem Amf {p : List Int} (hl : p.length ≤ 1048576) : E7 p = some ((Kb p.length fun i => decide (nth p i = (i : Int))).length : Int) := by
 unfold E7
 rw [Aq9 (body := E9 p) p.length (fun i => decide (nth p i = (i : Int))) (fun i c hi hc => by
  unfold E9
  dsimp only
  rw [if_pos (by omega), Ae (by omega), Int.toNat_natCast]
  by_cases h : nth p i = (i : Int)
  ·rw [if_pos h, decide_eq_true h, if_pos rfl, Ae (by unfold InI; omega), Ae (by unfold InI; omega)]; rfl
  ·rw [if_neg h, decide_eq_false h, if_neg (by simp), Ae (by unfold InI; omega)]; rfl) (fun c => by
  unfold E9
  dsimp only
  rw [if_neg (by omega)])]
 rfl
end Go.Proofs.Ytcpgnfohmeineaa.Ax
namespace Go.Proofs.Ytcpgnfohmeineaa.Ax
open Go Classical
def leP (q p : List Int) : Prop := q.length = p.length ∧ ∀ i, i < p.length → nth q i ≤ nth p i
theorem leP.refl (p : List Int) : leP p p := ⟨rfl, fun _ _ => Int.le_refl _⟩
theorem leP.trans {a b c : List Int} (h : leP a b) (h' : leP b c) : leP a c := ⟨h.1.trans h'.1, fun i hi => Int.le_trans (h.2 i (by rw [h'.1]; exact hi)) (h'.2 i hi)⟩
theorem leP.anti {a b : List Int} (h : leP a b) (h' : leP b a) : a = b := Qm h.1 fun i hi => Int.le_antisymm (h.2 i (by rw [← h.1]; exact hi)) (h'.2 i hi)
def mgF (u v z : Int) : Int := if z = (if u > v then u else v) then (if u < v then u else v) else z
theorem Aml {u v : Int} (h : u > v) (z : Int) : mgF u v z = if z = u then v else z := by
 unfold mgF; rw [if_pos h, if_neg (show ¬ u < v by omega)]
theorem An5 {u v : Int} (h : u < v) (z : Int) : mgF u v z = if z = v then u else z := by
 unfold mgF; rw [if_neg (show ¬ u > v by omega), if_pos h]
theorem Ar4 (u z : Int) : mgF u u z = z := by
 unfold mgF; rw [if_neg (show ¬ u > u by omega)]
 try rw [if_neg (show ¬ u < u by omega)]
 by_cases h : z = u
 ·rw [if_pos h, h]
 ·rw [if_neg h]
theorem Azq (u v z : Int) : mgF u v z ≤ z := by
 rcases Int.lt_trichotomy u v with h | h | h
 ·rw [An5 h]; split <;> omega
 ·rw [h, Ar4]; omega
 ·rw [Aml h]; split <;> omega
theorem A0t {u v z n : Int} (hu : 0 ≤ u ∧ u < n) (hv : 0 ≤ v ∧ v < n) (hz : 0 ≤ z ∧ z < n) : 0 ≤ mgF u v z ∧ mgF u v z < n := by
 rcases Int.lt_trichotomy u v with h | h | h
 ·rw [An5 h]; split <;> omega
 ·rw [h, Ar4]; omega
 ·rw [Aml h]; split <;> omega
def mg (p : List Int) (u v : Int) : List Int := p.map (mgF u v)
theorem Axh (p : List Int) (u v : Int) : (mg p u v).length = p.length := by simp [mg]
theorem Aw0 (p : List Int) (u : Int) : mg p u u = p := by
 unfold mg
 rw [show mgF u u = id from funext (Ar4 u), List.map_id]
theorem Awp (p : List Int) (u v : Int) : leP (mg p u v) p := ⟨Axh p u v, fun i hi => by unfold mg; rw [Im _ hi]; exact Azq _ _ _⟩
theorem Awr {out p : List Int} {x y : Nat} (h : leP out p) (hx : x < p.length) (hy : y < p.length) : mg out (nth out x) (nth out y) = p ↔ out = p ∧ nth p x = nth p y := by
 constructor
 ·intro e
  have h1 : leP p out := by
   have := Awp out (nth out x) (nth out y)
   rw [e] at this; exact this
  have h2 : out = p := leP.anti h h1
  subst h2
  refine ⟨rfl, ?_⟩
  have e1 : nth (mg out (nth out x) (nth out y)) x = nth out x := by rw [e]
  have e2 : nth (mg out (nth out x) (nth out y)) y = nth out y := by rw [e]
  unfold mg at e1 e2
  rw [Im _ hx] at e1
  rw [Im _ hy] at e2
  rcases Int.lt_trichotomy (nth out x) (nth out y) with hh | hh | hh
  ·rw [An5 hh, if_pos rfl] at e2; exact e2
  ·exact hh
  ·rw [Aml hh, if_pos rfl] at e1; exact e1.symm
 ·rintro ⟨rfl, e⟩
  rw [e, Aw0]
def okP (n : Nat) (q : List Int) : Prop := q.length = n ∧ Cb q n
theorem Ao0 {n : Nat} {q : List Int} (h : okP n q) {x y : Nat} (hx : x < n) (hy : y < n) : okP n (mg q (nth q x) (nth q y)) := by
 refine ⟨by rw [Axh]; exact h.1, fun z hz => ?_⟩
 obtain ⟨w, hw, rfl⟩ := List.mem_map.1 hz
 exact A0t (h.2 _ (As (by rw [h.1]; exact hx))) (h.2 _ (As (by rw [h.1]; exact hy))) (h.2 _ hw)
theorem A09 {body : (Int × List Int) → Option ((Int × List Int) ⊕ List Int)} (p : List Int) (f : Int → Int)
  (h : ∀ (i : Nat) (w : List Int), i < p.length → w.length = p.length → nth w i = nth p i → ∃ w', body ((i : Int), w) = some (.inl (((i + 1 : Nat) : Int), w')) ∧ w' = w.set i (f (nth p i)))
  (he : ∀ w : List Int, w.length = p.length → body ((p.length : Int), w) = some (.inr w)) : Al body (0, p) = some (p.map f) := by
 obtain ⟨t, ht, hp⟩ := B8 (body := body) (fun s => ∃ i : Nat, s.1 = (i : Int) ∧ i ≤ p.length ∧ s.2.length = p.length ∧ ∀ j, j < p.length → nth s.2 j = if j < i then f (nth p j) else nth p j) (fun s => p.length - s.1.toNat) (fun t => t = p.map f) (by
  rintro ⟨x, w⟩ ⟨i, h0, h1, h2, h3⟩
  dsimp only at h0 h1 h2 h3
  subst h0
  by_cases hi : i < p.length
  ·obtain ⟨w', e, ew⟩ := h i w hi h2 (by rw [h3 i hi, if_neg (by omega)])
   refine .inl ⟨_, e, ⟨i + 1, rfl, by omega, by rw [ew, List.length_set]; exact h2, fun j hj => ?_⟩, by dsimp only; omega⟩
   dsimp only
   rw [ew, Sx _ _ _ _ (by omega)]
   by_cases hij : i = j
   ·subst hij
    rw [if_pos rfl, if_pos (by omega)]
   ·rw [if_neg hij, h3 j hj]
    by_cases hlt : j < i
    ·rw [if_pos hlt, if_pos (by omega)]
    ·rw [if_neg hlt, if_neg (by omega)]
  ·have ei : i = p.length := by omega
   subst ei
   refine .inr ⟨_, he w h2, Qm (by rw [h2, List.length_map]) fun j hj => ?_⟩
   rw [h3 j (by omega), if_pos (by omega), Im _ (by omega)]) (s := (0, p)) ⟨0, rfl, by omega, rfl, fun j hj => by simp⟩
 rw [ht, hp]
theorem Axt {w : List Int} {i : Nat} {z : Int} (h : nth w i = z) : w = w.set i z := by
 refine Qm (by simp) fun j hj => ?_
 rw [Sx _ _ _ _ hj]
 by_cases hij : i = j
 ·subst hij; rw [if_pos rfl, h]
 ·rw [if_neg hij]
theorem Ax9 {p : List Int} (hl : p.length ≤ 1048576) {X Y : Int} (hx : 0 ≤ X ∧ X < p.length) (hy : 0 ≤ Y ∧ Y < p.length) : M3 p X Y = some (decide (¬ nth p X.toNat = nth p Y.toNat), mg p (nth p X.toNat) (nth p Y.toNat)) := by
 unfold M3
 rw [Ae hx, Ae hy]
 by_cases h : nth p X.toNat = nth p Y.toNat
 ·rw [if_pos h, h, Aw0, decide_eq_false (fun hh => hh rfl)]
 ·have key : ∀ hi lo : Int, Al (Fi p hi lo) (0, p) = some (p.map fun z => if z = hi then lo else z) := fun hi lo =>
   A09 (body := Fi p hi lo) p _ (fun i w hi' hw hn => by
    unfold Fi
    dsimp only
    rw [if_pos (by omega), Ae (by omega), Int.toNat_natCast, hn]
    by_cases hz : nth p i = hi
    ·rw [if_pos hz, Ae (by omega), Ae (by unfold InI; omega), if_pos hz]
     exact ⟨_, rfl, rfl⟩
    ·rw [if_neg hz, Ae (by unfold InI; omega), if_neg hz]
     exact ⟨_, rfl, Axt hn⟩) (fun w hw => by
    unfold Fi
    dsimp only
    rw [if_neg (by omega)])
  rw [if_neg h, decide_eq_true h]
  unfold mg
  by_cases hg : nth p X.toNat > nth p Y.toNat
  ·rw [if_pos hg]
   simp only [Option.bind_some]
   rw [key, show mgF (nth p X.toNat) (nth p Y.toNat) = fun z => if z = nth p X.toNat then nth p Y.toNat else z from funext (Aml hg)]
   rfl
  ·rw [if_neg hg]
   simp only [Option.bind_some]
   rw [key, show mgF (nth p X.toNat) (nth p Y.toNat) = fun z => if z = nth p Y.toNat then nth p X.toNat else z from funext (An5 (by omega))]
   rfl
theorem Vk {p : List Int} (hl : p.length ≤ 1048576) {X Y : Int} (hx : 0 ≤ X ∧ X < p.length) (hy : 0 ≤ Y ∧ Y < p.length) : E3 p X Y = some (mg p (nth p X.toNat) (nth p Y.toNat)) := by
 unfold E3
 have e1 : ∀ a b : Int, Dy a b = some (if a < b then a else b) := fun a b => by
  unfold Dy; split <;> rfl
 rw [Ae hx, Ae hy, e1]
 simp only [Option.bind_some]
 rw [Ae hx, Ae hy, Aop]
 simp only [Option.bind_some]
 have key : ∀ hi lo : Int, Al (D3 p lo hi) (0, Av Int) = some (p.map fun z => if z = hi then lo else z) := fun hi lo =>
  Dm (body := D3 p lo hi) (fun i => ((i : Int), (p.take i).map fun z => if z = hi then lo else z)) p.length _ (fun i hi' => by
   unfold D3
   dsimp only
   rw [if_pos (by omega), Ae (by omega), Int.toNat_natCast, Jo hi', List.map_append]
   by_cases hz : nth p i = hi
   ·rw [if_pos hz, Ae (by rw [Bc, List.length_map, List.length_take]; simp; omega), Ae (by unfold InI; omega)]
    simp only [List.map_cons, List.map_nil, if_pos hz]
    rfl
   ·rw [if_neg hz, Ae (by omega), Ae (by rw [Bc, List.length_map, List.length_take]; simp; omega), Ae (by unfold InI; omega)]
    simp only [List.map_cons, List.map_nil, if_neg hz]
    rfl) (by
   unfold D3
   dsimp only
   rw [if_neg (by omega), List.take_length])
 rw [key]
 rfl
def Rel (n : Nat) (s t : Bool × Bool × List Int) (D : Prop) : Prop :=
 okP n t.2.2 ∧ leP t.2.2 s.2.2 ∧ ((t = s ∧ D) ∨ (t.2.2 ≠ s.2.2 ∧ t.1 = true ∧ t.2.1 = true ∧ ¬ D))
theorem Rel.congr {n : Nat} {s t : Bool × Bool × List Int} {D E : Prop} (h : Rel n s t D) (e : D ↔ E) : Rel n s t E := by
 rw [← propext e]; exact h
theorem Rel.comp {n : Nat} {s t r : Bool × Bool × List Int} {D E E' : Prop} (h : Rel n s t D) (h' : Rel n t r E) (hE : t = s → (E ↔ E')) : Rel n s r (D ∧ E') := by
 obtain ⟨_, a2, a3⟩ := h
 obtain ⟨b1, b2, b3⟩ := h'
 refine ⟨b1, b2.trans a2, ?_⟩
 rcases a3 with ⟨e, d⟩ | ⟨e, d1, d2, d3⟩
 ·have hE := hE e
  rw [e] at b3
  rcases b3 with ⟨e', x⟩ | ⟨e', x1, x2, x3⟩
  ·exact .inl ⟨e', d, hE.1 x⟩
  ·exact .inr ⟨e', x1, x2, fun hh => x3 (hE.2 hh.2)⟩
 ·have hne : r.2.2 ≠ s.2.2 := fun hh => e (leP.anti a2 (by rw [← hh]; exact b2))
  rcases b3 with ⟨e', _⟩ | ⟨_, x1, x2, _⟩
  ·rw [e'] at hne ⊢
   exact .inr ⟨hne, d1, d2, fun hh => d3 hh.1⟩
  ·exact .inr ⟨hne, x1, x2, fun hh => d3 hh.1⟩
theorem Ag6 {σ : Type} {n : Nat} {body : σ → Option (σ ⊕ (Bool × Bool × List Int))} (st : Nat → Bool × Bool × List Int → σ) (N : Nat) (C : Nat → List Int → Prop)
  (h : ∀ i s, i < N → okP n s.2.2 → ∃ s', body (st i s) = some (.inl (st (i + 1) s')) ∧ Rel n s s' (C i s.2.2))
  (he : ∀ s, okP n s.2.2 → body (st N s) = some (.inr s)) (s : Bool × Bool × List Int) (hs : okP n s.2.2) : ∃ s', Al body (st 0 s) = some s' ∧ Rel n s s' (∀ i, i < N → C i s.2.2) := by
 have key : ∀ k, k ≤ N → ∀ s, okP n s.2.2 → ∃ s', Al body (st (N - k) s) = some s' ∧ Rel n s s' (∀ i, N - k ≤ i → i < N → C i s.2.2) := by
  intro k
  induction k with
  | zero =>
    intro _ s hs
    exact ⟨s, Li (he s hs), hs, leP.refl _, .inl ⟨rfl, fun i h1 h2 => by omega⟩⟩
  | succ k ih =>
    intro hk s hs
    obtain ⟨t, e1, r1⟩ := h (N - (k + 1)) s (by omega) hs
    obtain ⟨r, e2, r2⟩ := ih (by omega) t r1.1
    have e : N - (k + 1) + 1 = N - k := by omega
    refine ⟨r, by rw [Np e1, e]; exact e2, ?_⟩
    refine (Rel.comp r1 r2 (E' := ∀ i, N - k ≤ i → i < N → C i s.2.2) (fun hh => by rw [hh])).congr ?_
    constructor
    ·rintro ⟨h1, h2⟩ i h3 h4
     by_cases hi : i = N - (k + 1)
     ·subst hi; exact h1
     ·exact h2 i (by omega) h4
    ·intro hh
     exact ⟨hh _ (Nat.le_refl _) (by omega), fun i h1 h2 => hh i (by omega) h2⟩
 obtain ⟨r, e, hr⟩ := key N (Nat.le_refl _) s hs
 rw [Nat.sub_self] at e hr
 exact ⟨r, e, hr.congr ⟨fun hh i hi => hh i (Nat.zero_le _) hi, fun hh i _ hi => hh i hi⟩⟩
def swI (n : Nat) (p : List Int) (e i : Nat) : Int := (i : Int) + (nth p (i / n ^ e % n) - ((i / n ^ e % n : Nat) : Int)) * ((n ^ e : Nat) : Int)
theorem Ad9 (i n : Nat) : ((i / n : Nat) : Int) * (n : Int) + ((i % n : Nat) : Int) = (i : Int) := by
 rw [← Int.natCast_mul, ← Int.natCast_add, Nat.mul_comm, Nat.div_add_mod]
theorem Amq {n r i : Nat} (hi : i < n ^ (r + 1)) : i / n < n ^ r := by
 rw [Nat.pow_succ, Nat.mul_comm] at hi
 exact Nat.div_lt_of_lt_mul hi
theorem Av2 {n : Nat} : ∀ r i, i < n ^ r → Gt n (Bt n r i) = (i : Int) := by
 intro r
 induction r with
 | zero => intro i hi; have : i = 0 := by simpa using hi
           subst this; rfl
 | succ r ih =>
   intro i hi
   simp only [Bt]
   rw [Fy, ih _ (Amq hi), Ad9]
theorem Zm {n : Nat} (p : List Int) : ∀ r i k, i < n ^ r → k < r → Gt n ((Bt n r i).set k (nth p (nth (Bt n r i) k).toNat)) = swI n p (r - 1 - k) i := by
 intro r
 induction r with
 | zero => intro i k _ hk; omega
 | succ r ih =>
   intro i k hi hk
   simp only [Bt]
   have hl := E1 n r (i / n)
   by_cases hkr : k = r
   ·subst hkr
    have e1 : nth (Bt n k (i / n) ++ [((i % n : Nat) : Int)]) k = ((i % n : Nat) : Int) := by
     have := Ahh (xs := Bt n k (i / n)) (y := ((i % n : Nat) : Int))
     rw [hl] at this; exact this
    rw [e1, Int.toNat_natCast]
    have e2 : ∀ v : Int, (Bt n k (i / n) ++ [((i % n : Nat) : Int)]).set k v = Bt n k (i / n) ++ [v] := fun v => by
     rw [List.set_append, if_neg (by omega), hl, Nat.sub_self]; rfl
    rw [e2, Fy, Av2 _ _ (Amq hi)]
    unfold swI
    rw [show k + 1 - 1 - k = 0 by omega, Nat.pow_zero, Nat.div_one, Int.natCast_one, Int.mul_one]
    have := Ad9 i n
    omega
   ·have hkl : k < r := by omega
    rw [Af6 (by omega), List.set_append, if_pos (by omega), Fy, ih _ _ (Amq hi) hkl]
    unfold swI
    rw [show r + 1 - 1 - k = r - 1 - k + 1 by omega, Nat.pow_succ, Nat.div_div_eq_div_mul, Nat.mul_comm n]
    have := Ad9 i n
    rw [Int.add_mul, Int.natCast_mul, Int.mul_assoc]
    omega
theorem A0y {xs : List Int} {n v : Int} (h : Cb xs n) (hv : 0 ≤ v ∧ v < n) (k : Nat) : Cb (xs.set k v) n := by
 intro x hx
 rcases List.mem_or_eq_of_mem_set hx with hx | hx
 ·exact h x hx
 ·rw [hx]; exact hv
theorem Aro {n : Nat} (hn : 0 < n) {q : List Int} (hq : okP n q) {r i k : Nat} (hk : k < r) : Cb ((Bt n r i).set k (nth q (nth (Bt n r i) k).toNat)) n := by
 have h1 := Qr hn r i
 have h2 := h1 _ (As (show k < (Bt n r i).length by rw [E1]; exact hk))
 exact A0y h1 (hq.2 _ (As (by rw [hq.1]; omega))) k
theorem Aq0 {n : Nat} (hn : 0 < n) {q : List Int} (hq : okP n q) {r i e : Nat} (hi : i < n ^ r) (he : e < r) : ∃ c : Nat, swI n q e i = (c : Int) ∧ c < n ^ r := by
 have h1 := Zm q r i (r - 1 - e) hi (by omega)
 rw [show r - 1 - (r - 1 - e) = e by omega] at h1
 rw [← h1]
 exact Sm r _ (by rw [List.length_set, E1]) (Aro hn hq (by omega))
section
variable {a : SAlgebra} {n : Nat}
theorem opX (ga : Jv a) (hn : a.Size = n) {i : Nat} (hi : i < a.Ops.length) : ∃ r : Nat, r ≤ 3 ∧ (nth a.Ops i).Arity = r ∧ (nth a.Ops i).Table.length = n ^ r ∧ Cb (nth a.Ops i).Table n ∧ n ^ r ≤ 512 ∧ 0 < n ∧ n ≤ 8 := by
 have hn' : a.Size.toNat = n := by omega
 have h1 := ga.1
 have h2 := ga.2.1
 obtain ⟨b1, b2, b3, b4⟩ := ga.2.2.2 _ (As hi)
 rw [hn'] at b3 b4
 exact ⟨(nth a.Ops i).Arity.toNat, by omega, by omega, b3, b4, Ahi (by omega) (by omega), by omega, by omega⟩
def Adg (a : SAlgebra) (n o e i : Nat) (q : List Int) : Prop := nth q (nth (nth a.Ops o).Table i).toNat = nth q (nth (nth a.Ops o).Table (swI n q e i).toNat).toNat
def Aet (a : SAlgebra) (n : Nat) (q : List Int) : Prop := ∀ o, o < a.Ops.length → ∀ e, e < (nth a.Ops o).Arity.toNat → ∀ i, i < (nth a.Ops o).Table.length → Adg a n o e i q
theorem Aw6 (ga : Jv a) (hn : a.Size = n) {o e : Nat} (ho : o < a.Ops.length) (he : e < (nth a.Ops o).Arity.toNat) (s : Bool × Bool × List Int) (hs : okP n s.2.2) :
  ∃ s', Al (B0 a (o : Int) (e : Int) ((n ^ e : Nat) : Int)) (0, s.1, s.2.1, s.2.2) = some s' ∧ Rel n s s' (∀ i, i < (nth a.Ops o).Table.length → Adg a n o e i s.2.2) := by
 obtain ⟨r, r3, hr, hT, hTi, h512, hn0, hn8⟩ := opX ga hn ho
 refine Ag6 (body := B0 a (o : Int) (e : Int) ((n ^ e : Nat) : Int)) (fun i s => ((i : Int), s.1, s.2.1, s.2.2)) (nth a.Ops o).Table.length (fun i q => Adg a n o e i q) (fun i s hi hs => ?_) (fun s hs => ?_) s hs
 ·obtain ⟨c, w, q⟩ := s
  dsimp only at hs ⊢
  obtain ⟨x, ex⟩ : ∃ x, x = i / n ^ e % n := ⟨_, rfl⟩
  have hx : x < n := by rw [ex]; exact Nat.mod_lt _ hn0
  obtain ⟨y, ey⟩ : ∃ y, y = i / n ^ e := ⟨_, rfl⟩
  have c1 : (i : Int).tdiv ((n ^ e : Nat) : Int) = (y : Int) := by rw [ey]; rfl
  have c2 : (y : Int).tmod (n : Int) = (x : Int) := by rw [ex, ey]; rfl
  have sw : swI n q e i = (i : Int) + (nth q x - (x : Int)) * ((n ^ e : Nat) : Int) := by rw [ex]; rfl
  obtain ⟨d, hd, hd2⟩ := Aq0 hn0 hs (r := r) (i := i) (by omega) (show e < r by omega)
  have hok : Adg a n o e i q ↔ nth q (nth (nth a.Ops o).Table i).toNat = nth q (nth (nth a.Ops o).Table d).toNat := by
   unfold Adg; rw [hd, Int.toNat_natCast]
  rw [sw] at hd
  have hpow : 0 < n ^ e := Nat.pow_pos hn0
  have hq := hs.2 _ (As (show x < q.length by rw [hs.1]; exact hx))
  have hsl := hs.1
  have y1 := hTi _ (As (show i < (nth a.Ops o).Table.length from hi))
  have y2 := hTi _ (As (show d < (nth a.Ops o).Table.length by omega))
  have hdiv : y ≤ i := by rw [ey]; exact Nat.div_le_self _ _
  have hu := Ax9 (p := q) (by omega) (X := nth (nth a.Ops o).Table i) (Y := nth (nth a.Ops o).Table d) (by omega) (by omega)
  unfold B0
  dsimp only
  simp only [hn, c1, c2, Int.toNat_natCast, hd]
  rw [if_pos (by omega), Ae (by omega), Ae (by unfold InI; omega), Ae (by omega), Ae (by omega), Ae (by unfold InI; omega), Ae (by unfold InI; omega), Ae (by unfold InI; omega), Ae (by omega), hu]
  simp only [Option.bind_some]
  by_cases hk : nth q (nth (nth a.Ops o).Table i).toNat = nth q (nth (nth a.Ops o).Table d).toNat
  ·rw [decide_eq_false (fun hh => hh hk), if_neg (by simp), Ae (by unfold InI; omega), hk, Aw0]
   exact ⟨(c, w, q), rfl, hs, leP.refl _, .inl ⟨rfl, hok.2 hk⟩⟩
  ·rw [decide_eq_true hk, if_pos rfl, Ae (by unfold InI; omega)]
   refine ⟨(true, true, _), rfl, Ao0 hs (by omega) (by omega), Awp _ _ _, .inr ⟨fun hh => ?_, rfl, rfl, fun hh => hk (hok.1 hh)⟩⟩
   exact hk ((Awr (leP.refl q) (by omega) (by omega)).1 hh).2
 ·unfold B0
  dsimp only
  rw [Int.toNat_natCast, if_neg (by omega)]
theorem Aug (ga : Jv a) (hn : a.Size = n) {o : Nat} (ho : o < a.Ops.length) (s : Bool × Bool × List Int) (hs : okP n s.2.2) :
  ∃ s', Al (Bz a (o : Int)) (0, 1, s.1, s.2.1, s.2.2) = some s' ∧ Rel n s s' (∀ e, e < (nth a.Ops o).Arity.toNat → ∀ i, i < (nth a.Ops o).Table.length → Adg a n o e i s.2.2) := by
 obtain ⟨r, r3, hr, hT, hTi, h512, hn0, hn8⟩ := opX ga hn ho
 refine Ag6 (body := Bz a (o : Int)) (fun e s => ((e : Int), ((n ^ e : Nat) : Int), s.1, s.2.1, s.2.2)) (nth a.Ops o).Arity.toNat (fun e q => ∀ i, i < (nth a.Ops o).Table.length → Adg a n o e i q) (fun e s he hs => ?_) (fun s hs => ?_) s hs
 ·obtain ⟨s', e1, r1⟩ := Aw6 ga hn ho he s hs
  refine ⟨s', ?_, r1⟩
  unfold Bz
  dsimp only
  have hp : n ^ e * n ≤ 512 := by rw [← Nat.pow_succ]; exact Ahi hn8 (by omega)
  have hp' : ((n ^ e : Nat) : Int) * (n : Int) = ((n ^ e * n : Nat) : Int) := by rw [Int.natCast_mul]
  rw [Int.toNat_natCast, if_pos (by omega), e1]
  simp only [Option.bind_some]
  rw [hn, hp', Ae (by unfold InI; omega), Ae (by unfold InI; omega), Nat.pow_succ]
  rfl
 ·unfold Bz
  dsimp only
  rw [Int.toNat_natCast, if_neg (by omega)]
theorem At8 (ga : Jv a) (hn : a.Size = n) (s : Bool × Bool × List Int) (hs : okP n s.2.2) :
  ∃ s', Al (Bx a) (0, s.1, s.2.1, s.2.2) = some s' ∧ Rel n s s' (Aet a n s.2.2) := by
 refine Ag6 (body := Bx a) (fun o s => ((o : Int), s.1, s.2.1, s.2.2)) a.Ops.length (fun o q => ∀ e, e < (nth a.Ops o).Arity.toNat → ∀ i, i < (nth a.Ops o).Table.length → Adg a n o e i q) (fun o s ho hs => ?_) (fun s hs => ?_) s hs
 ·obtain ⟨s', e1, r1⟩ := Aug ga hn ho s hs
  refine ⟨s', ?_, r1⟩
  unfold Bx
  dsimp only
  have := ga.2.2.1
  rw [if_pos (by omega), Ae (by omega), e1]
  simp only [Option.bind_some]
  rw [Ae (by unfold InI; omega)]
  rfl
 ·unfold Bx
  dsimp only
  rw [if_neg (by omega)]
def wgt (q : List Int) : Nat := (q.map Int.toNat).sum
theorem Azx : ∀ xs ys : List Int, xs.length = ys.length → (∀ i, i < ys.length → nth xs i ≤ nth ys i) → (∀ x ∈ xs, 0 ≤ x) → wgt xs ≤ wgt ys ∧ (xs ≠ ys → wgt xs < wgt ys) := by
 intro xs
 induction xs with
 | nil =>
   intro ys hl _ _
   have : ys = [] := List.length_eq_zero_iff.1 hl.symm
   subst this
   exact ⟨Nat.le_refl _, fun h => (h rfl).elim⟩
 | cons x r ih =>
   intro ys hl h h0
   match ys, hl with
   | y :: t, hl =>
     have h1 : x ≤ y := h 0 (by simp)
     have h2 := h0 x (by simp)
     obtain ⟨h3, h4⟩ := ih t (by simpa using hl) (fun i hi => h (i + 1) (by simpa using hi)) (fun z hz => h0 z (by simp [hz]))
     have e1 : wgt (x :: r) = x.toNat + wgt r := rfl
     have e2 : wgt (y :: t) = y.toNat + wgt t := rfl
     refine ⟨by omega, fun hne => ?_⟩
     by_cases hxy : x = y
     ·have := h4 (fun hh => hne (by rw [hxy, hh]))
      omega
     ·omega
theorem Aey (ga : Jv a) (hn : a.Size = n) {p : List Int} (hp : okP n p) : ∃ q, Eb a p = some (decide (¬ Aet a n p), q) := by
 unfold Eb
 obtain ⟨t, ht, hpost⟩ := B8 (body := Dg a) (fun s => okP n s.2.2 ∧ ((s.1 = true ∧ ((s.2.2 = p ∧ s.2.1 = false) ∨ (leP s.2.2 p ∧ s.2.2 ≠ p ∧ s.2.1 = true ∧ ¬ Aet a n p))) ∨ (s.1 = false ∧ s.2.1 = decide (¬ Aet a n p))))
  (fun s => if s.1 = true then 1 + wgt s.2.2 else 0) (fun t => t.1 = decide (¬ Aet a n p)) (by
  rintro ⟨c, w, q⟩ ⟨h1, h2⟩
  dsimp only at h1 h2
  unfold Dg
  dsimp only
  rcases h2 with ⟨hc, h2⟩ | ⟨hc, h2⟩
  ·subst hc
   obtain ⟨s', e1, r1, r2, r3⟩ := At8 ga hn (false, w, q) h1
   dsimp only at e1 r2 r3
   rw [if_pos rfl, e1]
   simp only [Option.bind_some]
   obtain ⟨c', w', q'⟩ := s'
   dsimp only at r1 r2 r3
   rcases r3 with ⟨r3, r4⟩ | ⟨r3, r4, r5, r6⟩
   ·cases r3
    refine .inl ⟨_, rfl, ⟨h1, .inr ⟨rfl, ?_⟩⟩, by simp; omega⟩
    rcases h2 with ⟨h2, h3⟩ | ⟨_, _, h3, h4⟩
    ·subst h2
     rw [h3, decide_eq_false (fun hh => hh r4)]
    ·rw [h3, decide_eq_true h4]
   ·subst r4 r5
    have hlt := (Azx q' q r2.1 r2.2 (fun z hz => (r1.2 z hz).1)).2 r3
    refine .inl ⟨_, rfl, ⟨r1, .inl ⟨rfl, .inr ?_⟩⟩, by simp; exact hlt⟩
    rcases h2 with ⟨h2, h3⟩ | ⟨h2, h2', h3, h4⟩
    ·subst h2
     exact ⟨r2, r3, rfl, r6⟩
    ·exact ⟨r2.trans h2, fun hh => r3 (leP.anti r2 (by dsimp only at hh; rw [hh]; exact h2)), rfl, h4⟩
  ·subst hc
   rw [if_neg (by simp)]
   exact .inr ⟨_, rfl, h2⟩) (s := (true, false, p)) ⟨hp, .inl ⟨rfl, .inl ⟨rfl, rfl⟩⟩⟩
 rw [ht]
 exact ⟨t.2, by simp only [Option.bind_some]; rw [← hpost]⟩
theorem Aed {body : (Int × List Int) → Option ((Int × List Int) ⊕ List Int)} (p : List Int) (N : Nat) (C : Nat → Prop)
  (h : ∀ (i : Nat) (q : List Int), i < N → leP q p → ∃ q', body ((i : Int), q) = some (.inl (((i + 1 : Nat) : Int), q')) ∧ leP q' p ∧ (q' = p ↔ q = p ∧ C i))
  (he : ∀ q : List Int, body ((N : Int), q) = some (.inr q)) (q : List Int) (hq : leP q p) : ∃ r, Al body (0, q) = some r ∧ leP r p ∧ (r = p ↔ q = p ∧ ∀ i, i < N → C i) := by
 have key : ∀ k, k ≤ N → ∀ q, leP q p → ∃ r, Al body (((N - k : Nat) : Int), q) = some r ∧ leP r p ∧ (r = p ↔ q = p ∧ ∀ i, N - k ≤ i → i < N → C i) := by
  intro k
  induction k with
  | zero =>
    intro _ q hq
    exact ⟨q, Li (he q), hq, fun hh => ⟨hh, fun i h1 h2 => by omega⟩, fun hh => hh.1⟩
  | succ k ih =>
    intro hk q hq
    obtain ⟨q', e1, h1, h2⟩ := h (N - (k + 1)) q (by omega) hq
    obtain ⟨r, e2, h3, h4⟩ := ih (by omega) q' h1
    have e : N - (k + 1) + 1 = N - k := by omega
    refine ⟨r, by rw [Np e1, e]; exact e2, h3, ?_⟩
    rw [h4, h2]
    constructor
    ·rintro ⟨⟨x1, x2⟩, x3⟩
     refine ⟨x1, fun i h5 h6 => ?_⟩
     by_cases hi : i = N - (k + 1)
     ·subst hi; exact x2
     ·exact x3 i (by omega) h6
    ·rintro ⟨x1, x2⟩
     exact ⟨⟨x1, x2 _ (Nat.le_refl _) (by omega)⟩, fun i h5 h6 => x2 i (by omega) h6⟩
 obtain ⟨r, e, h1, h2⟩ := key N (Nat.le_refl _) q hq
 rw [Nat.sub_self] at e h2
 exact ⟨r, e, h1, h2.trans ⟨fun hh => ⟨hh.1, fun i hi => hh.2 i (Nat.zero_le _) hi⟩, fun hh => ⟨hh.1, fun i _ hi => hh.2 i hi⟩⟩⟩
theorem Ayo (ga : Jv a) (hn : a.Size = n) {p : List Int} (hp : okP n p) {o r i : Nat} (ho : o < a.Ops.length) (hr : (nth a.Ops o).Arity = r) (hi : i < (nth a.Ops o).Table.length) (q : List Int) (hq : leP q p) :
  ∃ t, Al (Cg a p (o : Int) (i : Int) (Bt n r i)) (0, q) = some t ∧ leP t p ∧ (t = p ↔ q = p ∧ ∀ k, k < r → Adg a n o (r - 1 - k) i p) := by
 obtain ⟨r', r3, hr', hT, hTi, h512, hn0, hn8⟩ := opX ga hn ho
 obtain rfl : r = r' := by omega
 have hal := E1 n r i
 refine Aed (body := Cg a p (o : Int) (i : Int) (Bt n r i)) p r (fun k => Adg a n o (r - 1 - k) i p) (fun k q hk hq => ?_) (fun q => ?_) q hq
 ·have hin := Aro hn0 hp (i := i) hk
  have hsw := Zm (n := n) p r i k (by omega) hk
  obtain ⟨c, hc, hc2⟩ := Aq0 hn0 hp (r := r) (i := i) (e := r - 1 - k) (by omega) (by omega)
  have y0 := Qr hn0 r i _ (As (show k < (Bt n r i).length by omega))
  have y1 := hTi _ (As (show i < (nth a.Ops o).Table.length from hi))
  have y2 := hTi _ (As (show c < (nth a.Ops o).Table.length by omega))
  have hql := hq.1
  have hpl := hp.1
  have hv := Atd hn8 hn ho (xs := (Bt n r i).set k (nth p (nth (Bt n r i) k).toNat)) (by rw [List.length_set]; omega) hin (by rw [List.length_set, hal]; exact hT)
  rw [hsw, hc, Int.toNat_natCast] at hv
  have hu := Vk (p := q) (by omega) (X := nth (nth a.Ops o).Table i) (Y := nth (nth a.Ops o).Table c) (by omega) (by omega)
  unfold Cg
  dsimp only
  rw [if_pos (by omega), Als _ (by rw [Bc]; omega)]
  simp only [Option.bind_some, Int.toNat_natCast]
  rw [Ae (by omega), Ae (by omega), Ae (by omega), Ae (by omega), Ae (by omega), hv]
  simp only [Option.bind_some]
  rw [hu]
  simp only [Option.bind_some]
  rw [Ae (by unfold InI; omega)]
  refine ⟨_, rfl, (Awp _ _ _).trans hq, (Awr hq (by omega) (by omega)).trans ?_⟩
  unfold Adg
  rw [hc, Int.toNat_natCast]
 ·unfold Cg
  dsimp only
  rw [if_neg (by omega)]
theorem Axz (ga : Jv a) (hn : a.Size = n) {p : List Int} (hp : okP n p) {o r : Nat} (ho : o < a.Ops.length) (hr : (nth a.Ops o).Arity = r) (q : List Int) (hq : leP q p) :
  ∃ t, Al (Ci a p (o : Int)) (0, q) = some t ∧ leP t p ∧ (t = p ↔ q = p ∧ ∀ i, i < (nth a.Ops o).Table.length → ∀ k, k < r → Adg a n o (r - 1 - k) i p) := by
 obtain ⟨r', r3, hr', hT, hTi, h512, hn0, hn8⟩ := opX ga hn ho
 obtain rfl : r = r' := by omega
 refine Aed (body := Ci a p (o : Int)) p (nth a.Ops o).Table.length (fun i => ∀ k, k < r → Adg a n o (r - 1 - k) i p) (fun i q hi hq => ?_) (fun q => ?_) q hq
 ·obtain ⟨t, e1, e2, e3⟩ := Ayo ga hn hp ho hr hi q hq
  refine ⟨t, ?_, e2, e3⟩
  unfold Ci
  dsimp only
  rw [Ae (by omega), Int.toNat_natCast, if_pos (by omega), Ae (by omega), hn, hr, Apu hn0 hn8 r3 (by omega)]
  simp only [Option.bind_some]
  rw [e1]
  simp only [Option.bind_some]
  rw [Ae (by unfold InI; omega)]
  rfl
 ·unfold Ci
  dsimp only
  rw [Ae (by omega), Int.toNat_natCast, if_neg (by omega)]
theorem Au9 (ga : Jv a) (hn : a.Size = n) {p : List Int} (hp : okP n p) : ∃ t, Fu a p = some t ∧ t.length = n ∧ (t = p ↔ Aet a n p) := by
 have h8 := ga.2.1
 have hpl := hp.1
 unfold Fu
 rw [Als _ (by rw [Bc]; omega)]
 simp only [Option.bind_some]
 obtain ⟨t, e1, e2, e3⟩ := Aed (body := C5 a p) p a.Ops.length (fun o => ∀ i, i < (nth a.Ops o).Table.length → ∀ k, k < (nth a.Ops o).Arity.toNat → Adg a n o ((nth a.Ops o).Arity.toNat - 1 - k) i p) (fun o q ho hq => by
  obtain ⟨r, r3, hr, _⟩ := opX ga hn ho
  obtain ⟨t, e1, e2, e3⟩ := Axz ga hn hp ho (show (nth a.Ops o).Arity = ((nth a.Ops o).Arity.toNat : Nat) by omega) q hq
  refine ⟨t, ?_, e2, e3⟩
  unfold C5
  dsimp only
  have := ga.2.2.1
  rw [if_pos (by omega), e1]
  simp only [Option.bind_some]
  rw [Ae (by unfold InI; omega)]
  rfl) (fun q => by
  unfold C5
  dsimp only
  rw [if_neg (by omega)]) p (leP.refl p)
 rw [e1]
 refine ⟨t, rfl, by rw [e2.1]; exact hpl, e3.trans ?_⟩
 constructor
 ·rintro ⟨_, h⟩ o ho e he i hi
  have := h o ho i hi ((nth a.Ops o).Arity.toNat - 1 - e) (by omega)
  rw [show (nth a.Ops o).Arity.toNat - 1 - ((nth a.Ops o).Arity.toNat - 1 - e) = e by omega] at this
  exact this
 ·intro h
  exact ⟨rfl, fun o ho i hi k hk => h o ho _ (by omega) i hi⟩
def Avo (a : SAlgebra) (n : Nat) (p : List Int) : Prop := Gu n p ∧ Aet a n p
theorem Aha (ga : Jv a) (hn : a.Size = n) {p : List Int} (hl : p.length ≤ 1048576) : Fl a p = some (decide (Avo a n p)) := by
 unfold Fl
 rw [hn, Z9 hl]
 simp only [Option.bind_some]
 by_cases h : Gu n p
 ·rw [decide_eq_true h, if_pos rfl]
  unfold Qf
  rw [Ae (by rw [Bc]; show 0 + p.length ≤ _; omega)]
  simp only [Option.bind_some]
  obtain ⟨q, e⟩ := Aey ga hn (p := p) ⟨h.1, h.inS⟩
  rw [show Av Int ++ p = p from rfl, e]
  simp only [Option.bind_some]
  by_cases hk : Aet a n p
  ·rw [decide_eq_false (fun hh => hh hk), decide_eq_true (show Avo a n p from ⟨h, hk⟩)]; rfl
  ·rw [decide_eq_true hk, decide_eq_false (fun hh : Avo a n p => hk hh.2)]; rfl
 ·rw [decide_eq_false h, if_neg (by simp), decide_eq_false (fun hh : Avo a n p => h hh.1)]
end
end Go.Proofs.Ytcpgnfohmeineaa.Ax
namespace Go.Proofs.Ytcpgnfohmeineaa.Ax
open Go Classical
section
variable {n : Nat} {f : Nat → Nat → Bool}
end
section
variable {n m : Nat} {f g : Nat → Nat → Bool}
end
end Go.Proofs.Ytcpgnfohmeineaa.Ax
namespace Go.Proofs.Ytcpgnfohmeineaa.Ax
open Go
def Cur (k : Nat) (c : Sl1Cur) : Prop := (∀ x ∈ c.code, 0 ≤ x ∧ x ≤ 255) ∧ c.code.length ≤ 65536 ∧ 0 ≤ c.at_ ∧ c.at_ ≤ k
theorem Cur.mono {k l : Nat} {c : Sl1Cur} (h : Cur k c) (hl : k ≤ l) : Cur l c := ⟨h.1, h.2.1, h.2.2.1, by have := h.2.2.2; omega⟩
theorem Awd {n : Int} (h0 : 0 ≤ n) (h1 : n ≤ 255) : IntKind.u64.wrap n = n := by
 simp [IntKind.wrap, IntKind.bits, IntKind.signed]
 omega
theorem Alk {c : Sl1Cur} {k : Nat} (h : Cur k c) (hk : k ≤ 1000000000) : ∃ r d, Fe c = some (r, d) ∧ Cur (k + 1) d ∧ 0 ≤ r ∧ r ≤ 255 := by
 obtain ⟨h1, h2, h3, h4⟩ := h
 unfold Fe
 have fin : ∀ q : Int, 0 ≤ q → q ≤ 255 → ∃ r d, (ask (InI (c.at_ + 1)) <|
   if c.at_ + 1 ≤ (c.code.length : Int) then
    some (q, ({ code := c.code, at_ := c.at_ + 1, seed := IntKind.u64.wrap (IntKind.u64.wrap (IntKind.u64.wrap (c.seed * 6364136223846793005) + IntKind.u64.wrap q) + 550289) } : Sl1Cur))
   else some (IntKind.i64.wrap (IntKind.u64.wrap (((BitVec.ofInt IntKind.u64.bits ((IntKind.u64.wrap (IntKind.u64.wrap (IntKind.u64.wrap (c.seed * 6364136223846793005) + IntKind.u64.wrap q) + 550289)).fdiv (2 ^ min (Int.toNat 40) IntKind.u64.bits)) &&& BitVec.ofInt IntKind.u64.bits 255).toNat : Nat) : Int)),
    ({ code := c.code, at_ := c.at_ + 1, seed := IntKind.u64.wrap (IntKind.u64.wrap (IntKind.u64.wrap (c.seed * 6364136223846793005) + IntKind.u64.wrap q) + 550289) } : Sl1Cur))) = some (r, d) ∧ Cur (k + 1) d ∧ 0 ≤ r ∧ r ≤ 255 := by
  intro q hq0 hq1
  rw [Ae (by unfold InI; omega)]
  split
  ·exact ⟨_, _, rfl, ⟨h1, h2, by show 0 ≤ c.at_ + 1; omega, by show c.at_ + 1 ≤ ((k + 1 : Nat) : Int); omega⟩, hq0, hq1⟩
  ·refine ⟨_, _, rfl, ⟨h1, h2, by show 0 ≤ c.at_ + 1; omega, by show c.at_ + 1 ≤ ((k + 1 : Nat) : Int); omega⟩, ?_⟩
   generalize BitVec.ofInt IntKind.u64.bits ((IntKind.u64.wrap (IntKind.u64.wrap (IntKind.u64.wrap (c.seed * 6364136223846793005) + IntKind.u64.wrap q) + 550289)).fdiv (2 ^ min (Int.toNat 40) IntKind.u64.bits)) = b
   have hb : (b &&& BitVec.ofInt IntKind.u64.bits 255).toNat ≤ 255 := by
    rw [BitVec.toNat_and]
    have : (BitVec.ofInt IntKind.u64.bits 255).toNat = 255 := by decide
    rw [this]
    exact Nat.and_le_right
   generalize (b &&& BitVec.ofInt IntKind.u64.bits 255).toNat = z at hb
   rw [Awd (by omega) (by omega), Zl (by omega) (by omega)]
   omega
 by_cases hc : c.at_ < (c.code.length : Int)
 ·rw [if_pos hc, Ae ⟨h3, hc⟩]
  have hm := h1 _ (As (xs := c.code) (i := c.at_.toNat) (by omega))
  rw [Zl (by omega) (by omega)]
  simp only [Option.bind_some]
  exact fin _ hm.1 hm.2
 ·rw [if_neg hc]
  simp only [Option.bind_some]
  exact fin 0 (by omega) (by omega)
theorem C7 {c : Sl1Cur} {k : Nat} (h : Cur k c) (hk : k ≤ 900000000) (n : Int) : ∃ r d, Ar c n = some (r, d) ∧ Cur (k + 2) d ∧ 0 ≤ r ∧ (r < n ∨ (n ≤ 1 ∧ r = 0)) := by
 unfold Ar
 by_cases h1 : n ≤ 1
 ·rw [if_pos h1]; exact ⟨0, c, rfl, h.mono (by omega), by omega, .inr ⟨h1, rfl⟩⟩
 ·rw [if_neg h1]
  obtain ⟨r, d, e, hd, a1, a2⟩ := Alk h (by omega)
  simp only [e, Option.bind_some]
  by_cases h2 : n > 200
  ·rw [if_pos h2, Ae (by unfold InI; omega)]
   obtain ⟨r2, d2, e2, hd2, b1, b2⟩ := Alk hd (by omega)
   simp only [e2, Option.bind_some]
   rw [Ae (by unfold InI; omega), Ae (by omega)]
   refine ⟨_, _, rfl, hd2, Int.tmod_nonneg _ (by omega), .inl ?_⟩
   exact Int.tmod_lt_of_pos _ (by omega)
  ·rw [if_neg h2, Ae (by omega)]
   refine ⟨_, _, rfl, hd.mono (by omega), Int.tmod_nonneg _ (by omega), .inl ?_⟩
   exact Int.tmod_lt_of_pos _ (by omega)
theorem R2 {c : Sl1Cur} {k : Nat} (h : Cur k c) (hk : k ≤ 900000000) (n : Int) : ∃ b d, Bm c n = some (b, d) ∧ Cur (k + 2) d := by
 unfold Bm
 obtain ⟨r, d, e, hd, _, _⟩ := C7 h hk n
 simp only [e, Option.bind_some]
 exact ⟨_, _, rfl, hd⟩
theorem Eg {c : Sl1Cur} {k : Nat} (h : Cur k c) (hk : k ≤ 900000000) (l : List Int) (h0 : 0 < l.length) : ∃ r d, A1 c l = some (r, d) ∧ Cur (k + 2) d ∧ r ∈ l := by
 unfold A1
 obtain ⟨r, d, e, hd, a1, a2⟩ := C7 h hk (l.length : Int)
 simp only [e, Option.bind_some]
 rw [Ae (by omega)]
 exact ⟨_, _, rfl, hd, As (by omega)⟩
open Classical
end Go.Proofs.Ytcpgnfohmeineaa.Ax
namespace Go.Proofs.Ytcpgnfohmeineaa.Ax
open Go Classical
section
variable {n m : Nat} {f g : Nat → Nat → Bool}
end
end Go.Proofs.Ytcpgnfohmeineaa.Ax
namespace Go.Proofs.Ytcpgnfohmeineaa.Ax
open Go Classical
section
end
section
variable {n m : Nat} {f g : Nat → Nat → Bool}
end
end Go.Proofs.Ytcpgnfohmeineaa.Ax
namespace Go.Proofs.Ytcpgnfohmeineaa.Ax
open Go Classical
def Ax1 (H : List Bool) : Nat := H.count true
section
variable {a : SAlgebra}
structure ReadyA (a : SAlgebra) (n : Nat) : Prop where
 good : Jv a
 sz : a.Size = (n : Int)
 pos : 0 < n
 le : n ≤ 8
structure Pass (n : Nat) (G : Nat → Bool) (c0 : Bool) (H0 : List Bool) (c : Bool) (H : List Bool) (done : (Nat → Bool) → Prop) : Prop where
 len : H.length = n
 more : ∀ z, nth H0 z = true → nth H z = true
 low : ∀ z, nth H z = true → G z = true
 up : c = true → c0 = true ∨ Ax1 H0 < Ax1 H
 no : c = false → c0 = false ∧ H = H0 ∧ done (nth H)
 mono : Ax1 H0 ≤ Ax1 H
end
end Go.Proofs.Ytcpgnfohmeineaa.Ax
namespace Go.Proofs.Ytcpgnfohmeineaa.Ax
open Go Classical
theorem Ath {α β : Type} {o : Option α} {k : α → Option β} {Q : α → Prop} {R : β → Prop} (h : ∃ a, o = some a ∧ Q a) (h2 : ∀ a, Q a → ∃ b, k a = some b ∧ R b) : ∃ b, o.bind k = some b ∧ R b := by
 obtain ⟨a, e, hq⟩ := h
 rw [e]; exact h2 a hq
theorem A0g {β : Type} {c : Prop} [Decidable c] {x y : Option β} {R : β → Prop} (h1 : c → ∃ b, x = some b ∧ R b) (h2 : ¬ c → ∃ b, y = some b ∧ R b) : ∃ b, (if c then x else y) = some b ∧ R b := by
 split
 ·exact h1 ‹_›
 ·exact h2 ‹_›
def X5 (a : SAlgebra) : Prop := a.Ops.length ≤ 10 ∧ ∀ f ∈ a.Ops, f.Table.length ≤ 101
theorem Afk {a : SAlgebra} (h : X5 a) : Ag4 a := ⟨by have := h.1; omega, fun f hf => by have := h.2 f hf; omega⟩
theorem Apr (s : ByteArray) (hs : s.size ≤ 100) : ∃ f, A9 s = some f ∧ f.Table.length ≤ 100 := by
 have hL := Bc
 unfold A9
 obtain ⟨f, e, hf⟩ := B8 (body := Gd s) (fun t => ∃ j : Nat, t.1 = (j : Int) ∧ j ≤ s.size ∧ t.2.Table.length ≤ j) (fun t => s.size - t.1.toNat) (fun f => f.Table.length ≤ 100) (fun t ht => by
  obtain ⟨x4, x3⟩ := t
  obtain ⟨j, g1, g2, g3⟩ := ht
  simp only at g1 g2 g3
  subst g1
  unfold Gd
  dsimp only
  by_cases hj : (j : Int) < (s.size : Int)
  ·left
   rw [if_pos hj, Ae (by omega), Ae (by simp; omega), Ae (by unfold InI; omega)]
   exact ⟨_, rfl, ⟨j + 1, rfl, by omega, by simp; omega⟩, by simp only; omega⟩
  ·right
   rw [if_neg hj]
   exact ⟨_, rfl, by omega⟩) (s := ((0 : Int), ({ Arity := 2, Table := Av Int } : SOp))) ⟨0, rfl, Nat.zero_le _, by simp [Av]⟩
 rw [e]
 exact ⟨_, rfl, hf⟩
theorem Aou {n : Int} (hn : n = 2 ∨ n = 3) : ∃ f, Gn n = some f ∧ f.Table.length ≤ 100 := by
 have hL := Bc
 unfold Gn
 obtain ⟨f, e, hf⟩ := B8 (body := Gb n) (fun t => ∃ j : Nat, t.1 = (j : Int) ∧ j ≤ 27 ∧ t.2.Table.length ≤ j) (fun t => 27 - t.1.toNat) (fun f => f.Table.length ≤ 100) (fun t ht => by
  obtain ⟨x4, x3⟩ := t
  obtain ⟨j, g1, g2, g3⟩ := ht
  simp only at g1 g2 g3
  subst g1
  unfold Gb
  dsimp only
  have d1 : ∀ m : Int, (j : Int).tdiv m = (j : Int) / m := fun m => Int.tdiv_eq_ediv_of_nonneg (by omega)
  have d2 : ∀ m : Int, (j : Int).tmod m = (j : Int) % m := fun m => Int.tmod_eq_emod_of_nonneg (by omega)
  rw [d1, d1, d2]
  rcases hn with rfl | rfl
  ·have d3 : ((j : Int) / 2).tmod 2 = ((j : Int) / 2) % 2 := Int.tmod_eq_emod_of_nonneg (by omega)
   rw [d3]
   by_cases hj : (j : Int) < 2 * 2 * 2
   ·left
    rw [Ae (by unfold InI; omega), Ae (by unfold InI; omega), if_pos hj]
    rw [Ae (by unfold InI; omega), Ae (by unfold InI; omega), Ae (by unfold InI; omega), Ae (by unfold InI; omega), Ae (by omega), Ae (by unfold InI; omega), Ae (by omega), Ae (by unfold InI; omega), Ae (by omega), Ae (by simp; omega), Ae (by unfold InI; omega)]
    exact ⟨_, rfl, ⟨j + 1, rfl, by omega, by simp; omega⟩, by simp only; omega⟩
   ·right
    rw [Ae (by unfold InI; omega), Ae (by unfold InI; omega), if_neg hj]
    exact ⟨_, rfl, by omega⟩
  ·have d3 : ((j : Int) / 3).tmod 3 = ((j : Int) / 3) % 3 := Int.tmod_eq_emod_of_nonneg (by omega)
   rw [d3]
   by_cases hj : (j : Int) < 3 * 3 * 3
   ·left
    rw [Ae (by unfold InI; omega), Ae (by unfold InI; omega), if_pos hj]
    rw [Ae (by unfold InI; omega), Ae (by unfold InI; omega), Ae (by unfold InI; omega), Ae (by unfold InI; omega), Ae (by omega), Ae (by unfold InI; omega), Ae (by omega), Ae (by unfold InI; omega), Ae (by omega), Ae (by simp; omega), Ae (by unfold InI; omega)]
    exact ⟨_, rfl, ⟨j + 1, rfl, by omega, by simp; omega⟩, by simp only; omega⟩
   ·right
    rw [Ae (by unfold InI; omega), Ae (by unfold InI; omega), if_neg hj]
    exact ⟨_, rfl, by omega⟩) (s := ((0 : Int), ({ Arity := 3, Table := Av Int } : SOp))) ⟨0, rfl, Nat.zero_le _, by simp [Av]⟩
 rw [e]
 exact ⟨_, rfl, hf⟩
theorem An9 (k : Int) : ∃ a, Jn k = some a ∧ X5 a := by
 have fin0 : ∀ {z : Int}, X5 { Size := z, Ops := Av SOp } := ⟨by simp [Av], fun f hf => by simp [Av] at hf⟩
 have fin1 : ∀ {z : Int} {f : SOp}, f.Table.length ≤ 100 → X5 { Size := z, Ops := [f] } := fun h => ⟨by simp, fun f hf => by simp at hf; subst hf; omega⟩
 have fin2 : ∀ {z : Int} {f g : SOp}, f.Table.length ≤ 100 → g.Table.length ≤ 100 → X5 { Size := z, Ops := [f, g] } := fun h1 h2 => ⟨by simp, fun f hf => by
  simp only [List.mem_cons, List.not_mem_nil, or_false] at hf
  rcases hf with rfl | rfl <;> omega⟩
 have fin3 : ∀ {z : Int} {f g e : SOp}, f.Table.length ≤ 100 → g.Table.length ≤ 100 → e.Table.length ≤ 100 → X5 { Size := z, Ops := [f, g, e] } := fun h1 h2 h3 => ⟨by simp, fun f hf => by
  simp only [List.mem_cons, List.not_mem_nil, or_false] at hf
  rcases hf with rfl | rfl | rfl <;> omega⟩
 unfold Jn
 repeat' (first | refine A0g (fun _ => ?_) (fun _ => ?_) | refine Ath (Apr _ (by decide)) fun f hf => ?_ | refine Ath (Aou (by simp)) fun f hf => ?_)
 all_goals
  first
   | exact ⟨_, rfl, fin0⟩
   | exact ⟨_, rfl, fin1 (by first | assumption | decide)⟩
   | exact ⟨_, rfl, fin2 (by first | assumption | decide) (by first | assumption | decide)⟩
   | exact ⟨_, rfl, fin3 (by first | assumption | decide) (by first | assumption | decide) (by first | assumption | decide)⟩
theorem Amn {c : Sl1Cur} {k : Nat} (h : Cur k c) (hk : k ≤ 600000000) : ∃ a d, Ez c = some (a, d) ∧ Cur (k + 1000) d ∧ X5 a := by
 have hL := Bc
 unfold Ez
 obtain ⟨b, d, e, hd⟩ := R2 h (by omega) 4
 rw [e]
 simp only [Option.bind_some]
 by_cases hb : b = true
 ·rw [if_pos hb]
  obtain ⟨n, d2, e2, hd2, hn⟩ := Eg hd (by omega) [2, 2, 3, 3, 4] (by simp)
  rw [e2]
  simp only [Option.bind_some]
  obtain ⟨m, d3, e3, hd3, hm⟩ := Eg hd2 (by omega) [1, 1, 2] (by simp)
  rw [e3]
  simp only [Option.bind_some]
  obtain ⟨N, rfl, hN⟩ : ∃ N : Nat, n = (N : Int) ∧ 2 ≤ N ∧ N ≤ 4 := ⟨n.toNat, by simp at hn; omega, by simp at hn; omega⟩
  obtain ⟨M, rfl, hM⟩ : ∃ M : Nat, m = (M : Int) ∧ 1 ≤ M ∧ M ≤ 2 := ⟨m.toNat, by simp at hm; omega, by simp at hm; omega⟩
  obtain ⟨⟨a, d4⟩, e4, ⟨ha1, ha2, ha3⟩, hd4⟩ := B8 (body := Dn (N : Int)) (fun s => ∃ j : Nat, s.1 = (j : Int) ∧ j ≤ M ∧ s.2.1.Size = (N : Int) ∧ s.2.1.Ops.length = M - j ∧ (∀ f ∈ s.2.1.Ops, 1 ≤ f.Table.length ∧ f.Table.length ≤ 64) ∧ Cur (k + 6 + 200 * (M - j)) s.2.2) (fun s => s.1.toNat)
   (fun t => (t.1.Size = (N : Int) ∧ t.1.Ops.length = M ∧ ∀ f ∈ t.1.Ops, 1 ≤ f.Table.length ∧ f.Table.length ≤ 64) ∧ Cur (k + 500) t.2) (fun s hs => by
   obtain ⟨x6, x5, x1⟩ := s
   obtain ⟨j, g1, g2, g3, g4, g5, g6⟩ := hs
   simp only at g1 g2 g3 g4 g5 g6
   subst g1
   unfold Dn
   dsimp only
   by_cases hj : (j : Int) > 0
   ·left
    rw [if_pos hj]
    obtain ⟨r, d5, e5, hd5, hr⟩ := Eg g6 (by omega) [0, 1, 2, 2, 3] (by simp)
    rw [e5]
    simp only [Option.bind_some]
    obtain ⟨R, rfl, hR⟩ : ∃ R : Nat, r = (R : Int) ∧ R ≤ 3 := ⟨r.toNat, by simp at hr; omega, by simp at hr; omega⟩
    have hop : ∃ f : SOp, ((if (N : Int) = 4 then if (R : Int) = 3 then some ({ Arity := 2, Table := Av Int } : SOp) else some { Arity := (R : Int), Table := Av Int } else some { Arity := (R : Int), Table := Av Int } : Option SOp)) = some f ∧ f.Table = [] ∧ ∃ Q : Nat, f.Arity = (Q : Int) ∧ 1 ≤ N ^ Q ∧ N ^ Q ≤ 64 ∧ Q ≤ 3 := by
     by_cases h4 : (N : Int) = 4
     ·rw [if_pos h4]
      have h4 : N = 4 := by omega
      subst h4
      by_cases h3 : (R : Int) = 3
      ·rw [if_pos h3]; exact ⟨_, rfl, rfl, 2, rfl, by decide⟩
      ·rw [if_neg h3]
       refine ⟨_, rfl, rfl, R, rfl, ?_⟩
       have : R = 0 ∨ R = 1 ∨ R = 2 := by omega
       rcases this with rfl | rfl | rfl <;> decide
     ·rw [if_neg h4]
      refine ⟨_, rfl, rfl, R, rfl, ?_⟩
      have h5 : N = 2 ∨ N = 3 := by omega
      have : R = 0 ∨ R = 1 ∨ R = 2 ∨ R = 3 := by omega
      rcases h5 with rfl | rfl <;> rcases this with rfl | rfl | rfl | rfl <;> decide
    obtain ⟨f, ef, ht, Q, hQ, q1, q2, q3⟩ := hop
    rw [ef]
    simp only [Option.bind_some]
    rw [hQ, As6 (by omega) q3]
    simp only [Option.bind_some]
    obtain ⟨⟨f2, d6⟩, e6, hf2, hd6⟩ := B8 (body := Dt (N : Int) (j : Int) x5) (fun s => ∃ i : Nat, s.1 = (i : Int) ∧ i ≤ N ^ Q ∧ s.2.1.Table.length = N ^ Q - i ∧ Cur (k + 6 + 200 * (M - j) + 2 + 2 * (N ^ Q - i)) s.2.2) (fun s => s.1.toNat) (fun t => t.1.Table.length = N ^ Q ∧ Cur (k + 6 + 200 * (M - j) + 2 + 2 * N ^ Q) t.2) (fun s hs => by
     obtain ⟨x8, x7, x9⟩ := s
     obtain ⟨i, k1, k2, k3, k4⟩ := hs
     simp only at k1 k2 k3 k4
     subst k1
     unfold Dt
     dsimp only
     by_cases hi : (i : Int) > 0
     ·left
      rw [if_pos hi]
      obtain ⟨v, d7, e7, hd7, _⟩ := C7 k4 (by omega) (N : Int)
      rw [e7]
      simp only [Option.bind_some]
      rw [Ae (by simp; omega), Ae (by unfold InI; omega)]
      exact ⟨_, rfl, ⟨i - 1, by simp only; omega, by omega, by simp; omega, hd7.mono (by omega)⟩, by simp only; omega⟩
     ·right
      rw [if_neg hi]
      exact ⟨_, rfl, by simp only; omega, k4.mono (by omega)⟩) (s := (((N ^ Q : Nat) : Int), f, d5)) ⟨N ^ Q, rfl, Nat.le_refl _, by simp [ht], hd5.mono (by omega)⟩
    rw [e6]
    simp only [Option.bind_some]
    rw [Ae (by simp; omega), Ae (by unfold InI; omega)]
    simp only at hf2 hd6
    refine ⟨_, rfl, ⟨j - 1, by simp only; omega, by omega, g3, by simp; omega, fun f hf => ?_, hd6.mono (by omega)⟩, by simp only; omega⟩
    rcases List.mem_append.1 hf with h' | h'
    ·exact g5 f h'
    ·rw [List.mem_singleton.1 h']; omega
   ·right
    rw [if_neg hj]
    exact ⟨_, rfl, ⟨g3, by simp only; omega, g5⟩, g6.mono (by omega)⟩) (s := ((M : Int), ({ Size := (N : Int), Ops := Av SOp } : SAlgebra), d3)) ⟨M, rfl, Nat.le_refl _, rfl, by simp [Av], fun f hf => by simp [Av] at hf, hd3.mono (by omega)⟩
  rw [e4]
  simp only [Option.bind_some]
  simp only at ha1 ha2 ha3 hd4
  have h0 : 0 < a.Ops.length := by omega
  have hf0 := ha3 _ (As h0)
  have ht : X5 a := ⟨by omega, fun f hf => by have := ha3 f hf; omega⟩
  have hset : ∀ {z : Int} {f : SOp}, f.Table.length ≤ 101 → X5 { Size := z, Ops := a.Ops.set (Int.toNat 0) f } := fun hf => ⟨by simp; omega, fun g hg => by
   rcases List.mem_or_eq_of_mem_set hg with h' | h'
   ·have := ha3 g h'; omega
   ·rw [h']; exact hf⟩
  obtain ⟨w, d5, e5, hd5, w0, _⟩ := C7 hd4 (by omega) 16
  rw [e5]
  simp only [Option.bind_some]
  by_cases c0 : w = 0
  ·rw [if_pos c0, Ae (by unfold InI; omega)]
   obtain ⟨r, d6, e6, hd6, _⟩ := Eg hd5 (by omega) [0, 9, (N : Int) + 1] (by simp)
   rw [e6]
   exact ⟨_, _, rfl, hd6.mono (by omega), ht⟩
  rw [if_neg c0]
  by_cases c1 : w = 1
  ·rw [if_pos c1, Ae (by omega), Ae (by simp only [Int.toNat_zero, List.length_singleton]; omega)]
   exact ⟨_, _, rfl, hd5.mono (by omega), hset (by simp only [Int.toNat_zero, List.length_append, List.length_singleton]; omega)⟩
  rw [if_neg c1]
  by_cases c2 : w = 2
  ·rw [if_pos c2, Ae (by omega)]
   obtain ⟨r, d6, e6, hd6, r0, r1⟩ := C7 hd5 (by omega) ((nth a.Ops (Int.toNat 0)).Table.length : Int)
   rw [e6]
   simp only [Option.bind_some]
   obtain ⟨s, d7, e7, hd7, _⟩ := Eg hd6 (by omega) [-1, (N : Int)] (by simp)
   rw [e7]
   simp only [Option.bind_some]
   simp only [Int.toNat_zero] at r1 ⊢
   rw [Ae (by omega)]
   exact ⟨_, _, rfl, hd7.mono (by omega), hset (by simp only [List.length_set]; omega)⟩
  rw [if_neg c2]
  by_cases c3 : w = 3
  ·rw [if_pos c3]
   obtain ⟨r, d6, e6, hd6, _⟩ := Eg hd5 (by omega) [-1, 4] (by simp)
   rw [e6]
   simp only [Option.bind_some]
   rw [Ae (by omega)]
   exact ⟨_, _, rfl, hd6.mono (by omega), hset (by simp only [Int.toNat_zero]; omega)⟩
  rw [if_neg c3]
  by_cases c4 : w = 4
  ·rw [if_pos c4]
   obtain ⟨⟨a2, d6⟩, e6, ht2, hd6⟩ := B8 (body := Ds (N : Int)) (fun s => s.1.Ops.length ≤ 5 ∧ (∀ f ∈ s.1.Ops, f.Table.length ≤ 64) ∧ Cur (k + 502 + 2 * s.1.Ops.length) s.2) (fun s => 5 - s.1.Ops.length) (fun t => X5 t.1 ∧ Cur (k + 600) t.2) (fun s hs => by
    obtain ⟨x5, x1⟩ := s
    obtain ⟨g1, g2, g3⟩ := hs
    simp only at g1 g2 g3
    unfold Ds
    dsimp only
    obtain ⟨r, d7, e7, hd7, r0, r1⟩ := C7 g3 (by omega) 2
    rw [e7]
    simp only [Option.bind_some]
    rw [Ae (by unfold InI; omega)]
    by_cases hl : (x5.Ops.length : Int) < 4 + r
    ·left
     rw [if_pos hl, Ae (by omega), Ae (by simp; omega)]
     refine ⟨_, rfl, ⟨by simp; omega, fun f hf => ?_, hd7.mono (by simp; omega)⟩, by simp; omega⟩
     rcases List.mem_append.1 hf with h' | h'
     ·exact g2 f h'
     ·rw [List.mem_singleton.1 h']; simp; omega
    ·right
     rw [if_neg hl]
     exact ⟨_, rfl, ⟨by simp only; omega, fun f hf => by have := g2 f hf; omega⟩, hd7.mono (by omega)⟩) (s := (a, d5)) ⟨by simp only; omega, fun f hf => (ha3 f hf).2, hd5.mono (by omega)⟩
   rw [e6]
   exact ⟨_, _, rfl, hd6.mono (by omega), ht2⟩
  rw [if_neg c4]
  exact ⟨_, _, rfl, hd5.mono (by omega), ht⟩
 ·rw [if_neg hb]
  obtain ⟨r, d2, e2, hd2, _⟩ := C7 hd (by omega) 17
  rw [e2]
  simp only [Option.bind_some]
  obtain ⟨a, e3, ht⟩ := An9 r
  rw [e3]
  exact ⟨_, _, rfl, hd2.mono (by omega), ht⟩
theorem Amk {code : List Int} (hc : ∀ x ∈ code, 0 ≤ x ∧ x ≤ 255) (hl : code.length ≤ 65536) : Cur 0 ({ code := code, at_ := 0, seed := 0 } : Sl1Cur) := ⟨hc, hl, Int.le_refl _, Int.le_refl _⟩
end Go.Proofs.Ytcpgnfohmeineaa.Ax
namespace Go.Proofs.Ytcpgnfohmeineaa.Ax
open Go Classical
theorem Aii {xs : List Int} (h : xs.length ≤ LIM) : Gy xs xs = some true := by
 have hL := Bc
 unfold Gy
 rw [if_neg (by simp)]
 have := Dm (body := Fh xs xs) (fun i => (i : Int)) xs.length (.inr ()) (fun i hi => by
  unfold Fh
  rw [if_pos (by omega)]
  repeat rw [Ae (by first | omega | (unfold InI; omega))]
  rw [if_neg (by simp)]
  repeat rw [Ae (by first | omega | (unfold InI; omega))]
  rfl) (by
  unfold Fh
  rw [if_neg (by omega)])
 have h0 : Al (Fh xs xs) 0 = some (.inr ()) := this
 rw [h0]; rfl
section
variable {a b : SAlgebra} {f : List Int} {n m : Nat}
end
section
variable {a b : SAlgebra} {f : List Int}
end
section
variable {a b c : SAlgebra} {f g : List Int}
end
section
variable {a b : SAlgebra} {f : List Int}
end
end Go.Proofs.Ytcpgnfohmeineaa.Ax
namespace Go.Proofs.Ytcpgnfohmeineaa.Ax
open Go Classical
theorem Al1 {β : Type} (k : ByteArray) (v : β) (k' : ByteArray) : ∀ (l : List (ByteArray × β)), Ge (Ml l k v) k' = if k' = k then some v else Ge l k'
 | [] => by simp [Ml, Ge]
 | (a, b) :: r => by
   simp only [Ml]
   by_cases h1 : k = a
   ·subst h1
    rw [if_pos rfl]
    simp only [Ge]
    by_cases h2 : k' = k
    ·rw [if_pos h2, if_pos h2]
    ·rw [if_neg h2, if_neg h2, if_neg h2]
   ·rw [if_neg h1]
    simp only [Ge]
    rw [Al1 k v k' r]
    by_cases h2 : k' = a
    ·rw [if_pos h2, if_pos h2, if_neg (fun e => h1 (by rw [← e, h2]))]
    ·rw [if_neg h2, if_neg h2]
theorem Aqy (ns : List Int) : ∀ b : ByteArray, (ns.foldl (fun r n => r.push (UInt8.ofNat n.toNat)) b).data.toList = b.data.toList ++ ns.map fun n => UInt8.ofNat n.toNat := by
 induction ns with
 | nil => intro b; simp
 | cons n r ih =>
   intro b
   simp only [List.foldl_cons, List.map_cons]
   rw [ih]
   simp [ByteArray.push]
theorem Aw2 {a b : Int} (ha : 0 ≤ a ∧ a ≤ 255) (hb : 0 ≤ b ∧ b ≤ 255) (h : UInt8.ofNat a.toNat = UInt8.ofNat b.toNat) : a = b := by
 have := congrArg UInt8.toNat h
 simp [UInt8.toNat_ofNat'] at this
 omega
theorem Atr {ns ms : List Int} (hn : ∀ x ∈ ns, 0 ≤ x ∧ x ≤ 255) (hm : ∀ x ∈ ms, 0 ≤ x ∧ x ≤ 255) (h : Xb ns = Xb ms) : ns = ms := by
 have e := congrArg (fun b : ByteArray => b.data.toList) h
 simp only [Xb, Aqy] at e
 have e2 : (ns.map fun n : Int => UInt8.ofNat n.toNat) = ms.map fun n : Int => UInt8.ofNat n.toNat := by simpa using e
 clear e h
 induction ns generalizing ms with
 | nil =>
   cases ms with
   | nil => rfl
   | cons _ _ => cases e2
 | cons a r ih =>
   cases ms with
   | nil => cases e2
   | cons b s =>
     simp only [List.map_cons, List.cons.injEq] at e2
     rw [Aw2 (hn a (by simp)) (hm b (by simp)) e2.1, ih (fun x hx => hn x (by simp [hx])) (fun x hx => hm x (by simp [hx])) e2.2]
def byt (x : Int) : List Int := [IntKind.u8.wrap (x.fdiv (2 ^ min (Int.toNat 8) IntKind.i64.bits)), IntKind.u8.wrap x]
theorem Avg (n : Int) : IntKind.u8.wrap n = n % 256 := by simp [IntKind.wrap, IntKind.bits, IntKind.signed]
theorem Awe {x : Int} (h0 : 0 ≤ x) (h1 : x < 65536) : byt x = [x / 256, x % 256] := by
 unfold byt
 have e : (2 : Int) ^ min (Int.toNat 8) IntKind.i64.bits = 256 := by decide
 rw [e, Avg, Avg, Int.fdiv_eq_ediv_of_nonneg _ (by omega)]
 congr 1
 omega
theorem Ava (x : Int) : ∀ y ∈ byt x, 0 ≤ y ∧ y ≤ 255 := by
 intro y hy
 unfold byt at hy
 simp only [List.mem_cons, List.not_mem_nil, or_false] at hy
 rcases hy with rfl | rfl <;> (rw [Avg]; omega)
def Ats (xs : List Int) : ByteArray := Xb (xs.flatMap byt)
theorem Amz : ∀ {xs ys : List Int}, (∀ x ∈ xs, 0 ≤ x ∧ x < 65536) → (∀ x ∈ ys, 0 ≤ x ∧ x < 65536) → xs.flatMap byt = ys.flatMap byt → xs = ys := by
 intro xs
 induction xs with
 | nil =>
   intro ys _ _ h
   cases ys with
   | nil => rfl
   | cons y r => simp [byt] at h
 | cons x r ih =>
   intro ys hx hy h
   cases ys with
   | nil => simp [byt] at h
   | cons y s =>
     have h1 := hx x (by simp)
     have h2 := hy y (by simp)
     simp only [List.flatMap_cons, Awe h1.1 h1.2, Awe h2.1 h2.2, List.cons_append, List.nil_append, List.cons.injEq] at h
     rw [ih (fun z hz => hx z (by simp [hz])) (fun z hz => hy z (by simp [hz])) h.2.2, show x = y by omega]
theorem Avu {xs ys : List Int} (hx : ∀ x ∈ xs, 0 ≤ x ∧ x < 65536) (hy : ∀ x ∈ ys, 0 ≤ x ∧ x < 65536) (h : Ats xs = Ats ys) : xs = ys := by
 refine Amz hx hy (Atr ?_ ?_ h)
 ·intro y hy
  obtain ⟨x, _, hy⟩ := List.mem_flatMap.1 hy
  exact Ava x y hy
 ·intro y hy
  obtain ⟨x, _, hy⟩ := List.mem_flatMap.1 hy
  exact Ava x y hy
theorem Awt (xs : List Int) : (xs.flatMap byt).length = 2 * xs.length := by
 induction xs with
 | nil => rfl
 | cons x r ih => simp only [List.flatMap_cons, List.length_append, ih, List.length_cons]; simp [byt]; omega
theorem Ast {xs : List Int} (hl : xs.length ≤ 1048576) : Jz xs = some (Ats xs) := by
 have hL := Bc
 unfold Jz
 rw [Ae (by unfold InI; omega), Ae (by omega)]
 have key := Dm (body := Ff xs) (fun i => ((i : Int), (xs.take i).flatMap byt)) xs.length (xs.flatMap byt) (fun i hi => by
  have h1 := Awt (xs.take i)
  unfold Ff
  dsimp only
  rw [if_pos (by omega), Ae (by omega), Int.toNat_natCast, Ae (by rw [h1, List.length_take]; simp only [List.length_cons, List.length_nil]; omega), Ae (by unfold InI; omega), Jo hi, List.flatMap_append]
  simp [byt]) (by
  unfold Ff
  dsimp only
  rw [if_neg (by omega), List.take_length])
 have key' : Al (Ff xs) (0, Av Int) = _ := key
 rw [key']; rfl
def At9 (S : List (ByteArray × Bool)) (rows : List (List Int)) : Prop := ∀ k, (Ge S k).getD false = decide (∃ t ∈ rows, Ats t = k)
theorem Axd : At9 (Av (ByteArray × Bool)) [] := fun k => by simp [Ge]
theorem Atk {S : List (ByteArray × Bool)} {rows : List (List Int)} (h : At9 S rows) (t : List Int) : At9 (Ml S (Ats t) true) (rows ++ [t]) := by
 intro k
 rw [Al1]
 by_cases hk : k = Ats t
 ·rw [if_pos hk]
  exact (decide_eq_true ⟨t, by simp, hk.symm⟩).symm
 ·rw [if_neg hk, h k, decide_eq_decide]
  constructor
  ·rintro ⟨u, hu, e⟩; exact ⟨u, by simp [hu], e⟩
  ·rintro ⟨u, hu, e⟩
   rcases List.mem_append.1 hu with h1 | h1
   ·exact ⟨u, h1, e⟩
   ·rw [List.mem_singleton.1 h1] at e
    exact absurd e.symm hk
theorem Arj {r : SRelation} (hl : r.Tuples.length ≤ 1048576) (hr : ∀ t ∈ r.Tuples, t.length ≤ 1048576) : ∃ S, Ik r = some S ∧ At9 S r.Tuples := by
 unfold Ik
 obtain ⟨S, e, hS⟩ := B8 (body := Gg r) (fun s => ∃ i : Nat, s.1 = (i : Int) ∧ i ≤ r.Tuples.length ∧ At9 s.2 (r.Tuples.take i)) (fun s => r.Tuples.length - s.1.toNat) (fun S => At9 S r.Tuples) (by
  rintro ⟨x, S⟩ ⟨i, rfl, g1, g2⟩
  dsimp only at g2
  unfold Gg
  dsimp only
  by_cases hi : i < r.Tuples.length
  ·rw [if_pos (by omega), Ae (by omega), Int.toNat_natCast, Ast (hr _ (As hi))]
   simp only [Option.bind_some]
   rw [Ae (by unfold InI; omega)]
   refine .inl ⟨_, rfl, ⟨i + 1, rfl, by omega, ?_⟩, by dsimp only; omega⟩
   dsimp only
   rw [Jo hi]
   exact Atk g2 _
  ·rw [if_neg (by omega)]
   have : i = r.Tuples.length := by omega
   subst this
   rw [List.take_length] at g2
   exact .inr ⟨_, rfl, g2⟩) (s := ((0 : Int), Av (ByteArray × Bool))) ⟨0, rfl, Nat.zero_le _, Axd⟩
 rw [e]
 exact ⟨S, rfl, hS⟩
theorem N9 {n : Nat} (_hn : 0 < n) : ∀ r k, k < n ^ r → Gt n (Bt n r k) = (k : Int) := by
 intro r
 induction r with
 | zero => intro k hk; simp at hk; subst hk; rfl
 | succ r ih =>
   intro k hk
   have hd : k / n < n ^ r := Nat.div_lt_of_lt_mul (by rw [Nat.mul_comm, ← Nat.pow_succ]; exact hk)
   simp only [Bt]
   rw [Fy, ih _ hd, ← Int.natCast_mul, ← Int.natCast_add, Nat.mul_comm, Nat.div_add_mod]
theorem Qz {n : Nat} (hn : 0 < n) : ∀ r (xs : List Int), xs.length = r → Cb xs n → Bt n r (Gt n xs).toNat = xs := by
 intro r
 induction r with
 | zero => intro xs hl _; rw [List.length_eq_zero_iff.1 hl]; rfl
 | succ r ih =>
   intro xs hl hx
   obtain ⟨ys, y, rfl⟩ : ∃ ys y, xs = ys ++ [y] := ⟨xs.take r, nth xs r, by rw [← Jo (by omega), List.take_of_length_le (by omega)]⟩
   have hy := hx y (by simp)
   have hys : Cb ys n := fun z hz => hx z (by simp [hz])
   have hyl : ys.length = r := by simpa using hl
   obtain ⟨c, h1, _⟩ := Sm r ys hyl hys
   obtain ⟨d, rfl⟩ := Int.eq_ofNat_of_zero_le hy.1
   have hd : d < n := by omega
   have e : (Gt n (ys ++ [(d : Int)])).toNat = c * n + d := by
    rw [Fy, h1, ← Int.natCast_mul, ← Int.natCast_add, Int.toNat_natCast]
   rw [e]
   simp only [Bt]
   rw [show (c * n + d) / n = c by rw [Nat.mul_comm, Nat.mul_add_div hn, Nat.div_eq_of_lt hd]; omega, show (c * n + d) % n = d by rw [Nat.mul_comm, Nat.mul_add_mod, Nat.mod_eq_of_lt hd]]
   have := ih ys hyl hys
   rw [h1, Int.toNat_natCast] at this
   rw [this]
theorem Ahy {n k : Nat} (B : Nat) (hB : B ≤ 1000000) (h : ∀ i, i ≤ k → n ^ i ≤ B) (hk : k ≤ 1000) : Er n k = some ((n ^ k : Nat) : Int) := by
 unfold Er
 have key := Dm (body := Cd n) (fun j => (((n ^ j : Nat) : Int), ((k : Int) - (j : Int)))) k ((n ^ k : Nat) : Int) (fun j hj => by
  unfold Cd
  dsimp only
  have hp := h (j + 1) (by omega)
  rw [Nat.pow_succ] at hp
  rw [if_pos (by omega), ← Int.natCast_mul, Nat.pow_succ]
  generalize n ^ j * n = N at hp ⊢
  rw [Ae (by unfold InI; omega), Ae (by unfold InI; omega), show ((k : Int) - (j : Int) - 1) = (k : Int) - ((j + 1 : Nat) : Int) by omega]) (by
  unfold Cd
  dsimp only
  rw [if_neg (by omega)])
 have key' : Al (Cd n) (1, (k : Int)) = some ((n ^ k : Nat) : Int) := by simpa using key
 rw [key']; rfl
theorem Ag8 {n k : Nat} (B : Nat) (hB : B ≤ 1000000) (h : ∀ i, i ≤ k → n ^ i ≤ B) (hk : k ≤ 1000) : Dz n k = some ((n ^ k : Nat) : Int) := by
 unfold Dz
 have key := Dm (body := Cc n) (fun j => (((n ^ j : Nat) : Int), ((k : Int) - (j : Int)))) k ((n ^ k : Nat) : Int) (fun j hj => by
  unfold Cc
  dsimp only
  have hp := h (j + 1) (by omega)
  rw [Nat.pow_succ] at hp
  rw [if_pos (by omega), ← Int.natCast_mul, Nat.pow_succ]
  generalize n ^ j * n = N at hp ⊢
  rw [Ae (by unfold InI; omega), Ae (by unfold InI; omega), show ((k : Int) - (j : Int) - 1) = (k : Int) - ((j + 1 : Nat) : Int) by omega]) (by
  unfold Cc
  dsimp only
  rw [if_neg (by omega)])
 have key' : Al (Cc n) (1, (k : Int)) = some ((n ^ k : Nat) : Int) := by simpa using key
 rw [key']; rfl
theorem Atz {n r k : Nat} (hn : 0 < n) (hn8 : n ≤ 8) (hr : r ≤ 100) (hk : k ≤ 1048576) : Fq n r k = some (Bt n r k) := by
 unfold Fq
 rw [Ae (by rw [Bc]; omega), Ae (by unfold InI; omega), Int.toNat_natCast, Ate hn hn8 r k _ (by simp) (by simp; omega) hk]
 simp
end Go.Proofs.Ytcpgnfohmeineaa.Ax
namespace Go.Proofs.Ytcpgnfohmeineaa.Ax
open Go Classical
def hT (n r : Nat) (y : Nat → Int) : Int := Gt n ((List.range r).map y)
theorem Aya (n r : Nat) (y : Nat → Int) : hT n (r + 1) y = hT n r y * (n : Int) + y r := by
 unfold hT; rw [List.range_succ, List.map_append]; exact Fy _ _ _
theorem Y3 {n r : Nat} {y z : Nat → Int} (h : ∀ i, i < r → y i = z i) : hT n r y = hT n r z := by
 unfold hT
 congr 1
 exact List.map_congr_left fun i hi => h i (List.mem_range.1 hi)
theorem Azf {n r : Nat} {y : Nat → Int} (h : ∀ i, i < r → 0 ≤ y i ∧ y i < n) : Cb ((List.range r).map y) n := by
 intro v hv
 obtain ⟨i, hi, rfl⟩ := List.mem_map.1 hv
 exact h i (List.mem_range.1 hi)
theorem Ahq {n r : Nat} {y : Nat → Int} (hn : n ≤ 8) (hr : r ≤ 3) (h : ∀ i, i < r → 0 ≤ y i ∧ y i < n) : ∃ c : Nat, hT n r y = (c : Int) ∧ c < n ^ r ∧ c < 512 := by
 obtain ⟨c, h1, h2, h3⟩ := Wi hn (xs := (List.range r).map y) (by simpa using hr) (Azf h)
 exact ⟨c, h1, by simpa using h2, h3⟩
theorem Ay9 {body : (Int × Int) → Option ((Int × Int) ⊕ Int)} (n r : Nat) (y : Nat → Int) (hb : ∀ i, i < r → body ((i : Int), hT n i y) = some (.inl (((i + 1 : Nat) : Int), hT n i y * (n : Int) + y i))) (he : ∀ q, body ((r : Int), q) = some (.inr q)) :
  Al body (0, 0) = some (hT n r y) := by
 have key := Dm (body := body) (fun i => ((i : Int), hT n i y)) r (hT n r y) (fun i hi => by rw [hb i hi, Aya]) (he _)
 exact key
structure OpR (n r : Nat) (f : SOp) : Prop where
 ar : f.Arity = r
 le : r ≤ 2
 len : f.Table.length = n ^ r
 fin : Cb f.Table n
theorem OpR.at {n r : Nat} {f : SOp} (h : OpR n r f) (hn : n ≤ 8) {y : Nat → Int} (hy : ∀ i, i < r → 0 ≤ y i ∧ y i < n) : (∃ c : Nat, hT n r y = (c : Int) ∧ c < f.Table.length ∧ c < 512) ∧ 0 ≤ nth f.Table (hT n r y).toNat ∧ nth f.Table (hT n r y).toNat < n := by
 obtain ⟨c, h1, h2, h3⟩ := Ahq hn (by have := h.le; omega) hy
 rw [← h.len] at h2
 exact ⟨⟨c, h1, h2, h3⟩, by rw [h1, Int.toNat_natCast]; exact h.fin _ (As h2)⟩
section
variable {n r s : Nat} {f g : SOp}
end
def Aw7 (n : Int) (f g : SOp) : Prop := 1 ≤ n ∧ n ≤ 4 ∧ Aog n.toNat f ∧ Aog n.toNat g ∧ f.Arity ≤ 2 ∧ g.Arity ≤ 2
theorem Aw7.symm {n : Int} {f g : SOp} (h : Aw7 n f g) : Aw7 n g f := ⟨h.1, h.2.1, h.2.2.2.1, h.2.2.1, h.2.2.2.2.2, h.2.2.2.2.1⟩
end Go.Proofs.Ytcpgnfohmeineaa.Ax
namespace Go.Proofs.Ytcpgnfohmeineaa.Ax
open Go Classical
theorem Ayg (A xs : List Int) (j : Nat) (hA : A.length = j) (hj : j < xs.length) (v : Int) : (A ++ xs.drop j).set j v = (A ++ [v]) ++ xs.drop (j + 1) := by
 rw [List.set_append, if_neg (by omega), hA, Nat.sub_self, List.drop_eq_getElem_cons hj, List.set_cons_zero]
 simp
section
variable {n r s : Nat} {f g : SOp}
theorem Ao5 {xs : List Int} {m : Nat} (h : xs.length = m) : (List.range m).map (fun j => nth xs j) = xs := by
 refine List.ext_getElem (by simp [h]) fun i h1 h2 => ?_
 simp only [List.getElem_map, List.getElem_range]
 rw [Fm h2]
end
end Go.Proofs.Ytcpgnfohmeineaa.Ax
namespace Go.Proofs.Ytcpgnfohmeineaa.Ax
open Go Classical
theorem Atg : ∀ {xs ys : List Nat}, xs.Pairwise (· < ·) → ys.Pairwise (· < ·) → (∀ z, z ∈ xs ↔ z ∈ ys) → xs = ys
 | [], [], _, _, _ => rfl
 | [], y :: _, _, _, h => absurd ((h y).2 (by simp)) (by simp)
 | x :: _, [], _, _, h => absurd ((h x).1 (by simp)) (by simp)
 | x :: xs, y :: ys, hx, hy, h => by
   rw [List.pairwise_cons] at hx hy
   have e : x = y := by
    have h1 := (h x).1 (by simp)
    have h2 := (h y).2 (by simp)
    rcases List.mem_cons.1 h1 with h1 | h1
    ·exact h1
    ·rcases List.mem_cons.1 h2 with h2 | h2
     ·exact h2.symm
     ·have := hx.1 y h2
      have := hy.1 x h1
      omega
   subst e
   congr 1
   refine Atg hx.2 hy.2 fun z => ?_
   have hz := h z
   simp only [List.mem_cons] at hz
   constructor
   ·intro hm
    rcases hz.1 (.inr hm) with h1 | h1
    ·have := hx.1 z hm; omega
    ·exact h1
   ·intro hm
    rcases hz.2 (.inr hm) with h1 | h1
    ·have := hy.1 z hm; omega
    ·exact h1
theorem Aij {n : Nat} : ∀ (r : Nat) (a b : List Int), a.length = r → b.length = r → Cb a n → Cb b n → (Ab3 a b ↔ Gt n a < Gt n b) := by
 have snoc : ∀ (a : List Int) r, a.length = r + 1 → ∃ c y, a = c ++ [y] ∧ c.length = r := fun a r h => ⟨a.take r, nth a r, by rw [← Jo (by omega), List.take_of_length_le (by omega)], by simp; omega⟩
 intro r
 induction r with
 | zero =>
   intro a b ha hb _ _
   rw [List.length_eq_zero_iff.1 ha, List.length_eq_zero_iff.1 hb]
   exact ⟨fun ⟨i, hi, _⟩ => absurd hi (by simp), fun h => absurd h (Int.lt_irrefl _)⟩
 | succ r ih =>
   intro a b ha hb ia ib
   obtain ⟨c, x, rfl, hc⟩ := snoc a r ha
   obtain ⟨d, y, rfl, hd⟩ := snoc b r hb
   have ic : Cb c n := fun z hz => ia z (by simp [hz])
   have id : Cb d n := fun z hz => ib z (by simp [hz])
   have hx := ia x (by simp)
   have hy := ib y (by simp)
   have hI := ih c d hc hd ic id
   obtain ⟨u, hu, _⟩ := Sm r c hc ic
   obtain ⟨v, hv, _⟩ := Sm r d hd id
   rw [Fy, Fy, hu, hv]
   rw [hu, hv] at hI
   have l1 : ∀ (c : List Int) x i, i < c.length → nth (c ++ [x]) i = nth c i := fun c x i hi => by
    rw [Fm (by simp; omega), Fm hi, List.getElem_append_left hi]
   have l2 : ∀ (c : List Int) x i, i = c.length → nth (c ++ [x]) i = x := fun c x i hi => by
    subst hi; rw [Fm (by simp)]; simp
   constructor
   ·rintro ⟨i, hi, h1, h2⟩
    by_cases hir : i < r
    ·have hlt : Ab3 c d := ⟨i, by omega, fun j hj => by have := h1 j hj; rwa [l1 c x j (by omega), l1 d y j (by omega)] at this, by rwa [l1 c x i (by omega), l1 d y i (by omega)] at h2⟩
     have := hI.1 hlt
     have := Int.mul_le_mul_of_nonneg_right (show (u : Int) + 1 ≤ v by omega) (show (0 : Int) ≤ n by omega)
     rw [Int.add_mul, Int.one_mul] at this
     omega
    ·have e : i = r := by simp at hi; omega
     subst e
     rw [l2 c x i (by omega), l2 d y i (by omega)] at h2
     have ecd : c = d := Qm (by omega) fun j hj => by have := h1 j (by omega); rwa [l1 c x j (by omega), l1 d y j (by omega)] at this
     have : (u : Int) = v := by rw [← hu, ← hv, ecd]
     rw [this]; omega
   ·intro h
    rcases Int.lt_trichotomy (u : Int) v with hlt | heq | hgt
    ·obtain ⟨i, hi, h1, h2⟩ := hI.2 hlt
     exact ⟨i, by simp; omega, fun j hj => by rw [l1 c x j (by omega), l1 d y j (by omega)]; exact h1 j hj, by rw [l1 c x i (by omega), l1 d y i (by omega)]; exact h2⟩
    ·have ecd : c = d := by
      have hn : 0 < n := by omega
      have e1 := Qz hn r c hc ic
      have e2 := Qz hn r d hd id
      rw [← e1, ← e2, hu, hv, heq]
     subst ecd
     rw [heq] at h
     exact ⟨r, by simp; omega, fun j hj => by rw [l1 c x j (by omega), l1 c y j (by omega)], by rw [l2 c x r (by omega), l2 c y r (by omega)]; omega⟩
    ·have := Int.mul_le_mul_of_nonneg_right (show (v : Int) + 1 ≤ u by omega) (show (0 : Int) ≤ n by omega)
     rw [Int.add_mul, Int.one_mul] at this
     omega
def Qb (n : Int) (a : Int) (T : List (List Int)) (i : Nat) : Prop := ((nth T i).length : Int) = a ∧ Cb (nth T i) n ∧ (0 < i → Ab3 (nth T (i - 1)) (nth T i))
def Dk (n : Int) (r : SRelation) : Prop := 1 ≤ r.Arity ∧ r.Arity ≤ 3 ∧ ∀ i, i < r.Tuples.length → Qb n r.Arity r.Tuples i
section
variable {n : Nat} {r : SRelation}
theorem Dk.row (h : Dk n r) {t : List Int} (ht : t ∈ r.Tuples) : (t.length : Int) = r.Arity ∧ Cb t n := by
 obtain ⟨i, hi, rfl⟩ := Mh.1 ht
 exact ⟨(h.2.2 i hi).1, (h.2.2 i hi).2.1⟩
theorem Dk.hornx (h : Dk n r) {i : Nat} (hi : i < r.Tuples.length) : ∃ c : Nat, Gt n (nth r.Tuples i) = (c : Int) ∧ c < n ^ r.Arity.toNat := by
 obtain ⟨h1, h2⟩ := h.row (As hi)
 exact Sm r.Arity.toNat _ (by omega) h2
theorem Dk.mono (h : Dk n r) : ∀ j, j < r.Tuples.length → ∀ i, i < j → Gt n (nth r.Tuples i) < Gt n (nth r.Tuples j) := by
 intro j
 induction j with
 | zero => intro _ i hi; omega
 | succ j ih =>
   intro hj i hi
   have hs : Gt n (nth r.Tuples j) < Gt n (nth r.Tuples (j + 1)) := by
    obtain ⟨a1, a2⟩ := h.row (As (show j < r.Tuples.length by omega))
    obtain ⟨b1, b2⟩ := h.row (As hj)
    have := (h.2.2 (j + 1) hj).2.2 (by omega)
    rw [Nat.add_sub_cancel] at this
    exact (Aij r.Arity.toNat _ _ (by omega) (by omega) a2 b2).1 this
   rcases Nat.lt_or_ge i j with hij | hij
   ·exact Int.lt_trans (ih (by omega) i hij) hs
   ·have : i = j := by omega
    subst this; exact hs
theorem Dk.len (h : Dk n r) : r.Tuples.length ≤ n ^ r.Arity.toNat := by
 have key : ∀ i, i < r.Tuples.length → (i : Int) ≤ Gt n (nth r.Tuples i) := by
  intro i
  induction i with
  | zero => intro hi; obtain ⟨c, hc, _⟩ := h.hornx hi; omega
  | succ i ih =>
    intro hi
    have h1 := ih (by omega)
    have h2 := h.mono (i + 1) hi i (by omega)
    omega
 rcases Nat.eq_zero_or_pos r.Tuples.length with h0 | h0
 ·omega
 ·have h1 := key (r.Tuples.length - 1) (by omega)
  obtain ⟨c, hc, hc2⟩ := h.hornx (show r.Tuples.length - 1 < r.Tuples.length by omega)
  omega
noncomputable def Akp (n r : Nat) (q : Nat → Prop) : List (List Int) := ((List.range (n ^ r)).filter fun k => decide (q k)).map (Bt n r)
theorem Ap4 {n r : Nat} {q : Nat → Prop} {t : List Int} : t ∈ Akp n r q ↔ ∃ k, k < n ^ r ∧ q k ∧ Bt n r k = t := by
 simp [Akp, and_assoc]
theorem Dk.canon (h : Dk n r) (hn : 0 < n) : r.Tuples = Akp n r.Arity.toNat fun k => Bt n r.Arity.toNat k ∈ r.Tuples := by
 have e1 : r.Tuples = (r.Tuples.map fun t => (Gt n t).toNat).map (Bt n r.Arity.toNat) := by
  rw [List.map_map]
  refine Qm (by simp) fun i hi => ?_
  obtain ⟨a1, a2⟩ := h.row (As hi)
  rw [Im _ hi]
  exact (Qz hn _ _ (by omega) a2).symm
 have e2 : (r.Tuples.map fun t => (Gt n t).toNat) = (List.range (n ^ r.Arity.toNat)).filter fun k => decide (Bt n r.Arity.toNat k ∈ r.Tuples) := by
  refine Atg ?_ (List.Pairwise.filter _ List.pairwise_lt_range) fun z => ?_
  ·rw [List.pairwise_iff_getElem]
   intro i j hi hj hij
   simp only [List.length_map] at hi hj
   simp only [List.getElem_map]
   have := h.mono j hj i hij
   rw [Fm hi, Fm hj] at this
   have := h.hornx hi
   rw [Fm hi] at this
   obtain ⟨c, hc, _⟩ := this
   omega
  ·simp only [List.mem_map, List.mem_filter, List.mem_range, decide_eq_true_eq]
   constructor
   ·rintro ⟨t, ht, rfl⟩
    obtain ⟨a1, a2⟩ := h.row ht
    obtain ⟨c, hc, hc2⟩ := Sm r.Arity.toNat t (by omega) a2
    rw [Qz hn _ t (by omega) a2]
    exact ⟨by omega, ht⟩
   ·rintro ⟨hz, hm⟩
    exact ⟨_, hm, by rw [N9 hn _ _ hz]; omega⟩
 unfold Akp
 refine e1.trans (congrArg _ (e2.trans ?_))
 congr 1
 funext k
 rw [decide_eq_decide]
theorem Axw {n a : Nat} (hn : 0 < n) (ha : 1 ≤ a ∧ a ≤ 3) (q : Nat → Prop) : Dk n { Arity := (a : Int), Tuples := Akp n a q } := by
 have hp : ((List.range (n ^ a)).filter fun k => decide (q k)).Pairwise (· < ·) := List.Pairwise.filter _ List.pairwise_lt_range
 have hb : ∀ k ∈ (List.range (n ^ a)).filter (fun k => decide (q k)), k < n ^ a := fun k hk => List.mem_range.1 (List.mem_filter.1 hk).1
 refine ⟨by show (1 : Int) ≤ (a : Int); omega, by show (a : Int) ≤ 3; omega, ?_⟩
 show ∀ i, i < (Akp n a q).length → Qb n a (Akp n a q) i
 unfold Akp
 generalize (List.range (n ^ a)).filter (fun k => decide (q k)) = L at hp hb
 intro i hi
 rw [List.length_map] at hi
 refine ⟨by rw [Im _ hi, E1], by rw [Im _ hi]; exact Qr hn _ _, fun h0 => ?_⟩
 rw [Im _ hi, Im _ (show i - 1 < L.length by omega)]
 rw [Aij a _ _ (E1 _ _ _) (E1 _ _ _) (Qr hn _ _) (Qr hn _ _), N9 hn _ _ (hb _ (As (by omega))), N9 hn _ _ (hb _ (As hi)), Fm hi, Fm (show i - 1 < L.length by omega)]
 have := (List.pairwise_iff_getElem.1 hp) (i - 1) i (by omega) hi (by omega)
 omega
end
section
variable {n : Nat} {r : SRelation} (hl : r.Tuples.length ≤ 1048576) (hr : ∀ t ∈ r.Tuples, t.length ≤ 1048576)
include hl hr
theorem Tn : Fc n r = some (decide (Dk n r)) := by
 have hL := Bc
 unfold Fc
 by_cases h1 : r.Arity < 1
 ·rw [if_pos h1, decide_eq_false (fun hh : Dk n r => by have := hh.1; omega)]; rfl
 by_cases h3 : r.Arity > 3
 ·rw [if_neg h1, if_pos h3, decide_eq_false (fun hh : Dk n r => by have := hh.2.1; omega)]; rfl
 rw [if_neg h1, if_neg h3]
 simp only [Option.bind_some]
 obtain ⟨t, e, ht⟩ := B8 (body := E4 n r) (fun s => ∃ i : Nat, s = (i : Int) ∧ i ≤ r.Tuples.length ∧ ∀ j, j < i → Qb n r.Arity r.Tuples j) (fun s => r.Tuples.length - s.toNat) (fun t => t = if (∀ i, i < r.Tuples.length → Qb n r.Arity r.Tuples i) then .inr () else .inl ()) (by
  rintro s ⟨i, rfl, g1, g2⟩
  unfold E4
  by_cases hi : i < r.Tuples.length
  ·rw [if_pos (by omega), Ae (by omega), Int.toNat_natCast]
   have bad : ¬ Qb n r.Arity r.Tuples i → (Sum.inl () : Unit ⊕ Unit) = if (∀ i, i < r.Tuples.length → Qb n r.Arity r.Tuples i) then .inr () else .inl () := fun hb => by
    rw [if_neg (fun hh => hb (hh i hi))]
   have good : Qb n r.Arity r.Tuples i → ∀ j, j < i + 1 → Qb n r.Arity r.Tuples j := fun hg j hj => by
    rcases Nat.lt_or_ge j i with hji | hji
    ·exact g2 j hji
    ·have : j = i := by omega
     subst this; exact hg
   by_cases c1 : ((nth r.Tuples i).length : Int) = r.Arity
   ·rw [if_neg (by simpa using c1), Apm _ _ (by have := hr _ (As hi); omega)]
    simp only [Option.bind_some]
    by_cases c2 : Cb (nth r.Tuples i) n
    ·rw [decide_eq_true c2, if_pos rfl]
     by_cases c0 : i = 0
     ·subst c0
      rw [if_neg (by omega), Ae (by unfold InI; omega)]
      exact .inl ⟨_, rfl, ⟨1, rfl, hi, good ⟨c1, c2, fun hh => absurd hh (by omega)⟩⟩, by omega⟩
     ·have g3 := g2 (i - 1) (by omega)
      obtain ⟨c, ec, hc⟩ := Ait (a := nth r.Tuples (i - 1)) (b := nth r.Tuples i) (by have := g3.1; omega) (by have := hr _ (As (show i - 1 < r.Tuples.length by omega)); omega)
      rw [if_pos (by omega), Ae (by unfold InI; omega), Ae (by omega), show ((i : Int) - 1).toNat = i - 1 by omega, ec]
      simp only [Option.bind_some]
      by_cases c3 : c ≥ 0
      ·rw [if_pos c3]
       exact .inr ⟨_, rfl, bad fun hh => hc.2 (hh.2.2 (by omega)) c3⟩
      ·rw [if_neg c3, Ae (by unfold InI; omega)]
       exact .inl ⟨_, rfl, ⟨i + 1, rfl, by omega, good ⟨c1, c2, fun _ => hc.1 c3⟩⟩, by omega⟩
    ·rw [decide_eq_false c2, if_neg Bool.false_ne_true]
     exact .inr ⟨_, rfl, bad fun hh => c2 hh.2.1⟩
   ·rw [if_pos (by simpa using c1)]
    exact .inr ⟨_, rfl, bad fun hh => c1 hh.1⟩
  ·rw [if_neg (by omega)]
   exact .inr ⟨_, rfl, by rw [if_pos (fun j hj => g2 j (by omega))]⟩) (s := (0 : Int)) ⟨0, rfl, Nat.zero_le _, fun j hj => by omega⟩
 rw [e, ht]
 simp only [Option.bind_some]
 by_cases hall : ∀ i, i < r.Tuples.length → Qb n r.Arity r.Tuples i
 ·rw [if_pos hall, decide_eq_true (show Dk n r from ⟨by omega, by omega, hall⟩)]
 ·rw [if_neg hall, decide_eq_false (fun hh : Dk n r => hall hh.2.2)]
theorem Att (h8 : n ≤ 8) : Js n r = some (decide (Dk n r)) := by
 have hL := Bc
 unfold Js
 rw [Mk]
 simp only [Option.bind_some]
 by_cases h13 : 1 ≤ r.Arity ∧ r.Arity ≤ 3
 ·rw [decide_eq_true h13, if_pos rfl]
  obtain ⟨a, ha⟩ := Int.eq_ofNat_of_zero_le (show 0 ≤ r.Arity by omega)
  have e0 := Ag8 (n := n) (k := a) 512 (by omega) (fun i hi => Nat.le_trans (Nat.pow_le_pow_left h8 i) (Nat.le_trans (Nat.pow_le_pow_right (by omega) (show i ≤ 3 by omega)) (by decide))) (by omega)
  rw [ha, e0]
  simp only [Option.bind_some]
  by_cases hlen : (r.Tuples.length : Int) > ((n ^ a : Nat) : Int)
  ·rw [if_pos hlen, decide_eq_false (fun hh : Dk n r => by
    have := hh.len
    rw [ha, Int.toNat_natCast] at this
    omega)]
   rfl
  ·rw [if_neg hlen]
   simp only [Option.bind_some]
   obtain ⟨t, e, ht⟩ := B8 (body := Gr n r) (fun s => ∃ i : Nat, s = (i : Int) ∧ i ≤ r.Tuples.length ∧ ∀ j, j < i → Qb n r.Arity r.Tuples j) (fun s => r.Tuples.length - s.toNat) (fun t => t = if (∀ i, i < r.Tuples.length → Qb n r.Arity r.Tuples i) then .inr () else .inl ()) (by
    rintro s ⟨i, rfl, g1, g2⟩
    unfold Gr Mj
    by_cases hi : i < r.Tuples.length
    ·rw [if_pos (by omega), Ae (by omega), Int.toNat_natCast]
     have bad : ¬ Qb n r.Arity r.Tuples i → (Sum.inl () : Unit ⊕ Unit) = if (∀ i, i < r.Tuples.length → Qb n r.Arity r.Tuples i) then .inr () else .inl () := fun hb => by
      rw [if_neg (fun hh => hb (hh i hi))]
     have good : Qb n r.Arity r.Tuples i → ∀ j, j < i + 1 → Qb n r.Arity r.Tuples j := fun hg j hj => by
      rcases Nat.lt_or_ge j i with hji | hji
      ·exact g2 j hji
      ·have : j = i := by omega
       subst this; exact hg
     by_cases c1 : ((nth r.Tuples i).length : Int) = r.Arity
     ·rw [if_pos c1, Ams _ _ (by have := hr _ (As hi); omega) (by omega)]
      simp only [Option.bind_some]
      by_cases c2 : Cb (nth r.Tuples i) n
      ·rw [decide_eq_true c2, if_pos rfl]
       by_cases c0 : i = 0
       ·subst c0
        rw [if_neg (by omega), Ae (by unfold InI; omega)]
        exact .inl ⟨_, rfl, ⟨1, rfl, hi, good ⟨c1, c2, fun hh => absurd hh (by omega)⟩⟩, by omega⟩
       ·have g3 := g2 (i - 1) (by omega)
        have ec := Ab4 (a := nth r.Tuples (i - 1)) (b := nth r.Tuples i) (by have := g3.1; omega) (by have := hr _ (As (show i - 1 < r.Tuples.length by omega)); omega)
        rw [show Fv (nth r.Tuples (i - 1)) (nth r.Tuples i) = Hg (nth r.Tuples (i - 1)) (nth r.Tuples i) from rfl] at ec
        rw [if_pos (by omega), Ae (by unfold InI; omega), Ae (by omega), Ae (by omega), show ((i : Int) - 1).toNat = i - 1 by omega, ec]
        simp only [Option.bind_some]
        by_cases c3 : Ab3 (nth r.Tuples (i - 1)) (nth r.Tuples i)
        ·rw [decide_eq_true c3, if_pos rfl, Ae (by unfold InI; omega)]
         exact .inl ⟨_, rfl, ⟨i + 1, rfl, by omega, good ⟨c1, c2, fun _ => c3⟩⟩, by omega⟩
        ·rw [decide_eq_false c3, if_neg Bool.false_ne_true]
         exact .inr ⟨_, rfl, bad fun hh => c3 (hh.2.2 (by omega))⟩
      ·rw [decide_eq_false c2, if_neg Bool.false_ne_true]
       exact .inr ⟨_, rfl, bad fun hh => c2 hh.2.1⟩
     ·rw [if_neg c1]
      simp only [Option.bind_some]
      rw [if_neg Bool.false_ne_true]
      exact .inr ⟨_, rfl, bad fun hh => c1 hh.1⟩
    ·rw [if_neg (by omega)]
     exact .inr ⟨_, rfl, by rw [if_pos (fun j hj => g2 j (by omega))]⟩) (s := (0 : Int)) ⟨0, rfl, Nat.zero_le _, fun j hj => by omega⟩
   rw [e, ht]
   simp only [Option.bind_some]
   by_cases hall : ∀ i, i < r.Tuples.length → Qb n r.Arity r.Tuples i
   ·rw [if_pos hall, decide_eq_true (show Dk n r from ⟨h13.1, h13.2, hall⟩)]
   ·rw [if_neg hall, decide_eq_false (fun hh : Dk n r => hall hh.2.2)]
 ·rw [decide_eq_false h13, if_neg Bool.false_ne_true, decide_eq_false (fun hh : Dk n r => h13 ⟨hh.1, hh.2.1⟩)]
  rfl
end
section
variable {n : Nat} {r : SRelation}
theorem Awq (h : Dk n r) (hl : r.Tuples.length ≤ 1048576) (_h8 : n ≤ 8) {t : List Int} (ht : (t.length : Int) = r.Arity) (hin : Cb t n) : ∃ k : Int, Ft r.Tuples t = some (k, decide (t ∈ r.Tuples)) := by
 have hL := Bc
 have h3 := h.2.1
 have lh : ∀ j, j < r.Tuples.length → (Ab3 (nth r.Tuples j) t ↔ Gt n (nth r.Tuples j) < Gt n t) := fun j hj => by
  obtain ⟨a1, a2⟩ := h.row (As hj)
  exact Aij r.Arity.toNat _ _ (by omega) (by omega) a2 hin
 unfold Ft
 obtain ⟨k, e, k0, k1, kl, kh⟩ := B8 (body := Ei r.Tuples t) (fun s => 0 ≤ s.2 ∧ s.2 ≤ s.1 ∧ s.1 ≤ r.Tuples.length ∧ (∀ j : Nat, (j : Int) < s.2 → Gt n (nth r.Tuples j) < Gt n t) ∧ ∀ j : Nat, s.1 ≤ (j : Int) → j < r.Tuples.length → ¬ Gt n (nth r.Tuples j) < Gt n t) (fun s => (s.1 - s.2).toNat) (fun k => 0 ≤ k ∧ k ≤ r.Tuples.length ∧ (∀ j : Nat, (j : Int) < k → Gt n (nth r.Tuples j) < Gt n t) ∧ ∀ j : Nat, k ≤ (j : Int) → j < r.Tuples.length → ¬ Gt n (nth r.Tuples j) < Gt n t) (by
  rintro ⟨to, fr⟩ ⟨g0, g1, g2, g3, g4⟩
  dsimp only at g0 g1 g2 g3 g4
  unfold Ei
  dsimp only
  by_cases hlt : fr < to
  ·have e2 : (fr + to).tdiv 2 = (fr + to) / 2 := Int.tdiv_eq_ediv_of_nonneg (by omega)
   rw [if_pos hlt, e2, Ae (by unfold InI; omega), Ae ⟨by decide, by unfold InI; omega⟩, Ae (by omega)]
   obtain ⟨m, hm⟩ := Int.eq_ofNat_of_zero_le (show 0 ≤ (fr + to) / 2 by omega)
   rw [hm, Int.toNat_natCast]
   have hml : m < r.Tuples.length := by omega
   obtain ⟨a1, a2⟩ := h.row (As hml)
   have ec := Ab4 (a := nth r.Tuples m) (b := t) (by omega) (by omega)
   rw [show Fv (nth r.Tuples m) t = Hg (nth r.Tuples m) t from rfl] at ec
   rw [ec]
   simp only [Option.bind_some]
   by_cases c : Ab3 (nth r.Tuples m) t
   ·rw [decide_eq_true c, if_pos rfl, Ae (by unfold InI; omega)]
    have c' := (lh m hml).1 c
    refine .inl ⟨_, rfl, ⟨by dsimp only; omega, by dsimp only; omega, g2, fun j hj => ?_, g4⟩, by dsimp only; omega⟩
    dsimp only at hj
    rcases Nat.lt_or_ge j m with hjm | hjm
    ·exact Int.lt_trans (h.mono m hml j hjm) c'
    ·have : j = m := by omega
     subst this; exact c'
   ·rw [decide_eq_false c, if_neg Bool.false_ne_true]
    have c' : ¬ Gt n (nth r.Tuples m) < Gt n t := fun hh => c ((lh m hml).2 hh)
    refine .inl ⟨_, rfl, ⟨g0, by dsimp only; omega, by dsimp only; omega, g3, fun j hj hjl => ?_⟩, by dsimp only; omega⟩
    dsimp only at hj
    rcases Nat.lt_or_ge m j with hjm | hjm
    ·have := h.mono j hjl m hjm
     omega
    ·have : j = m := by omega
     subst this; exact c'
  ·rw [if_neg hlt]
   have : fr = to := by omega
   subst this
   exact .inr ⟨_, rfl, g0, g2, g3, g4⟩) (s := ((r.Tuples.length : Int), (0 : Int))) ⟨Int.le_refl _, by dsimp only; omega, Int.le_refl _, fun j hj => by dsimp only at hj; omega, fun j hj hjl => by dsimp only at hj; omega⟩
 rw [e]
 simp only [Option.bind_some]
 obtain ⟨m, rfl⟩ := Int.eq_ofNat_of_zero_le k0
 have hmem : t ∈ r.Tuples → m < r.Tuples.length ∧ nth r.Tuples m = t := fun hm => by
  obtain ⟨j, hj, rfl⟩ := Mh.1 hm
  have h1 : ¬ (j : Int) < (m : Int) := fun hh => absurd (kl j hh) (Int.lt_irrefl _)
  have h2 : ¬ m < j := fun hh => kh m (Int.le_refl _) (by omega) (h.mono j hj m hh)
  have : j = m := by omega
  subst this
  exact ⟨hj, rfl⟩
 by_cases hm : m < r.Tuples.length
 ·obtain ⟨a1, a2⟩ := h.row (As hm)
  rw [if_pos (by omega), Ae (by omega), Int.toNat_natCast, Ahw (by omega)]
  simp only [Option.bind_some]
  refine ⟨_, congrArg some (Prod.ext rfl ?_)⟩
  dsimp only
  rw [decide_eq_decide]
  exact ⟨fun hh => hh ▸ As hm, fun hh => (hmem hh).2⟩
 ·rw [if_neg (by omega), decide_eq_false (fun hh => hm (hmem hh).1)]
  exact ⟨_, rfl⟩
theorem Av8 (h : Dk n r) (hl : r.Tuples.length ≤ 1048576) (h8 : n ≤ 8) {t : List Int} (ht : (t.length : Int) = r.Arity) (hin : Cb t n) : Dw r t = some (decide (t ∈ r.Tuples)) := by
 unfold Dw
 obtain ⟨k, e⟩ := Awq h hl h8 ht hin
 rw [if_neg (by simpa using ht), e]
 rfl
end
end Go.Proofs.Ytcpgnfohmeineaa.Ax
namespace Go.Proofs.Ytcpgnfohmeineaa.Ax
open Go Classical
noncomputable def C8 (p : List Int) : List (List Int) := Akp p.length 2 fun k => nth p (k / p.length) = nth p (k % p.length)
noncomputable def Aul (q : Nat → Prop) (k : Nat) : List Nat := (List.range k).filter fun k => decide (q k)
theorem At1 (q : Nat → Prop) (k : Nat) : Aul q (k + 1) = if q k then Aul q k ++ [k] else Aul q k := by
 unfold Aul
 rw [List.range_succ, List.filter_append]
 by_cases h : q k
 ·simp [h]
 ·simp [h]
noncomputable def Sg (p : List Int) (k : Nat) : List (List Int) := (Aul (fun k => nth p (k / p.length) = nth p (k % p.length)) k).map (Bt p.length 2)
theorem Abz {n x y : Nat} (hx : x < n) (hy : y < n) : Bt n 2 (x * n + y) = [(x : Int), (y : Int)] := by
 have e1 : (x * n + y) / n = x := by rw [Nat.mul_comm, Nat.mul_add_div (by omega), Nat.div_eq_of_lt hy]; omega
 have e2 : (x * n + y) % n = y := by rw [Nat.mul_comm, Nat.mul_add_mod, Nat.mod_eq_of_lt hy]
 simp only [Bt, e1, e2, Nat.mod_eq_of_lt hx]
 rfl
theorem Aqr {p : List Int} {x y : Nat} (hx : x < p.length) (hy : y < p.length) : Sg p (x * p.length + (y + 1)) = if nth p x = nth p y then Sg p (x * p.length + y) ++ [[(x : Int), (y : Int)]] else Sg p (x * p.length + y) := by
 have e1 : (x * p.length + y) / p.length = x := by rw [Nat.mul_comm, Nat.mul_add_div (by omega), Nat.div_eq_of_lt hy]; omega
 have e2 : (x * p.length + y) % p.length = y := by rw [Nat.mul_comm, Nat.mul_add_mod, Nat.mod_eq_of_lt hy]
 unfold Sg
 rw [← Nat.add_assoc, At1]
 simp only [e1, e2]
 by_cases h : nth p x = nth p y
 ·rw [if_pos h, if_pos h, List.map_append, List.map_cons, List.map_nil, Abz hx hy]
 ·rw [if_neg h, if_neg h]
theorem Aef (p : List Int) (k : Nat) : (Sg p k).length ≤ k := by
 unfold Sg Aul
 rw [List.length_map]
 exact Nat.le_trans (List.length_filter_le _ _) (by simp)
theorem J6 {p : List Int} (hp : p.length ≤ 9) : Bo p = some { Arity := 2, Tuples := C8 p } := by
 have hL := Bc
 unfold Bo
 have inner : ∀ x, x < p.length → Al (Bv p (x : Int)) (0, { Arity := 2, Tuples := Sg p (x * p.length) }) = some { Arity := 2, Tuples := Sg p ((x + 1) * p.length) } := by
  intro x hx
  have hb : x * p.length ≤ 81 := Nat.le_trans (Nat.mul_le_mul (show x ≤ 9 by omega) hp) (by decide)
  have key := Dm (body := Bv p (x : Int)) (fun y => ((y : Int), ({ Arity := 2, Tuples := Sg p (x * p.length + y) } : SRelation))) p.length { Arity := 2, Tuples := Sg p ((x + 1) * p.length) } (fun y hy => by
   have hl := Aef p (x * p.length + y)
   have hs := Aqr hx hy
   unfold Bv
   dsimp only
   rw [if_pos (by omega), Ae (by omega), Ae (by omega), Int.toNat_natCast, Int.toNat_natCast]
   by_cases h : nth p x = nth p y
   ·rw [if_pos h] at hs
    rw [if_pos h, Ae (by simp only [List.length_cons, List.length_nil]; omega), Ae (by unfold InI; omega), ← hs]
    rfl
   ·rw [if_neg h] at hs
    rw [if_neg h, Ae (by unfold InI; omega), ← hs]
    rfl) (by
   unfold Bv
   dsimp only
   rw [if_neg (by omega), Nat.succ_mul])
  exact key
 have key := Dm (body := Bw p) (fun x => ((x : Int), ({ Arity := 2, Tuples := Sg p (x * p.length) } : SRelation))) p.length { Arity := 2, Tuples := C8 p } (fun x hx => by
  unfold Bw
  dsimp only
  rw [if_pos (by omega), inner x hx]
  simp only [Option.bind_some]
  rw [Ae (by unfold InI; omega)]
  rfl) (by
  unfold Bw
  dsimp only
  rw [if_neg (by omega)]
  rw [show p.length * p.length = p.length ^ 2 by rw [Nat.pow_succ, Nat.pow_one]]
  rfl)
 have key' : Al (Bw p) (0, { Arity := 2, Tuples := Av (List Int) }) = some { Arity := 2, Tuples := C8 p } := by
  have e0 : Sg p (0 * p.length) = Av (List Int) := by rw [Nat.zero_mul]; rfl
  rw [← e0]; exact key
 rw [key']; rfl
theorem Aon {p : List Int} (hp : p.length ≤ 9) : C1 p = some { Arity := 2, Tuples := C8 p } := by
 have : C1 p = Bo p := rfl
 rw [this]; exact J6 hp
noncomputable def Qc (n : Int) (p : List Int) : SRelation × Bool := if 1 ≤ n ∧ n ≤ 8 ∧ Gu n.toNat p then ({ Arity := 2, Tuples := C8 p }, true) else ({ Arity := 0, Tuples := [] }, false)
theorem G7 (n : Int) {p : List Int} (hl : p.length ≤ 1048576) : Bn n p = some (Qc n p) ∧ C2 n p = some (Qc n p) := by
 unfold Bn C2 Fp Dx Qc
 rw [Mk]
 by_cases h1 : n ≥ 1
 ·rw [if_pos h1]
  by_cases h8 : n ≤ 8
  ·obtain ⟨m, rfl⟩ := Int.eq_ofNat_of_zero_le (show 0 ≤ n by omega)
   rw [decide_eq_true h8, decide_eq_true (show (1 : Int) ≤ (m : Int) ∧ (m : Int) ≤ 8 from ⟨h1, h8⟩), Z9 hl, Akl hl, Int.toNat_natCast]
   simp only [Option.bind_some, if_true]
   by_cases hp : Gu m p
   ·have := hp.1
    rw [decide_eq_true hp, if_pos rfl, if_pos rfl, if_pos ⟨h1, h8, hp⟩, Aon (by omega), J6 (by omega)]
    exact ⟨rfl, rfl⟩
   ·rw [decide_eq_false hp, if_neg Bool.false_ne_true, if_neg Bool.false_ne_true, if_neg (fun hh => hp hh.2.2)]
    exact ⟨rfl, rfl⟩
  ·rw [decide_eq_false h8, decide_eq_false (show ¬ ((1 : Int) ≤ n ∧ n ≤ 8) from fun hh => h8 hh.2), if_neg (fun hh => h8 hh.2.1)]
   exact ⟨rfl, rfl⟩
 ·rw [if_neg h1, decide_eq_false (show ¬ ((1 : Int) ≤ n ∧ n ≤ 8) from fun hh => h1 hh.1), if_neg (fun hh => h1 hh.1)]
  exact ⟨rfl, rfl⟩
section
variable {n : Nat} {p : List Int}
theorem Ant (h : 1 ≤ n) (hp : Gu n p) : Dk n { Arity := 2, Tuples := C8 p } := by
 have e := hp.1
 have := Axw (n := n) (a := 2) (by omega) (by omega) fun k => nth p (k / n) = nth p (k % n)
 unfold C8
 rw [e]; exact this
theorem Uo (hp : Gu n p) {x y : Nat} (hx : x < n) (hy : y < n) : [(x : Int), (y : Int)] ∈ C8 p ↔ nth p x = nth p y := by
 have e := hp.1
 unfold C8
 rw [Ap4, e]
 have e1 : (x * n + y) / n = x := by rw [Nat.mul_comm, Nat.mul_add_div (by omega), Nat.div_eq_of_lt hy]; omega
 have e2 : (x * n + y) % n = y := by rw [Nat.mul_comm, Nat.mul_add_mod, Nat.mod_eq_of_lt hy]
 constructor
 ·rintro ⟨k, hk, hq, he⟩
  have hn : 0 < n := by omega
  have e3 := N9 hn 2 k hk
  rw [he, ← Abz hx hy] at e3
  have hlt : x * n + y < n ^ 2 := by
   have := Nat.mul_le_mul_right n (show x + 1 ≤ n by omega)
   rw [Nat.succ_mul] at this
   rw [Nat.pow_succ, Nat.pow_one]; omega
  rw [N9 hn 2 _ hlt] at e3
  have : x * n + y = k := by omega
  rw [← this, e1, e2] at hq
  exact hq
 ·intro hq
  refine ⟨x * n + y, ?_, by rw [e1, e2]; exact hq, Abz hx hy⟩
  have := Nat.mul_le_mul_right n (show x + 1 ≤ n by omega)
  rw [Nat.succ_mul] at this
  rw [Nat.pow_succ, Nat.pow_one]; omega
end
end Go.Proofs.Ytcpgnfohmeineaa.Ax
namespace Go.Proofs.Ytcpgnfohmeineaa.Ax
open Go Classical
def Co (T : List (List Int)) (x y : Nat) : Prop := [(x : Int), (y : Int)] ∈ T
def Yv (n : Nat) (T : List (List Int)) : Prop := ∀ x, x < n → Co T x x ∧ ∀ y, y < n → (Co T x y ↔ Co T y x) ∧ ∀ z, z < n → Co T x y → Co T y z → Co T x z
section
variable {n : Nat} {r : SRelation}
theorem Y5 (h : Dk n r) (h2 : r.Arity = 2) {t : List Int} (ht : t ∈ r.Tuples) : ∃ x y : Nat, x < n ∧ y < n ∧ t = [(x : Int), (y : Int)] := by
 obtain ⟨a1, a2⟩ := h.row ht
 match t, a1, a2 with
 | [a, b], _, a2 =>
   have ha := a2 a (by simp)
   have hb := a2 b (by simp)
   exact ⟨a.toNat, b.toNat, by omega, by omega, by rw [show ((a.toNat : Nat) : Int) = a by omega, show ((b.toNat : Nat) : Int) = b by omega]⟩
 | [], a1, _ => simp at a1; omega
 | [_], a1, _ => simp at a1; omega
 | _ :: _ :: _ :: _, a1, _ => simp at a1; omega
theorem Agc (h : Dk n r) (h2 : r.Arity = 2) (h8 : n ≤ 8) : ∃ tb, Ew n r = some tb ∧ tb.length = n ∧ ∀ x, x < n → (nth tb x).length = n ∧ ∀ y, y < n → nth (nth tb x) y = decide (Co r.Tuples x y) := by
 have hL := Bc
 have hlen := h.len
 rw [h2] at hlen
 have h64 : n ^ 2 ≤ 64 := Nat.le_trans (Nat.pow_le_pow_left h8 2) (by decide)
 have hlen2 : r.Tuples.length ≤ 64 := Nat.le_trans hlen h64
 unfold Ew
 rw [Ae (by omega)]
 obtain ⟨t1, e1, l1, r1⟩ := B8 (body := Dp n r) (fun s => ∃ i : Nat, s.1 = (i : Int) ∧ i ≤ n ∧ s.2.length = n ∧ ∀ j, j < i → nth s.2 j = List.replicate n false) (fun s => n - s.1.toNat) (fun t => t.length = n ∧ ∀ j, j < n → nth t j = List.replicate n false) (by
  rintro ⟨x, t⟩ ⟨i, rfl, g1, g2, g3⟩
  dsimp only at g2 g3
  unfold Dp
  dsimp only
  rw [Int.toNat_natCast]
  by_cases hi : i < n
  ·rw [if_pos (by omega), Ae (by omega), Ae (by omega), Ae (by unfold InI; omega), Int.toNat_natCast]
   refine .inl ⟨_, rfl, ⟨i + 1, rfl, hi, by simpa using g2, fun j hj => ?_⟩, by dsimp only; omega⟩
   dsimp only
   rw [Sx _ _ _ _ (by omega)]
   split
   ·rfl
   ·exact g3 j (by omega)
  ·rw [if_neg (by omega)]
   exact .inr ⟨_, rfl, g2, fun j hj => g3 j (by omega)⟩) (s := ((0 : Int), List.replicate (n : Int).toNat (Av Bool))) ⟨0, rfl, Nat.zero_le _, by simp, fun j hj => by omega⟩
 rw [e1]
 simp only [Option.bind_some]
 obtain ⟨t2, e2, l2, r2⟩ := B8 (body := Do r) (fun s => ∃ i : Nat, s.1 = (i : Int) ∧ i ≤ r.Tuples.length ∧ s.2.length = n ∧ ∀ x, x < n → (nth s.2 x).length = n ∧ ∀ y, y < n → nth (nth s.2 x) y = decide (Co (r.Tuples.take i) x y)) (fun s => r.Tuples.length - s.1.toNat) (fun t => t.length = n ∧ ∀ x, x < n → (nth t x).length = n ∧ ∀ y, y < n → nth (nth t x) y = decide (Co r.Tuples x y)) (by
  rintro ⟨x, t⟩ ⟨i, rfl, g1, g2, g3⟩
  dsimp only at g2 g3
  unfold Do
  dsimp only
  by_cases hi : i < r.Tuples.length
  ·obtain ⟨a, b, ha, hb, et⟩ := Y5 h h2 (As hi)
   have n0 : nth [(a : Int), (b : Int)] (Int.toNat 0) = (a : Int) := rfl
   have n1 : nth [(a : Int), (b : Int)] (Int.toNat 1) = (b : Int) := rfl
   have ga := g3 a ha
   rw [if_pos (by omega), Ae (by omega), Int.toNat_natCast, et, n0, n1, Int.toNat_natCast, Int.toNat_natCast]
   rw [Ae (by simp), Ae (by omega), Ae (by simp), Ae (by omega), Ae (by unfold InI; omega)]
   refine .inl ⟨_, rfl, ⟨i + 1, rfl, hi, by simpa using g2, fun x hx => ?_⟩, by dsimp only; omega⟩
   dsimp only
   rw [Sx _ _ _ _ (by omega), Jo hi, et]
   have gx := g3 x hx
   have split2 : ∀ y, Co (r.Tuples.take i ++ [[(a : Int), (b : Int)]]) x y ↔ Co (r.Tuples.take i) x y ∨ (x = a ∧ y = b) := fun y => by
    unfold Co
    rw [List.mem_append, List.mem_singleton]
    constructor
    ·rintro (hh | hh)
     ·exact .inl hh
     ·simp only [List.cons.injEq, and_true] at hh
      exact .inr ⟨by omega, by omega⟩
    ·rintro (hh | ⟨rfl, rfl⟩)
     ·exact .inl hh
     ·exact .inr rfl
   by_cases hxa : x = a
   ·subst hxa
    rw [if_pos rfl]
    refine ⟨by rw [List.length_set]; exact gx.1, fun y hy => ?_⟩
    rw [Sx _ _ _ _ (by omega)]
    by_cases hyb : y = b
    ·subst hyb
     rw [if_pos rfl]
     exact (decide_eq_true ((split2 y).2 (.inr ⟨rfl, rfl⟩))).symm
    ·rw [if_neg (by first | exact hyb | exact fun hh => hyb hh.symm), gx.2 y hy, decide_eq_decide, split2]
     exact ⟨.inl, fun hh => hh.resolve_right fun hc => hyb hc.2⟩
   ·rw [if_neg (by first | exact hxa | exact fun hh => hxa hh.symm)]
    refine ⟨gx.1, fun y hy => ?_⟩
    rw [gx.2 y hy, decide_eq_decide, split2]
    exact ⟨.inl, fun hh => hh.resolve_right fun hc => hxa hc.1⟩
  ·rw [if_neg (by omega)]
   have : i = r.Tuples.length := by omega
   subst this
   rw [List.take_length] at g3
   exact .inr ⟨_, rfl, g2, g3⟩) (s := ((0 : Int), t1)) ⟨0, rfl, Nat.zero_le _, l1, fun x hx => by
    dsimp only
    rw [r1 x hx]
    refine ⟨by simp, fun y hy => ?_⟩
    rw [Fm (by simpa using hy)]
    simp [Co]⟩
 rw [e2]
 exact ⟨_, rfl, l2, r2⟩
end
end Go.Proofs.Ytcpgnfohmeineaa.Ax
namespace Go.Proofs.Ytcpgnfohmeineaa.Ax
open Go Classical
theorem Vd {body : Int → Option (Int ⊕ (Unit ⊕ Unit))} (n : Nat) (good : Nat → Prop) {P : Prop} [Decidable P] [DecidablePred good] (hP : P ↔ ∀ i, i < n → good i) (h : ∀ i, i < n → body (i : Int) = if good i then some (.inl ((i + 1 : Nat) : Int)) else some (.inr (.inl ()))) (he : body (n : Int) = some (.inr (.inr ()))) :
  Al body 0 = some (if P then .inr () else .inl ()) := by
 have key := Is (body := body) (fun i => (i : Int)) n (fun i => ¬ good i) () () (fun i hi hb => by rw [h i hi, if_pos (Classical.not_not.1 hb)]) (fun i hi hb => by rw [h i hi, if_neg hb]) he 0 (Nat.zero_le _)
 have key' : Al body 0 = _ := key
 rw [key']
 by_cases ha : P
 ·rw [if_pos ha, if_neg (K2.2 (hP.1 ha))]
 ·rw [if_neg ha, if_pos (Classical.byContradiction fun hh => ha (hP.2 (K2.1 hh)))]
noncomputable def Yt (n : Int) (r : SRelation) : Bool × Bool := if 1 ≤ n ∧ n ≤ 8 ∧ Dk n r ∧ r.Arity = 2 then (decide (Yv n.toNat r.Tuples), true) else (false, false)
section
variable {n : Nat} {r : SRelation}
theorem Aeu (h1 : 1 ≤ n) (h8 : n ≤ 8) (hl : r.Tuples.length ≤ 1048576) (hr : ∀ t ∈ r.Tuples, t.length ≤ 1048576) : B6 n r = some (Yt n r) := by
 unfold B6 Dl Fp Yt
 rw [if_pos (show (n : Int) ≥ 1 by omega), decide_eq_true (show (n : Int) ≤ 8 by omega)]
 simp only [Option.bind_some, if_true]
 rw [Tn hl hr]
 simp only [Option.bind_some]
 by_cases hok : Dk n r
 ·rw [decide_eq_true hok, if_pos rfl]
  by_cases h2 : r.Arity = 2
  ·rw [if_neg (by simpa using h2), if_pos ⟨by omega, by omega, hok, h2⟩]
   simp only [Option.bind_some]
   obtain ⟨tb, e, tl, tr⟩ := Agc hok h2 h8
   rw [e]
   simp only [Option.bind_some]
   have b1 : ∀ x, x < n → ∀ y, y < n → Al (Ct n tb (x : Int) (y : Int)) 0 = some (if ∀ z, z < n → (Co r.Tuples x y → Co r.Tuples y z → Co r.Tuples x z) then .inr () else .inl ()) := by
    intro x hx y hy
    have tx := tr x hx
    have ty := tr y hy
    refine Vd n _ Iff.rfl (fun z hz => ?_) ?_
    ·unfold Ct
     rw [if_pos (by omega), Ae (by omega), Int.toNat_natCast, Ae (by omega), Int.toNat_natCast, Int.toNat_natCast, tx.2 y hy]
     by_cases c1 : Co r.Tuples x y
     ·rw [decide_eq_true c1, if_pos rfl, Ae (by omega), Ae (by omega), ty.2 z hz]
      by_cases c2 : Co r.Tuples y z
      ·rw [decide_eq_true c2, if_pos rfl, Ae (by omega), Ae (by omega), tx.2 z hz]
       by_cases c3 : Co r.Tuples x z
       ·rw [decide_eq_true c3, if_pos rfl, Ae (by unfold InI; omega), if_pos (fun _ _ => c3)]; rfl
       ·rw [decide_eq_false c3, if_neg Bool.false_ne_true, if_neg (fun hh => c3 (hh c1 c2))]
      ·rw [decide_eq_false c2, if_neg Bool.false_ne_true, Ae (by unfold InI; omega), if_pos (fun _ hh => absurd hh c2)]; rfl
     ·rw [decide_eq_false c1, if_neg Bool.false_ne_true, Ae (by unfold InI; omega), if_pos (fun hh => absurd hh c1)]; rfl
    ·unfold Ct
     rw [if_neg (by omega)]
   have b2 : ∀ x, x < n → Al (Cp n tb (x : Int)) 0 = some (if ∀ y, y < n → ((Co r.Tuples x y ↔ Co r.Tuples y x) ∧ ∀ z, z < n → Co r.Tuples x y → Co r.Tuples y z → Co r.Tuples x z) then .inr () else .inl ()) := by
    intro x hx
    have tx := tr x hx
    refine Vd n _ Iff.rfl (fun y hy => ?_) ?_
    ·have ty := tr y hy
     unfold Cp
     rw [if_pos (by omega), Ae (by omega), Int.toNat_natCast, Ae (by omega), Ae (by omega), Int.toNat_natCast, Ae (by omega), tx.2 y hy, ty.2 x hx]
     by_cases c1 : Co r.Tuples x y ↔ Co r.Tuples y x
     ·rw [if_pos (by rw [beq_iff_eq, decide_eq_decide]; exact c1), b1 x hx y hy]
      simp only [Option.bind_some]
      by_cases c2 : ∀ z, z < n → (Co r.Tuples x y → Co r.Tuples y z → Co r.Tuples x z)
      ·rw [if_pos c2, if_pos ⟨c1, c2⟩]
       dsimp only
       rw [Ae (by unfold InI; omega)]; rfl
      ·rw [if_neg c2, if_neg (fun hh => c2 hh.2)]
     ·rw [if_neg (by rw [beq_iff_eq, decide_eq_decide]; exact c1), if_neg (fun hh => c1 hh.1)]
    ·unfold Cp
     rw [if_neg (by omega)]
   have b3 : Al (Cq n tb) 0 = some (if Yv n r.Tuples then .inr () else .inl ()) := by
    refine Vd n _ Iff.rfl (fun x hx => ?_) ?_
    ·have tx := tr x hx
     unfold Cq
     rw [if_pos (by omega), Ae (by omega), Int.toNat_natCast, Ae (by omega), tx.2 x hx]
     by_cases c1 : Co r.Tuples x x
     ·rw [decide_eq_true c1, if_pos rfl, b2 x hx]
      simp only [Option.bind_some]
      by_cases c2 : ∀ y, y < n → ((Co r.Tuples x y ↔ Co r.Tuples y x) ∧ ∀ z, z < n → Co r.Tuples x y → Co r.Tuples y z → Co r.Tuples x z)
      ·rw [if_pos c2, if_pos ⟨c1, c2⟩]
       dsimp only
       rw [Ae (by unfold InI; omega)]; rfl
      ·rw [if_neg c2, if_neg (fun hh => c2 hh.2)]
     ·rw [decide_eq_false c1, if_neg Bool.false_ne_true, if_neg (fun hh => c1 hh.1)]
    ·unfold Cq
     rw [if_neg (by omega)]
   rw [b3, Int.toNat_natCast]
   by_cases c : Yv n r.Tuples
   ·rw [if_pos c, decide_eq_true c]; rfl
   ·rw [if_neg c, decide_eq_false c]; rfl
  ·rw [if_pos (by simpa using h2), if_neg (fun hh => h2 hh.2.2.2)]; rfl
 ·rw [decide_eq_false hok, if_neg Bool.false_ne_true, if_neg (fun hh => hok hh.2.2.1)]; rfl
theorem Ax6 (_h : Dk n r) (_h2 : r.Arity = 2) : Yv n r.Tuples ↔ (∀ x, x < n → Co r.Tuples x x) ∧ ∀ x y, x < n → y < n → Co r.Tuples x y → Co r.Tuples y x ∧ ∀ z, z < n → Co r.Tuples y z → Co r.Tuples x z := by
 constructor
 ·intro he
  exact ⟨fun x hx => (he x hx).1, fun x y hx hy hxy => ⟨(((he x hx).2 y hy).1).1 hxy, fun z hz hyz => ((he x hx).2 y hy).2 z hz hxy hyz⟩⟩
 ·rintro ⟨a, b⟩ x hx
  exact ⟨a x hx, fun y hy => ⟨⟨fun hh => (b x y hx hy hh).1, fun hh => (b y x hy hx hh).1⟩, fun z hz hxy hyz => (b x y hx hy hxy).2 z hz hyz⟩⟩
theorem Qw (h : Dk n r) (h2 : r.Arity = 2) (hl : r.Tuples.length ≤ 1048576) (h8 : n ≤ 8) {x y : Nat} (hx : x < n) (hy : y < n) : Dw r [(x : Int), (y : Int)] = some (decide (Co r.Tuples x y)) := by
 refine (Av8 (t := [(x : Int), (y : Int)]) h hl h8 (by rw [h2]; rfl) fun v hv => ?_).trans (congrArg some (decide_eq_decide.2 Iff.rfl))
 simp only [List.mem_cons, List.not_mem_nil, or_false] at hv
 rcases hv with rfl | rfl <;> omega
theorem Um (h : Dk n r) (h2 : r.Arity = 2) (hl : r.Tuples.length ≤ 1048576) (h8 : n ≤ 8) : Dd n r = some (decide (Yv n r.Tuples)) := by
 have hL := Bc
 unfold Dd
 have b1 : Al (Ce n r) 0 = some (if ∀ x, x < n → Co r.Tuples x x then .inr () else .inl ()) := by
  refine Vd n _ Iff.rfl (fun x hx => ?_) ?_
  ·unfold Ce
   rw [if_pos (by omega), Qw h h2 hl h8 hx hx]
   simp only [Option.bind_some]
   by_cases c : Co r.Tuples x x
   ·rw [decide_eq_true c, if_pos rfl, if_pos c, Ae (by unfold InI; omega)]; rfl
   ·rw [decide_eq_false c, if_neg Bool.false_ne_true, if_neg c]
  ·unfold Ce
   rw [if_neg (by omega)]
 have b3 : Al (Cf n r) 0 = some (if ∀ i, i < r.Tuples.length → ∃ x y : Nat, x < n ∧ y < n ∧ nth r.Tuples i = [(x : Int), (y : Int)] ∧ Co r.Tuples y x ∧ ∀ z, z < n → Co r.Tuples y z → Co r.Tuples x z then .inr () else .inl ()) := by
  refine Vd r.Tuples.length _ Iff.rfl (fun i hi => ?_) ?_
  ·obtain ⟨x, y, hx, hy, et⟩ := Y5 h h2 (As hi)
   have n0 : nth [(x : Int), (y : Int)] (Int.toNat 0) = (x : Int) := rfl
   have n1 : nth [(x : Int), (y : Int)] (Int.toNat 1) = (y : Int) := rfl
   have b2 : Al (Ch n r (i : Int)) 0 = some (if ∀ z, z < n → (Co r.Tuples y z → Co r.Tuples x z) then .inr () else .inl ()) := by
    refine Vd n _ Iff.rfl (fun z hz => ?_) ?_
    ·unfold Ch
     rw [if_pos (by omega), Int.toNat_natCast, et, n0, n1, Qw h h2 hl h8 hy hz]
     simp only [Option.bind_some]
     by_cases c1 : Co r.Tuples y z
     ·rw [decide_eq_true c1, if_pos rfl, Qw h h2 hl h8 hx hz]
      simp only [Option.bind_some]
      by_cases c2 : Co r.Tuples x z
      ·rw [decide_eq_true c2, if_pos rfl, if_pos (fun _ => c2), Ae (by unfold InI; omega)]; rfl
      ·rw [decide_eq_false c2, if_neg Bool.false_ne_true, if_neg (fun hh => c2 (hh c1))]
     ·rw [decide_eq_false c1, if_neg Bool.false_ne_true, if_pos (fun hh => absurd hh c1), Ae (by unfold InI; omega)]; rfl
    ·unfold Ch
     rw [if_neg (by omega)]
   unfold Cf
   rw [if_pos (by omega), Ae (by omega), Int.toNat_natCast, et, n0, n1, Ae (by simp), Ae (by omega), Ae (by simp), Qw h h2 hl h8 hy hx]
   simp only [Option.bind_some]
   have uniq2 : ∀ x' y' : Nat, [(x : Int), (y : Int)] = [(x' : Int), (y' : Int)] → x' = x ∧ y' = y := fun x' y' hh => by
    simp only [List.cons.injEq, and_true] at hh
    omega
   by_cases c1 : Co r.Tuples y x
   ·rw [decide_eq_true c1, if_pos rfl, b2]
    simp only [Option.bind_some]
    by_cases c2 : ∀ z, z < n → (Co r.Tuples y z → Co r.Tuples x z)
    ·rw [if_pos c2, if_pos ⟨x, y, hx, hy, rfl, c1, c2⟩]
     dsimp only
     rw [Ae (by unfold InI; omega)]; rfl
    ·rw [if_neg c2, if_neg (by
      rintro ⟨x', y', _, _, e', _, hh⟩
      obtain ⟨rfl, rfl⟩ := uniq2 x' y' e'
      exact c2 hh)]
   ·rw [decide_eq_false c1, if_neg Bool.false_ne_true, if_neg (by
     rintro ⟨x', y', _, _, e', hh, _⟩
     obtain ⟨rfl, rfl⟩ := uniq2 x' y' e'
     exact c1 hh)]
  ·unfold Cf
   rw [if_neg (by omega)]
 rw [b1]
 simp only [Option.bind_some]
 have e2 := Ax6 h h2
 by_cases c1 : ∀ x, x < n → Co r.Tuples x x
 ·rw [if_pos c1]
  dsimp only
  rw [b3]
  simp only [Option.bind_some]
  by_cases c2 : ∀ i, i < r.Tuples.length → ∃ x y : Nat, x < n ∧ y < n ∧ nth r.Tuples i = [(x : Int), (y : Int)] ∧ Co r.Tuples y x ∧ ∀ z, z < n → Co r.Tuples y z → Co r.Tuples x z
  ·rw [if_pos c2, decide_eq_true (e2.2 ⟨c1, fun x y hx hy hxy => by
    obtain ⟨i, hi, ei⟩ := Mh.1 hxy
    obtain ⟨x', y', _, _, e', k1, k2⟩ := c2 i hi
    rw [ei] at e'
    simp only [List.cons.injEq, and_true] at e'
    have e3 : x = x' := by omega
    have e4 : y = y' := by omega
    subst e3 e4
    exact ⟨k1, k2⟩⟩)]
  ·rw [if_neg c2, decide_eq_false (fun hh => c2 fun i hi => by
    obtain ⟨x, y, hx, hy, et⟩ := Y5 h h2 (As hi)
    have hin : Co r.Tuples x y := by unfold Co; rw [← et]; exact As hi
    obtain ⟨k1, k2⟩ := (e2.1 hh).2 x y hx hy hin
    exact ⟨x, y, hx, hy, et, k1, k2⟩)]
 ·rw [if_neg c1, decide_eq_false (fun hh => c1 (e2.1 hh).1)]
end
end Go.Proofs.Ytcpgnfohmeineaa.Ax
namespace Go.Proofs.Ytcpgnfohmeineaa.Ax
open Go Classical
section
variable {n : Nat} {r : SRelation}
noncomputable def Ais (T : List (List Int)) (x : Nat) (h : Co T x x) : Nat := Classical.choose (Aln (fun y => Co T x y) x h)
theorem Apc (T : List (List Int)) (x : Nat) (h : Co T x x) : Ais T x h ≤ x ∧ Co T x (Ais T x h) ∧ ∀ z, z < Ais T x h → ¬ Co T x z :=
 Classical.choose_spec (Aln (fun y => Co T x y) x h)
noncomputable def Kc (n : Nat) (T : List (List Int)) : List Int := (List.range n).map fun x => if h : Co T x x then (Ais T x h : Int) else 0
theorem Ly (n : Nat) (T : List (List Int)) : (Kc n T).length = n := by simp [Kc]
theorem Ut {T : List (List Int)} (he : Yv n T) {x : Nat} (hx : x < n) : ∃ y : Nat, nth (Kc n T) x = (y : Int) ∧ y ≤ x ∧ Co T x y ∧ ∀ z, z < y → ¬ Co T x z := by
 have h := (he x hx).1
 obtain ⟨a, b, c⟩ := Apc T x h
 refine ⟨Ais T x h, ?_, a, b, c⟩
 unfold Kc
 rw [Im _ (by simpa using hx), Adn hx, dif_pos h]
theorem Aay {T : List (List Int)} (he : Yv n T) {x y : Nat} (hx : x < n) (hy : Co T x y) (hm : ∀ z, z < y → ¬ Co T x z) : nth (Kc n T) x = (y : Int) := by
 obtain ⟨y', e, _, h1, h2⟩ := Ut he hx
 have : y = y' := by
  rcases Nat.lt_trichotomy y y' with hl | hl | hl
  ·exact absurd hy (h2 y hl)
  ·exact hl
  ·exact absurd h1 (hm y' hl)
 rw [e, this]
theorem Awb {T : List (List Int)} (he : Yv n T) : Gu n (Kc n T) := by
 refine ⟨Ly n T, fun x hx => ?_⟩
 obtain ⟨y, e, h1, h2, h3⟩ := Ut he hx
 rw [e, Int.toNat_natCast]
 refine ⟨by omega, by omega, ?_⟩
 have hy : y < n := by omega
 have hyy := (he y hy).1
 refine Aay he hy hyy fun z hz hc => h3 z hz ?_
 exact ((he x hx).2 y hy).2 z (by omega) h2 hc
theorem Atl {T : List (List Int)} (he : Yv n T) {x y : Nat} (hx : x < n) (hy : y < n) : nth (Kc n T) x = nth (Kc n T) y ↔ Co T x y := by
 obtain ⟨a, ea, a1, a2, a3⟩ := Ut he hx
 obtain ⟨b, eb, b1, b2, b3⟩ := Ut he hy
 constructor
 ·intro h
  have : a = b := by omega
  subst this
  have h1 := (((he y hy).2 a (by omega)).1).1 b2
  exact ((he x hx).2 a (by omega)).2 y hy a2 h1
 ·intro h
  rw [eb]
  refine Aay he hx (((he x hx).2 y hy).2 b (by omega) h b2) fun z hz hc => b3 z hz ?_
  exact ((he y hy).2 x hx).2 z (by omega) ((((he x hx).2 y hy).1).1 h) hc
theorem Aws (h1 : 1 ≤ n) (h : Dk n r) (h2 : r.Arity = 2) (he : Yv n r.Tuples) : C8 (Kc n r.Tuples) = r.Tuples := by
 have e := h.canon (by omega)
 rw [h2] at e
 have e2 : (2 : Int).toNat = 2 := rfl
 rw [e2] at e
 conv => rhs; rw [e]
 unfold C8
 rw [Ly]
 unfold Akp
 congr 1
 refine List.filter_congr fun k hk => ?_
 have hk := List.mem_range.1 hk
 have hx : k / n < n := Nat.div_lt_of_lt_mul (by rw [Nat.pow_succ, Nat.pow_one] at hk; exact hk)
 have hy : k % n < n := Nat.mod_lt _ (by omega)
 rw [decide_eq_decide]
 show nth (Kc n r.Tuples) (k / n) = nth (Kc n r.Tuples) (k % n) ↔ Bt n 2 k ∈ r.Tuples
 rw [Atl he hx hy]
 unfold Co
 rw [← Abz hx hy, Nat.div_add_mod']
theorem Asb {p : List Int} (hp : Gu n p) : Yv n (C8 p) := by
 have hm : ∀ x y, x < n → y < n → (Co (C8 p) x y ↔ nth p x = nth p y) := fun x y hx hy => Uo hp hx hy
 intro x hx
 refine ⟨(hm x x hx hx).2 rfl, fun y hy => ⟨?_, fun z hz => ?_⟩⟩
 ·rw [hm x y hx hy, hm y x hy hx]; exact eq_comm
 ·rw [hm x y hx hy, hm y z hy hz, hm x z hx hz]; exact Eq.trans
theorem Au3 {p : List Int} (hp : Gu n p) : Kc n (C8 p) = p := by
 have he := Asb hp
 have e := hp.1
 refine Qm (by rw [Ly, e]) fun x hx => ?_
 rw [Ly] at hx
 obtain ⟨q1, q2, q3⟩ := hp.2 x hx
 have hy : (nth p x).toNat < n := by omega
 have := Aay he hx (y := (nth p x).toNat) ((Uo hp hx hy).2 q3.symm) fun z hz hc => by
  have hzn : z < n := by omega
  have e1 := (Uo hp hx hzn).1 hc
  have := (hp.2 z hzn).2.1
  omega
 rw [this]; omega
end
end Go.Proofs.Ytcpgnfohmeineaa.Ax
namespace Go.Proofs.Ytcpgnfohmeineaa.Ax
open Go Classical
structure OpQ (n r : Nat) (f : SOp) : Prop where
 ar : f.Arity = r
 le : r ≤ 3
 len : f.Table.length = n ^ r
 fin : Cb f.Table n
theorem OpQ.at {n r : Nat} {f : SOp} (h : OpQ n r f) (hn : n ≤ 8) {y : Nat → Int} (hy : ∀ i, i < r → 0 ≤ y i ∧ y i < n) : (∃ c : Nat, hT n r y = (c : Int) ∧ c < f.Table.length ∧ c < 512) ∧ 0 ≤ nth f.Table (hT n r y).toNat ∧ nth f.Table (hT n r y).toNat < n := by
 obtain ⟨c, h1, h2, h3⟩ := Ahq hn (by have := h.le; omega) hy
 rw [← h.len] at h2
 exact ⟨⟨c, h1, h2, h3⟩, by rw [h1, Int.toNat_natCast]; exact h.fin _ (As h2)⟩
def M1 (T : List (List Int)) (n w : Nat) (f : SOp) (r k : Nat) : List Int := (List.range w).map fun j => nth f.Table (hT n r fun i => nth (nth T (nth (Bt T.length r k) i).toNat) j).toNat
def Y7 (T : List (List Int)) (n w : Nat) (f : SOp) (r : Nat) : Prop := ∀ k, k < T.length ^ r → M1 T n w f r k ∈ T
theorem Ad8 (T : List (List Int)) (n w : Nat) (f : SOp) (r k : Nat) : (M1 T n w f r k).length = w := by simp [M1]
theorem A1d {f : SOp} {R : SRelation} {S : List (ByteArray × Bool)} {N a : Int} {b : List Int} {M : Nat} (hM : R.Tuples.length = M) (h0 : 0 < M) (h9 : M ≤ 1000) : ∀ (r k : Nat) (xs : List Int), r ≤ xs.length → xs.length ≤ 1000 → k ≤ 1048576 →
  Al (Cz N f R S a b) ((r : Int) - 1, (k : Int), xs) = some (Bt M r k ++ xs.drop r) := by
 intro r
 induction r with
 | zero =>
   intro k xs _ _ _
   refine Li ?_
   unfold Cz
   dsimp only
   rw [if_neg (by omega)]
   simp [Bt]
 | succ r ih =>
   intro k xs hr hl hk
   have c1 : (k : Int).tdiv (M : Int) = ((k / M : Nat) : Int) := rfl
   have c2 : (k : Int).tmod (M : Int) = ((k % M : Nat) : Int) := rfl
   have hd : k / M ≤ k := Nat.div_le_self k M
   have step : Cz N f R S a b (((r + 1 : Nat) : Int) - 1, (k : Int), xs) = some (.inl ((r : Int) - 1, ((k / M : Nat) : Int), xs.set r ((k % M : Nat) : Int))) := by
    unfold Cz
    dsimp only
    rw [hM, show (((r + 1 : Nat) : Int) - 1) = (r : Int) by omega, c1, c2]
    generalize k / M = kd at hd
    rw [if_pos (by omega), Ae (by omega), Ae (by omega), Ae (by unfold InI; omega), Ae (by unfold InI; omega), Int.toNat_natCast]
   rw [Np step, ih _ _ (by rw [List.length_set]; omega) (by rw [List.length_set]; exact hl) (by omega)]
   congr 1
   simp only [Bt]
   rw [List.append_assoc]
   congr 1
   have e : (xs.set r ((k % M : Nat) : Int)).drop r = ((k % M : Nat) : Int) :: xs.drop (r + 1) := by
    refine List.ext_getElem (by simp; omega) fun i h1 h2 => ?_
    rw [List.getElem_drop, List.getElem_set]
    cases i with
    | zero => simp
    | succ i =>
      rw [if_neg (by omega), List.getElem_cons_succ, List.getElem_drop]
      congr 1; omega
   rw [e]; rfl
section
variable {n r w : Nat} {f : SOp} {R : SRelation}
theorem A0f {M : Nat} (hM : 0 < M) {k i : Nat} (hi : i < r) : ∃ a : Nat, nth (Bt M r k) i = (a : Int) ∧ a < M := by
 have := Qr hM r k _ (As (show i < (Bt M r k).length by rw [E1]; exact hi))
 exact ⟨(nth (Bt M r k) i).toNat, by omega, by omega⟩
theorem A02 (hT0 : 0 < R.Tuples.length) (hrow : ∀ t ∈ R.Tuples, t.length = w ∧ Cb t n) {k i j : Nat} (hi : i < r) (hj : j < w) : 0 ≤ nth (nth R.Tuples (nth (Bt R.Tuples.length r k) i).toNat) j ∧ nth (nth R.Tuples (nth (Bt R.Tuples.length r k) i).toNat) j < n := by
 obtain ⟨b, e, hb⟩ := A0f hT0 (k := k) hi
 rw [e, Int.toNat_natCast]
 obtain ⟨a1, a2⟩ := hrow _ (As hb)
 exact a2 _ (As (by omega))
theorem A1b (h8 : n ≤ 8) (hf : OpQ n r f) (hT0 : 0 < R.Tuples.length) (_hM : R.Tuples.length ≤ 1000) (_hw : R.Arity = w) (hw3 : w ≤ 3) (hrow : ∀ t ∈ R.Tuples, t.length = w ∧ Cb t n) {S : List (ByteArray × Bool)} {a : Int} {k : Nat} {xs : List Int} (hx : xs.length = w) :
  Al (B7 n f R S a xs (Bt R.Tuples.length r k)) (0, xs) = some (M1 R.Tuples n w f r k) := by
 have hr2 := hf.le
 have hal := E1 R.Tuples.length r k
 have hrl := Ad8 R.Tuples n w f r k
 have key := Dm (body := B7 n f R S a xs (Bt R.Tuples.length r k)) (fun j => ((j : Int), (M1 R.Tuples n w f r k).take j ++ xs.drop j)) w (M1 R.Tuples n w f r k) (fun j hj => by
  have hrw : ∀ i, i < r → (∃ b : Nat, nth (Bt R.Tuples.length r k) i = (b : Int) ∧ b < R.Tuples.length) ∧ (nth R.Tuples (nth (Bt R.Tuples.length r k) i).toNat).length = w ∧ 0 ≤ nth (nth R.Tuples (nth (Bt R.Tuples.length r k) i).toNat) j ∧ nth (nth R.Tuples (nth (Bt R.Tuples.length r k) i).toNat) j < n := by
   intro i hi
   obtain ⟨b, e, hb⟩ := A0f hT0 (k := k) hi
   exact ⟨⟨b, e, hb⟩, by rw [e, Int.toNat_natCast]; exact (hrow _ (As hb)).1, A02 hT0 hrow hi hj⟩
  obtain ⟨⟨d, d1, d2, _⟩, d4⟩ := hf.at h8 (fun i hi => (hrw i hi).2.2)
  have l2 : ∀ b, Al (Dr n f R S a xs (Bt R.Tuples.length r k) (j : Int) b) (0, 0) = some (hT n r fun i => nth (nth R.Tuples (nth (Bt R.Tuples.length r k) i).toNat) j) := fun b => by
   refine Ay9 n r _ (fun i hi => ?_) fun q => by unfold Dr; dsimp only; rw [if_neg (by omega)]
   obtain ⟨⟨b, b1, b2⟩, b3, b4⟩ := hrw i hi
   obtain ⟨c, c1, _, c3⟩ := Ahq (n := n) (r := i) (y := fun i => nth (nth R.Tuples (nth (Bt R.Tuples.length r k) i).toNat) j) h8 (by omega) (fun i' hi' => (hrw i' (by omega)).2.2)
   have q5 : (c : Int) * (n : Int) = ((c * n : Nat) : Int) := by push_cast; rfl
   have q6 : c * n ≤ 512 * 8 := Nat.mul_le_mul (by omega) h8
   unfold Dr
   dsimp only
   rw [if_pos (by omega), Ae (by omega), Int.toNat_natCast, c1, q5, Ae (by unfold InI; omega), Ae (by omega), Int.toNat_natCast, Ae (by omega), Ae (by unfold InI; omega), Ae (by unfold InI; omega)]
   rfl
  unfold B7
  dsimp only
  rw [if_pos (by omega), l2]
  simp only [Option.bind_some]
  rw [d1] at d4
  rw [d1, Ae (by omega), Ae (by simp; omega), Ae (by unfold InI; omega), Int.toNat_natCast, Ayg _ _ _ (by simp; omega) (by omega), Jo (by omega)]
  have e : nth (M1 R.Tuples n w f r k) j = nth f.Table ((d : Int)).toNat := by
   unfold M1
   rw [Fm (by simp; omega)]
   simp only [List.getElem_map, List.getElem_range]
   rw [d1]
  rw [e]
  rfl) (by
  unfold B7
  dsimp only
  rw [if_neg (by omega), List.take_of_length_le (by omega), List.drop_of_length_le (by omega), List.append_nil])
 have key' : Al (B7 n f R S a xs (Bt R.Tuples.length r k)) (0, xs) = some (M1 R.Tuples n w f r k) := by simpa using key
 exact key'
theorem Aka (h1 : 1 ≤ n) (h8 : n ≤ 8) (hf : OpQ n r f) (hT0 : 0 < R.Tuples.length) (hM : R.Tuples.length ≤ 64) (hw : R.Arity = w) (hw3 : w ≤ 3) (hrow : ∀ t ∈ R.Tuples, t.length = w ∧ Cb t n) : ∃ a b, Gs n f R = some (a, b, decide (¬ Y7 R.Tuples n w f r)) := by
 have hL := Bc
 have hr2 := hf.le
 have hp81 : ∀ i, i ≤ r → R.Tuples.length ^ i ≤ 262144 := fun i hi => Nat.le_trans (Nat.pow_le_pow_left hM i) (Nat.le_trans (Nat.pow_le_pow_right (by omega) (show i ≤ 3 by omega)) (by decide))
 have hpr := hp81 r (Nat.le_refl _)
 obtain ⟨S, e, hS⟩ := Arj (r := R) (by omega) (fun t ht => by rw [(hrow t ht).1]; omega)
 unfold Gs
 rw [e]
 simp only [Option.bind_some]
 rw [hf.ar, hw, Ae (by omega), Ae (by omega)]
 have body : ∀ k, k < R.Tuples.length ^ r → ∀ X Y : List Int, X.length = w → Y.length = r → Bu n f R S ((k : Int), X, Y) =
   if M1 R.Tuples n w f r k ∈ R.Tuples then some (.inl (((k + 1 : Nat) : Int), M1 R.Tuples n w f r k, Bt R.Tuples.length r k)) else some (.inr (.inl (M1 R.Tuples n w f r k, Bt R.Tuples.length r k))) := by
  intro k hk X Y hX hY
  have hr1 : ∀ v ∈ M1 R.Tuples n w f r k, 0 ≤ v ∧ v < 65536 := by
   intro v hv
   obtain ⟨j, hj, rfl⟩ := List.mem_map.1 hv
   have hj := List.mem_range.1 hj
   have := (hf.at h8 (fun i hi => A02 hT0 hrow (k := k) hi hj)).2
   omega
  have hr2 : ∀ t ∈ R.Tuples, ∀ v ∈ t, 0 ≤ v ∧ v < 65536 := by
   intro t ht v hv
   have := (hrow t ht).2 v hv
   omega
  unfold Bu
  dsimp only
  rw [hf.ar, Ahy 262144 (by omega) hp81 (by omega)]
  simp only [Option.bind_some]
  rw [if_pos (by omega), Ae (by unfold InI; omega), A1d (M := R.Tuples.length) rfl hT0 (by omega) r k Y (by omega) (by omega) (by omega)]
  simp only [Option.bind_some]
  rw [List.drop_of_length_le (by omega), List.append_nil, A1b h8 hf hT0 (by omega) hw hw3 hrow hX]
  simp only [Option.bind_some]
  rw [Ast (by rw [Ad8]; omega)]
  simp only [Option.bind_some]
  rw [hS]
  by_cases hm : M1 R.Tuples n w f r k ∈ R.Tuples
  ·rw [decide_eq_true ⟨_, hm, rfl⟩, if_pos rfl, if_pos hm, Ae (by unfold InI; omega)]
   rfl
  ·rw [decide_eq_false (by
    rintro ⟨t, ht, he⟩
    rw [Avu (hr2 t ht) hr1 he] at ht
    exact hm ht), if_neg Bool.false_ne_true, if_neg hm]
 obtain ⟨X, hX0, hXs⟩ : ∃ X : Nat → List Int, X 0 = List.replicate w 0 ∧ ∀ k, X (k + 1) = M1 R.Tuples n w f r k := ⟨fun k => match k with | 0 => List.replicate w 0 | k + 1 => M1 R.Tuples n w f r k, rfl, fun _ => rfl⟩
 obtain ⟨Y, hY0, hYs⟩ : ∃ Y : Nat → List Int, Y 0 = List.replicate r 0 ∧ ∀ k, Y (k + 1) = Bt R.Tuples.length r k := ⟨fun k => match k with | 0 => List.replicate r 0 | k + 1 => Bt R.Tuples.length r k, rfl, fun _ => rfl⟩
 have hXl : ∀ k, (X k).length = w := fun k => by
  cases k with
  | zero => rw [hX0]; simp
  | succ k => rw [hXs]; exact Ad8 _ _ _ _ _ k
 have hYl : ∀ k, (Y k).length = r := fun k => by
  cases k with
  | zero => rw [hY0]; simp
  | succ k => rw [hYs]; exact E1 _ _ _
 have hpick := Ad4 (body := Bu n f R S) (fun k => ((k : Int), X k, Y k)) (R.Tuples.length ^ r) (fun k => M1 R.Tuples n w f r k ∉ R.Tuples) (fun k => .inl (M1 R.Tuples n w f r k, Bt R.Tuples.length r k)) (.inr ()) (fun k hk hh => by
   rw [body k hk _ _ (hXl k) (hYl k), if_pos (Classical.not_not.1 hh), hXs, hYs]) (fun k hk hh => by
   rw [body k hk _ _ (hXl k) (hYl k), if_neg hh]) (by
   unfold Bu
   dsimp only
   rw [hf.ar, Ahy 262144 (by omega) hp81 (by omega)]
   simp only [Option.bind_some]
   rw [if_neg (by omega)])
 rw [hX0, hY0] at hpick
 rw [Int.toNat_natCast, Int.toNat_natCast]
 rcases hpick with ⟨k, hk, hh, _, e2⟩ | ⟨hno, e2⟩
 ·have e2' : Al (Bu n f R S) (0, List.replicate w 0, List.replicate r 0) = _ := e2
  rw [e2', decide_eq_true (show ¬ Y7 R.Tuples n w f r from fun hc => hh (hc k hk))]
  exact ⟨_, _, rfl⟩
 ·have e2' : Al (Bu n f R S) (0, List.replicate w 0, List.replicate r 0) = _ := e2
  rw [e2', decide_eq_false (show ¬ ¬ Y7 R.Tuples n w f r from fun hc => hc (fun k hk => Classical.not_not.1 (hno k hk)))]
  exact ⟨_, _, rfl⟩
theorem Apj (h1 : 1 ≤ n) (h8 : n ≤ 8) (hf : OpQ n r f) (hfo : Aog n f) (hok : Dk n R) (hT0 : 0 < R.Tuples.length) (hM : R.Tuples.length ≤ 64) (hw : R.Arity = w) (hw3 : w ≤ 3) : ∃ q, Il n f R = some q ∧ (q.2 = true → q.1 = decide (Y7 R.Tuples n w f r)) := by
 have hL := Bc
 have hr2 := hf.le
 have hp81 : ∀ i, i ≤ r → R.Tuples.length ^ i ≤ 262144 := fun i hi => Nat.le_trans (Nat.pow_le_pow_left hM i) (Nat.le_trans (Nat.pow_le_pow_right (by omega) (show i ≤ 3 by omega)) (by decide))
 have hpr := hp81 r (Nat.le_refl _)
 have hfp := hf.len
 have hfp2 : n ^ r ≤ 512 := Nat.le_trans (Nat.pow_le_pow_left h8 r) (Nat.le_trans (Nat.pow_le_pow_right (by omega) hr2) (by decide))
 have hrow : ∀ t ∈ R.Tuples, t.length = w ∧ Cb t n := fun t ht => by
  obtain ⟨a1, a2⟩ := hok.row ht
  exact ⟨by omega, a2⟩
 obtain ⟨x, y, e2⟩ := Aka h1 h8 hf hT0 hM hw hw3 hrow
 unfold Il Mw Dl Fp
 rw [if_pos (show (n : Int) ≥ 1 by omega), decide_eq_true (show (n : Int) ≤ 8 by omega)]
 simp only [Option.bind_some, if_true]
 rw [Tn (by omega) (fun t ht => by rw [(hrow t ht).1]; omega), decide_eq_true hok]
 simp only [Option.bind_some, if_true]
 rw [Ar7 (by omega) (by omega), decide_eq_true hfo]
 simp only [Option.bind_some, if_true]
 rw [hf.ar, Ahy 262144 (by omega) hp81 (by omega)]
 simp only [Option.bind_some]
 by_cases hb : ((R.Tuples.length ^ r : Nat) : Int) ≤ 70000
 ·rw [decide_eq_true hb, if_pos rfl, e2]
  refine ⟨_, rfl, fun _ => ?_⟩
  dsimp only
  by_cases hc : Y7 R.Tuples n w f r
  ·rw [decide_eq_false (fun hh => hh hc), decide_eq_true hc]; rfl
  ·rw [decide_eq_true hc, decide_eq_false hc]; rfl
 ·rw [decide_eq_false hb]
  exact ⟨_, rfl, fun hh => by cases hh⟩
end
end Go.Proofs.Ytcpgnfohmeineaa.Ax
namespace Go.Proofs.Ytcpgnfohmeineaa.Ax
open Go Classical
def Aze (p : List Int) (n r : Nat) (f : SOp) : Prop := ∀ x y : Nat → Int, (∀ i, i < r → 0 ≤ x i ∧ x i < n) → (∀ i, i < r → 0 ≤ y i ∧ y i < n) → (∀ i, i < r → nth p (x i).toNat = nth p (y i).toNat) → nth p (nth f.Table (hT n r x).toNat).toNat = nth p (nth f.Table (hT n r y).toNat).toNat
section
variable {n r : Nat} {f : SOp} {p : List Int}
theorem Amm (hp : Gu n p) {v : Int} (hv : 0 ≤ v ∧ v < n) : 0 ≤ nth p v.toNat ∧ nth p v.toNat < n ∧ nth p (nth p v.toNat).toNat = nth p v.toNat := by
 obtain ⟨q1, q2, q3⟩ := hp.2 v.toNat (by omega)
 exact ⟨q1, by omega, q3⟩
theorem As7 (h1 : 1 ≤ n) (_hp : Gu n p) {x : Nat → Int} (hx : ∀ i, i < r → 0 ≤ x i ∧ x i < n) {m : Nat} (hm : m < r) {c : Nat} (hc : hT n r x = (c : Int)) (hcn : c < n ^ r) : hT n r (fun i => if i = m then nth p (x m).toNat else x i) = swI n p (r - 1 - m) c := by
 have e := Qz (by omega) r ((List.range r).map x) (by simp) (Azf hx)
 have hc' : Gt n ((List.range r).map x) = (c : Int) := hc
 rw [hc', Int.toNat_natCast] at e
 have hs := Zm p r c m hcn hm
 rw [← hs, e]
 unfold hT
 congr 1
 refine Qm (by simp) fun i hi => ?_
 have hi : i < r := by simpa using hi
 have el : ∀ (y : Nat → Int) j, j < r → nth ((List.range r).map y) j = y j := fun y j hj => by rw [Im _ (by simpa using hj), Adn hj]
 rw [Sx _ _ _ _ (by simpa using hi), el _ i hi, el x i hi, el x m hm]
 by_cases h : i = m
 ·rw [if_pos h, if_pos h.symm]
 ·rw [if_neg h, if_neg (fun hh => h hh.symm)]
theorem Alj (h1 : 1 ≤ n) (h8 : n ≤ 8) (hp : Gu n p) (hf : OpQ n r f) : (∀ e, e < r → ∀ i, i < f.Table.length → nth p (nth f.Table i).toNat = nth p (nth f.Table (swI n p e i).toNat).toNat) ↔ Aze p n r f := by
 constructor
 ·intro h x y hx hy hxy
  have key : ∀ x : Nat → Int, (∀ i, i < r → 0 ≤ x i ∧ x i < n) → ∀ m, m ≤ r → nth p (nth f.Table (hT n r x).toNat).toNat = nth p (nth f.Table (hT n r fun i => if i < m then nth p (x i).toNat else x i).toNat).toNat := by
   intro x hx m
   induction m with
   | zero => intro _; rw [Y3 (z := x) fun i _ => if_neg (by omega)]
   | succ m ih =>
     intro hm
     rw [ih (by omega)]
     have hz : ∀ i, i < r → 0 ≤ (if i < m then nth p (x i).toNat else x i) ∧ (if i < m then nth p (x i).toNat else x i) < n := fun i hi => by
      split
      ·have := Amm hp (hx i hi); omega
      ·exact hx i hi
     obtain ⟨⟨c, c1, c2, _⟩, _⟩ := hf.at h8 hz
     have hs := As7 (m := m) h1 hp hz (by omega) c1 (by rw [← hf.len]; exact c2)
     rw [c1, Int.toNat_natCast, h (r - 1 - m) (by omega) c c2, ← hs]
     congr 4
     refine Y3 fun i _ => ?_
     by_cases him : i = m
     ·subst him
      rw [if_pos rfl, if_neg (by omega), if_pos (by omega)]
     ·rw [if_neg him]
      by_cases hl : i < m
      ·rw [if_pos hl, if_pos (by omega)]
      ·rw [if_neg hl, if_neg (by omega)]
  rw [key x hx r (Nat.le_refl _), key y hy r (Nat.le_refl _)]
  congr 4
  exact Y3 fun i hi => by rw [if_pos hi, if_pos hi, hxy i hi]
 ·intro h e he i hi
  rw [hf.len] at hi
  have hx : ∀ j, j < r → 0 ≤ nth (Bt n r i) j ∧ nth (Bt n r i) j < n := fun j hj => Qr (by omega) r i _ (As (by rw [E1]; exact hj))
  have e0 : hT n r (fun j => nth (Bt n r i) j) = (i : Int) := by
   unfold hT
   rw [Ao5 (E1 n r i), N9 (by omega) r i hi]
  have hs := As7 (m := r - 1 - e) h1 hp hx (by omega) e0 hi
  rw [show r - 1 - (r - 1 - e) = e by omega] at hs
  have := h (fun j => nth (Bt n r i) j) (fun j => if j = r - 1 - e then nth p (nth (Bt n r i) (r - 1 - e)).toNat else nth (Bt n r i) j) hx (fun j hj => by
   split
   ·have := Amm hp (hx (r - 1 - e) (by omega)); omega
   ·exact hx j hj) (fun j hj => by
   split
   ·rename_i hje
    subst hje
    exact (Amm hp (hx _ hj)).2.2.symm
   ·rfl)
  rw [hs, e0, Int.toNat_natCast] at this
  exact this
theorem Ay3 (h1 : 1 ≤ n) (hp : Gu n p) {b : Nat} (hb : b < (C8 p).length) : ∃ x y : Nat, x < n ∧ y < n ∧ nth (C8 p) b = [(x : Int), (y : Int)] ∧ nth p x = nth p y := by
 obtain ⟨x, y, hx, hy, e⟩ := Y5 (Ant h1 hp) rfl (As hb)
 refine ⟨x, y, hx, hy, e, (Uo hp hx hy).1 ?_⟩
 rw [← e]; exact As hb
theorem Ap3 (h1 : 1 ≤ n) (hp : Gu n p) : 0 < (C8 p).length := List.length_pos_of_mem ((Uo hp (x := 0) (y := 0) (by omega) (by omega)).2 rfl)
theorem Ay0 (h8 : n ≤ 8) (hp : Gu n p) : (C8 p).length ≤ 64 := by
 have := Aef p (p.length ^ 2)
 have e : Sg p (p.length ^ 2) = C8 p := rfl
 rw [e] at this
 have h2 := hp.1
 have : p.length ^ 2 ≤ 64 := Nat.le_trans (Nat.pow_le_pow_left (show p.length ≤ 8 by omega) 2) (by decide)
 omega
theorem Alt (h1 : 1 ≤ n) (h8 : n ≤ 8) (hp : Gu n p) (hf : OpQ n r f) : Y7 (C8 p) n 2 f r ↔ Aze p n r f := by
 have hT0 := Ap3 h1 hp
 have two : ∀ k, M1 (C8 p) n 2 f r k = [nth f.Table (hT n r fun i => nth (nth (C8 p) (nth (Bt (C8 p).length r k) i).toNat) 0).toNat, nth f.Table (hT n r fun i => nth (nth (C8 p) (nth (Bt (C8 p).length r k) i).toNat) 1).toNat] := fun k => rfl
 have mem2 : ∀ u v : Int, 0 ≤ u ∧ u < n → 0 ≤ v ∧ v < n → ([u, v] ∈ C8 p ↔ nth p u.toNat = nth p v.toNat) := fun u v hu hv => by
  have := Uo hp (x := u.toNat) (y := v.toNat) (by omega) (by omega)
  rw [← this, show ((u.toNat : Nat) : Int) = u by omega, show ((v.toNat : Nat) : Int) = v by omega]
 constructor
 ·intro h x y hx hy hxy
  obtain ⟨A, hA⟩ : ∃ A : Nat → Nat, ∀ i, i < r → A i < (C8 p).length ∧ nth (C8 p) (A i) = [x i, y i] := by
   have : ∀ i, ∃ a : Nat, i < r → a < (C8 p).length ∧ nth (C8 p) a = [x i, y i] := fun i => by
    by_cases hi : i < r
    ·obtain ⟨a, ha, e⟩ := Mh.1 ((mem2 (x i) (y i) (hx i hi) (hy i hi)).2 (hxy i hi))
     exact ⟨a, fun _ => ⟨ha, e⟩⟩
    ·exact ⟨0, fun hh => absurd hh hi⟩
   exact ⟨fun i => Classical.choose (this i), fun i => Classical.choose_spec (this i)⟩
  have hin : Cb ((List.range r).map fun i => ((A i : Nat) : Int)) ((C8 p).length : Nat) := by
   intro v hv
   obtain ⟨i, hi, rfl⟩ := List.mem_map.1 hv
   have := (hA i (List.mem_range.1 hi)).1
   omega
  obtain ⟨k, k1, k2⟩ := Sm r _ (by simp) hin
  have hk := Qz hT0 r _ (by simp) hin
  rw [k1, Int.toNat_natCast] at hk
  have hm := h k k2
  have at' : ∀ i, i < r → nth (C8 p) (nth (Bt (C8 p).length r k) i).toNat = [x i, y i] := fun i hi => by
   rw [hk, Im _ (by simpa using hi), Adn hi, Int.toNat_natCast]
   exact (hA i hi).2
  have eA : (hT n r fun i => nth (nth (C8 p) (nth (Bt (C8 p).length r k) i).toNat) 0) = hT n r x := Y3 fun i hi => by rw [at' i hi]; rfl
  have eB : (hT n r fun i => nth (nth (C8 p) (nth (Bt (C8 p).length r k) i).toNat) 1) = hT n r y := Y3 fun i hi => by rw [at' i hi]; rfl
  rw [two, eA, eB] at hm
  exact (mem2 _ _ (hf.at h8 hx).2 (hf.at h8 hy).2).1 hm
 ·intro h k _
  have hat : ∀ i, i < r → ∃ a b : Nat, a < n ∧ b < n ∧ nth (C8 p) (nth (Bt (C8 p).length r k) i).toNat = [(a : Int), (b : Int)] ∧ nth p a = nth p b := fun i hi => by
   obtain ⟨c, e, hc⟩ := A0f hT0 (k := k) hi
   rw [e, Int.toNat_natCast]
   exact Ay3 h1 hp hc
  have h0 : ∀ i, i < r → 0 ≤ nth (nth (C8 p) (nth (Bt (C8 p).length r k) i).toNat) 0 ∧ nth (nth (C8 p) (nth (Bt (C8 p).length r k) i).toNat) 0 < n := fun i hi => by
   obtain ⟨a, b, ha, hb, e, _⟩ := hat i hi
   rw [e]; show 0 ≤ (a : Int) ∧ (a : Int) < n; omega
  have h1' : ∀ i, i < r → 0 ≤ nth (nth (C8 p) (nth (Bt (C8 p).length r k) i).toNat) 1 ∧ nth (nth (C8 p) (nth (Bt (C8 p).length r k) i).toNat) 1 < n := fun i hi => by
   obtain ⟨a, b, ha, hb, e, _⟩ := hat i hi
   rw [e]; show 0 ≤ (b : Int) ∧ (b : Int) < n; omega
  rw [two]
  refine (mem2 _ _ (hf.at h8 h0).2 (hf.at h8 h1').2).2 (h _ _ h0 h1' fun i hi => ?_)
  obtain ⟨a, b, ha, hb, e, hab⟩ := hat i hi
  rw [e]
  exact hab
end
section
variable {a : SAlgebra} {n : Nat} {p : List Int}
theorem Aqq (ga : Jv a) (hn : a.Size = n) {o : Nat} (ho : o < a.Ops.length) : OpQ n (nth a.Ops o).Arity.toNat (nth a.Ops o) ∧ Aog n (nth a.Ops o) := by
 obtain ⟨r, r1, r2, r3, r4, _⟩ := opX ga hn ho
 have e : (nth a.Ops o).Arity.toNat = r := by omega
 have hn' : a.Size.toNat = n := by omega
 refine ⟨⟨by omega, by omega, by rw [e]; exact r3, r4⟩, ?_⟩
 have := ga.2.2.2 _ (As ho)
 rwa [hn'] at this
theorem Avd (ga : Jv a) (hn : a.Size = n) (h1 : 1 ≤ n) (h8 : n ≤ 8) (hp : Gu n p) : Aet a n p ↔ ∀ o, o < a.Ops.length → Y7 (C8 p) n 2 (nth a.Ops o) (nth a.Ops o).Arity.toNat := by
 constructor
 ·intro h o ho
  obtain ⟨hq, _⟩ := Aqq ga hn ho
  exact (Alt h1 h8 hp hq).2 ((Alj h1 h8 hp hq).1 fun e he i hi => h o ho e he i hi)
 ·intro h o ho e he i hi
  obtain ⟨hq, _⟩ := Aqq ga hn ho
  exact (Alj h1 h8 hp hq).2 ((Alt h1 h8 hp hq).1 (h o ho)) e he i hi
end
end Go.Proofs.Ytcpgnfohmeineaa.Ax
namespace Go.Proofs.Ytcpgnfohmeineaa.Ax
open Go Classical
section
variable {r : SRelation} (hl : r.Tuples.length ≤ 1048576) (hr : ∀ t ∈ r.Tuples, t.length ≤ 1048576)
include hl hr
theorem Vp (n : Int) : B6 n r = some (Yt n r) := by
 by_cases h : 1 ≤ n ∧ n ≤ 8
 ·obtain ⟨m, rfl⟩ := Int.eq_ofNat_of_zero_le (show 0 ≤ n by omega)
  exact Aeu (by omega) (by omega) hl hr
 ·unfold B6 Dl Fp Yt
  rw [if_neg (show ¬ (1 ≤ n ∧ n ≤ 8 ∧ Dk n r ∧ r.Arity = 2) from fun hh => h ⟨hh.1, hh.2.1⟩)]
  by_cases h1 : n ≥ 1
  ·rw [if_pos h1, decide_eq_false (show ¬ n ≤ 8 by omega)]; rfl
  ·rw [if_neg h1]; rfl
theorem Afs (n : Int) : Gm n r = some (decide (1 ≤ n ∧ n ≤ 8 ∧ Dk n r)) := by
 unfold Gm Dx
 rw [Mk]
 simp only [Option.bind_some]
 by_cases h : 1 ≤ n ∧ n ≤ 8
 ·obtain ⟨m, rfl⟩ := Int.eq_ofNat_of_zero_le (show 0 ≤ n by omega)
  rw [decide_eq_true (show (1 : Int) ≤ (m : Int) ∧ (m : Int) ≤ 8 from h), if_pos rfl, Att hl hr (by omega)]
  simp only [Option.bind_some]
  exact congrArg some (decide_eq_decide.2 ⟨fun hh => ⟨h.1, h.2, hh⟩, fun hh => hh.2.2⟩)
 ·rw [decide_eq_false (show ¬ ((1 : Int) ≤ n ∧ n ≤ 8) from h), if_neg Bool.false_ne_true, decide_eq_false (fun hh : 1 ≤ n ∧ n ≤ 8 ∧ Dk n r => h ⟨hh.1, hh.2.1⟩)]
theorem Aeo (n : Int) : E6 n r = some (Yt n r) := by
 unfold E6 Yt
 rw [Afs hl hr]
 simp only [Option.bind_some]
 by_cases h : 1 ≤ n ∧ n ≤ 8 ∧ Dk n r
 ·rw [decide_eq_true h, if_pos rfl]
  obtain ⟨m, rfl⟩ := Int.eq_ofNat_of_zero_le (show 0 ≤ n by omega)
  by_cases h2 : r.Arity = 2
  ·rw [if_neg (by simpa using h2), Um h.2.2 h2 hl (by omega), if_pos ⟨h.1, h.2.1, h.2.2, h2⟩]
   rfl
  ·rw [if_pos (by simpa using h2), if_neg (fun hh => h2 hh.2.2.2)]
 ·rw [decide_eq_false h, if_neg Bool.false_ne_true, if_neg (fun hh => h ⟨hh.1, hh.2.1, hh.2.2.1⟩)]
noncomputable def K1 (n : Int) (r : SRelation) : List Int × Bool := if (1 ≤ n ∧ n ≤ 8 ∧ Dk n r ∧ r.Arity = 2) ∧ Yv n.toNat r.Tuples then (Kc n.toNat r.Tuples, true) else (Av Int, false)
omit hl hr in
theorem Amg (n : Int) (r : SRelation) : (K1 n r).2 = true ↔ Yt n r = (true, true) := by
 unfold K1 Yt
 by_cases h : 1 ≤ n ∧ n ≤ 8 ∧ Dk n r ∧ r.Arity = 2
 ·rw [if_pos h]
  by_cases h2 : Yv n.toNat r.Tuples
  ·rw [if_pos ⟨h, h2⟩, decide_eq_true h2]; simp
  ·rw [if_neg (fun hh => h2 hh.2), decide_eq_false h2]; simp
 ·rw [if_neg h, if_neg (fun hh => h hh.1)]; simp
theorem M6 (n : Int) : B4 n r = some (K1 n r) := by
 have hL := Bc
 unfold B4
 rw [Vp hl hr]
 simp only [Option.bind_some]
 by_cases hh : (1 ≤ n ∧ n ≤ 8 ∧ Dk n r ∧ r.Arity = 2) ∧ Yv n.toNat r.Tuples
 ·obtain ⟨⟨h1, h8, hok, h2⟩, he⟩ := hh
  obtain ⟨m, rfl⟩ := Int.eq_ofNat_of_zero_le (show 0 ≤ n by omega)
  have e1 : Yt (m : Int) r = (true, true) := by
   unfold Yt
   rw [if_pos ⟨h1, h8, hok, h2⟩, decide_eq_true he]
  have e2 : K1 (m : Int) r = (Kc m r.Tuples, true) := by
   unfold K1
   rw [if_pos ⟨⟨h1, h8, hok, h2⟩, he⟩, Int.toNat_natCast]
  rw [Int.toNat_natCast] at he
  rw [e1, e2]
  dsimp only
  simp only [if_true, Option.bind_some]
  rw [Ae (by omega), Ae (by unfold InI; omega)]
  have row : ∀ j, j < r.Tuples.length → ∃ x y : Nat, x < m ∧ y < m ∧ nth r.Tuples j = [(x : Int), (y : Int)] := fun j hj => Y5 hok h2 (As hj)
  obtain ⟨p, e, hpl, hp⟩ := B8 (body := B9 r) (fun s => ∃ i : Nat, s.1 = (i : Int) - 1 ∧ i ≤ r.Tuples.length ∧ s.2.length = m ∧ ∀ j, i ≤ j → j < r.Tuples.length → ∀ x y : Nat, nth r.Tuples j = [(x : Int), (y : Int)] → (∀ j', i ≤ j' → j' < j → ∀ y' : Nat, nth r.Tuples j' ≠ [(x : Int), (y' : Int)]) → nth s.2 x = (y : Int)) (fun s => (s.1 + 1).toNat)
   (fun p => p.length = m ∧ ∀ j, j < r.Tuples.length → ∀ x y : Nat, nth r.Tuples j = [(x : Int), (y : Int)] → (∀ j', j' < j → ∀ y' : Nat, nth r.Tuples j' ≠ [(x : Int), (y' : Int)]) → nth p x = (y : Int)) (by
   rintro ⟨s1, p⟩ ⟨i, h1', g1, g2, g3⟩
   dsimp only at h1' g2 g3
   subst h1'
   unfold B9
   dsimp only
   cases i with
   | zero =>
     rw [if_neg (by omega)]
     exact .inr ⟨_, rfl, g2, fun j hj x y e hno => g3 j (Nat.zero_le _) hj x y e fun j' _ => hno j'⟩
   | succ i =>
     obtain ⟨x, y, hx, hy, et⟩ := row i (by omega)
     have n0 : nth [(x : Int), (y : Int)] (Int.toNat 0) = (x : Int) := rfl
     have n1 : nth [(x : Int), (y : Int)] (Int.toNat 1) = (y : Int) := rfl
     rw [show (((i + 1 : Nat) : Int) - 1) = (i : Int) by omega, if_pos (by omega), Int.toNat_natCast, et, n0, n1, Int.toNat_natCast, Ae (by omega), Ae (by simp), Ae (by omega), Ae (by simp), Ae (by omega), Ae (by unfold InI; omega)]
     refine .inl ⟨_, rfl, ⟨i, rfl, by omega, by rw [List.length_set]; exact g2, fun j hij hj a b e hno => ?_⟩, by dsimp only; omega⟩
     dsimp only
     rw [Sx _ _ _ _ (by obtain ⟨a', b', ha', hb', e'⟩ := row j hj; rw [e'] at e; simp only [List.cons.injEq, and_true] at e; omega)]
     by_cases hji : j = i
     ·subst hji
      rw [et] at e
      simp only [List.cons.injEq, and_true] at e
      rw [if_pos (by omega)]; omega
     ·have hxa : x ≠ a := fun hxa => by
       subst hxa
       exact hno i (Nat.le_refl _) (by omega) y et
      rw [if_neg hxa]
      exact g3 j (by omega) hj a b e fun j' h1 h2 => hno j' (by omega) h2) (s := ((r.Tuples.length : Int) - 1, List.replicate (m : Int).toNat 0)) ⟨r.Tuples.length, rfl, Nat.le_refl _, by simp, fun j hj1 hj2 => by omega⟩
  rw [e]
  simp only [Option.bind_some]
  have : p = Kc m r.Tuples := by
   refine Qm (by rw [hpl, Ly]) fun x hx => ?_
   rw [hpl] at hx
   obtain ⟨y, e3, _, q2, q3⟩ := Ut he hx
   obtain ⟨j, hj, ej⟩ := Mh.1 q2
   rw [e3]
   refine hp j hj x y ej fun j' hj' y' e4 => ?_
   have hm := hok.mono j hj j' hj'
   obtain ⟨_, b, _, hb, eb⟩ := row j' (by omega)
   have hb' : y' < m := by
    rw [eb] at e4
    simp only [List.cons.injEq, and_true] at e4
    omega
   have hym : y < m := by
    obtain ⟨_, b, _, hb, eb⟩ := row j hj
    rw [eb] at ej
    simp only [List.cons.injEq, and_true] at ej
    omega
   have e5 : ∀ a b : Nat, Gt m [(a : Int), (b : Int)] = (a : Int) * (m : Int) + (b : Int) := fun a b => by
    have := Fy m [(a : Int)] (b : Int)
    have h2 := Fy m [] (a : Int)
    rw [show [(a : Int), (b : Int)] = [(a : Int)] ++ [(b : Int)] from rfl, this, show [(a : Int)] = [] ++ [(a : Int)] from rfl, h2]
    simp [Gt]
   rw [e4, ej, e5, e5] at hm
   refine q3 y' (by omega) ?_
   unfold Co
   rw [← e4]
   exact As (by omega)
  rw [this]
 ·have e2 : K1 n r = (Av Int, false) := by
   unfold K1
   rw [if_neg hh]
  have e3 : ¬ ((Yt n r).2 = true ∧ (Yt n r).1 = true) := fun h => by
   have := (Amg n r).2 (Prod.ext h.2 h.1)
   rw [e2] at this
   exact Bool.false_ne_true this
  rw [e2]
  by_cases c : (Yt n r).snd = true
  ·rw [if_pos c, if_neg (fun h => e3 ⟨c, h⟩)]; rfl
  ·rw [if_neg c]; rfl
theorem Wf (n : Int) : C3 n r = some (K1 n r) := by
 have hL := Bc
 unfold C3 K1
 rw [Afs hl hr]
 simp only [Option.bind_some]
 by_cases h : 1 ≤ n ∧ n ≤ 8 ∧ Dk n r
 ·rw [decide_eq_true h, if_pos rfl]
  obtain ⟨m, rfl⟩ := Int.eq_ofNat_of_zero_le (show 0 ≤ n by omega)
  obtain ⟨h1, h8, hok⟩ := h
  by_cases h2 : r.Arity = 2
  ·rw [if_neg (by simpa using h2), Um hok h2 hl (by omega)]
   simp only [Option.bind_some]
   by_cases he : Yv m r.Tuples
   ·rw [decide_eq_true he, if_pos rfl, if_pos ⟨⟨h1, h8, hok, h2⟩, by rw [Int.toNat_natCast]; exact he⟩, Int.toNat_natCast]
    simp only [Option.bind_some]
    have inner : ∀ x, x < m → ∀ q : List Int, Al (Bg (m : Int) r (x : Int) q) 0 = some (nth (Kc m r.Tuples) x) := by
     intro x hx q
     obtain ⟨y, e3, q1, q2, q3⟩ := Ut he hx
     have := Dm (body := Bg (m : Int) r (x : Int) q) (fun i => (i : Int)) y (y : Int) (fun i hi => by
      unfold Bg
      rw [Qw hok h2 hl (by omega) hx (by omega), decide_eq_false (q3 i hi)]
      simp only [Option.bind_some]
      rw [if_neg Bool.false_ne_true, Ae (by unfold InI; omega)]; rfl) (by
      unfold Bg
      rw [Qw hok h2 hl (by omega) hx (by omega), decide_eq_true q2]
      rfl)
     rw [e3]; exact this
    have hpl := Ly m r.Tuples
    have key := Dm (body := Bh (m : Int) r) (fun x => ((x : Int), (Kc m r.Tuples).take x)) m (Kc m r.Tuples) (fun x hx => by
     unfold Bh
     dsimp only
     rw [if_pos (by omega), inner x hx]
     simp only [Option.bind_some]
     rw [Ae (by simp; omega), Ae (by unfold InI; omega), Jo (by omega)]; rfl) (by
     unfold Bh
     dsimp only
     rw [if_neg (by omega), List.take_of_length_le (by omega)])
    have key' : Al (Bh (m : Int) r) (0, Av Int) = some (Kc m r.Tuples) := key
    rw [key']
    rfl
   ·rw [decide_eq_false he, if_neg Bool.false_ne_true, if_neg (fun hh => he (by have := hh.2; rwa [Int.toNat_natCast] at this))]
    rfl
  ·rw [if_pos (by simpa using h2), if_neg (fun hh => h2 hh.1.2.2.2)]
   rfl
 ·rw [decide_eq_false h, if_neg Bool.false_ne_true, if_neg (fun hh => h ⟨hh.1.1, hh.1.2.1, hh.1.2.2.1⟩)]
  rfl
end
section
variable {a : SAlgebra} {n : Nat} {p : List Int}
theorem Aim (hs : Ag4 a) (hn : a.Size = n) (ga : Jv a) (hp : Gu n p) : ∃ q, F5 a { Arity := 2, Tuples := C8 p } = some q ∧ (q.2 = true → q.1 = decide (Aet a n p)) := by
 have h1 := ga.1
 have h8 := ga.2.1
 have h20 := ga.2.2.1
 have hok := Ant (by omega) hp
 have hle := Ay0 (by omega) hp
 have hpos := Ap3 (by omega) hp
 unfold F5
 rw [Afa hs, decide_eq_true ga]
 simp only [Option.bind_some, if_true]
 rw [hn, Tn (r := { Arity := 2, Tuples := C8 p }) (by dsimp only; omega) (fun t ht => by have := (hok.row ht).1; dsimp only at this; omega), decide_eq_true hok]
 simp only [Option.bind_some, if_true]
 obtain ⟨t, e, ht⟩ := B8 (body := Ee a { Arity := 2, Tuples := C8 p }) (fun s => ∃ i : Nat, s.1 = (i : Int) ∧ i ≤ a.Ops.length ∧ s.2 = decide (∀ o, o < i → Y7 (C8 p) n 2 (nth a.Ops o) (nth a.Ops o).Arity.toNat)) (fun s => a.Ops.length - s.1.toNat) (fun t => ∀ b, t = .inr b → b = decide (Aet a n p)) (by
  rintro ⟨x, b⟩ ⟨i, rfl, g1, g2⟩
  dsimp only at g2
  unfold Ee
  dsimp only
  by_cases hi : i < a.Ops.length
  ·obtain ⟨oq, oo⟩ := Aqq ga hn hi
   obtain ⟨q, eq, hq⟩ := Apj (R := { Arity := 2, Tuples := C8 p }) (w := 2) (by omega) (by omega) oq oo hok hpos hle rfl (by omega)
   rw [if_pos (by omega), Ae (by omega), Int.toNat_natCast, hn, eq]
   simp only [Option.bind_some]
   by_cases hq2 : q.2 = true
   ·have hqv := hq hq2
    rw [if_pos hq2, Ae (by unfold InI; omega), Ae (by unfold InI; omega)]
    have step : ∀ P Q R : Prop, [Decidable P] → [Decidable Q] → [Decidable R] → (R ↔ P ∧ Q) → decide P = true → decide Q = decide R := by
     intro P Q R _ _ _ hh hP
     exact decide_eq_decide.2 ⟨fun hQ => hh.2 ⟨of_decide_eq_true hP, hQ⟩, fun hR => (hh.1 hR).2⟩
    have hiff : (∀ o, o < i + 1 → Y7 (C8 p) n 2 (nth a.Ops o) (nth a.Ops o).Arity.toNat) ↔ (∀ o, o < i → Y7 (C8 p) n 2 (nth a.Ops o) (nth a.Ops o).Arity.toNat) ∧ Y7 (C8 p) n 2 (nth a.Ops i) (nth a.Ops i).Arity.toNat :=
     ⟨fun hh => ⟨fun o ho => hh o (by omega), hh i (by omega)⟩, fun hh o ho => by
      rcases Nat.lt_or_ge o i with hlt | hge
      ·exact hh.1 o hlt
      ·have : o = i := by omega
       subst this; exact hh.2⟩
    by_cases hb : b = true
    ·rw [if_pos hb]
     refine .inl ⟨_, rfl, ⟨i + 1, rfl, hi, ?_⟩, by dsimp only; omega⟩
     dsimp only
     rw [hqv]
     rw [g2] at hb
     exact step _ _ _ hiff hb
    ·rw [if_neg hb]
     refine .inl ⟨_, rfl, ⟨i + 1, rfl, hi, ?_⟩, by dsimp only; omega⟩
     dsimp only
     rw [g2] at hb
     exact (decide_eq_false fun hh => hb (decide_eq_true (hiff.1 hh).1)).symm
   ·rw [if_neg hq2]
    exact .inr ⟨_, rfl, fun b hb => by cases hb⟩
  ·rw [if_neg (by omega)]
   have : i = a.Ops.length := by omega
   subst this
   refine .inr ⟨_, rfl, fun b' hb => ?_⟩
   cases hb
   rw [g2]
   exact decide_eq_decide.2 (Avd ga hn (by omega) (by omega) hp).symm) (s := ((0 : Int), true)) ⟨0, rfl, Nat.zero_le _, (decide_eq_true fun o ho => by omega).symm⟩
 rw [e]
 cases t with
 | inl u => exact ⟨_, rfl, fun hh => by cases hh⟩
 | inr b => exact ⟨_, rfl, fun _ => ht b rfl⟩
end
end Go.Proofs.Ytcpgnfohmeineaa.Ax
namespace Go.Proofs.Ytcpgnfohmeineaa.Ax
open Go Classical
theorem Vx {body : (Int × List Int) → Option ((Int × List Int) ⊕ List Int)} (N : Nat) (Inv : Nat → List Int → Prop) (h : ∀ i q, i < N → Inv i q → ∃ q', body ((i : Int), q) = some (.inl (((i + 1 : Nat) : Int), q')) ∧ Inv (i + 1) q')
  (he : ∀ q, Inv N q → body ((N : Int), q) = some (.inr q)) (q : List Int) (hq : Inv 0 q) : ∃ r, Al body (0, q) = some r ∧ Inv N r := by
 obtain ⟨t, e, ht⟩ := B8 (body := body) (fun s => ∃ i : Nat, s.1 = (i : Int) ∧ i ≤ N ∧ Inv i s.2) (fun s => N - s.1.toNat) (fun t => Inv N t) (by
  rintro ⟨x, q⟩ ⟨i, rfl, h1, h2⟩
  dsimp only at h2
  by_cases hi : i < N
  ·obtain ⟨q', e, h3⟩ := h i q hi h2
   exact .inl ⟨_, e, ⟨i + 1, rfl, hi, h3⟩, by dsimp only; omega⟩
  ·have : i = N := by omega
   subst this
   exact .inr ⟨_, he q h2, h2⟩) (s := ((0 : Int), q)) ⟨0, rfl, Nat.zero_le _, hq⟩
 exact ⟨t, e, ht⟩
section
variable {a : SAlgebra} {n : Nat}
def Aw8 (a : SAlgebra) (n : Nat) (p : List Int) (x y : Nat) : Prop := ∃ o i e, o < a.Ops.length ∧ e < (nth a.Ops o).Arity.toNat ∧ i < (nth a.Ops o).Table.length ∧ (x : Int) = nth (nth a.Ops o).Table i ∧ (y : Int) = nth (nth a.Ops o).Table (swI n p e i).toNat
variable (Inv : List Int → Prop) (hI : ∀ q, Inv q → okP n q)
include hI
theorem Auz (ga : Jv a) (hn : a.Size = n) {p : List Int} (hp : okP n p) (hm : ∀ q (x y : Nat), Inv q → x < n → y < n → Aw8 a n p x y → Inv (mg q (nth q x) (nth q y))) (h0 : Inv p) : ∃ t, Fu a p = some t ∧ Inv t ∧ (t = p ↔ Aet a n p) := by
 have h8 := ga.2.1
 have hpl := hp.1
 obtain ⟨t0, f1, f2, f3⟩ := Au9 ga hn hp
 have key : ∃ t, Fu a p = some t ∧ Inv t := by
  unfold Fu
  rw [Als _ (by rw [Bc]; omega)]
  simp only [Option.bind_some]
  obtain ⟨t, e1, e2⟩ := Vx (body := C5 a p) a.Ops.length (fun _ => Inv) (fun o q ho hq => by
   obtain ⟨r, r3, hr, hT, hTi, h512, hn0, hn8⟩ := opX ga hn ho
   have h20 := ga.2.2.1
   obtain ⟨t, e1, e2⟩ := Vx (body := Ci a p (o : Int)) (nth a.Ops o).Table.length (fun _ => Inv) (fun i q hi hq => by
    have hal := E1 n r i
    obtain ⟨t, e1, e2⟩ := Vx (body := Cg a p (o : Int) (i : Int) (Bt n r i)) r (fun _ => Inv) (fun k q hk hq => by
     have hqo := hI q hq
     have hin := Aro hn0 hp (i := i) hk
     have hsw := Zm (n := n) p r i k (by omega) hk
     obtain ⟨c, hc, hc2⟩ := Aq0 hn0 hp (r := r) (i := i) (e := r - 1 - k) (by omega) (by omega)
     have y0 := Qr hn0 r i _ (As (show k < (Bt n r i).length by omega))
     have y1 := hTi _ (As (show i < (nth a.Ops o).Table.length from hi))
     have y2 := hTi _ (As (show c < (nth a.Ops o).Table.length by omega))
     have hql := hqo.1
     have hv := Atd hn8 hn ho (xs := (Bt n r i).set k (nth p (nth (Bt n r i) k).toNat)) (by rw [List.length_set]; omega) hin (by rw [List.length_set, hal]; exact hT)
     rw [hsw, hc, Int.toNat_natCast] at hv
     have hu := Vk (p := q) (by omega) (X := nth (nth a.Ops o).Table i) (Y := nth (nth a.Ops o).Table c) (by omega) (by omega)
     unfold Cg
     dsimp only
     rw [if_pos (by omega), Als _ (by rw [Bc]; omega)]
     simp only [Option.bind_some, Int.toNat_natCast]
     rw [Ae (by omega), Ae (by omega), Ae (by omega), Ae (by omega), Ae (by omega), hv]
     simp only [Option.bind_some]
     rw [hu]
     simp only [Option.bind_some]
     rw [Ae (by unfold InI; omega)]
     refine ⟨_, rfl, hm q (nth (nth a.Ops o).Table i).toNat (nth (nth a.Ops o).Table c).toNat hq (by omega) (by omega) ⟨o, i, r - 1 - k, ho, by omega, hi, by omega, ?_⟩⟩
     rw [hc, Int.toNat_natCast]; omega) (fun q _ => by
     unfold Cg
     dsimp only
     rw [if_neg (by omega)]) q hq
    refine ⟨t, ?_, e2⟩
    unfold Ci
    dsimp only
    rw [Ae (by omega), Int.toNat_natCast, if_pos (by omega), Ae (by omega), hn, hr, Apu hn0 hn8 r3 (by omega)]
    simp only [Option.bind_some]
    rw [e1]
    simp only [Option.bind_some]
    rw [Ae (by unfold InI; omega)]
    rfl) (fun q _ => by
    unfold Ci
    dsimp only
    rw [Ae (by omega), Int.toNat_natCast, if_neg (by omega)]) q hq
   refine ⟨t, ?_, e2⟩
   unfold C5
   dsimp only
   rw [if_pos (by omega), e1]
   simp only [Option.bind_some]
   rw [Ae (by unfold InI; omega)]
   rfl) (fun q _ => by
   unfold C5
   dsimp only
   rw [if_neg (by omega)]) p h0
  rw [e1]
  exact ⟨t, rfl, e2⟩
 obtain ⟨t, e, ht⟩ := key
 rw [f1] at e
 cases e
 exact ⟨t0, f1, ht, f3⟩
theorem Ar6 (ga : Jv a) (hn : a.Size = n) (hm : ∀ p q (x y : Nat), Inv p → Inv q → x < n → y < n → Aw8 a n p x y → Inv (mg q (nth q x) (nth q y))) {p : List Int} (h0 : Inv p) : ∃ t, Jg a p = some t ∧ Inv t := by
 have h8 := ga.2.1
 have h1 := ga.1
 unfold Jg
 obtain ⟨t, e1, e2⟩ := Vx (body := Fa a) n (fun _ => Inv) (fun i q hi hq => by
  obtain ⟨t, e, ht, _⟩ := Auz Inv hI ga hn (hI q hq) (fun q' x y h hx hy hp => hm q q' x y hq h hx hy hp) hq
  unfold Fa
  dsimp only
  rw [if_pos (by omega), e]
  simp only [Option.bind_some]
  rw [Ae (by unfold InI; omega)]
  exact ⟨t, rfl, ht⟩) (fun q _ => by
  unfold Fa
  dsimp only
  rw [if_neg (by omega)]) p h0
 rw [e1]
 exact ⟨t, rfl, e2⟩
end
section
variable {a : SAlgebra} {n : Nat}
theorem Am2 (n : Nat) : okP n (Abu n) := by
 refine ⟨by simp [Abu], fun z hz => ?_⟩
 unfold Abu at hz
 simp only [List.mem_map, List.mem_range] at hz
 obtain ⟨i, hi, rfl⟩ := hz
 omega
theorem Agh (ga : Jv a) (hn : a.Size = n) {x y : Nat} (hx : x < n) (hy : y < n) : ∃ t, Ga a (x : Int) (y : Int) = some t ∧ okP n t := by
 have h8 := ga.2.1
 have hu := Am2 n
 have hul := hu.1
 unfold Ga
 rw [hn, Abh (by omega)]
 simp only [Option.bind_some]
 rw [Vk (by omega) (by omega) (by omega), Int.toNat_natCast, Int.toNat_natCast]
 simp only [Option.bind_some]
 obtain ⟨t, e, ht⟩ := Ar6 (okP n) (fun _ h => h) ga hn (fun p q x y _ hq hx hy _ => Ao0 hq hx hy) (Ao0 hu hx hy)
 rw [e]
 exact ⟨t, rfl, ht⟩
theorem Arl {p q : List Int} (h8 : n ≤ 1000) (hp : okP n p) (hq : okP n q) : ∃ t, Kp p q = some t ∧ okP n t := by
 have hpl := hp.1
 have hql := hq.1
 unfold Kp
 rw [Als _ (by rw [Bc]; omega)]
 simp only [Option.bind_some]
 obtain ⟨t, e1, e2⟩ := Vx (body := F2 q) n (fun _ => okP n) (fun i w hi hw => by
  have hwl := hw.1
  have hqi := hq.2 _ (As (show i < q.length by omega))
  unfold F2
  dsimp only
  rw [if_pos (by omega), Ae (by omega), Int.toNat_natCast, Vk (by omega) (by omega) (by omega), Int.toNat_natCast]
  simp only [Option.bind_some]
  rw [Ae (by unfold InI; omega)]
  exact ⟨_, rfl, Ao0 hw hi (by omega)⟩) (fun w _ => by
  unfold F2
  dsimp only
  rw [if_neg (by omega)]) p hp
 rw [e1]
 exact ⟨t, rfl, e2⟩
theorem Alm {L : List (List Int)} {p : List Int} (h8 : n ≤ 1000) (hL : L.length ≤ 100000) (hr : ∀ r ∈ L, r.length = n) (hp : p.length = n) : ∃ M, J1 L p = some M ∧ (M = L ∨ ∃ k, k ≤ L.length ∧ M = L.take k ++ [p] ++ L.drop k) := by
 have hLim := Bc
 unfold J1
 obtain ⟨t, e, t0, t1⟩ := B8 (body := In L p) (fun s => 0 ≤ s ∧ s ≤ L.length) (fun s => L.length - s.toNat) (fun t => 0 ≤ t ∧ t ≤ L.length) (by
  rintro s ⟨s0, s1⟩
  obtain ⟨i, rfl⟩ := Int.eq_ofNat_of_zero_le s0
  unfold In
  by_cases hi : i < L.length
  ·have hri := hr _ (As hi)
   rw [if_pos (by omega), Ae (by omega), Int.toNat_natCast, Amf (by omega), Amf (by omega)]
   simp only [Option.bind_some]
   split
   ·rw [Ae (by unfold InI; omega)]
    exact .inl ⟨_, rfl, ⟨by omega, by omega⟩, by omega⟩
   ·rw [Ae (by omega)]
    split
    ·rw [Ae (by omega), Ab4 (by omega) (by omega)]
     simp only [Option.bind_some]
     split
     ·rw [Ae (by unfold InI; omega)]
      exact .inl ⟨_, rfl, ⟨by omega, by omega⟩, by omega⟩
     ·exact .inr ⟨_, rfl, by omega, by omega⟩
    ·exact .inr ⟨_, rfl, by omega, by omega⟩
  ·rw [if_neg (by omega)]
   exact .inr ⟨_, rfl, by omega, by omega⟩) (s := (0 : Int)) ⟨Int.le_refl _, by omega⟩
 rw [e]
 simp only [Option.bind_some]
 obtain ⟨k, rfl⟩ := Int.eq_ofNat_of_zero_le t0
 have fin : ∃ M, (ask (0 ≤ (0 : Int) ∧ 0 ≤ (k : Int) ∧ (k : Int) ≤ ((L.length : Nat) : Int)) <|
  ask ((Av (List Int)).length + (List.take ((k : Int).toNat - Int.toNat 0) (List.drop (Int.toNat 0) L)).length ≤ LIM) <|
  ask ((Av (List Int) ++ List.take ((k : Int).toNat - Int.toNat 0) (List.drop (Int.toNat 0) L)).length + ([p]).length ≤ LIM) <|
  ask (0 ≤ (k : Int) ∧ (k : Int) ≤ (L.length : Int) ∧ (L.length : Int) ≤ ((L.length : Nat) : Int)) <|
  ask ((Av (List Int) ++ List.take ((k : Int).toNat - Int.toNat 0) (List.drop (Int.toNat 0) L) ++ [p]).length + (List.take ((L.length : Int).toNat - (k : Int).toNat) (List.drop (k : Int).toNat L)).length ≤ LIM) <|
  some (Av (List Int) ++ List.take ((k : Int).toNat - Int.toNat 0) (List.drop (Int.toNat 0) L) ++ [p] ++ List.take ((L.length : Int).toNat - (k : Int).toNat) (List.drop (k : Int).toNat L))) = some M ∧ (M = L ∨ ∃ k, k ≤ L.length ∧ M = L.take k ++ [p] ++ L.drop k) := by
  rw [Ae (by omega), Ae (by simp [Av]; omega), Ae (by simp [Av]; omega), Ae (by omega), Ae (by simp [Av]; omega)]
  refine ⟨_, rfl, .inr ⟨k, by omega, ?_⟩⟩
  rw [Int.toNat_natCast, Int.toNat_natCast, List.take_of_length_le (l := List.drop k L) (by simp)]
  rfl
 by_cases hk : k < L.length
 ·have hri := hr _ (As hk)
  rw [if_pos (by omega), Ae (by omega), Int.toNat_natCast, Ahw (by omega)]
  simp only [Option.bind_some]
  by_cases hs : nth L k = p
  ·rw [decide_eq_true hs]
   exact ⟨L, rfl, .inl rfl⟩
  ·rw [decide_eq_false hs]
   exact fin
 ·rw [if_neg (by omega)]
  exact fin
theorem Aot {L M : List (List Int)} {p : List Int} (hM : M = L ∨ ∃ k, k ≤ L.length ∧ M = L.take k ++ [p] ++ L.drop k) (hL : ∀ r ∈ L, okP n r) (hp : okP n p) : (∀ r ∈ M, okP n r) ∧ L.length ≤ M.length ∧ M.length ≤ L.length + 1 := by
 rcases hM with rfl | ⟨k, hk, rfl⟩
 ·exact ⟨hL, Nat.le_refl _, Nat.le_succ _⟩
 ·refine ⟨fun r hr => ?_, by simp; omega, by simp; omega⟩
  rcases List.mem_append.1 hr with h | h
  ·rcases List.mem_append.1 h with h | h
   ·exact hL r (List.mem_of_mem_take h)
   ·rw [List.mem_singleton.1 h]; exact hp
  ·exact hL r (List.mem_of_mem_drop h)
theorem Ark (ga : Jv a) (hn : a.Size = n) {most : Nat} (hm : most ≤ 10000) : ∃ L, Io a (most : Int) = some L ∧ 1 ≤ L.length ∧ L.length ≤ most + 1 ∧ ∀ r ∈ L, okP n r := by
 have hLim := Bc
 have h8 := ga.2.1
 have hu := Am2 n
 unfold Io
 have l1 : ∀ x, x < n → ∀ L : List (List Int), L.length ≤ 8 * x → (∀ r ∈ L, okP n r) → ∃ M, Al (Fx a (most : Int) (x : Int)) (0, L) = some M ∧ M.length ≤ 8 * (x + 1) ∧ ∀ r ∈ M, okP n r := by
  intro x hx L hL hr
  obtain ⟨M, e, h1, h2⟩ := B8 (body := Fx a (most : Int) (x : Int)) (fun s => ∃ i : Nat, s.1 = (i : Int) ∧ i ≤ x ∧ s.2.length ≤ 8 * x + i ∧ ∀ r ∈ s.2, okP n r) (fun s => x - s.1.toNat) (fun M => M.length ≤ 8 * (x + 1) ∧ ∀ r ∈ M, okP n r) (by
   rintro ⟨y, M⟩ ⟨i, rfl, g1, g2, g3⟩
   dsimp only at g2 g3
   unfold Fx
   dsimp only
   by_cases hi : i < x
   ·obtain ⟨t, e, ht⟩ := Agh ga hn hx (show i < n by omega)
    obtain ⟨M', e', hM⟩ := Alm (n := n) (L := M) (p := t) (by omega) (by omega) (fun r hr => (g3 r hr).1) ht.1
    obtain ⟨q1, q2, q3⟩ := Aot hM g3 ht
    rw [if_pos (by omega), e]
    simp only [Option.bind_some]
    rw [e']
    simp only [Option.bind_some]
    rw [Ae (by unfold InI; omega)]
    exact .inl ⟨_, rfl, ⟨i + 1, rfl, hi, by dsimp only; omega, q1⟩, by dsimp only; omega⟩
   ·rw [if_neg (by omega)]
    exact .inr ⟨_, rfl, by omega, g3⟩) (s := ((0 : Int), L)) ⟨0, rfl, Nat.zero_le _, by dsimp only; omega, hr⟩
  exact ⟨M, e, h1, h2⟩
 obtain ⟨P, e1, hP1, hP2⟩ := B8 (body := Hu a (most : Int)) (fun s => ∃ i : Nat, s.2 = (i : Int) ∧ i ≤ n ∧ s.1.length ≤ 8 * i ∧ ∀ r ∈ s.1, okP n r) (fun s => n - s.2.toNat) (fun M => M.length ≤ 64 ∧ ∀ r ∈ M, okP n r) (by
  rintro ⟨M, y⟩ ⟨i, rfl, g1, g2, g3⟩
  dsimp only at g2 g3
  unfold Hu
  dsimp only
  by_cases hi : i < n
  ·obtain ⟨M', e, q1, q2⟩ := l1 i hi M g2 g3
   rw [if_pos (by omega), e]
   simp only [Option.bind_some]
   rw [Ae (by unfold InI; omega)]
   exact .inl ⟨_, rfl, ⟨i + 1, rfl, hi, q1, q2⟩, by dsimp only; omega⟩
  ·rw [if_neg (by omega)]
   exact .inr ⟨_, rfl, by omega, g3⟩) (s := (Av (List Int), (0 : Int))) ⟨0, rfl, Nat.zero_le _, by simp [Av], fun r hr => by simp [Av] at hr⟩
 rw [e1]
 simp only [Option.bind_some]
 rw [hn, Abh (by omega)]
 simp only [Option.bind_some]
 have l3 : ∀ x (W O : List (List Int)), x < W.length → W.length = O.length → 1 ≤ O.length → O.length ≤ most + 1 → (∀ r ∈ W, okP n r) → (∀ r ∈ O, okP n r) → ∃ W' O', Al (F3 (most : Int) P (x : Int)) (0, W, O) = some (W', O') ∧ W.length ≤ W'.length ∧ W'.length = O'.length ∧ 1 ≤ O'.length ∧ O'.length ≤ most + 1 ∧ (∀ r ∈ W', okP n r) ∧ (∀ r ∈ O', okP n r) := by
  intro x W O hx hWO h1 hO hW hOr
  obtain ⟨⟨W', O'⟩, e, h⟩ := B8 (body := F3 (most : Int) P (x : Int)) (fun s => ∃ i : Nat, s.1 = (i : Int) ∧ i ≤ P.length ∧ W.length ≤ s.2.1.length ∧ s.2.1.length = s.2.2.length ∧ 1 ≤ s.2.2.length ∧ s.2.2.length ≤ most + 1 ∧ (∀ r ∈ s.2.1, okP n r) ∧ (∀ r ∈ s.2.2, okP n r)) (fun s => P.length - s.1.toNat)
   (fun s => W.length ≤ s.1.length ∧ s.1.length = s.2.length ∧ 1 ≤ s.2.length ∧ s.2.length ≤ most + 1 ∧ (∀ r ∈ s.1, okP n r) ∧ (∀ r ∈ s.2, okP n r)) (by
   rintro ⟨y, W', O'⟩ ⟨i, rfl, g1, g2, g3, g4, g5, g6, g7⟩
   dsimp only at g2 g3 g4 g5 g6 g7
   unfold F3
   dsimp only
   have stop : ∃ t, some (Sum.inr (W', O') : (Int × (List (List Int)) × (List (List Int))) ⊕ ((List (List Int)) × (List (List Int)))) = some (.inr t) ∧ W.length ≤ t.1.length ∧ t.1.length = t.2.length ∧ 1 ≤ t.2.length ∧ t.2.length ≤ most + 1 ∧ (∀ r ∈ t.1, okP n r) ∧ (∀ r ∈ t.2, okP n r) := ⟨_, rfl, g2, g3, g4, g5, g6, g7⟩
   by_cases hi : i < P.length
   ·rw [if_pos (by omega)]
    by_cases hm2 : O'.length ≤ most
    ·rw [if_pos (by omega)]
     simp only [Option.bind_some]
     have hWx := g6 _ (As (show x < W'.length by omega))
     have hPi := hP2 _ (As hi)
     obtain ⟨t, e, ht⟩ := Arl (by omega) hWx hPi
     obtain ⟨M', e', hM⟩ := Alm (n := n) (L := O') (p := t) (by omega) (by omega) (fun r hr => (g7 r hr).1) ht.1
     obtain ⟨q1, q2, q3⟩ := Aot hM g7 ht
     rw [Ae (by omega), Ae (by omega), Int.toNat_natCast, Int.toNat_natCast, e]
     simp only [Option.bind_some]
     rw [e']
     simp only [Option.bind_some]
     by_cases hg : M'.length > O'.length
     ·rw [if_pos (by omega), Ae (by simp; omega), Ae (by unfold InI; omega)]
      refine .inl ⟨_, rfl, ⟨i + 1, rfl, hi, by simp; omega, by simp; omega, by dsimp only; omega, by dsimp only; omega, fun r hr => ?_, q1⟩, by dsimp only; omega⟩
      rcases List.mem_append.1 hr with h | h
      ·exact g6 r h
      ·rw [List.mem_singleton.1 h]; exact ht
     ·rw [if_neg (by omega), Ae (by unfold InI; omega)]
      exact .inl ⟨_, rfl, ⟨i + 1, rfl, hi, g2, g3, g4, g5, g6, g7⟩, by dsimp only; omega⟩
    ·rw [if_neg (by omega)]
     exact .inr stop
   ·rw [if_neg (by omega)]
    exact .inr stop) (s := ((0 : Int), W, O)) ⟨0, rfl, Nat.zero_le _, Nat.le_refl _, hWO, h1, hO, hW, hOr⟩
  exact ⟨W', O', e, h⟩
 obtain ⟨L, e2, h⟩ := B8 (body := Hl (most : Int) P) (fun s => ∃ i : Nat, s.2.2 = (i : Int) ∧ i ≤ s.1.length ∧ s.1.length = s.2.1.length ∧ 1 ≤ s.2.1.length ∧ s.2.1.length ≤ most + 1 ∧ (∀ r ∈ s.1, okP n r) ∧ (∀ r ∈ s.2.1, okP n r)) (fun s => most + 1 - s.2.2.toNat) (fun L => 1 ≤ L.length ∧ L.length ≤ most + 1 ∧ ∀ r ∈ L, okP n r) (by
  rintro ⟨W, O, y⟩ ⟨i, rfl, g1, g2, g3, g4, g5, g6⟩
  dsimp only at g1 g2 g3 g4 g5 g6
  unfold Hl
  dsimp only
  by_cases hi : i < W.length
  ·rw [if_pos (by omega)]
   by_cases hm2 : O.length ≤ most
   ·rw [if_pos (by omega)]
    simp only [Option.bind_some]
    obtain ⟨W', O', e, q1, q2, q3, q4, q5, q6⟩ := l3 i W O hi g2 g3 g4 g5 g6
    rw [e]
    simp only [Option.bind_some]
    rw [Ae (by unfold InI; omega)]
    exact .inl ⟨_, rfl, ⟨i + 1, rfl, by dsimp only; omega, q2, q3, q4, q5, q6⟩, by dsimp only; omega⟩
   ·rw [if_neg (by omega)]
    exact .inr ⟨_, rfl, g3, g4, g6⟩
  ·rw [if_neg (by omega)]
   exact .inr ⟨_, rfl, g3, g4, g6⟩) (s := ([Abu n], [Abu n], (0 : Int))) ⟨0, rfl, by simp, rfl, by simp, by simp, fun r hr => by rw [List.mem_singleton.1 hr]; exact hu, fun r hr => by rw [List.mem_singleton.1 hr]; exact hu⟩
 rw [e2]
 exact ⟨L, rfl, h⟩
end
end Go.Proofs.Ytcpgnfohmeineaa.Ax
namespace Go.Proofs.Ytcpgnfohmeineaa.Ax
open Go Classical
theorem Aow (a b : Int) : Dy a b = some (if a < b then a else b) := by
 unfold Dy; split <;> rfl
theorem Nj {c : Sl1Cur} {k : Nat} (h : Cur k c) (hk : k ≤ 600000000) {n : Int} (hn : n ≤ 9) : ∃ p d, Bl c n = some (p, d) ∧ Cur (k + 20) d ∧ p.length = n.toNat := by
 have hL := Bc
 unfold Bl
 obtain ⟨⟨p, d⟩, e, hp, hd⟩ := B8 (body := Cn n) (fun s => ∃ i : Nat, s.1 = (i : Int) ∧ i ≤ n.toNat ∧ s.2.1.length = i ∧ Cur (k + 2 * i) s.2.2) (fun s => n.toNat - s.1.toNat) (fun t => t.1.length = n.toNat ∧ Cur (k + 20) t.2) (by
  rintro ⟨x, p, c⟩ ⟨i, rfl, g1, g2, g3⟩
  dsimp only at g2 g3
  unfold Cn
  dsimp only
  by_cases hi : (i : Int) < n
  ·obtain ⟨r, d, e, hd, r0, r1⟩ := C7 g3 (by omega) ((i : Int) + 1)
   rw [if_pos hi, Ae (by unfold InI; omega), e]
   simp only [Option.bind_some]
   by_cases hr : r < (i : Int)
   ·rw [if_pos hr, Ae (by omega), Ae (by simp; omega), Ae (by unfold InI; omega)]
    exact .inl ⟨_, rfl, ⟨i + 1, rfl, by omega, by simp; omega, hd.mono (by omega)⟩, by dsimp only; omega⟩
   ·rw [if_neg hr, Ae (by simp; omega), Ae (by unfold InI; omega)]
    exact .inl ⟨_, rfl, ⟨i + 1, rfl, by omega, by simp; omega, hd.mono (by omega)⟩, by dsimp only; omega⟩
  ·rw [if_neg hi]
   exact .inr ⟨_, rfl, by dsimp only; omega, g3.mono (by omega)⟩) (s := ((0 : Int), Av Int, c)) ⟨0, rfl, Nat.zero_le _, rfl, h.mono (by omega)⟩
 rw [e]
 exact ⟨p, d, rfl, hd, hp⟩
theorem Xa {c : Sl1Cur} {k : Nat} (h : Cur k c) (hk : k ≤ 600000000) (n : Int) : ∃ p d, Cr c n = some (p, d) ∧ Cur (k + 100) d ∧ p.length ≤ 10 := by
 have hL := Bc
 unfold Cr
 rw [Aop]
 simp only [Option.bind_some]
 rw [Aow]
 simp only [Option.bind_some]
 obtain ⟨m, hm, m9⟩ : ∃ m : Nat, (if (if n > 0 then n else 0) < 9 then (if n > 0 then n else 0) else 9) = (m : Int) ∧ m ≤ 9 :=
  ⟨(if (if n > 0 then n else 0) < 9 then (if n > 0 then n else 0) else 9).toNat, by split <;> split <;> omega, by split <;> split <;> omega⟩
 rw [hm, Abh (by omega)]
 simp only [Option.bind_some]
 obtain ⟨r, d, e, hd, r0, r1⟩ := C7 h (by omega) 4
 rw [e]
 simp only [Option.bind_some]
 obtain ⟨⟨p, d2⟩, e2, hp, hd2⟩ := B8 (body := C0) (fun s => ∃ i : Nat, s.1 = (i : Int) ∧ i ≤ 4 ∧ okP m s.2.1 ∧ Cur (k + 2 + 4 * (4 - i)) s.2.2) (fun s => s.1.toNat) (fun t => okP m t.1 ∧ Cur (k + 20) t.2) (by
  rintro ⟨x, p, c⟩ ⟨i, rfl, g1, g2, g3⟩
  dsimp only at g2 g3
  have hpl := g2.1
  unfold C0
  dsimp only
  by_cases hi : (i : Int) > 0
  ·rw [if_pos hi]
   by_cases h1 : (p.length : Int) > 1
   ·rw [if_pos h1]
    simp only [Option.bind_some]
    obtain ⟨r, d, e, hd, r0, r1⟩ := C7 g3 (by omega) (p.length : Int)
    rw [e]
    simp only [Option.bind_some]
    obtain ⟨r', d', e', hd', r0', r1'⟩ := C7 hd (by omega) (p.length : Int)
    rw [e']
    simp only [Option.bind_some]
    rw [Vk (by omega) (by omega) (by omega)]
    simp only [Option.bind_some]
    rw [Ae (by unfold InI; omega)]
    exact .inl ⟨_, rfl, ⟨i - 1, by dsimp only; omega, by omega, Ao0 g2 (by omega) (by omega), hd'.mono (by omega)⟩, by dsimp only; omega⟩
   ·rw [if_neg h1]
    exact .inr ⟨_, rfl, g2, g3.mono (by omega)⟩
  ·rw [if_neg hi]
   exact .inr ⟨_, rfl, g2, g3.mono (by omega)⟩) (s := (r, Abu m, d)) ⟨r.toNat, by dsimp only; omega, by omega, Am2 m, hd.mono (by omega)⟩
 rw [e2]
 simp only [Option.bind_some]
 dsimp only at hp hd2
 have hpl := hp.1
 obtain ⟨w, d3, e3, hd3, _⟩ := C7 hd2 (by omega) 24
 rw [e3]
 simp only [Option.bind_some]
 by_cases c0 : w = 0
 ·rw [if_pos c0, Ae (by simp; omega)]
  exact ⟨_, _, rfl, hd3.mono (by omega), by simp; omega⟩
 rw [if_neg c0]
 by_cases c1 : w = 1
 ·rw [if_pos c1]
  by_cases c2 : (p.length : Int) > 0
  ·rw [if_pos c2]
   obtain ⟨v, d4, e4, hd4, v0, v1⟩ := C7 hd3 (by omega) (p.length : Int)
   rw [e4]
   simp only [Option.bind_some]
   rw [Ae (by unfold InI; omega)]
   obtain ⟨u, d5, e5, hd5, _⟩ := Eg hd4 (by omega) [-1, (p.length : Int), (p.length : Int) - 1, 0] (by simp)
   rw [e5]
   simp only [Option.bind_some]
   rw [Ae (by omega)]
   exact ⟨_, _, rfl, hd5.mono (by omega), by rw [List.length_set]; omega⟩
  ·rw [if_neg c2]
   exact ⟨_, _, rfl, hd3.mono (by omega), by omega⟩
 ·rw [if_neg c1]
  exact ⟨_, _, rfl, hd3.mono (by omega), by omega⟩
theorem Aeg {c : Sl1Cur} {k : Nat} (h : Cur k c) (hk : k ≤ 500000000) {a : SAlgebra} (ha : Ag4 a) : ∃ p d, De c a = some (p, d) ∧ Cur (k + 200) d ∧ p.length ≤ 10 := by
 have hL := Bc
 unfold De
 rw [Awc ha]
 simp only [Option.bind_some]
 by_cases hg : Jv a
 ·rw [decide_eq_true hg]
  simp only [if_true]
  obtain ⟨b, d, e, hd⟩ := R2 h (by omega) 5
  rw [e]
  simp only [Option.bind_some]
  by_cases hb : b = true
  ·rw [if_pos hb]
   obtain ⟨p, d2, e2, hd2, hp⟩ := Xa hd (by omega) a.Size
   rw [e2]
   exact ⟨p, d2, rfl, hd2.mono (by omega), hp⟩
  ·rw [if_neg hb]
   simp only [Option.bind_some]
   have h8 := hg.2.1
   obtain ⟨n, hn⟩ := Int.eq_ofNat_of_zero_le (show 0 ≤ a.Size by have := hg.1; omega)
   obtain ⟨L, e2, h1, h2, h3⟩ := Ark hg hn (most := 200) (by omega)
   have e2' : Io a 200 = some L := e2
   rw [e2']
   simp only [Option.bind_some]
   obtain ⟨v, d4, e4, hd4, v0, v1⟩ := C7 hd (by omega) (L.length : Int)
   rw [e4]
   simp only [Option.bind_some]
   have hv := h3 _ (As (show v.toNat < L.length by omega))
   have hvl := hv.1
   rw [Ae (by omega), Als _ (by omega)]
   exact ⟨_, _, rfl, hd4.mono (by omega), by omega⟩
 ·rw [decide_eq_false hg]
  simp only [Bool.false_eq_true, if_false]
  obtain ⟨p, d2, e2, hd2, hp⟩ := Xa h (by omega) a.Size
  rw [e2]
  exact ⟨p, d2, rfl, hd2.mono (by omega), hp⟩
theorem Adh {code : List Int} (hc : ∀ x ∈ code, 0 ≤ x ∧ x ≤ 255) (hl : code.length ≤ 65536) : ∃ a p, Dq code = some (a, p) ∧ X5 a ∧ p.length ≤ 10 := by
 unfold Dq
 obtain ⟨a, d, e, hd, ha⟩ := Amn (Amk hc hl) (by omega)
 rw [e]
 simp only [Option.bind_some]
 obtain ⟨p, d2, e2, _, hp⟩ := Aeg hd (by omega) (Afk ha)
 rw [e2]
 exact ⟨a, p, rfl, ha, hp⟩
theorem Aft {c : Sl1Cur} {k : Nat} (h : Cur k c) (hk : k ≤ 600000000) : ∃ n d, D5 c = some (n, d) ∧ Cur (k + 10) d ∧ 0 ≤ n ∧ n ≤ 9 := by
 unfold D5
 obtain ⟨w, d2, e2, hd2, w0, w1⟩ := C7 h (by omega) 24
 rw [e2]
 simp only [Option.bind_some]
 have et : w.tdiv 11 = w / 11 := Int.tdiv_eq_ediv_of_nonneg w0
 rw [et, Ae ⟨by decide, by unfold InI; omega⟩, Ae (by unfold InI; omega), Ae (by simp only [List.length_cons, List.length_nil]; omega)]
 obtain ⟨n, d3, e3, hd3, hn⟩ := Eg hd2 (by omega) (List.take ((8 + w / 11).toNat - Int.toNat 0) (List.drop (Int.toNat 0) [2, 3, 3, 4, 2, 1, 5, 8, 0, 9])) (by simp; omega)
 rw [e3]
 have hn2 := List.mem_of_mem_drop (List.mem_of_mem_take hn)
 simp only [List.mem_cons, List.not_mem_nil, or_false] at hn2
 exact ⟨n, d3, rfl, hd3.mono (by omega), by omega, by omega⟩
theorem T5 {code : List Int} (hc : ∀ x ∈ code, 0 ≤ x ∧ x ≤ 255) (hl : code.length ≤ 65536) : ∃ n p, B3 code = some (n, p) ∧ p.length ≤ 10 := by
 unfold B3
 obtain ⟨n, d, e, hd, n0, n9⟩ := Aft (Amk hc hl) (by omega)
 rw [e]
 simp only [Option.bind_some]
 rw [Aow]
 simp only [Option.bind_some]
 obtain ⟨p, d2, e2, hd2, hp⟩ := Nj hd (by omega) (n := if n < 9 then n else 9) (by split <;> omega)
 have hpl : p.length ≤ 9 := by rw [hp]; split <;> omega
 rw [e2]
 simp only [Option.bind_some]
 by_cases h0 : (p.length : Int) > 0
 ·rw [if_pos h0]
  obtain ⟨b, d3, e3, hd3⟩ := R2 hd2 (by omega) 8
  rw [e3]
  simp only [Option.bind_some]
  by_cases hb : b = true
  ·rw [if_pos hb]
   obtain ⟨v, d4, e4, hd4, v0, v1⟩ := C7 hd3 (by omega) (p.length : Int)
   rw [e4]
   simp only [Option.bind_some]
   obtain ⟨u, d5, e5, hd5, _⟩ := Eg hd4 (by omega) [-1, n, 0, 1] (by simp)
   rw [e5]
   simp only [Option.bind_some]
   rw [Ae (by omega)]
   exact ⟨_, _, rfl, by rw [List.length_set]; omega⟩
  ·rw [if_neg hb]
   exact ⟨_, _, rfl, by omega⟩
 ·rw [if_neg h0]
  simp only [Option.bind_some, Bool.false_eq_true, if_false]
  exact ⟨_, _, rfl, by omega⟩
theorem Aup {T : List (List Int)} {t : List Int} {w : Nat} (hT : T.length ≤ 1000000) (hw : w ≤ 1000) (hr : ∀ r ∈ T, r.length = w) (ht : t.length = w) : ∃ (k : Nat) (b : Bool), Ft T t = some ((k : Int), b) ∧ k ≤ T.length := by
 have hL := Bc
 unfold Ft
 obtain ⟨k, e, k0, k1⟩ := B8 (body := Ei T t) (fun s => 0 ≤ s.2 ∧ s.2 ≤ s.1 ∧ s.1 ≤ T.length) (fun s => (s.1 - s.2).toNat) (fun k => 0 ≤ k ∧ k ≤ T.length) (by
  rintro ⟨to, fr⟩ ⟨g0, g1, g2⟩
  dsimp only at g0 g1 g2
  unfold Ei
  dsimp only
  by_cases hlt : fr < to
  ·have e2 : (fr + to).tdiv 2 = (fr + to) / 2 := Int.tdiv_eq_ediv_of_nonneg (by omega)
   rw [if_pos hlt, e2, Ae (by unfold InI; omega), Ae ⟨by decide, by unfold InI; omega⟩, Ae (by omega)]
   obtain ⟨m, hm⟩ := Int.eq_ofNat_of_zero_le (show 0 ≤ (fr + to) / 2 by omega)
   rw [hm, Int.toNat_natCast]
   have hml : m < T.length := by omega
   have hrm := hr _ (As hml)
   have ec := Ab4 (a := nth T m) (b := t) (by omega) (by omega)
   rw [show Fv (nth T m) t = Hg (nth T m) t from rfl] at ec
   rw [ec]
   simp only [Option.bind_some]
   by_cases c : Ab3 (nth T m) t
   ·rw [decide_eq_true c, if_pos rfl, Ae (by unfold InI; omega)]
    exact .inl ⟨_, rfl, ⟨by dsimp only; omega, by dsimp only; omega, g2⟩, by dsimp only; omega⟩
   ·rw [decide_eq_false c, if_neg Bool.false_ne_true]
    exact .inl ⟨_, rfl, ⟨g0, by dsimp only; omega, by dsimp only; omega⟩, by dsimp only; omega⟩
  ·rw [if_neg hlt]
   exact .inr ⟨_, rfl, g0, by omega⟩) (s := ((T.length : Int), (0 : Int))) ⟨Int.le_refl _, by dsimp only; omega, Int.le_refl _⟩
 rw [e]
 simp only [Option.bind_some]
 obtain ⟨m, rfl⟩ := Int.eq_ofNat_of_zero_le k0
 by_cases hm : m < T.length
 ·have hrm := hr _ (As hm)
  rw [if_pos (by omega), Ae (by omega), Int.toNat_natCast, Ahw (by omega)]
  exact ⟨m, _, rfl, by omega⟩
 ·rw [if_neg (by omega)]
  exact ⟨m, _, rfl, by omega⟩
theorem Axe {T : List (List Int)} {t : List Int} {w : Nat} (hT : T.length ≤ 1000000) (hw : w ≤ 1000) (hr : ∀ r ∈ T, r.length = w) (ht : t.length = w) : ∃ M, M5 T t = some M ∧ M.length ≤ T.length + 1 ∧ ∀ r ∈ M, r.length = w := by
 have hLim := Bc
 obtain ⟨k, b, e, hk⟩ := Aup hT hw hr ht
 unfold M5
 rw [e]
 simp only [Option.bind_some]
 by_cases hb : b = true
 ·rw [if_pos hb]
  exact ⟨T, rfl, Nat.le_succ _, hr⟩
 ·rw [if_neg hb, Ae (by omega), Ae (by simp [Av]; omega), Ae (by simp [Av]; omega), Ae (by omega), Ae (by simp [Av]; omega)]
  refine ⟨_, rfl, by simp [Av]; omega, fun r hr' => ?_⟩
  rcases List.mem_append.1 hr' with h | h
  ·rcases List.mem_append.1 h with h | h
   ·rcases List.mem_append.1 h with h | h
    ·simp [Av] at h
    ·exact hr r (List.mem_of_mem_drop (List.mem_of_mem_take h))
   ·rw [List.mem_singleton.1 h]; exact ht
  ·exact hr r (List.mem_of_mem_drop (List.mem_of_mem_take h))
theorem Ayz {n A : Nat} (h1 : 1 ≤ n) (h8 : n ≤ 8) (hA : A ≤ 3) : ∃ T, Hp (n : Int) (A : Int) = some { Arity := (A : Int), Tuples := T } ∧ T.length ≤ 512 ∧ ∀ t ∈ T, t.length = A := by
 have hLim := Bc
 have hp : ∀ i, i ≤ A → n ^ i ≤ 512 := fun i hi => Nat.le_trans (Nat.pow_le_pow_left h8 i) (Nat.le_trans (Nat.pow_le_pow_right (by omega) (show i ≤ 3 by omega)) (by decide))
 have hpA := hp A (Nat.le_refl _)
 unfold Hp
 have key := Dm (body := D2 (n : Int) (A : Int)) (fun i => ((i : Int), ({ Arity := (A : Int), Tuples := (List.range i).map (Bt n A) } : SRelation))) (n ^ A) ({ Arity := (A : Int), Tuples := (List.range (n ^ A)).map (Bt n A) } : SRelation) (fun i hi => by
  unfold D2
  dsimp only
  rw [Ag8 512 (by omega) hp (by omega)]
  simp only [Option.bind_some]
  rw [if_pos (by omega), Atz (by omega) (by omega) (by omega) (by omega)]
  simp only [Option.bind_some]
  rw [Ae (by simp; omega), Ae (by unfold InI; omega), List.range_succ, List.map_append]
  rfl) (by
  unfold D2
  dsimp only
  rw [Ag8 512 (by omega) hp (by omega)]
  simp only [Option.bind_some]
  rw [if_neg (by omega)])
 have key' : Al (D2 (n : Int) (A : Int)) (0, { Arity := (A : Int), Tuples := Av (List Int) }) = _ := key
 rw [key']
 refine ⟨_, rfl, by simp; omega, fun t ht => ?_⟩
 obtain ⟨i, _, rfl⟩ := List.mem_map.1 ht
 exact E1 _ _ _
def Acp (m : Nat) (r : SRelation) : Prop := r.Tuples.length ≤ m ∧ ∀ t ∈ r.Tuples, t.length ≤ 3
theorem Acp.mono {m l : Nat} {r : SRelation} (h : Acp m r) (hl : m ≤ l) : Acp l r := ⟨Nat.le_trans h.1 hl, h.2⟩
theorem Ado {p : List Int} (hp : p.length ≤ 9) : Acp 600 { Arity := 2, Tuples := C8 p } := by
 have := Aef p (p.length ^ 2)
 have e : Sg p (p.length ^ 2) = C8 p := rfl
 rw [e] at this
 have : p.length ^ 2 ≤ 81 := Nat.le_trans (Nat.pow_le_pow_left hp 2) (by decide)
 refine ⟨by show (C8 p).length ≤ 600; omega, fun t ht => ?_⟩
 have ht : t ∈ C8 p := ht
 unfold C8 at ht
 obtain ⟨k, _, _, rfl⟩ := Ap4.1 ht
 rw [E1]; omega
theorem Ajt {c : Sl1Cur} {k : Nat} (h : Cur k c) (hk : k ≤ 500000000) (n A : Int) : ∃ r d, Ed c n A = some (r, d) ∧ Cur (k + 200) d ∧ Acp 601 r := by
 have hLim := Bc
 unfold Ed Dx
 rw [Mk]
 simp only [Option.bind_some]
 by_cases hn : 1 ≤ n ∧ n ≤ 8
 ·rw [decide_eq_true (show (1 : Int) ≤ n ∧ n ≤ 8 from hn), if_pos rfl, Mk]
  simp only [Option.bind_some]
  by_cases hA : 1 ≤ A ∧ A ≤ 3
  ·rw [decide_eq_true hA, if_pos rfl]
   obtain ⟨N, rfl⟩ := Int.eq_ofNat_of_zero_le (show 0 ≤ n by omega)
   obtain ⟨w, rfl⟩ := Int.eq_ofNat_of_zero_le (show 0 ≤ A by omega)
   obtain ⟨m, d, e, hd, hm⟩ := Eg h (by omega) [0, 1, 2, 3, 4, 6, 9] (by simp)
   rw [e]
   simp only [Option.bind_some]
   simp only [List.mem_cons, List.not_mem_nil, or_false] at hm
   have inner : ∀ (x : Int) (q : SRelation) (c : Sl1Cur) (k : Nat), Cur k c → k ≤ 600000000 → ∃ t d, Al (Cj (N : Int) (w : Int) x q) (0, Av Int, c) = some (t, d) ∧ t.length = w ∧ Cur (k + 6) d := by
    intro x q c k h hk
    obtain ⟨⟨t, d⟩, e, h1, h2⟩ := B8 (body := Cj (N : Int) (w : Int) x q) (fun s => ∃ i : Nat, s.1 = (i : Int) ∧ i ≤ w ∧ s.2.1.length = i ∧ Cur (k + 2 * i) s.2.2) (fun s => w - s.1.toNat) (fun t => t.1.length = w ∧ Cur (k + 6) t.2) (by
     rintro ⟨y, t, c⟩ ⟨i, rfl, g1, g2, g3⟩
     dsimp only at g2 g3
     unfold Cj
     dsimp only
     by_cases hi : i < w
     ·obtain ⟨r, d, e, hd, _⟩ := C7 g3 (by omega) (N : Int)
      rw [if_pos (by omega), e]
      simp only [Option.bind_some]
      rw [Ae (by simp; omega), Ae (by unfold InI; omega)]
      exact .inl ⟨_, rfl, ⟨i + 1, rfl, hi, by simp; omega, hd.mono (by omega)⟩, by dsimp only; omega⟩
     ·rw [if_neg (by omega)]
      exact .inr ⟨_, rfl, by dsimp only; omega, g3.mono (by omega)⟩) (s := ((0 : Int), Av Int, c)) ⟨0, rfl, Nat.zero_le _, rfl, h.mono (by omega)⟩
    exact ⟨t, d, e, h1, h2⟩
   obtain ⟨⟨q, d2⟩, e2, hq, hd2⟩ := B8 (body := Dh (N : Int) (w : Int)) (fun s => ∃ i : Nat, s.1 = (i : Int) ∧ i ≤ 9 ∧ s.2.1.Tuples.length ≤ 9 - i ∧ (∀ t ∈ s.2.1.Tuples, t.length = w) ∧ Cur (k + 2 + 6 * (9 - i)) s.2.2) (fun s => s.1.toNat) (fun t => Acp 600 t.1 ∧ Cur (k + 60) t.2) (by
    rintro ⟨x, q, c⟩ ⟨i, rfl, g1, g2, g3, g4⟩
    dsimp only at g2 g3 g4
    unfold Dh
    dsimp only
    by_cases hi : (i : Int) > 0
    ·obtain ⟨t, d, e, ht, hd⟩ := inner (i : Int) q c _ g4 (by omega)
     obtain ⟨M, e', hM, hMr⟩ := Axe (T := q.Tuples) (t := t) (w := w) (by omega) (by omega) g3 ht
     rw [if_pos hi, e]
     simp only [Option.bind_some]
     rw [e']
     simp only [Option.bind_some]
     rw [Ae (by unfold InI; omega)]
     exact .inl ⟨_, rfl, ⟨i - 1, by dsimp only; omega, by omega, by dsimp only; omega, hMr, hd.mono (by omega)⟩, by dsimp only; omega⟩
    ·rw [if_neg hi]
     exact .inr ⟨_, rfl, ⟨by dsimp only; omega, fun t ht => by rw [g3 t ht]; omega⟩, g4.mono (by omega)⟩) (s := (m, { Arity := (w : Int), Tuples := Av (List Int) }, d)) ⟨m.toNat, by dsimp only; omega, by omega, by simp [Av], fun t ht => by simp [Av] at ht, hd.mono (by omega)⟩
   rw [e2]
   simp only [Option.bind_some]
   dsimp only at hq hd2
   have s2 : ∃ r d, (if (w : Int) = 2 then
     (Bm d2 3).bind fun (r18, u19) =>
     if r18 = true then
      (Bl u19 (N : Int)).bind fun (r21, u22) =>
      (Bo r21).bind fun r23 =>
      some (r23, u22)
     else
      some (q, u19)
     else
     some (q, d2) : Option (SRelation × Sl1Cur)) = some (r, d) ∧ Acp 600 r ∧ Cur (k + 90) d := by
    by_cases h2 : (w : Int) = 2
    ·rw [if_pos h2]
     obtain ⟨b, d3, e3, hd3⟩ := R2 hd2 (by omega) 3
     rw [e3]
     simp only [Option.bind_some]
     by_cases hb : b = true
     ·rw [if_pos hb]
      obtain ⟨p, d4, e4, hd4, hp⟩ := Nj hd3 (by omega) (n := (N : Int)) (by omega)
      rw [e4]
      simp only [Option.bind_some]
      rw [J6 (by omega)]
      exact ⟨_, _, rfl, Ado (by omega), hd4.mono (by omega)⟩
     ·rw [if_neg hb]
      exact ⟨_, _, rfl, hq, hd3.mono (by omega)⟩
    ·rw [if_neg h2]
     exact ⟨_, _, rfl, hq, hd2.mono (by omega)⟩
   obtain ⟨r3, d3, e3, hr3, hd3⟩ := s2
   rw [e3]
   simp only [Option.bind_some]
   have s4 : ∃ r d, ((Bm d3 12).bind fun (r25, u26) =>
        if r25 = true then
         (Hp (N : Int) (w : Int)).bind fun r28 =>
         some (r28, u26)
        else
         some (r3, u26) : Option (SRelation × Sl1Cur)) = some (r, d) ∧ Acp 600 r ∧ Cur (k + 100) d := by
    obtain ⟨b, d4, e4, hd4⟩ := R2 hd3 (by omega) 12
    rw [e4]
    simp only [Option.bind_some]
    by_cases hb : b = true
    ·rw [if_pos hb]
     obtain ⟨T, eT, hT1, hT2⟩ := Ayz (n := N) (A := w) (by omega) (by omega) (by omega)
     rw [eT]
     exact ⟨_, _, rfl, ⟨by dsimp only; omega, fun t ht => by rw [hT2 t ht]; omega⟩, hd4.mono (by omega)⟩
    ·rw [if_neg hb]
     exact ⟨_, _, rfl, hr3, hd4.mono (by omega)⟩
   obtain ⟨r4, d4, e4, hr4, hd4⟩ := s4
   rw [e4]
   simp only [Option.bind_some]
   obtain ⟨v, d5, e5, hd5, _⟩ := C7 hd4 (by omega) 40
   have hlen := hr4.1
   rw [e5]
   simp only [Option.bind_some]
   by_cases c0 : v = 0
   ·rw [if_pos c0]
    obtain ⟨u, d6, e6, hd6, _⟩ := Eg hd5 (by omega) [0, 4, -1] (by simp)
    rw [e6]
    exact ⟨_, _, rfl, hd6.mono (by omega), hr4.mono (by omega)⟩
   rw [if_neg c0]
   by_cases c1 : v = 1
   ·rw [if_pos c1, Ae (by omega), Ae (by simp; omega)]
    refine ⟨_, _, rfl, hd5.mono (by omega), by simp; omega, fun t ht => ?_⟩
    rcases List.mem_append.1 ht with h | h
    ·exact hr4.2 t h
    ·rw [List.mem_singleton.1 h, List.length_replicate]; omega
   rw [if_neg c1]
   by_cases c2 : v = 2
   ·rw [if_pos c2]
    by_cases h0 : (r4.Tuples.length : Int) > 0
    ·rw [if_pos h0]
     obtain ⟨u, d6, e6, hd6, _⟩ := Eg hd5 (by omega) [-1, (N : Int), 0] (by simp)
     rw [e6]
     simp only [Option.bind_some]
     rw [Ae (by omega)]
     refine ⟨_, _, rfl, hd6.mono (by omega), by dsimp only; rw [List.length_set]; omega, fun t ht => ?_⟩
     rcases List.mem_or_eq_of_mem_set ht with h | h
     ·exact hr4.2 t h
     ·rw [h]; simp
    ·rw [if_neg h0]
     exact ⟨_, _, rfl, hd5.mono (by omega), hr4.mono (by omega)⟩
   ·rw [if_neg c2]
    exact ⟨_, _, rfl, hd5.mono (by omega), hr4.mono (by omega)⟩
  ·rw [decide_eq_false hA, if_neg Bool.false_ne_true]
   exact ⟨_, _, rfl, h.mono (by omega), by simp [Av], fun t ht => by simp [Av] at ht⟩
 ·rw [decide_eq_false (show ¬ ((1 : Int) ≤ n ∧ n ≤ 8) from hn), if_neg Bool.false_ne_true]
  exact ⟨_, _, rfl, h.mono (by omega), by simp [Av], fun t ht => by simp [Av] at ht⟩
theorem Aa6 {code : List Int} (hc : ∀ x ∈ code, 0 ≤ x ∧ x ≤ 255) (hl : code.length ≤ 65536) : ∃ n r, Di code = some (n, r) ∧ Acp 601 r := by
 have hLim := Bc
 unfold Di
 obtain ⟨n, d, e, hd, n0, n9⟩ := Aft (Amk hc hl) (by omega)
 rw [e]
 simp only [Option.bind_some]
 obtain ⟨A, d2, e2, hd2, _⟩ := Eg hd (by omega) [2, 2, 2, 2, 2, 2, 3] (by simp)
 rw [e2]
 simp only [Option.bind_some]
 obtain ⟨r, d3, e3, hd3, hr⟩ := Ajt hd2 (by omega) n A
 rw [e3]
 simp only [Option.bind_some]
 unfold Dx
 rw [Mk]
 simp only [Option.bind_some]
 by_cases hn : 1 ≤ n ∧ n ≤ 8
 ·rw [decide_eq_true (show (1 : Int) ≤ n ∧ n ≤ 8 from hn), if_pos rfl]
  obtain ⟨b, d4, e4, hd4⟩ := R2 hd3 (by omega) 2
  rw [e4]
  simp only [Option.bind_some]
  by_cases hb : b = true
  ·rw [if_pos hb]
   obtain ⟨p, d5, e5, hd5, hp⟩ := Nj hd4 (by omega) (n := n) (by omega)
   rw [e5]
   simp only [Option.bind_some]
   have ht := Ado (p := p) (by omega)
   have ht1 : (C8 p).length ≤ 600 := ht.1
   rw [J6 (by omega)]
   simp only [Option.bind_some]
   obtain ⟨b2, d6, e6, hd6⟩ := R2 hd5 (by omega) 3
   rw [e6]
   simp only [Option.bind_some]
   by_cases hb2 : b2 = true
   ·rw [if_pos hb2]
    simp only [Option.bind_some]
    by_cases h1 : ((C8 p).length : Int) > 1
    ·rw [decide_eq_true h1, if_pos rfl]
     obtain ⟨v, d7, e7, hd7, v0, v1⟩ := C7 hd6 (by omega) ((C8 p).length : Int)
     rw [e7]
     simp only [Option.bind_some]
     rw [Ae (by omega), Ae (by simp [Av]; omega), Ae (by unfold InI; omega), Ae (by omega), Ae (by simp [Av]; omega)]
     refine ⟨_, _, rfl, by simp [Av]; omega, fun t htm => ?_⟩
     rcases List.mem_append.1 htm with h | h
     ·rcases List.mem_append.1 h with h | h
      ·simp [Av] at h
      ·exact ht.2 t (List.mem_of_mem_drop (List.mem_of_mem_take h))
     ·exact ht.2 t (List.mem_of_mem_drop (List.mem_of_mem_take h))
    ·rw [decide_eq_false h1, if_neg Bool.false_ne_true]
     exact ⟨_, _, rfl, ht.mono (by omega)⟩
   ·rw [if_neg hb2]
    simp only [Option.bind_some, Bool.false_eq_true, if_false]
    exact ⟨_, _, rfl, ht.mono (by omega)⟩
  ·rw [if_neg hb]
   exact ⟨_, _, rfl, hr⟩
 ·rw [decide_eq_false (show ¬ ((1 : Int) ≤ n ∧ n ≤ 8) from hn), if_neg Bool.false_ne_true]
  simp only [Option.bind_some, Bool.false_eq_true, if_false]
  exact ⟨_, _, rfl, hr⟩
end Go.Proofs.Ytcpgnfohmeineaa.Ax
