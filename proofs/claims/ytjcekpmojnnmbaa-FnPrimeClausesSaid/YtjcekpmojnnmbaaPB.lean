/-
 Plain facts, joined.
-/
import Derived.Test.YtjcekpmojnnmbaaPA
import Derived.Test.YtjcekpmojnnmbaaSo3
namespace Go.Proofs.Ytjcekpmojnnmbaa.Ax
open Go Classical
def A0u (m i : Nat) : Bool := decide (m / 2 ^ i % 2 = 1)
def On (a b : List Int) : Prop := ∃ i, i < a.length ∧ (∀ j, j < i → nth a j = nth b j) ∧ nth a i < nth b i
theorem Aet {a b : List Int} (hl : a.length = b.length) (h : a.length ≤ LIM) : Gi a b = some (decide (On a b)) := by
 unfold Gi
 rw [Bd] at h
 rw [show ((0 : Int)) = (((0 : Nat)) : Int) from rfl]
 rcases Adz (body := Eb a b) (fun i => (i : Int)) a.length (fun i => nth a i ≠ nth b i) (fun i => .inl (decide (nth a i < nth b i))) (.inr ()) (fun i hi hh => by
   unfold Eb
   rw [if_pos (by omega), Af (by omega), Af (by omega), tna0, if_neg hh, Af (by unfold InI; omega)]; rfl) (fun i hi hh => by
   unfold Eb
   rw [if_pos (by omega), Af (by omega), Af (by omega), tna0, if_pos hh, Af (by omega), Af (by omega)]) (by
   unfold Eb
   rw [if_neg (by omega)]) with ⟨i, hi, hh, hf, e⟩ | ⟨hn, e⟩
 ·rw [e]
  simp only [obs0]
  congr 1
  rw [decide_eq_decide]
  constructor
  ·intro hlt
   exact ⟨i, hi, fun j hj => Classical.not_not.1 (hf j hj), hlt⟩
  ·rintro ⟨k, hk, h1, h2⟩
   rcases Nat.lt_trichotomy k i with hki | hki | hki
   ·have := Classical.not_not.1 (hf k hki); omega
   ·subst hki; exact h2
   ·exact absurd (h1 i hki) hh
 ·rw [e, dfa0]
  ·rfl
  ·rintro ⟨k, hk, _, h2⟩
   have := Classical.not_not.1 (hn k hk); omega
theorem Yh {a b : List Int} (hl : a.length = b.length) (h : a.length ≤ LIM) : ∃ c, Dx a b = some c ∧ (¬ c ≥ 0 ↔ On a b) := by
 unfold Dx
 rw [Bd] at h
 rw [show ((0 : Int)) = (((0 : Nat)) : Int) from rfl]
 rcases Adz (body := Ca a b) (fun i => (i : Int)) a.length (fun i => nth a i ≠ nth b i) (fun i => .inl (if nth a i < nth b i then -1 else 1)) (.inr ()) (fun i hi hh => by
   unfold Ca
   rw [if_pos (by omega), if_pos (by omega)]
   simp only [obs0]
   rw [Af (by omega), Af (by omega), tna0, if_neg hh, Af (by unfold InI; omega)]; rfl) (fun i hi hh => by
   unfold Ca
   rw [if_pos (by omega), if_pos (by omega)]
   simp only [obs0]
   rw [Af (by omega), Af (by omega), tna0, if_pos hh, Af (by omega), Af (by omega)]
   split <;> rfl) (by
   unfold Ca
   rw [if_neg (by omega)]; rfl) with ⟨i, hi, hh, hf, e⟩ | ⟨hn, e⟩
 ·rw [e]
  refine ⟨_, rfl, ?_⟩
  constructor
  ·intro hlt
   refine ⟨i, hi, fun j hj => Classical.not_not.1 (hf j hj), ?_⟩
   by_cases hc : nth a i < nth b i
   ·exact hc
   ·rw [if_neg hc] at hlt; omega
  ·rintro ⟨k, hk, h1, h2⟩
   have hki : k = i := by
    rcases Nat.lt_trichotomy k i with hki | hki | hki
    ·have := Classical.not_not.1 (hf k hki); omega
    ·exact hki
    ·exact absurd (h1 i hki) hh
   subst hki
   rw [if_pos h2]; omega
 ·rw [e]
  simp only [obs0]
  rw [if_neg (by omega), if_neg (by omega)]
  refine ⟨_, rfl, ?_⟩
  constructor
  ·intro hc; omega
  ·rintro ⟨k, hk, _, h2⟩
   have := Classical.not_not.1 (hn k hk); omega
def anti (f : Nat → Nat → Bool) (ls : List Int) : Prop := ∀ x ∈ ls, ∀ y ∈ ls, ¬ (x.toNat ≠ y.toNat ∧ f x.toNat y.toNat = true)
section
end
end Go.Proofs.Ytjcekpmojnnmbaa.Ax
namespace Go.Proofs.Ytjcekpmojnnmbaa.Ax
open Go Classical
theorem Abn (m i : Nat) : A0u m i = m.testBit i := by
 unfold A0u
 rw [Nat.testBit_eq_decide_div_mod_eq]
def pc (n m : Nat) : Nat := (Qo n (A0u m)).length
theorem Awd {q q' : Nat → Bool} {x : Nat} (hq : q x = false) (h : ∀ i, q' i = (q i || decide (x = i))) : ∀ n, (Qo n q').length = (Qo n q).length + if x < n then 1 else 0 := by
 intro n
 induction n with
 | zero => simp [Qo]
 | succ n ih =>
   rw [Ah4, Ah4, h n]
   by_cases hxn : x = n
   ·subst hxn
    rw [hq]
    simp only [decide_true, Bool.or_true, if_true, Bool.false_eq_true, if_false]
    rw [List.length_append, ih, if_neg (by omega), if_pos (by omega)]; rfl
   ·rw [dfa0 hxn, Bool.or_false]
    by_cases hqn : q n = true
    ·rw [if_pos hqn, if_pos hqn, List.length_append, List.length_append, ih]
     by_cases hx : x < n
     ·rw [if_pos hx, if_pos (by omega)]; simp
     ·rw [if_neg hx, if_neg (by omega)]; rfl
    ·rw [if_neg hqn, if_neg hqn, ih]
     by_cases hx : x < n
     ·rw [if_pos hx, if_pos (by omega)]
     ·rw [if_neg hx, if_neg (by omega)]
def wt (n m : Nat) : Nat := 10 ^ (10 - pc n m)
def phi (n : Nat) (ws : List Int) : Nat → Nat → Int
 | _, 0 => 0
 | M, k + 1 => nth ws M * wt n M + phi n ws (M + 1) k
section
variable {n : Nat} {f : Nat → Nat → Bool}
structure okW (n m : Nat) (ws : List Int) : Prop where
 len : ws.length = 2 ^ n
 pos : ∀ i, i < ws.length → 0 ≤ nth ws i
 sum : phi n ws m (2 ^ n - m) ≤ 10000000000
end
section
end
end Go.Proofs.Ytjcekpmojnnmbaa.Ax
namespace Go.Proofs.Ytjcekpmojnnmbaa.Ax
open Go Classical
section
variable {n : Nat} {ps : List (Int × Int)}
end
end Go.Proofs.Ytjcekpmojnnmbaa.Ax
namespace Go.Proofs.Ytjcekpmojnnmbaa.Ax
open Go Classical
section
variable {n : Nat} {f : Nat → Nat → Bool}
end
section
end
end Go.Proofs.Ytjcekpmojnnmbaa.Ax
namespace Go.Proofs.Ytjcekpmojnnmbaa.Ax
open Go Classical
noncomputable def round (n : Nat) (g h : Nat → Nat → Nat) (S : Nat → Bool) : Nat → Bool := fun z => decide (S z = true ∨ ∃ x y, x < n ∧ y < n ∧ S x = true ∧ S y = true ∧ (z = g x y ∨ z = h x y))
noncomputable def An4 (n : Nat) (g h : Nat → Nat → Nat) (S : Nat → Bool) : Nat → Nat → Bool
 | 0 => S
 | k + 1 => round n g h (An4 n g h S k)
section
variable {n : Nat} {g h : Nat → Nat → Nat} {S : Nat → Bool}
def A32 (n : Nat) (g h : Nat → Nat → Nat) (S : Nat → Bool) (k : Nat) : Prop := ∀ z, z < n → An4 n g h S (k + 1) z = An4 n g h S k z
noncomputable def closed (n : Nat) (g h : Nat → Nat → Nat) (S : Nat → Bool) : Nat → Bool := An4 n g h S n
def A3y (n : Nat) (S : Nat → Bool) : List Nat := (List.range n).filter S
end
end Go.Proofs.Ytjcekpmojnnmbaa.Ax
namespace Go.Proofs.Ytjcekpmojnnmbaa.Ax
open Go Classical
theorem Azi {xs ys : List Int} (h : xs.length ≤ LIM) : Kd xs ys = some (decide (xs = ys)) := by
 unfold Kd
 rw [Bd] at h
 split
 ·rename_i hl
  rw [dfa0]
  rintro rfl; exact hl rfl
 rename_i hl
 have hl : xs.length = ys.length := by omega
 have := Fk (body := D6 xs ys) (fun i => (i : Int)) xs.length (fun i => ¬ nth xs i = nth ys i) () () (fun i hi hb => by
  unfold D6
  rw [if_pos (by omega), Af (by omega), Af (by omega)]
  simp only [tna0]
  rw [if_neg (by simpa using hb), Af (by unfold InI; omega)]; rfl) (fun i hi hb => by
  unfold D6
  rw [if_pos (by omega), Af (by omega), Af (by omega)]
  simp only [tna0]
  rw [if_pos hb]) (by unfold D6; rw [if_neg (by omega)]) 0 (by omega)
 show ((Al _ ((0 : Nat) : Int)).bind _) = _
 rw [this]
 by_cases hx : ∃ i, 0 ≤ i ∧ i < xs.length ∧ ¬ nth xs i = nth ys i
 ·rw [if_pos hx, dfa0]
  ·rfl
  ·rintro rfl; obtain ⟨i, _, _, hc⟩ := hx; exact hc rfl
 ·rw [if_neg hx, dtr0 (Yp hl (Ain.1 hx))]
  rfl
section
end
end Go.Proofs.Ytjcekpmojnnmbaa.Ax
namespace Go.Proofs.Ytjcekpmojnnmbaa.Ax
open Go Classical
end Go.Proofs.Ytjcekpmojnnmbaa.Ax
namespace Go.Proofs.Ytjcekpmojnnmbaa.Ax
open Go Classical
def Ayu (n : Nat) (f : SOp) : Prop := 0 ≤ f.Arity ∧ f.Arity ≤ 3 ∧ f.Table.length = n ^ f.Arity.toNat ∧ Bl f.Table n
def Awo (a : SAlgebra) : Prop := 1 ≤ a.Size ∧ a.Size ≤ 8 ∧ a.Ops.length ≤ 4 ∧ ∀ f ∈ a.Ops, Ayu a.Size.toNat f
theorem Am3 {n k : Nat} (hn : n ≤ 8) (hk : k ≤ 3) : n ^ k ≤ 512 :=
 Nat.le_trans (Nat.pow_le_pow_left hn k) (Nat.le_trans (Nat.pow_le_pow_right (by omega) hk) (by decide))
theorem A08 {n k : Nat} (hn : n ≤ 8) (hk : k ≤ 3) : Dh n k = some ((n ^ k : Nat) : Int) := by
 unfold Dh
 have key := Bk (body := Cf n) (fun j => (((n ^ j : Nat) : Int), ((k : Int) - (j : Int)))) k ((n ^ k : Nat) : Int) (fun j hj => by
  unfold Cf
  dsimp only
  have hp := Am3 hn (show j + 1 ≤ 3 by omega)
  rw [Nat.pow_succ] at hp
  rw [if_pos (by omega), ← Int.natCast_mul, Nat.pow_succ]
  generalize n ^ j * n = N at hp ⊢
  rw [Af (by unfold InI; omega), Af (by unfold InI; omega), show ((k : Int) - (j : Int) - 1) = (k : Int) - ((j + 1 : Nat) : Int) by omega]) (by
  unfold Cf
  dsimp only
  rw [if_neg (by omega)])
 have key' : Al (Cf n) (1, (k : Int)) = some ((n ^ k : Nat) : Int) := by simpa using key
 rw [key']; rfl
theorem A1x {n : Nat} (hn : n ≤ 8) {f : SOp} (hl : f.Table.length ≤ LIM) : N5 f n = some (decide (Ayu n f)) := by
 unfold N5
 by_cases h0 : 0 ≤ f.Arity
 ·rw [if_pos (show f.Arity ≥ 0 from h0)]
  by_cases h3 : f.Arity ≤ 3
  ·have e : Dh (n : Int) f.Arity = some ((n ^ f.Arity.toNat : Nat) : Int) := by
    have := A08 hn (k := f.Arity.toNat) (by omega)
    rwa [show ((f.Arity.toNat : Nat) : Int) = f.Arity by omega] at this
   rw [if_pos h3, e]
   simp only [obs0]
   by_cases hL : f.Table.length = n ^ f.Arity.toNat
   ·rw [if_pos (by rw [hL]), Api _ _ hl]
    simp only [obs0]
    congr 1
    rw [decide_eq_decide]
    exact ⟨fun h => ⟨h0, h3, hL, h⟩, fun h => h.2.2.2⟩
   ·rw [if_neg (fun hc => hL (Int.ofNat_inj.1 hc)), dfa0 (fun h => hL h.2.2.1)]
  ·rw [if_neg h3, dfa0 (fun h => h3 h.2.1)]
 ·rw [if_neg (by omega), dfa0 (fun h => h0 h.1)]
def Apm (a : SAlgebra) : List Int := a.Ops.map (·.Arity)
end Go.Proofs.Ytjcekpmojnnmbaa.Ax
namespace Go.Proofs.Ytjcekpmojnnmbaa.Ax
open Go Classical
def Az (n : Nat) : Nat → Nat → List Int
 | 0, _ => []
 | r + 1, k => Az n r (k / n) ++ [((k % n : Nat) : Int)]
theorem E1 (n : Nat) : ∀ r k, (Az n r k).length = r := by
 intro r
 induction r with
 | zero => intro k; rfl
 | succ r ih => intro k; simp [Az, ih]
theorem Agz {n : Nat} (hn : 0 < n) : ∀ r k, Bl (Az n r k) n := by
 intro r
 induction r with
 | zero => intro k x hx; cases hx
 | succ r ih =>
   intro k x hx
   simp only [Az] at hx
   rcases List.mem_append.1 hx with hx | hx
   ·exact ih _ x hx
   ·rw [List.mem_singleton.1 hx]
    have := Nat.mod_lt k hn
    omega
theorem A0p {n : Nat} (hn : 0 < n) (hn8 : n ≤ 8) : ∀ (r k : Nat) (xs : List Int), r ≤ xs.length → xs.length ≤ 1000 → k ≤ 1048576 → Al (Ea n) ((r : Int) - 1, xs, (k : Int)) = some (Az n r k ++ xs.drop r) := by
 intro r
 induction r with
 | zero =>
   intro k xs _ _ _
   refine Np ?_
   unfold Ea
   dsimp only
   rw [if_neg (by omega)]
   simp [Az]
 | succ r ih =>
   intro k xs hr hl hk
   have c1 : (k : Int).tdiv (n : Int) = ((k / n : Nat) : Int) := rfl
   have c2 : (k : Int).tmod (n : Int) = ((k % n : Nat) : Int) := rfl
   have hd : k / n ≤ k := Nat.div_le_self k n
   have step : Ea n (((r + 1 : Nat) : Int) - 1, xs, (k : Int)) = some (.inl ((r : Int) - 1, xs.set r ((k % n : Nat) : Int), ((k / n : Nat) : Int))) := by
    unfold Ea
    dsimp only
    rw [show (((r + 1 : Nat) : Int) - 1) = (r : Int) by omega, c1, c2]
    generalize k / n = kd at hd
    rw [if_pos (by omega), Af (by omega), Af (by omega), Af (by unfold InI; omega), Af (by unfold InI; omega), tna0]
   rw [Vx step, ih _ _ (by rw [List.length_set]; omega) (by rw [List.length_set]; exact hl) (by omega)]
   congr 1
   simp only [Az]
   rw [List.append_assoc]
   congr 1
   have e : (xs.set r ((k % n : Nat) : Int)).drop r = ((k % n : Nat) : Int) :: xs.drop (r + 1) := by
    refine List.ext_getElem (by simp; omega) fun i h1 h2 => ?_
    rw [List.getElem_drop, List.getElem_set]
    cases i with
    | zero => simp
    | succ i =>
      rw [if_neg (by omega), List.getElem_cons_succ, List.getElem_drop]
      congr 1; omega
   rw [e]; rfl
def G6 (m : Nat) (xs : List Int) : Int := xs.foldl (fun s x => s * (m : Int) + x) 0
theorem Gz (m : Nat) (xs : List Int) (y : Int) : G6 m (xs ++ [y]) = G6 m xs * (m : Int) + y := by
 unfold G6; rw [List.foldl_append]; rfl
theorem Sl {m : Nat} : ∀ (r : Nat) (xs : List Int), xs.length = r → Bl xs m → ∃ c : Nat, G6 m xs = (c : Int) ∧ c < m ^ r := by
 intro r
 induction r with
 | zero =>
   intro xs hl _
   have : xs = [] := List.length_eq_zero_iff.1 hl
   subst this
   exact ⟨0, rfl, by simp⟩
 | succ r ih =>
   intro xs hl hx
   obtain ⟨ys, y, rfl⟩ : ∃ ys y, xs = ys ++ [y] := by
    refine ⟨xs.take r, nth xs r, ?_⟩
    rw [← E4 (by omega), List.take_of_length_le (by omega)]
   have hy := hx y (by simp)
   obtain ⟨c, h1, h2⟩ := ih ys (by simpa using hl) fun z hz => hx z (by simp [hz])
   obtain ⟨d, rfl⟩ := Int.eq_ofNat_of_zero_le hy.1
   refine ⟨c * m + d, by rw [Gz, h1]; push_cast; rfl, ?_⟩
   have h3 := Nat.mul_le_mul_right m (show c + 1 ≤ m ^ r from h2)
   rw [Nat.succ_mul] at h3
   rw [Nat.pow_succ]
   omega
theorem Ai9 {m : Nat} (hm : m ≤ 8) {xs : List Int} (hl : xs.length ≤ 3) (hx : Bl xs m) : ∃ c : Nat, G6 m xs = (c : Int) ∧ c < m ^ xs.length ∧ c < 512 := by
 obtain ⟨c, h1, h2⟩ := Sl xs.length xs rfl hx
 have := Am3 hm hl
 exact ⟨c, h1, h2, by omega⟩
def Azx (n m : Nat) (f : List Int) : Nat → Nat → Int
 | 0, _ => 0
 | r + 1, k => Azx n m f r (k / n) * (m : Int) + nth f (k % n)
theorem Axt (n m : Nat) (f : List Int) : ∀ r k, G6 m ((Az n r k).map fun x => nth f x.toNat) = Azx n m f r k := by
 intro r
 induction r with
 | zero => intro k; rfl
 | succ r ih =>
   intro k
   simp only [Az, Azx, List.map_append, List.map_cons, List.map_nil, tna0]
   rw [Gz, ih]
theorem Avo {n m : Nat} (hn : 0 < n) {f : List Int} (hf : f.length = n) (hfx : Bl f m) (r k : Nat) : Bl ((Az n r k).map fun x => nth f x.toNat) m := by
 intro y hy
 obtain ⟨x, hx, rfl⟩ := List.mem_map.1 hy
 have := Agz hn r k x hx
 exact hfx _ (Aq (by omega))
structure Homs (a b : SAlgebra) (f : List Int) (n m : Nat) : Prop where
 ga : Awo a
 gb : Awo b
 ty : Apm a = Apm b
 sa : a.Size = n
 sb : b.Size = m
 len : f.length = n
 fin : Bl f m
section
variable {a b : SAlgebra} {f : List Int} {n m : Nat}
theorem Homs.ops (h : Homs a b f n m) : a.Ops.length = b.Ops.length := by
 have := congrArg List.length h.ty
 simpa [Apm] using this
theorem Homs.op (h : Homs a b f n m) {i : Nat} (hi : i < a.Ops.length) : ∃ r : Nat, r ≤ 3 ∧ (nth a.Ops i).Arity = r ∧ (nth b.Ops i).Arity = r ∧ (nth a.Ops i).Table.length = n ^ r ∧ (nth b.Ops i).Table.length = m ^ r ∧ Bl (nth a.Ops i).Table n ∧ n ^ r ≤ 512 := by
 have hn : a.Size.toNat = n := by have := h.sa; omega
 have hm : b.Size.toNat = m := by have := h.sb; omega
 have hn8 : n ≤ 8 := by have := h.sa; have := h.ga.2.1; omega
 obtain ⟨h1, h2, h3, h4⟩ := h.ga.2.2.2 _ (Aq hi)
 have hib : i < b.Ops.length := by rw [← h.ops]; exact hi
 obtain ⟨_, _, k3, _⟩ := h.gb.2.2.2 _ (Aq hib)
 have e : (nth a.Ops i).Arity = (nth b.Ops i).Arity := by
  have e1 : nth (Apm a) i = (nth a.Ops i).Arity := Yg _ hi
  have e2 : nth (Apm b) i = (nth b.Ops i).Arity := Yg _ hib
  rw [← e1, ← e2, h.ty]
 rw [hn] at h3 h4
 rw [hm, ← e] at k3
 exact ⟨(nth a.Ops i).Arity.toNat, by omega, by omega, by omega, h3, k3, h4, Am3 hn8 (by omega)⟩
theorem Homs.pos (h : Homs a b f n m) : 0 < n ∧ n ≤ 8 ∧ 0 < m ∧ m ≤ 8 := by
 have := h.sa; have := h.sb; have := h.ga.1; have := h.ga.2.1; have := h.gb.1; have := h.gb.2.1
 omega
theorem Homs.low (h : Homs a b f n m) {r k : Nat} (hr : r ≤ 3) : ∃ c : Nat, Azx n m f r k = (c : Int) ∧ c < m ^ r := by
 obtain ⟨hn, _, _, hm⟩ := h.pos
 obtain ⟨c, h1, h2, _⟩ := Ai9 hm (xs := (Az n r k).map fun x => nth f x.toNat) (by rw [List.length_map, E1]; exact hr) (Avo hn h.len h.fin r k)
 rw [Axt] at h1
 rw [List.length_map, E1] at h2
 exact ⟨c, h1, h2⟩
end
def uniq (f : List Int) : Prop := ∀ i, i < f.length → nth f i ∉ f.take i
end Go.Proofs.Ytjcekpmojnnmbaa.Ax
namespace Go.Proofs.Ytjcekpmojnnmbaa.Ax
open Go Classical
structure Perm (f : List Int) (n : Nat) : Prop where
 len : f.length = n
 fin : Bl f n
 un : uniq f
theorem Perm.count {f : List Int} {n : Nat} (h : Perm f n) : ∀ i, i ≤ n → (Qo n fun z => decide ((z : Int) ∈ f.take i)).length = i := by
 intro i
 induction i with
 | zero =>
   intro _
   rw [List.length_eq_zero_iff]
   exact Av2.2 fun z _ => by simp
 | succ i ih =>
   intro hi
   have hil : i < f.length := by rw [h.len]; exact hi
   have hv := h.fin _ (Aq hil)
   have hu := h.un i hil
   have hc : nth f i = (((nth f i).toNat : Nat) : Int) := by omega
   have := Awd (q := fun z => decide ((z : Int) ∈ f.take i)) (q' := fun z => decide ((z : Int) ∈ f.take (i + 1))) (x := (nth f i).toNat) (dfa0 (by rw [← hc]; exact hu)) (fun z => by
    rw [E4 hil, Bool.eq_iff_iff]
    simp only [decide_eq_true_eq, List.mem_append, List.mem_singleton, Bool.or_eq_true]
    constructor
    ·rintro (h1 | h1)
     ·exact .inl h1
     ·exact .inr (by omega)
    ·rintro (h1 | h1)
     ·exact .inl h1
     ·exact .inr (by omega)) n
   rw [this, ih (by omega), if_pos (by omega)]
section
variable {a : SAlgebra} {f : List Int} {n : Nat}
end
end Go.Proofs.Ytjcekpmojnnmbaa.Ax
namespace Go.Proofs.Ytjcekpmojnnmbaa.Ax
open Go Classical
section
variable {a b : SAlgebra} {f : List Int} {n m : Nat}
end
section
variable {a b : SAlgebra} {f : List Int}
end
section
variable {a b c : SAlgebra} {f g : List Int}
end
section
variable {a b : SAlgebra} {f : List Int}
end
end Go.Proofs.Ytjcekpmojnnmbaa.Ax
namespace Go.Proofs.Ytjcekpmojnnmbaa.Ax
open Go Classical
theorem Ama {β : Type} (k : ByteArray) (v : β) (k' : ByteArray) : ∀ (l : List (ByteArray × β)), Fu (L1 l k v) k' = if k' = k then some v else Fu l k'
 | [] => by simp [L1, Fu]
 | (a, b) :: r => by
   simp only [L1]
   by_cases h1 : k = a
   ·subst h1
    rw [if_pos rfl]
    simp only [Fu]
    by_cases h2 : k' = k
    ·rw [if_pos h2, if_pos h2]
    ·rw [if_neg h2, if_neg h2, if_neg h2]
   ·rw [if_neg h1]
    simp only [Fu]
    rw [Ama k v k' r]
    by_cases h2 : k' = a
    ·rw [if_pos h2, if_pos h2, if_neg (fun e => h1 (by rw [← e, h2]))]
    ·rw [if_neg h2, if_neg h2]
theorem Art (ns : List Int) : ∀ b : ByteArray, (ns.foldl (fun r n => r.push (UInt8.ofNat n.toNat)) b).data.toList = b.data.toList ++ ns.map fun n => UInt8.ofNat n.toNat := by
 induction ns with
 | nil => intro b; simp
 | cons n r ih =>
   intro b
   simp only [List.foldl_cons, List.map_cons]
   rw [ih]
   simp [ByteArray.push]
theorem Ayd {a b : Int} (ha : 0 ≤ a ∧ a ≤ 255) (hb : 0 ≤ b ∧ b ≤ 255) (h : UInt8.ofNat a.toNat = UInt8.ofNat b.toNat) : a = b := by
 have := congrArg UInt8.toNat h
 simp [UInt8.toNat_ofNat'] at this
 omega
theorem Avs {ns ms : List Int} (hn : ∀ x ∈ ns, 0 ≤ x ∧ x ≤ 255) (hm : ∀ x ∈ ms, 0 ≤ x ∧ x ≤ 255) (h : V6 ns = V6 ms) : ns = ms := by
 have e := congrArg (fun b : ByteArray => b.data.toList) h
 simp only [V6, Art] at e
 have e2 : (ns.map fun n : Int => UInt8.ofNat n.toNat) = ms.map fun n : Int => UInt8.ofNat n.toNat := by simpa using e
 clear e h
 induction ns generalizing ms with
 | nil =>
   cases ms with
   | nil => rfl
   | cons _ _ => cases e2
 | cons a r ih =>
   cases ms with
   | nil => cases e2
   | cons b s =>
     simp only [List.map_cons, List.cons.injEq] at e2
     rw [Ayd (hn a (by simp)) (hm b (by simp)) e2.1, ih (fun x hx => hn x (by simp [hx])) (fun x hx => hm x (by simp [hx])) e2.2]
def byt (x : Int) : List Int := [IntKind.u8.wrap (x.fdiv (2 ^ min (Int.toNat 8) IntKind.i64.bits)), IntKind.u8.wrap x]
theorem Ayi (n : Int) : IntKind.u8.wrap n = n % 256 := by simp [IntKind.wrap, IntKind.bits, IntKind.signed]
theorem Aw3 {x : Int} (h0 : 0 ≤ x) (h1 : x < 65536) : byt x = [x / 256, x % 256] := by
 unfold byt
 have e : (2 : Int) ^ min (Int.toNat 8) IntKind.i64.bits = 256 := by decide
 rw [e, Ayi, Ayi, Int.fdiv_eq_ediv_of_nonneg _ (by omega)]
 congr 1
 omega
theorem Ayn (x : Int) : ∀ y ∈ byt x, 0 ≤ y ∧ y ≤ 255 := by
 intro y hy
 unfold byt at hy
 simp only [List.mem_cons, List.not_mem_nil, or_false] at hy
 rcases hy with rfl | rfl <;> (rw [Ayi]; omega)
def Awc (xs : List Int) : ByteArray := V6 (xs.flatMap byt)
theorem Anp : ∀ {xs ys : List Int}, (∀ x ∈ xs, 0 ≤ x ∧ x < 65536) → (∀ x ∈ ys, 0 ≤ x ∧ x < 65536) → xs.flatMap byt = ys.flatMap byt → xs = ys := by
 intro xs
 induction xs with
 | nil =>
   intro ys _ _ h
   cases ys with
   | nil => rfl
   | cons y r => simp [byt] at h
 | cons x r ih =>
   intro ys hx hy h
   cases ys with
   | nil => simp [byt] at h
   | cons y s =>
     have h1 := hx x (by simp)
     have h2 := hy y (by simp)
     simp only [List.flatMap_cons, Aw3 h1.1 h1.2, Aw3 h2.1 h2.2, List.cons_append, List.nil_append, List.cons.injEq] at h
     rw [ih (fun z hz => hx z (by simp [hz])) (fun z hz => hy z (by simp [hz])) h.2.2, show x = y by omega]
theorem Azk {xs ys : List Int} (hx : ∀ x ∈ xs, 0 ≤ x ∧ x < 65536) (hy : ∀ x ∈ ys, 0 ≤ x ∧ x < 65536) (h : Awc xs = Awc ys) : xs = ys := by
 refine Anp hx hy (Avs ?_ ?_ h)
 ·intro y hy
  obtain ⟨x, _, hy⟩ := List.mem_flatMap.1 hy
  exact Ayn x y hy
 ·intro y hy
  obtain ⟨x, _, hy⟩ := List.mem_flatMap.1 hy
  exact Ayn x y hy
theorem Axi (xs : List Int) : (xs.flatMap byt).length = 2 * xs.length := by
 induction xs with
 | nil => rfl
 | cons x r ih => simp only [List.flatMap_cons, List.length_append, ih, List.length_cons]; simp [byt]; omega
theorem At5 {xs : List Int} (hl : xs.length ≤ 1048576) : Jt xs = some (Awc xs) := by
 have hL := Bd
 unfold Jt
 rw [Af (by unfold InI; omega), Af (by omega)]
 have key := Bk (body := Eu xs) (fun i => ((i : Int), (xs.take i).flatMap byt)) xs.length (xs.flatMap byt) (fun i hi => by
  have h1 := Axi (xs.take i)
  unfold Eu
  dsimp only
  rw [if_pos (by omega), Af (by omega), tna0, Af (by rw [h1, List.length_take]; simp only [List.length_cons, List.length_nil]; omega), Af (by unfold InI; omega), E4 hi, List.flatMap_append]
  simp [byt]) (by
  unfold Eu
  dsimp only
  rw [if_neg (by omega), List.take_length])
 have key' : Al (Eu xs) (0, Ap Int) = _ := key
 rw [key']; rfl
def Avy (S : List (ByteArray × Bool)) (rows : List (List Int)) : Prop := ∀ k, (Fu S k).getD false = decide (∃ t ∈ rows, Awc t = k)
theorem Axr : Avy (Ap (ByteArray × Bool)) [] := fun k => by simp [Fu]
theorem Awh {S : List (ByteArray × Bool)} {rows : List (List Int)} (h : Avy S rows) (t : List Int) : Avy (L1 S (Awc t) true) (rows ++ [t]) := by
 intro k
 rw [Ama]
 by_cases hk : k = Awc t
 ·rw [if_pos hk]
  exact (dtr0 ⟨t, by simp, hk.symm⟩).symm
 ·rw [if_neg hk, h k, decide_eq_decide]
  constructor
  ·rintro ⟨u, hu, e⟩; exact ⟨u, by simp [hu], e⟩
  ·rintro ⟨u, hu, e⟩
   rcases List.mem_append.1 hu with h1 | h1
   ·exact ⟨u, h1, e⟩
   ·rw [List.mem_singleton.1 h1] at e
    exact absurd e.symm hk
theorem Ajd {r : SRelation} (hl : r.Tuples.length ≤ 1048576) (hr : ∀ t ∈ r.Tuples, t.length ≤ 1048576) : ∃ S, Hs r = some S ∧ Avy S r.Tuples := by
 unfold Hs
 obtain ⟨S, e, hS⟩ := Do (body := Fm r) (fun s => ∃ i : Nat, s.1 = (i : Int) ∧ i ≤ r.Tuples.length ∧ Avy s.2 (r.Tuples.take i)) (fun s => r.Tuples.length - s.1.toNat) (fun S => Avy S r.Tuples) (by
  rintro ⟨x, S⟩ ⟨i, rfl, g1, g2⟩
  dsimp only at g2
  unfold Fm
  dsimp only
  by_cases hi : i < r.Tuples.length
  ·rw [if_pos (by omega), Af (by omega), tna0, At5 (hr _ (Aq hi))]
   simp only [obs0]
   rw [Af (by unfold InI; omega)]
   refine .inl ⟨_, rfl, ⟨i + 1, rfl, by omega, ?_⟩, by dsimp only; omega⟩
   dsimp only
   rw [E4 hi]
   exact Awh g2 _
  ·rw [if_neg (by omega)]
   have : i = r.Tuples.length := by omega
   subst this
   rw [List.take_length] at g2
   exact .inr ⟨_, rfl, g2⟩) (s := ((0 : Int), Ap (ByteArray × Bool))) ⟨0, rfl, Nat.zero_le _, Axr⟩
 rw [e]
 exact ⟨S, rfl, hS⟩
theorem Aa8 {n : Nat} (_hn : 0 < n) : ∀ r k, k < n ^ r → G6 n (Az n r k) = (k : Int) := by
 intro r
 induction r with
 | zero => intro k hk; simp at hk; subst hk; rfl
 | succ r ih =>
   intro k hk
   have hd : k / n < n ^ r := Nat.div_lt_of_lt_mul (by rw [Nat.mul_comm, ← Nat.pow_succ]; exact hk)
   simp only [Az]
   rw [Gz, ih _ hd, ← Int.natCast_mul, ← Int.natCast_add, Nat.mul_comm, Nat.div_add_mod]
theorem Yn {n : Nat} (hn : 0 < n) : ∀ r (xs : List Int), xs.length = r → Bl xs n → Az n r (G6 n xs).toNat = xs := by
 intro r
 induction r with
 | zero => intro xs hl _; rw [List.length_eq_zero_iff.1 hl]; rfl
 | succ r ih =>
   intro xs hl hx
   obtain ⟨ys, y, rfl⟩ : ∃ ys y, xs = ys ++ [y] := ⟨xs.take r, nth xs r, by rw [← E4 (by omega), List.take_of_length_le (by omega)]⟩
   have hy := hx y (by simp)
   have hys : Bl ys n := fun z hz => hx z (by simp [hz])
   have hyl : ys.length = r := by simpa using hl
   obtain ⟨c, h1, _⟩ := Sl r ys hyl hys
   obtain ⟨d, rfl⟩ := Int.eq_ofNat_of_zero_le hy.1
   have hd : d < n := by omega
   have e : (G6 n (ys ++ [(d : Int)])).toNat = c * n + d := by
    rw [Gz, h1, ← Int.natCast_mul, ← Int.natCast_add, tna0]
   rw [e]
   simp only [Az]
   rw [show (c * n + d) / n = c by rw [Nat.mul_comm, Nat.mul_add_div hn, Nat.div_eq_of_lt hd]; omega, show (c * n + d) % n = d by rw [Nat.mul_comm, Nat.mul_add_mod, Nat.mod_eq_of_lt hd]]
   have := ih ys hyl hys
   rw [h1, tna0] at this
   rw [this]
theorem N7 {n k : Nat} (B : Nat) (hB : B ≤ 1000000) (h : ∀ i, i ≤ k → n ^ i ≤ B) (hk : k ≤ 1000) : Dh n k = some ((n ^ k : Nat) : Int) := by
 unfold Dh
 have key := Bk (body := Cf n) (fun j => (((n ^ j : Nat) : Int), ((k : Int) - (j : Int)))) k ((n ^ k : Nat) : Int) (fun j hj => by
  unfold Cf
  dsimp only
  have hp := h (j + 1) (by omega)
  rw [Nat.pow_succ] at hp
  rw [if_pos (by omega), ← Int.natCast_mul, Nat.pow_succ]
  generalize n ^ j * n = N at hp ⊢
  rw [Af (by unfold InI; omega), Af (by unfold InI; omega), show ((k : Int) - (j : Int) - 1) = (k : Int) - ((j + 1 : Nat) : Int) by omega]) (by
  unfold Cf
  dsimp only
  rw [if_neg (by omega)])
 have key' : Al (Cf n) (1, (k : Int)) = some ((n ^ k : Nat) : Int) := by simpa using key
 rw [key']; rfl
theorem L9 {n k : Nat} (B : Nat) (hB : B ≤ 1000000) (h : ∀ i, i ≤ k → n ^ i ≤ B) (hk : k ≤ 1000) : Gd n k = some ((n ^ k : Nat) : Int) := by
 unfold Gd
 have key := Bk (body := Ew n) (fun j => (((n ^ j : Nat) : Int), ((k : Int) - (j : Int)))) k ((n ^ k : Nat) : Int) (fun j hj => by
  unfold Ew
  dsimp only
  have hp := h (j + 1) (by omega)
  rw [Nat.pow_succ] at hp
  rw [if_pos (by omega), ← Int.natCast_mul, Nat.pow_succ]
  generalize n ^ j * n = N at hp ⊢
  rw [Af (by unfold InI; omega), Af (by unfold InI; omega), show ((k : Int) - (j : Int) - 1) = (k : Int) - ((j + 1 : Nat) : Int) by omega]) (by
  unfold Ew
  dsimp only
  rw [if_neg (by omega)])
 have key' : Al (Ew n) (1, (k : Int)) = some ((n ^ k : Nat) : Int) := by simpa using key
 rw [key']; rfl
theorem Un {n r k : Nat} (hn : 0 < n) (hn8 : n ≤ 8) (hr : r ≤ 100) (hk : k ≤ 1048576) : Fi n r k = some (Az n r k) := by
 unfold Fi
 rw [Af (by rw [Bd]; omega), Af (by unfold InI; omega), tna0, A0p hn hn8 r k _ (by simp) (by simp; omega) hk]
 simp
theorem Amm {n r k : Nat} (hn : 0 < n) (hn8 : n ≤ 8) (hr : r ≤ 100) (hk : k ≤ 1048576) : Hz k r n = some (Az n r k) := by
 have : Hz (k : Int) (r : Int) (n : Int) = Fi (n : Int) (r : Int) (k : Int) := rfl
 rw [this]; exact Un hn hn8 hr hk
end Go.Proofs.Ytjcekpmojnnmbaa.Ax
namespace Go.Proofs.Ytjcekpmojnnmbaa.Ax
open Go Classical
def hT (n r : Nat) (y : Nat → Int) : Int := G6 n ((List.range r).map y)
theorem A0z (n r : Nat) (y : Nat → Int) : hT n (r + 1) y = hT n r y * (n : Int) + y r := by
 unfold hT; rw [List.range_succ, List.map_append]; exact Gz _ _ _
theorem A3e {n r : Nat} {y : Nat → Int} (h : ∀ i, i < r → 0 ≤ y i ∧ y i < n) : Bl ((List.range r).map y) n := by
 intro v hv
 obtain ⟨i, hi, rfl⟩ := List.mem_map.1 hv
 exact h i (List.mem_range.1 hi)
theorem Adf {n r : Nat} {y : Nat → Int} (hn : n ≤ 8) (hr : r ≤ 3) (h : ∀ i, i < r → 0 ≤ y i ∧ y i < n) : ∃ c : Nat, hT n r y = (c : Int) ∧ c < n ^ r ∧ c < 512 := by
 obtain ⟨c, h1, h2, h3⟩ := Ai9 hn (xs := (List.range r).map y) (by simpa using hr) (A3e h)
 exact ⟨c, h1, by simpa using h2, h3⟩
theorem Auf {body : (Int × Int) → Option ((Int × Int) ⊕ Int)} (n r : Nat) (y : Nat → Int) (hb : ∀ i, i < r → body ((i : Int), hT n i y) = some (.inl (((i + 1 : Nat) : Int), hT n i y * (n : Int) + y i))) (he : ∀ q, body ((r : Int), q) = some (.inr q)) :
  Al body (0, 0) = some (hT n r y) := by
 have key := Bk (body := body) (fun i => ((i : Int), hT n i y)) r (hT n r y) (fun i hi => by rw [hb i hi, A0z]) (he _)
 exact key
structure OpR (n r : Nat) (f : SOp) : Prop where
 ar : f.Arity = r
 le : r ≤ 2
 len : f.Table.length = n ^ r
 fin : Bl f.Table n
theorem OpR.at {n r : Nat} {f : SOp} (h : OpR n r f) (hn : n ≤ 8) {y : Nat → Int} (hy : ∀ i, i < r → 0 ≤ y i ∧ y i < n) : (∃ c : Nat, hT n r y = (c : Int) ∧ c < f.Table.length ∧ c < 512) ∧ 0 ≤ nth f.Table (hT n r y).toNat ∧ nth f.Table (hT n r y).toNat < n := by
 obtain ⟨c, h1, h2, h3⟩ := Adf hn (by have := h.le; omega) hy
 rw [← h.len] at h2
 exact ⟨⟨c, h1, h2, h3⟩, by rw [h1, tna0]; exact h.fin _ (Aq h2)⟩
section
variable {n r s : Nat} {f g : SOp}
end
def Ap5 (n : Int) (f g : SOp) : Prop := 1 ≤ n ∧ n ≤ 4 ∧ Ayu n.toNat f ∧ Ayu n.toNat g ∧ f.Arity ≤ 2 ∧ g.Arity ≤ 2
theorem Ap5.symm {n : Int} {f g : SOp} (h : Ap5 n f g) : Ap5 n g f := ⟨h.1, h.2.1, h.2.2.2.1, h.2.2.1, h.2.2.2.2.2, h.2.2.2.2.1⟩
theorem Ap5.ops {n : Int} {f g : SOp} (h : Ap5 n f g) : OpR n.toNat f.Arity.toNat f ∧ OpR n.toNat g.Arity.toNat g := by
 obtain ⟨h1, h2, h3, h4, h5, h6⟩ := h
 obtain ⟨a1, a2, a3, a4⟩ := h3
 obtain ⟨b1, b2, b3, b4⟩ := h4
 exact ⟨⟨by omega, by omega, a3, a4⟩, ⟨by omega, by omega, b3, b4⟩⟩
end Go.Proofs.Ytjcekpmojnnmbaa.Ax
namespace Go.Proofs.Ytjcekpmojnnmbaa.Ax
open Go Classical
end Go.Proofs.Ytjcekpmojnnmbaa.Ax
namespace Go.Proofs.Ytjcekpmojnnmbaa.Ax
open Go Classical
section
end
end Go.Proofs.Ytjcekpmojnnmbaa.Ax
namespace Go.Proofs.Ytjcekpmojnnmbaa.Ax
open Go Classical
section
variable {n : Nat} {f : Nat → Nat → Bool}
end
section
variable {n m : Nat} {f g : Nat → Nat → Bool}
end
end Go.Proofs.Ytjcekpmojnnmbaa.Ax
namespace Go.Proofs.Ytjcekpmojnnmbaa.Ax
open Go Classical
section
variable {n m : Nat} {f g : Nat → Nat → Bool}
end
end Go.Proofs.Ytjcekpmojnnmbaa.Ax
namespace Go.Proofs.Ytjcekpmojnnmbaa.Ax
open Go Classical
section
end
section
variable {n m : Nat} {f g : Nat → Nat → Bool}
end
end Go.Proofs.Ytjcekpmojnnmbaa.Ax
namespace Go.Proofs.Ytjcekpmojnnmbaa.Ax
open Go Classical
theorem A09 (A xs : List Int) (j : Nat) (hA : A.length = j) (hj : j < xs.length) (v : Int) : (A ++ xs.drop j).set j v = (A ++ [v]) ++ xs.drop (j + 1) := by
 rw [List.set_append, if_neg (by omega), hA, Nat.sub_self, List.drop_eq_getElem_cons hj, List.set_cons_zero]
 simp
section
variable {n r s : Nat} {f g : SOp}
end
end Go.Proofs.Ytjcekpmojnnmbaa.Ax
namespace Go.Proofs.Ytjcekpmojnnmbaa.Ax
open Go Classical
def A31 (p q : List Int) (i : Nat) : List Int := (List.range i).map fun x => nth p x * (p.length : Int) + nth q x
end Go.Proofs.Ytjcekpmojnnmbaa.Ax
namespace Go.Proofs.Ytjcekpmojnnmbaa.Ax
open Go Classical
theorem At2 : ∀ {xs ys : List Nat}, xs.Pairwise (· < ·) → ys.Pairwise (· < ·) → (∀ z, z ∈ xs ↔ z ∈ ys) → xs = ys
 | [], [], _, _, _ => rfl
 | [], y :: _, _, _, h => absurd ((h y).2 (by simp)) (by simp)
 | x :: _, [], _, _, h => absurd ((h x).1 (by simp)) (by simp)
 | x :: xs, y :: ys, hx, hy, h => by
   rw [List.pairwise_cons] at hx hy
   have e : x = y := by
    have h1 := (h x).1 (by simp)
    have h2 := (h y).2 (by simp)
    rcases List.mem_cons.1 h1 with h1 | h1
    ·exact h1
    ·rcases List.mem_cons.1 h2 with h2 | h2
     ·exact h2.symm
     ·have := hx.1 y h2
      have := hy.1 x h1
      omega
   subst e
   congr 1
   refine At2 hx.2 hy.2 fun z => ?_
   have hz := h z
   simp only [List.mem_cons] at hz
   constructor
   ·intro hm
    rcases hz.1 (.inr hm) with h1 | h1
    ·have := hx.1 z hm; omega
    ·exact h1
   ·intro hm
    rcases hz.2 (.inr hm) with h1 | h1
    ·have := hy.1 z hm; omega
    ·exact h1
theorem Axl {n : Nat} : ∀ (r : Nat) (a b : List Int), a.length = r → b.length = r → Bl a n → Bl b n → (On a b ↔ G6 n a < G6 n b) := by
 have snoc : ∀ (a : List Int) r, a.length = r + 1 → ∃ c y, a = c ++ [y] ∧ c.length = r := fun a r h => ⟨a.take r, nth a r, by rw [← E4 (by omega), List.take_of_length_le (by omega)], by simp; omega⟩
 intro r
 induction r with
 | zero =>
   intro a b ha hb _ _
   rw [List.length_eq_zero_iff.1 ha, List.length_eq_zero_iff.1 hb]
   exact ⟨fun ⟨i, hi, _⟩ => absurd hi (by simp), fun h => absurd h (Int.lt_irrefl _)⟩
 | succ r ih =>
   intro a b ha hb ia ib
   obtain ⟨c, x, rfl, hc⟩ := snoc a r ha
   obtain ⟨d, y, rfl, hd⟩ := snoc b r hb
   have ic : Bl c n := fun z hz => ia z (by simp [hz])
   have id : Bl d n := fun z hz => ib z (by simp [hz])
   have hx := ia x (by simp)
   have hy := ib y (by simp)
   have hI := ih c d hc hd ic id
   obtain ⟨u, hu, _⟩ := Sl r c hc ic
   obtain ⟨v, hv, _⟩ := Sl r d hd id
   rw [Gz, Gz, hu, hv]
   rw [hu, hv] at hI
   have l1 : ∀ (c : List Int) x i, i < c.length → nth (c ++ [x]) i = nth c i := fun c x i hi => by
    rw [Ez (by simp; omega), Ez hi, List.getElem_append_left hi]
   have l2 : ∀ (c : List Int) x i, i = c.length → nth (c ++ [x]) i = x := fun c x i hi => by
    subst hi; rw [Ez (by simp)]; simp
   constructor
   ·rintro ⟨i, hi, h1, h2⟩
    by_cases hir : i < r
    ·have hlt : On c d := ⟨i, by omega, fun j hj => by have := h1 j hj; rwa [l1 c x j (by omega), l1 d y j (by omega)] at this, by rwa [l1 c x i (by omega), l1 d y i (by omega)] at h2⟩
     have := hI.1 hlt
     have := Int.mul_le_mul_of_nonneg_right (show (u : Int) + 1 ≤ v by omega) (show (0 : Int) ≤ n by omega)
     rw [Int.add_mul, Int.one_mul] at this
     omega
    ·have e : i = r := by simp at hi; omega
     subst e
     rw [l2 c x i (by omega), l2 d y i (by omega)] at h2
     have ecd : c = d := Yp (by omega) fun j hj => by have := h1 j (by omega); rwa [l1 c x j (by omega), l1 d y j (by omega)] at this
     have : (u : Int) = v := by rw [← hu, ← hv, ecd]
     rw [this]; omega
   ·intro h
    rcases Int.lt_trichotomy (u : Int) v with hlt | heq | hgt
    ·obtain ⟨i, hi, h1, h2⟩ := hI.2 hlt
     exact ⟨i, by simp; omega, fun j hj => by rw [l1 c x j (by omega), l1 d y j (by omega)]; exact h1 j hj, by rw [l1 c x i (by omega), l1 d y i (by omega)]; exact h2⟩
    ·have ecd : c = d := by
      have hn : 0 < n := by omega
      have e1 := Yn hn r c hc ic
      have e2 := Yn hn r d hd id
      rw [← e1, ← e2, hu, hv, heq]
     subst ecd
     rw [heq] at h
     exact ⟨r, by simp; omega, fun j hj => by rw [l1 c x j (by omega), l1 c y j (by omega)], by rw [l2 c x r (by omega), l2 c y r (by omega)]; omega⟩
    ·have := Int.mul_le_mul_of_nonneg_right (show (v : Int) + 1 ≤ u by omega) (show (0 : Int) ≤ n by omega)
     rw [Int.add_mul, Int.one_mul] at this
     omega
def Qv (n : Int) (a : Int) (T : List (List Int)) (i : Nat) : Prop := ((nth T i).length : Int) = a ∧ Bl (nth T i) n ∧ (0 < i → On (nth T (i - 1)) (nth T i))
def Eh (n : Int) (r : SRelation) : Prop := 1 ≤ r.Arity ∧ r.Arity ≤ 3 ∧ ∀ i, i < r.Tuples.length → Qv n r.Arity r.Tuples i
section
variable {n : Nat} {r : SRelation}
theorem Eh.row (h : Eh n r) {t : List Int} (ht : t ∈ r.Tuples) : (t.length : Int) = r.Arity ∧ Bl t n := by
 obtain ⟨i, hi, rfl⟩ := N1.1 ht
 exact ⟨(h.2.2 i hi).1, (h.2.2 i hi).2.1⟩
theorem Eh.hornx (h : Eh n r) {i : Nat} (hi : i < r.Tuples.length) : ∃ c : Nat, G6 n (nth r.Tuples i) = (c : Int) ∧ c < n ^ r.Arity.toNat := by
 obtain ⟨h1, h2⟩ := h.row (Aq hi)
 exact Sl r.Arity.toNat _ (by omega) h2
theorem Eh.mono (h : Eh n r) : ∀ j, j < r.Tuples.length → ∀ i, i < j → G6 n (nth r.Tuples i) < G6 n (nth r.Tuples j) := by
 intro j
 induction j with
 | zero => intro _ i hi; omega
 | succ j ih =>
   intro hj i hi
   have hs : G6 n (nth r.Tuples j) < G6 n (nth r.Tuples (j + 1)) := by
    obtain ⟨a1, a2⟩ := h.row (Aq (show j < r.Tuples.length by omega))
    obtain ⟨b1, b2⟩ := h.row (Aq hj)
    have := (h.2.2 (j + 1) hj).2.2 (by omega)
    rw [Nat.add_sub_cancel] at this
    exact (Axl r.Arity.toNat _ _ (by omega) (by omega) a2 b2).1 this
   rcases Nat.lt_or_ge i j with hij | hij
   ·exact Int.lt_trans (ih (by omega) i hij) hs
   ·have : i = j := by omega
    subst this; exact hs
theorem Eh.len (h : Eh n r) : r.Tuples.length ≤ n ^ r.Arity.toNat := by
 have key : ∀ i, i < r.Tuples.length → (i : Int) ≤ G6 n (nth r.Tuples i) := by
  intro i
  induction i with
  | zero => intro hi; obtain ⟨c, hc, _⟩ := h.hornx hi; omega
  | succ i ih =>
    intro hi
    have h1 := ih (by omega)
    have h2 := h.mono (i + 1) hi i (by omega)
    omega
 rcases Nat.eq_zero_or_pos r.Tuples.length with h0 | h0
 ·omega
 ·have h1 := key (r.Tuples.length - 1) (by omega)
  obtain ⟨c, hc, hc2⟩ := h.hornx (show r.Tuples.length - 1 < r.Tuples.length by omega)
  omega
noncomputable def Avq (n r : Nat) (q : Nat → Prop) : List (List Int) := ((List.range (n ^ r)).filter fun k => decide (q k)).map (Az n r)
theorem Aw2 {n r : Nat} {q : Nat → Prop} {t : List Int} : t ∈ Avq n r q ↔ ∃ k, k < n ^ r ∧ q k ∧ Az n r k = t := by
 simp [Avq, and_assoc]
theorem Eh.canon (h : Eh n r) (hn : 0 < n) : r.Tuples = Avq n r.Arity.toNat fun k => Az n r.Arity.toNat k ∈ r.Tuples := by
 have e1 : r.Tuples = (r.Tuples.map fun t => (G6 n t).toNat).map (Az n r.Arity.toNat) := by
  rw [List.map_map]
  refine Yp (by simp) fun i hi => ?_
  obtain ⟨a1, a2⟩ := h.row (Aq hi)
  rw [Yg _ hi]
  exact (Yn hn _ _ (by omega) a2).symm
 have e2 : (r.Tuples.map fun t => (G6 n t).toNat) = (List.range (n ^ r.Arity.toNat)).filter fun k => decide (Az n r.Arity.toNat k ∈ r.Tuples) := by
  refine At2 ?_ (List.Pairwise.filter _ List.pairwise_lt_range) fun z => ?_
  ·rw [List.pairwise_iff_getElem]
   intro i j hi hj hij
   simp only [List.length_map] at hi hj
   simp only [List.getElem_map]
   have := h.mono j hj i hij
   rw [Ez hi, Ez hj] at this
   have := h.hornx hi
   rw [Ez hi] at this
   obtain ⟨c, hc, _⟩ := this
   omega
  ·simp only [List.mem_map, List.mem_filter, List.mem_range, decide_eq_true_eq]
   constructor
   ·rintro ⟨t, ht, rfl⟩
    obtain ⟨a1, a2⟩ := h.row ht
    obtain ⟨c, hc, hc2⟩ := Sl r.Arity.toNat t (by omega) a2
    rw [Yn hn _ t (by omega) a2]
    exact ⟨by omega, ht⟩
   ·rintro ⟨hz, hm⟩
    exact ⟨_, hm, by rw [Aa8 hn _ _ hz]; omega⟩
 unfold Avq
 refine e1.trans (congrArg _ (e2.trans ?_))
 congr 1
 funext k
 rw [decide_eq_decide]
end
section
variable {n : Nat} {r : SRelation} (hl : r.Tuples.length ≤ 1048576) (hr : ∀ t ∈ r.Tuples, t.length ≤ 1048576)
include hl hr
theorem Tq : Ds n r = some (decide (Eh n r)) := by
 have hL := Bd
 unfold Ds
 by_cases h1 : r.Arity < 1
 ·rw [if_pos h1, dfa0 (fun hh : Eh n r => by have := hh.1; omega)]; rfl
 by_cases h3 : r.Arity > 3
 ·rw [if_neg h1, if_pos h3, dfa0 (fun hh : Eh n r => by have := hh.2.1; omega)]; rfl
 rw [if_neg h1, if_neg h3]
 simp only [obs0]
 obtain ⟨t, e, ht⟩ := Do (body := Ei n r) (fun s => ∃ i : Nat, s = (i : Int) ∧ i ≤ r.Tuples.length ∧ ∀ j, j < i → Qv n r.Arity r.Tuples j) (fun s => r.Tuples.length - s.toNat) (fun t => t = if (∀ i, i < r.Tuples.length → Qv n r.Arity r.Tuples i) then .inr () else .inl ()) (by
  rintro s ⟨i, rfl, g1, g2⟩
  unfold Ei
  by_cases hi : i < r.Tuples.length
  ·rw [if_pos (by omega), Af (by omega), tna0]
   have bad : ¬ Qv n r.Arity r.Tuples i → (Sum.inl () : Unit ⊕ Unit) = if (∀ i, i < r.Tuples.length → Qv n r.Arity r.Tuples i) then .inr () else .inl () := fun hb => by
    rw [if_neg (fun hh => hb (hh i hi))]
   have good : Qv n r.Arity r.Tuples i → ∀ j, j < i + 1 → Qv n r.Arity r.Tuples j := fun hg j hj => by
    rcases Nat.lt_or_ge j i with hji | hji
    ·exact g2 j hji
    ·have : j = i := by omega
     subst this; exact hg
   by_cases c1 : ((nth r.Tuples i).length : Int) = r.Arity
   ·rw [if_neg (by simpa using c1), Api _ _ (by have := hr _ (Aq hi); omega)]
    simp only [obs0]
    by_cases c2 : Bl (nth r.Tuples i) n
    ·rw [dtr0 c2, if_pos rfl]
     by_cases c0 : i = 0
     ·subst c0
      rw [if_neg (by omega), Af (by unfold InI; omega)]
      exact .inl ⟨_, rfl, ⟨1, rfl, hi, good ⟨c1, c2, fun hh => absurd hh (by omega)⟩⟩, by omega⟩
     ·have g3 := g2 (i - 1) (by omega)
      obtain ⟨c, ec, hc⟩ := Yh (a := nth r.Tuples (i - 1)) (b := nth r.Tuples i) (by have := g3.1; omega) (by have := hr _ (Aq (show i - 1 < r.Tuples.length by omega)); omega)
      rw [if_pos (by omega), Af (by unfold InI; omega), Af (by omega), show ((i : Int) - 1).toNat = i - 1 by omega, ec]
      simp only [obs0]
      by_cases c3 : c ≥ 0
      ·rw [if_pos c3]
       exact .inr ⟨_, rfl, bad fun hh => hc.2 (hh.2.2 (by omega)) c3⟩
      ·rw [if_neg c3, Af (by unfold InI; omega)]
       exact .inl ⟨_, rfl, ⟨i + 1, rfl, by omega, good ⟨c1, c2, fun _ => hc.1 c3⟩⟩, by omega⟩
    ·rw [dfa0 c2, if_neg Bool.false_ne_true]
     exact .inr ⟨_, rfl, bad fun hh => c2 hh.2.1⟩
   ·rw [if_pos (by simpa using c1)]
    exact .inr ⟨_, rfl, bad fun hh => c1 hh.1⟩
  ·rw [if_neg (by omega)]
   exact .inr ⟨_, rfl, by rw [if_pos (fun j hj => g2 j (by omega))]⟩) (s := (0 : Int)) ⟨0, rfl, Nat.zero_le _, fun j hj => by omega⟩
 rw [e, ht]
 simp only [obs0]
 by_cases hall : ∀ i, i < r.Tuples.length → Qv n r.Arity r.Tuples i
 ·rw [if_pos hall, dtr0 (show Eh n r from ⟨by omega, by omega, hall⟩)]
 ·rw [if_neg hall, dfa0 (fun hh : Eh n r => hall hh.2.2)]
theorem Ae7 (h8 : n ≤ 8) : Fw n r = some (decide (Eh n r)) := by
 have hL := Bd
 unfold Fw
 rw [Aab]
 simp only [obs0]
 by_cases h13 : 1 ≤ r.Arity ∧ r.Arity ≤ 3
 ·rw [dtr0 h13, if_pos rfl]
  obtain ⟨a, ha⟩ := Int.eq_ofNat_of_zero_le (show 0 ≤ r.Arity by omega)
  have e0 := L9 (n := n) (k := a) 512 (by omega) (fun i hi => Nat.le_trans (Nat.pow_le_pow_left h8 i) (Nat.le_trans (Nat.pow_le_pow_right (by omega) (show i ≤ 3 by omega)) (by decide))) (by omega)
  rw [ha, e0]
  simp only [obs0]
  by_cases hlen : (r.Tuples.length : Int) > ((n ^ a : Nat) : Int)
  ·rw [if_pos hlen, dfa0 (fun hh : Eh n r => by
    have := hh.len
    rw [ha, tna0] at this
    omega)]
   rfl
  ·rw [if_neg hlen]
   simp only [obs0]
   obtain ⟨t, e, ht⟩ := Do (body := F5 n r) (fun s => ∃ i : Nat, s = (i : Int) ∧ i ≤ r.Tuples.length ∧ ∀ j, j < i → Qv n r.Arity r.Tuples j) (fun s => r.Tuples.length - s.toNat) (fun t => t = if (∀ i, i < r.Tuples.length → Qv n r.Arity r.Tuples i) then .inr () else .inl ()) (by
    rintro s ⟨i, rfl, g1, g2⟩
    unfold F5 Lj
    by_cases hi : i < r.Tuples.length
    ·rw [if_pos (by omega), Af (by omega), tna0]
     have bad : ¬ Qv n r.Arity r.Tuples i → (Sum.inl () : Unit ⊕ Unit) = if (∀ i, i < r.Tuples.length → Qv n r.Arity r.Tuples i) then .inr () else .inl () := fun hb => by
      rw [if_neg (fun hh => hb (hh i hi))]
     have good : Qv n r.Arity r.Tuples i → ∀ j, j < i + 1 → Qv n r.Arity r.Tuples j := fun hg j hj => by
      rcases Nat.lt_or_ge j i with hji | hji
      ·exact g2 j hji
      ·have : j = i := by omega
       subst this; exact hg
     by_cases c1 : ((nth r.Tuples i).length : Int) = r.Arity
     ·rw [if_pos c1, Anw _ _ (by have := hr _ (Aq hi); omega) (by omega)]
      simp only [obs0]
      by_cases c2 : Bl (nth r.Tuples i) n
      ·rw [dtr0 c2, if_pos rfl]
       by_cases c0 : i = 0
       ·subst c0
        rw [if_neg (by omega), Af (by unfold InI; omega)]
        exact .inl ⟨_, rfl, ⟨1, rfl, hi, good ⟨c1, c2, fun hh => absurd hh (by omega)⟩⟩, by omega⟩
       ·have g3 := g2 (i - 1) (by omega)
        have ec := Aet (a := nth r.Tuples (i - 1)) (b := nth r.Tuples i) (by have := g3.1; omega) (by have := hr _ (Aq (show i - 1 < r.Tuples.length by omega)); omega)
        rw [if_pos (by omega), Af (by unfold InI; omega), Af (by omega), Af (by omega), show ((i : Int) - 1).toNat = i - 1 by omega, ec]
        simp only [obs0]
        by_cases c3 : On (nth r.Tuples (i - 1)) (nth r.Tuples i)
        ·rw [dtr0 c3, if_pos rfl, Af (by unfold InI; omega)]
         exact .inl ⟨_, rfl, ⟨i + 1, rfl, by omega, good ⟨c1, c2, fun _ => c3⟩⟩, by omega⟩
        ·rw [dfa0 c3, if_neg Bool.false_ne_true]
         exact .inr ⟨_, rfl, bad fun hh => c3 (hh.2.2 (by omega))⟩
      ·rw [dfa0 c2, if_neg Bool.false_ne_true]
       exact .inr ⟨_, rfl, bad fun hh => c2 hh.2.1⟩
     ·rw [if_neg c1]
      simp only [obs0]
      rw [if_neg Bool.false_ne_true]
      exact .inr ⟨_, rfl, bad fun hh => c1 hh.1⟩
    ·rw [if_neg (by omega)]
     exact .inr ⟨_, rfl, by rw [if_pos (fun j hj => g2 j (by omega))]⟩) (s := (0 : Int)) ⟨0, rfl, Nat.zero_le _, fun j hj => by omega⟩
   rw [e, ht]
   simp only [obs0]
   by_cases hall : ∀ i, i < r.Tuples.length → Qv n r.Arity r.Tuples i
   ·rw [if_pos hall, dtr0 (show Eh n r from ⟨h13.1, h13.2, hall⟩)]
   ·rw [if_neg hall, dfa0 (fun hh : Eh n r => hall hh.2.2)]
 ·rw [dfa0 h13, if_neg Bool.false_ne_true, dfa0 (fun hh : Eh n r => h13 ⟨hh.1, hh.2.1⟩)]
  rfl
end
section
variable {n : Nat} {r : SRelation}
end
end Go.Proofs.Ytjcekpmojnnmbaa.Ax
namespace Go.Proofs.Ytjcekpmojnnmbaa.Ax
open Go Classical
def leP (q p : List Int) : Prop := q.length = p.length ∧ ∀ i, i < p.length → nth q i ≤ nth p i
theorem leP.refl (p : List Int) : leP p p := ⟨rfl, fun _ _ => Int.le_refl _⟩
theorem leP.trans {a b c : List Int} (h : leP a b) (h' : leP b c) : leP a c := ⟨h.1.trans h'.1, fun i hi => Int.le_trans (h.2 i (by rw [h'.1]; exact hi)) (h'.2 i hi)⟩
theorem leP.anti {a b : List Int} (h : leP a b) (h' : leP b a) : a = b := Yp h.1 fun i hi => Int.le_antisymm (h.2 i (by rw [← h.1]; exact hi)) (h'.2 i hi)
def okP (n : Nat) (q : List Int) : Prop := q.length = n ∧ Bl q n
def Rel (n : Nat) (s t : Bool × Bool × List Int) (D : Prop) : Prop :=
 okP n t.2.2 ∧ leP t.2.2 s.2.2 ∧ ((t = s ∧ D) ∨ (t.2.2 ≠ s.2.2 ∧ t.1 = true ∧ t.2.1 = true ∧ ¬ D))
theorem Rel.congr {n : Nat} {s t : Bool × Bool × List Int} {D E : Prop} (h : Rel n s t D) (e : D ↔ E) : Rel n s t E := by
 rw [← propext e]; exact h
theorem Rel.comp {n : Nat} {s t r : Bool × Bool × List Int} {D E E' : Prop} (h : Rel n s t D) (h' : Rel n t r E) (hE : t = s → (E ↔ E')) : Rel n s r (D ∧ E') := by
 obtain ⟨_, a2, a3⟩ := h
 obtain ⟨b1, b2, b3⟩ := h'
 refine ⟨b1, b2.trans a2, ?_⟩
 rcases a3 with ⟨e, d⟩ | ⟨e, d1, d2, d3⟩
 ·have hE := hE e
  rw [e] at b3
  rcases b3 with ⟨e', x⟩ | ⟨e', x1, x2, x3⟩
  ·exact .inl ⟨e', d, hE.1 x⟩
  ·exact .inr ⟨e', x1, x2, fun hh => x3 (hE.2 hh.2)⟩
 ·have hne : r.2.2 ≠ s.2.2 := fun hh => e (leP.anti a2 (by rw [← hh]; exact b2))
  rcases b3 with ⟨e', _⟩ | ⟨_, x1, x2, _⟩
  ·rw [e'] at hne ⊢
   exact .inr ⟨hne, d1, d2, fun hh => d3 hh.1⟩
  ·exact .inr ⟨hne, x1, x2, fun hh => d3 hh.1⟩
section
variable {a : SAlgebra} {n : Nat}
end
end Go.Proofs.Ytjcekpmojnnmbaa.Ax
namespace Go.Proofs.Ytjcekpmojnnmbaa.Ax
open Go Classical
structure OpQ (n r : Nat) (f : SOp) : Prop where
 ar : f.Arity = r
 le : r ≤ 3
 len : f.Table.length = n ^ r
 fin : Bl f.Table n
theorem OpQ.at {n r : Nat} {f : SOp} (h : OpQ n r f) (hn : n ≤ 8) {y : Nat → Int} (hy : ∀ i, i < r → 0 ≤ y i ∧ y i < n) : (∃ c : Nat, hT n r y = (c : Int) ∧ c < f.Table.length ∧ c < 512) ∧ 0 ≤ nth f.Table (hT n r y).toNat ∧ nth f.Table (hT n r y).toNat < n := by
 obtain ⟨c, h1, h2, h3⟩ := Adf hn (by have := h.le; omega) hy
 rw [← h.len] at h2
 exact ⟨⟨c, h1, h2, h3⟩, by rw [h1, tna0]; exact h.fin _ (Aq h2)⟩
section
variable {n r : Nat} {f : SOp} {p : List Int}
end
section
variable {a : SAlgebra} {n : Nat} {p : List Int}
end
end Go.Proofs.Ytjcekpmojnnmbaa.Ax
namespace Go.Proofs.Ytjcekpmojnnmbaa.Ax
open Go Classical
def Iw (T : List (List Int)) (n w : Nat) (f : SOp) (r k : Nat) : List Int := (List.range w).map fun j => nth f.Table (hT n r fun i => nth (nth T (nth (Az T.length r k) i).toNat) j).toNat
def Ac2 (T : List (List Int)) (n w : Nat) (f : SOp) (r : Nat) : Prop := ∀ k, k < T.length ^ r → Iw T n w f r k ∈ T
theorem Aeq (T : List (List Int)) (n w : Nat) (f : SOp) (r k : Nat) : (Iw T n w f r k).length = w := by simp [Iw]
theorem A3u {f : SOp} {R : SRelation} {S : List (ByteArray × Bool)} {N a : Int} {b : List Int} {M : Nat} (hM : R.Tuples.length = M) (h0 : 0 < M) (h9 : M ≤ 1000) : ∀ (r k : Nat) (xs : List Int), r ≤ xs.length → xs.length ≤ 1000 → k ≤ 1048576 →
  Al (Cz N f R S a b) ((r : Int) - 1, (k : Int), xs) = some (Az M r k ++ xs.drop r) := by
 intro r
 induction r with
 | zero =>
   intro k xs _ _ _
   refine Np ?_
   unfold Cz
   dsimp only
   rw [if_neg (by omega)]
   simp [Az]
 | succ r ih =>
   intro k xs hr hl hk
   have c1 : (k : Int).tdiv (M : Int) = ((k / M : Nat) : Int) := rfl
   have c2 : (k : Int).tmod (M : Int) = ((k % M : Nat) : Int) := rfl
   have hd : k / M ≤ k := Nat.div_le_self k M
   have step : Cz N f R S a b (((r + 1 : Nat) : Int) - 1, (k : Int), xs) = some (.inl ((r : Int) - 1, ((k / M : Nat) : Int), xs.set r ((k % M : Nat) : Int))) := by
    unfold Cz
    dsimp only
    rw [hM, show (((r + 1 : Nat) : Int) - 1) = (r : Int) by omega, c1, c2]
    generalize k / M = kd at hd
    rw [if_pos (by omega), Af (by omega), Af (by omega), Af (by unfold InI; omega), Af (by unfold InI; omega), tna0]
   rw [Vx step, ih _ _ (by rw [List.length_set]; omega) (by rw [List.length_set]; exact hl) (by omega)]
   congr 1
   simp only [Az]
   rw [List.append_assoc]
   congr 1
   have e : (xs.set r ((k % M : Nat) : Int)).drop r = ((k % M : Nat) : Int) :: xs.drop (r + 1) := by
    refine List.ext_getElem (by simp; omega) fun i h1 h2 => ?_
    rw [List.getElem_drop, List.getElem_set]
    cases i with
    | zero => simp
    | succ i =>
      rw [if_neg (by omega), List.getElem_cons_succ, List.getElem_drop]
      congr 1; omega
   rw [e]; rfl
section
variable {n r w : Nat} {f : SOp} {R : SRelation}
theorem A3v {M : Nat} (hM : 0 < M) {k i : Nat} (hi : i < r) : ∃ a : Nat, nth (Az M r k) i = (a : Int) ∧ a < M := by
 have := Agz hM r k _ (Aq (show i < (Az M r k).length by rw [E1]; exact hi))
 exact ⟨(nth (Az M r k) i).toNat, by omega, by omega⟩
theorem A3t (hT0 : 0 < R.Tuples.length) (hrow : ∀ t ∈ R.Tuples, t.length = w ∧ Bl t n) {k i j : Nat} (hi : i < r) (hj : j < w) : 0 ≤ nth (nth R.Tuples (nth (Az R.Tuples.length r k) i).toNat) j ∧ nth (nth R.Tuples (nth (Az R.Tuples.length r k) i).toNat) j < n := by
 obtain ⟨b, e, hb⟩ := A3v hT0 (k := k) hi
 rw [e, tna0]
 obtain ⟨a1, a2⟩ := hrow _ (Aq hb)
 exact a2 _ (Aq (by omega))
theorem A3c (h8 : n ≤ 8) (hf : OpQ n r f) (hT0 : 0 < R.Tuples.length) (_hM : R.Tuples.length ≤ 1000) (_hw : R.Arity = w) (hw3 : w ≤ 3) (hrow : ∀ t ∈ R.Tuples, t.length = w ∧ Bl t n) {S : List (ByteArray × Bool)} {a : Int} {k : Nat} {xs : List Int} (hx : xs.length = w) :
  Al (B9 n f R S a xs (Az R.Tuples.length r k)) (0, xs) = some (Iw R.Tuples n w f r k) := by
 have hr2 := hf.le
 have hal := E1 R.Tuples.length r k
 have hrl := Aeq R.Tuples n w f r k
 have key := Bk (body := B9 n f R S a xs (Az R.Tuples.length r k)) (fun j => ((j : Int), (Iw R.Tuples n w f r k).take j ++ xs.drop j)) w (Iw R.Tuples n w f r k) (fun j hj => by
  have hrw : ∀ i, i < r → (∃ b : Nat, nth (Az R.Tuples.length r k) i = (b : Int) ∧ b < R.Tuples.length) ∧ (nth R.Tuples (nth (Az R.Tuples.length r k) i).toNat).length = w ∧ 0 ≤ nth (nth R.Tuples (nth (Az R.Tuples.length r k) i).toNat) j ∧ nth (nth R.Tuples (nth (Az R.Tuples.length r k) i).toNat) j < n := by
   intro i hi
   obtain ⟨b, e, hb⟩ := A3v hT0 (k := k) hi
   exact ⟨⟨b, e, hb⟩, by rw [e, tna0]; exact (hrow _ (Aq hb)).1, A3t hT0 hrow hi hj⟩
  obtain ⟨⟨d, d1, d2, _⟩, d4⟩ := hf.at h8 (fun i hi => (hrw i hi).2.2)
  have l2 : ∀ b, Al (Dn n f R S a xs (Az R.Tuples.length r k) (j : Int) b) (0, 0) = some (hT n r fun i => nth (nth R.Tuples (nth (Az R.Tuples.length r k) i).toNat) j) := fun b => by
   refine Auf n r _ (fun i hi => ?_) fun q => by unfold Dn; dsimp only; rw [if_neg (by omega)]
   obtain ⟨⟨b, b1, b2⟩, b3, b4⟩ := hrw i hi
   obtain ⟨c, c1, _, c3⟩ := Adf (n := n) (r := i) (y := fun i => nth (nth R.Tuples (nth (Az R.Tuples.length r k) i).toNat) j) h8 (by omega) (fun i' hi' => (hrw i' (by omega)).2.2)
   have q5 : (c : Int) * (n : Int) = ((c * n : Nat) : Int) := by push_cast; rfl
   have q6 : c * n ≤ 512 * 8 := Nat.mul_le_mul (by omega) h8
   unfold Dn
   dsimp only
   rw [if_pos (by omega), Af (by omega), tna0, c1, q5, Af (by unfold InI; omega), Af (by omega), tna0, Af (by omega), Af (by unfold InI; omega), Af (by unfold InI; omega)]
   rfl
  unfold B9
  dsimp only
  rw [if_pos (by omega), l2]
  simp only [obs0]
  rw [d1] at d4
  rw [d1, Af (by omega), Af (by simp; omega), Af (by unfold InI; omega), tna0, A09 _ _ _ (by simp; omega) (by omega), E4 (by omega)]
  have e : nth (Iw R.Tuples n w f r k) j = nth f.Table ((d : Int)).toNat := by
   unfold Iw
   rw [Ez (by simp; omega)]
   simp only [List.getElem_map, List.getElem_range]
   rw [d1]
  rw [e]
  rfl) (by
  unfold B9
  dsimp only
  rw [if_neg (by omega), List.take_of_length_le (by omega), List.drop_of_length_le (by omega), List.append_nil])
 have key' : Al (B9 n f R S a xs (Az R.Tuples.length r k)) (0, xs) = some (Iw R.Tuples n w f r k) := by simpa using key
 exact key'
theorem Ak3 (h1 : 1 ≤ n) (h8 : n ≤ 8) (hf : OpQ n r f) (hT0 : 0 < R.Tuples.length) (hM : R.Tuples.length ≤ 64) (hw : R.Arity = w) (hw3 : w ≤ 3) (hrow : ∀ t ∈ R.Tuples, t.length = w ∧ Bl t n) : ∃ a b, Dw n f R = some (a, b, decide (¬ Ac2 R.Tuples n w f r)) := by
 have hL := Bd
 have hr2 := hf.le
 have hp81 : ∀ i, i ≤ r → R.Tuples.length ^ i ≤ 262144 := fun i hi => Nat.le_trans (Nat.pow_le_pow_left hM i) (Nat.le_trans (Nat.pow_le_pow_right (by omega) (show i ≤ 3 by omega)) (by decide))
 have hpr := hp81 r (Nat.le_refl _)
 obtain ⟨S, e, hS⟩ := Ajd (r := R) (by omega) (fun t ht => by rw [(hrow t ht).1]; omega)
 unfold Dw
 rw [e]
 simp only [obs0]
 rw [hf.ar, hw, Af (by omega), Af (by omega)]
 have body : ∀ k, k < R.Tuples.length ^ r → ∀ X Y : List Int, X.length = w → Y.length = r → Bg n f R S ((k : Int), X, Y) =
   if Iw R.Tuples n w f r k ∈ R.Tuples then some (.inl (((k + 1 : Nat) : Int), Iw R.Tuples n w f r k, Az R.Tuples.length r k)) else some (.inr (.inl (Iw R.Tuples n w f r k, Az R.Tuples.length r k))) := by
  intro k hk X Y hX hY
  have hr1 : ∀ v ∈ Iw R.Tuples n w f r k, 0 ≤ v ∧ v < 65536 := by
   intro v hv
   obtain ⟨j, hj, rfl⟩ := List.mem_map.1 hv
   have hj := List.mem_range.1 hj
   have := (hf.at h8 (fun i hi => A3t hT0 hrow (k := k) hi hj)).2
   omega
  have hr2 : ∀ t ∈ R.Tuples, ∀ v ∈ t, 0 ≤ v ∧ v < 65536 := by
   intro t ht v hv
   have := (hrow t ht).2 v hv
   omega
  unfold Bg
  dsimp only
  rw [hf.ar, N7 262144 (by omega) hp81 (by omega)]
  simp only [obs0]
  rw [if_pos (by omega), Af (by unfold InI; omega), A3u (M := R.Tuples.length) rfl hT0 (by omega) r k Y (by omega) (by omega) (by omega)]
  simp only [obs0]
  rw [List.drop_of_length_le (by omega), List.append_nil, A3c h8 hf hT0 (by omega) hw hw3 hrow hX]
  simp only [obs0]
  rw [At5 (by rw [Aeq]; omega)]
  simp only [obs0]
  rw [hS]
  by_cases hm : Iw R.Tuples n w f r k ∈ R.Tuples
  ·rw [dtr0 ⟨_, hm, rfl⟩, if_pos rfl, if_pos hm, Af (by unfold InI; omega)]
   rfl
  ·rw [dfa0 (by
    rintro ⟨t, ht, he⟩
    rw [Azk (hr2 t ht) hr1 he] at ht
    exact hm ht), if_neg Bool.false_ne_true, if_neg hm]
 obtain ⟨X, hX0, hXs⟩ : ∃ X : Nat → List Int, X 0 = List.replicate w 0 ∧ ∀ k, X (k + 1) = Iw R.Tuples n w f r k := ⟨fun k => match k with | 0 => List.replicate w 0 | k + 1 => Iw R.Tuples n w f r k, rfl, fun _ => rfl⟩
 obtain ⟨Y, hY0, hYs⟩ : ∃ Y : Nat → List Int, Y 0 = List.replicate r 0 ∧ ∀ k, Y (k + 1) = Az R.Tuples.length r k := ⟨fun k => match k with | 0 => List.replicate r 0 | k + 1 => Az R.Tuples.length r k, rfl, fun _ => rfl⟩
 have hXl : ∀ k, (X k).length = w := fun k => by
  cases k with
  | zero => rw [hX0]; simp
  | succ k => rw [hXs]; exact Aeq _ _ _ _ _ k
 have hYl : ∀ k, (Y k).length = r := fun k => by
  cases k with
  | zero => rw [hY0]; simp
  | succ k => rw [hYs]; exact E1 _ _ _
 have hpick := Adz (body := Bg n f R S) (fun k => ((k : Int), X k, Y k)) (R.Tuples.length ^ r) (fun k => Iw R.Tuples n w f r k ∉ R.Tuples) (fun k => .inl (Iw R.Tuples n w f r k, Az R.Tuples.length r k)) (.inr ()) (fun k hk hh => by
   rw [body k hk _ _ (hXl k) (hYl k), if_pos (Classical.not_not.1 hh), hXs, hYs]) (fun k hk hh => by
   rw [body k hk _ _ (hXl k) (hYl k), if_neg hh]) (by
   unfold Bg
   dsimp only
   rw [hf.ar, N7 262144 (by omega) hp81 (by omega)]
   simp only [obs0]
   rw [if_neg (by omega)])
 rw [hX0, hY0] at hpick
 rw [tna0, tna0]
 rcases hpick with ⟨k, hk, hh, _, e2⟩ | ⟨hno, e2⟩
 ·have e2' : Al (Bg n f R S) (0, List.replicate w 0, List.replicate r 0) = _ := e2
  rw [e2', dtr0 (show ¬ Ac2 R.Tuples n w f r from fun hc => hh (hc k hk))]
  exact ⟨_, _, rfl⟩
 ·have e2' : Al (Bg n f R S) (0, List.replicate w 0, List.replicate r 0) = _ := e2
  rw [e2', dfa0 (show ¬ ¬ Ac2 R.Tuples n w f r from fun hc => hc (fun k hk => Classical.not_not.1 (hno k hk)))]
  exact ⟨_, _, rfl⟩
end
end Go.Proofs.Ytjcekpmojnnmbaa.Ax
namespace Go.Proofs.Ytjcekpmojnnmbaa.Ax
open Go Classical
noncomputable def Aqp (p : List Int) : List (List Int) := Avq p.length 2 fun k => nth p (k / p.length) = nth p (k % p.length)
noncomputable def Auy (q : Nat → Prop) (k : Nat) : List Nat := (List.range k).filter fun k => decide (q k)
theorem Avu (q : Nat → Prop) (k : Nat) : Auy q (k + 1) = if q k then Auy q k ++ [k] else Auy q k := by
 unfold Auy
 rw [List.range_succ, List.filter_append]
 by_cases h : q k
 ·simp [h]
 ·simp [h]
noncomputable def Uk (p : List Int) (k : Nat) : List (List Int) := (Auy (fun k => nth p (k / p.length) = nth p (k % p.length)) k).map (Az p.length 2)
theorem Ahk {n x y : Nat} (hx : x < n) (hy : y < n) : Az n 2 (x * n + y) = [(x : Int), (y : Int)] := by
 have e1 : (x * n + y) / n = x := by rw [Nat.mul_comm, Nat.mul_add_div (by omega), Nat.div_eq_of_lt hy]; omega
 have e2 : (x * n + y) % n = y := by rw [Nat.mul_comm, Nat.mul_add_mod, Nat.mod_eq_of_lt hy]
 simp only [Az, e1, e2, Nat.mod_eq_of_lt hx]
 rfl
theorem Asm {p : List Int} {x y : Nat} (hx : x < p.length) (hy : y < p.length) : Uk p (x * p.length + (y + 1)) = if nth p x = nth p y then Uk p (x * p.length + y) ++ [[(x : Int), (y : Int)]] else Uk p (x * p.length + y) := by
 have e1 : (x * p.length + y) / p.length = x := by rw [Nat.mul_comm, Nat.mul_add_div (by omega), Nat.div_eq_of_lt hy]; omega
 have e2 : (x * p.length + y) % p.length = y := by rw [Nat.mul_comm, Nat.mul_add_mod, Nat.mod_eq_of_lt hy]
 unfold Uk
 rw [← Nat.add_assoc, Avu]
 simp only [e1, e2]
 by_cases h : nth p x = nth p y
 ·rw [if_pos h, if_pos h, List.map_append, List.map_cons, List.map_nil, Ahk hx hy]
 ·rw [if_neg h, if_neg h]
theorem Amb (p : List Int) (k : Nat) : (Uk p k).length ≤ k := by
 unfold Uk Auy
 rw [List.length_map]
 exact Nat.le_trans (List.length_filter_le _ _) (by simp)
theorem Aed {p : List Int} (hp : p.length ≤ 9) : Da p = some { Arity := 2, Tuples := Aqp p } := by
 have hL := Bd
 unfold Da
 have inner : ∀ x, x < p.length → Al (B5 p (x : Int)) (0, { Arity := 2, Tuples := Uk p (x * p.length) }) = some { Arity := 2, Tuples := Uk p ((x + 1) * p.length) } := by
  intro x hx
  have hb : x * p.length ≤ 81 := Nat.le_trans (Nat.mul_le_mul (show x ≤ 9 by omega) hp) (by decide)
  have key := Bk (body := B5 p (x : Int)) (fun y => ((y : Int), ({ Arity := 2, Tuples := Uk p (x * p.length + y) } : SRelation))) p.length { Arity := 2, Tuples := Uk p ((x + 1) * p.length) } (fun y hy => by
   have hl := Amb p (x * p.length + y)
   have hs := Asm hx hy
   unfold B5
   dsimp only
   rw [if_pos (by omega), Af (by omega), Af (by omega), tna0, tna0]
   by_cases h : nth p x = nth p y
   ·rw [if_pos h] at hs
    rw [if_pos h, Af (by simp only [List.length_cons, List.length_nil]; omega), Af (by unfold InI; omega), ← hs]
    rfl
   ·rw [if_neg h] at hs
    rw [if_neg h, Af (by unfold InI; omega), ← hs]
    rfl) (by
   unfold B5
   dsimp only
   rw [if_neg (by omega), Nat.succ_mul])
  exact key
 have key := Bk (body := B4 p) (fun x => ((x : Int), ({ Arity := 2, Tuples := Uk p (x * p.length) } : SRelation))) p.length { Arity := 2, Tuples := Aqp p } (fun x hx => by
  unfold B4
  dsimp only
  rw [if_pos (by omega), inner x hx]
  simp only [obs0]
  rw [Af (by unfold InI; omega)]
  rfl) (by
  unfold B4
  dsimp only
  rw [if_neg (by omega)]
  rw [show p.length * p.length = p.length ^ 2 by rw [Nat.pow_succ, Nat.pow_one]]
  rfl)
 have key' : Al (B4 p) (0, { Arity := 2, Tuples := Ap (List Int) }) = some { Arity := 2, Tuples := Aqp p } := by
  have e0 : Uk p (0 * p.length) = Ap (List Int) := by rw [Nat.zero_mul]; rfl
  rw [← e0]; exact key
 rw [key']; rfl
section
variable {n : Nat} {p : List Int}
end
end Go.Proofs.Ytjcekpmojnnmbaa.Ax
namespace Go.Proofs.Ytjcekpmojnnmbaa.Ax
open Go Classical
def Arg (t : List Int) (p : Int) : Bool := (decide (0 < p) && decide (nth t (p - 1).toNat = 1)) || (decide (p < 0) && decide (nth t (-p - 1).toNat = 0))
theorem Ac7 {t : List Int} {p : Int} (h : 0 < p) : Arg t p = true ↔ nth t (p - 1).toNat = 1 := by
 unfold Arg
 rw [dtr0 h, dfa0 (show ¬ p < 0 by omega), Bool.true_and, Bool.false_and, Bool.or_false, decide_eq_true_eq]
theorem Acv {t : List Int} {p : Int} (h : p < 0) : Arg t p = true ↔ nth t (-p - 1).toNat = 0 := by
 unfold Arg
 rw [dtr0 h, dfa0 (show ¬ 0 < p by omega), Bool.true_and, Bool.false_and, Bool.false_or, decide_eq_true_eq]
def obB (t c : List Int) : Bool := c.any (Arg t)
def Z2 (a : Nat) (c : List Int) : Prop := ∀ p ∈ c, (1 ≤ p ∧ p ≤ (a : Int)) ∨ (-(a : Int) ≤ p ∧ p ≤ -1)
theorem Ag2 {c : List Int} {f : Int → Bool} : (∃ i, 0 ≤ i ∧ i < c.length ∧ f (nth c i) = true) ↔ c.any f = true := by
 rw [List.any_eq_true]
 constructor
 ·rintro ⟨i, _, hi, h⟩; exact ⟨_, Aq hi, h⟩
 ·rintro ⟨x, hx, h⟩
  obtain ⟨i, hi, e⟩ := List.getElem_of_mem hx
  exact ⟨i, by omega, hi, by rw [Ez hi, e]; exact h⟩
section
variable {a : Nat} {t c : List Int} (ha : a ≤ 1000) (ht : t.length = a) (hl : c.length ≤ 1048576) (hc : Z2 a c)
include ha ht hl hc
theorem S7 : D9 t c = some (obB t c) := by
 unfold D9
 have := Fk (body := Cm t c) (fun i => (i : Int)) c.length (fun i => Arg t (nth c i) = true) () () (fun i hi hb => by
  have h := hc _ (Aq hi)
  unfold Cm
  rw [if_pos (by omega), Af (by omega), tna0]
  rcases h with h | h
  ·have h0 : ¬ nth t (nth c i - 1).toNat = 1 := fun e => hb ((Ac7 (by omega)).2 e)
   rw [if_pos (by omega), Af (by unfold InI; omega), Af (by omega), if_neg h0, if_neg (by omega), Af (by unfold InI; omega)]; rfl
  ·have hw : IntKind.i64.wrap (0 - nth c i) = - nth c i := by rw [Il (by omega) (by omega)]; omega
   have h0 : ¬ nth t (- nth c i - 1).toNat = 0 := fun e => hb ((Acv (by omega)).2 e)
   rw [if_neg (by omega), if_pos (by omega), hw, Af (by unfold InI; omega), Af (by omega), if_neg h0, Af (by unfold InI; omega)]; rfl) (fun i hi hb => by
  have h := hc _ (Aq hi)
  unfold Cm
  rw [if_pos (by omega), Af (by omega), tna0]
  rcases h with h | h
  ·have h0 : nth t (nth c i - 1).toNat = 1 := (Ac7 (by omega)).1 hb
   rw [if_pos (by omega), Af (by unfold InI; omega), Af (by omega), if_pos h0]
  ·have hw : IntKind.i64.wrap (0 - nth c i) = - nth c i := by rw [Il (by omega) (by omega)]; omega
   have h0 : nth t (- nth c i - 1).toNat = 0 := (Acv (by omega)).1 hb
   rw [if_neg (by omega), if_pos (by omega), hw, Af (by unfold InI; omega), Af (by omega), if_pos h0]) (by unfold Cm; rw [if_neg (by omega)]) 0 (by omega)
 refine (Na this true false).trans (congrArg some ?_)
 by_cases hx : obB t c = true
 ·rw [if_pos (Ag2.2 hx), hx]
 ·rw [if_neg (fun h => hx (Ag2.1 h))]; simpa using hx
end
end Go.Proofs.Ytjcekpmojnnmbaa.Ax
namespace Go.Proofs.Ytjcekpmojnnmbaa.Ax
open Go Classical
theorem Ao4 (a : List Int) : ¬ On a a := fun ⟨i, _, _, h⟩ => by omega
theorem Arf {a b c : List Int} (hab : a.length = b.length) (h1 : On a b) (h2 : On b c) : On a c := by
 obtain ⟨i, hi, e1, l1⟩ := h1
 obtain ⟨k, hk, e2, l2⟩ := h2
 rcases Nat.lt_trichotomy i k with h | h | h
 ·exact ⟨i, hi, fun j hj => (e1 j hj).trans (e2 j (by omega)), by rw [← e2 i h]; exact l1⟩
 ·subst h; exact ⟨i, hi, fun j hj => (e1 j hj).trans (e2 j hj), by omega⟩
 ·exact ⟨k, by omega, fun j hj => (e1 j (by omega)).trans (e2 j hj), by rw [e1 k h]; exact l2⟩
theorem Avw {a b : List Int} (hab : a.length = b.length) : On a b ∨ a = b ∨ On b a := by
 by_cases h : ∃ i, i < a.length ∧ nth a i ≠ nth b i
 ·obtain ⟨i, ⟨hi, hne⟩, hmin⟩ : ∃ i, (i < a.length ∧ nth a i ≠ nth b i) ∧ ∀ j, j < i → ¬ (j < a.length ∧ nth a j ≠ nth b j) := by
   obtain ⟨k, hk⟩ := h
   induction k using Nat.strongRecOn with
   | ind k ih =>
     by_cases hx : ∃ j, j < k ∧ (j < a.length ∧ nth a j ≠ nth b j)
     ·obtain ⟨j, h1, h2⟩ := hx; exact ih j h1 h2
     ·exact ⟨k, hk, fun j hj hc => hx ⟨j, hj, hc⟩⟩
  have heq : ∀ j, j < i → nth a j = nth b j := fun j hj => Classical.byContradiction fun hc => hmin j hj ⟨by omega, hc⟩
  by_cases hl : nth a i < nth b i
  ·exact .inl ⟨i, hi, heq, hl⟩
  ·exact .inr (.inr ⟨i, by omega, fun j hj => (heq j hj).symm, by omega⟩)
 ·exact .inr (.inl (Yp hab fun i hi => Classical.byContradiction fun hc => h ⟨i, hi, hc⟩))
def tLt (a b : List Int) : Prop := a.length < b.length ∨ (a.length = b.length ∧ On a b)
theorem Z9 (a : List Int) : ¬ tLt a a := fun h => h.elim (fun h => by omega) fun h => Ao4 a h.2
theorem Yu {a b c : List Int} (h1 : tLt a b) (h2 : tLt b c) : tLt a c := by
 rcases h1 with h1 | ⟨e1, l1⟩
 ·rcases h2 with h2 | ⟨e2, _⟩
  ·exact .inl (by omega)
  ·exact .inl (by omega)
 ·rcases h2 with h2 | ⟨e2, l2⟩
  ·exact .inl (by omega)
  ·exact .inr ⟨by omega, Arf e1 l1 l2⟩
theorem An2 (a b : List Int) : tLt a b ∨ a = b ∨ tLt b a := by
 rcases Nat.lt_trichotomy a.length b.length with h | h | h
 ·exact .inl (.inl h)
 ·rcases Avw h with h1 | h1 | h1
  ·exact .inl (.inr ⟨h, h1⟩)
  ·exact .inr (.inl h1)
  ·exact .inr (.inr (.inr ⟨h.symm, h1⟩))
 ·exact .inr (.inr (.inl h))
noncomputable def ltT (a b : List Int) : Bool := decide (tLt a b)
theorem Au1 : Go.Sort.SWO ltT where
 irrefl x := dfa0 (Z9 x)
 trans x y z h1 h2 := dtr0 (Yu (of_decide_eq_true h1) (of_decide_eq_true h2))
 ntrans x y z h1 h2 := by
  have h1 := of_decide_eq_false h1
  have h2 := of_decide_eq_false h2
  refine dfa0 fun h => ?_
  rcases An2 x y with c | c | c
  ·exact h1 c
  ·subst c; exact h2 h
  ·rcases An2 y z with c2 | c2 | c2
   ·exact h2 c2
   ·subst c2; exact h1 h
   ·exact Z9 _ (Yu (Yu h c2) c)
theorem Azy (x y : List Int) (h1 : ltT x y = false) (h2 : ltT y x = false) : x = y := by
 rcases An2 x y with c | c | c
 ·exact absurd c (of_decide_eq_false h1)
 ·exact c
 ·exact absurd c (of_decide_eq_false h2)
def Ax0 (xs : List (List Int)) : Prop := xs.Pairwise fun a b => ¬ tLt b a
theorem Aic {a b : List Int} (h : a.length ≤ LIM) (_h2 : b.length ≤ LIM) : ∃ c, Dy a b = some c ∧ (c < 0 ↔ tLt a b) := by
 unfold Dy
 by_cases h3 : (a.length : Int) < (b.length : Int)
 ·rw [if_pos h3]
  exact ⟨_, rfl, fun _ => .inl (by omega), fun _ => by omega⟩
 ·rw [if_neg h3]
  by_cases h4 : (a.length : Int) > (b.length : Int)
  ·rw [if_pos h4]
   exact ⟨_, rfl, fun h => by omega, fun h => by rcases h with h | ⟨h, _⟩ <;> omega⟩
  ·rw [if_neg h4]
   obtain ⟨c, e, hc⟩ := Yh (a := a) (b := b) (by omega) h
   rw [e]
   refine ⟨c, rfl, ?_⟩
   constructor
   ·intro h5; exact .inr ⟨by omega, hc.1 (by omega)⟩
   ·rintro (h5 | ⟨_, h5⟩)
    ·omega
    ·have := hc.2 h5; omega
theorem Apu {xss ys : List (List Int)} (hn : xss.length ≤ 1048576) (h1 : ∀ r ∈ xss, r.length ≤ LIM) (hp : ys.Perm xss) (hs : Ax0 ys) : F2 xss (fun a b => Dy a b) = some ((), ys) := by
 refine Aql ltT Au1 Azy hn (fun x hx y hy => ?_) hp ?_
 ·obtain ⟨c, e, hc⟩ := Aic (h1 x hx) (h1 y hy)
  exact ⟨c, e, decide_eq_decide.2 hc.symm⟩
 ·exact hs.imp fun h => dfa0 h
def Vw (S : Nat → Bool) : Nat → Nat
 | 0 => 0
 | n + 1 => if S n then 2 ^ n + Vw S n else Vw S n
theorem Aef (S : Nat → Bool) : ∀ n, Vw S n < 2 ^ n
 | 0 => by simp [Vw]
 | n + 1 => by
   have := Aef S n
   simp only [Vw, Nat.pow_succ]
   split <;> omega
theorem Z8 (S : Nat → Bool) : ∀ n i, i < n → A0u (Vw S n) i = S i
 | 0, _, h => by omega
 | n + 1, i, h => by
   have hl := Aef S n
   rw [Abn]
   simp only [Vw]
   by_cases e : i = n
   ·subst e
    cases hS : S i with
    | true => rw [if_pos rfl, Nat.testBit_two_pow_add_eq, Nat.testBit_lt_two_pow hl]; rfl
    | false => rw [if_neg (by simp), Nat.testBit_lt_two_pow hl]
   ·have ih := Z8 S n i (by omega)
    rw [Abn] at ih
    cases hS : S n with
    | true => rw [if_pos rfl, Nat.testBit_two_pow_add_gt (by omega), ih]
    | false => rw [if_neg (by simp), ih]
end Go.Proofs.Ytjcekpmojnnmbaa.Ax
namespace Go.Proofs.Ytjcekpmojnnmbaa.Ax
open Go Classical
def clK (s1 s2 : Int) : Nat → List Int → List Int
 | _, [] => []
 | i, x :: xs => (if x = 1 then [s1 * (i + 1 : Int)] else if x = 2 then [s2 * (i + 1 : Int)] else []) ++ clK s1 s2 (i + 1) xs
def Awt : List Int → List Int → Bool
 | x :: xs, y :: ys => decide (x < y) || (decide (x = y) && Awt xs ys)
 | _, _ => false
def Xi (a b : List Int) : Bool := decide (a.length < b.length) || (decide (a.length = b.length) && Awt a b)
def Avz (out : List (List Int)) (c : List Int) : List (List Int) := out.takeWhile (fun x => Xi x c) ++ [c] ++ out.dropWhile (fun x => Xi x c)
def Ws (a n : Nat) : List (List Int) := ((List.range n).map fun i => clK 1 (-1) 0 (Az 3 a i)).foldl Avz []
def Cn (a : Nat) : List (List Int) := Ws a (3 ^ a)
def mkC (a : Nat) (c : List Int) : Nat := Vw (fun k => obB (Az 2 a k) c) (2 ^ a)
def A0n (a : Nat) (c : List Int) : List Int × Nat × List Nat := (c, mkC a c, (List.range c.length).map fun i => mkC a (c.eraseIdx i))
def Axv (a : Nat) (cs : List (List Int)) : List (List Int × Nat × List Nat) := cs.map (A0n a)
def tbC : Nat → List (List Int × Nat × List Nat)
 | 1 => [([], 0, []), ([-1], 1, [0]), ([1], 2, [0])]
 | 2 => [([], 0, []), ([-2], 5, [0]), ([-1], 3, [0]), ([1], 12, [0]), ([2], 10, [0]), ([-1, -2], 7, [5, 3]), ([-1, 2], 11, [10, 3]), ([1, -2], 13, [5, 12]), ([1, 2], 14, [10, 12])]
 | _ => [([], 0, []), ([-3], 85, [0]), ([-2], 51, [0]), ([-1], 15, [0]), ([1], 240, [0]), ([2], 204, [0]), ([3], 170, [0]), ([-2, -3], 119, [85, 51]), ([-2, 3], 187, [170, 51]), ([-1, -3], 95, [85, 15]), ([-1, -2], 63, [51, 15]), ([-1, 2], 207, [204, 15]), ([-1, 3], 175, [170, 15]), ([1, -3], 245, [85, 240]), ([1, -2], 243, [51, 240]), ([1, 2], 252, [204, 240]), ([1, 3], 250, [170, 240]), ([2, -3], 221, [85, 204]), ([2, 3], 238, [170, 204]), ([-1, -2, -3], 127, [119, 95, 63]), ([-1, -2, 3], 191, [187, 175, 63]), ([-1, 2, -3], 223, [221, 95, 207]), ([-1, 2, 3], 239, [238, 175, 207]), ([1, -2, -3], 247, [119, 245, 243]), ([1, -2, 3], 251, [187, 250, 243]), ([1, 2, -3], 253, [221, 245, 252]), ([1, 2, 3], 254, [238, 250, 252])]
theorem Ayy {a : Nat} (h : 1 ≤ a) (h3 : a ≤ 3) : Axv a (Cn a) = tbC a := by
 have t1 : Axv 1 (Cn 1) = tbC 1 := by decide +kernel
 have t2 : Axv 2 (Cn 2) = tbC 2 := by decide +kernel
 have t3 : Axv 3 (Cn 3) = tbC 3 := by decide +kernel
 rcases (show a = 1 ∨ a = 2 ∨ a = 3 by omega) with rfl | rfl | rfl
 ·exact t1
 ·exact t2
 ·exact t3
def prR (M : Nat) (r : List Int × Nat × List Nat) : Bool := Nat.beq (Nat.land M r.2.1) M && r.2.2.all fun m => !Nat.beq (Nat.land M m) M
def Aws (a M : Nat) : List (List Int × Nat × List Nat) := (tbC a).filter (prR M)
def Me (c : List Int) : Nat := (c.filter fun x => decide (0 < x)).length
def Rx (ps : List (List Int)) : List Bool := [ps.all fun c => decide (Me c ≤ 1), ps.all fun c => decide (c.length - Me c ≤ 1), ps.all fun c => decide (c.length ≤ 2)]
def Au (a M : Nat) : List Nat := (List.range (2 ^ a)).filter (Nat.testBit M)
def kp2 (op : Nat → Nat → Nat) (a M : Nat) : Bool := let l := Au a M; l.all fun x => l.all fun y => Nat.testBit M (op x y)
def kp3 (op : Nat → Nat → Nat → Nat) (a M : Nat) : Bool := let l := Au a M; l.all fun x => l.all fun y => l.all fun z => Nat.testBit M (op x y z)
def Ayr (x y z : Nat) : Nat := Nat.lor (Nat.lor (Nat.land x y) (Nat.land x z)) (Nat.land y z)
def Ar3 (a M : Nat) : Bool := let p := Aws a M; Nat.ble p.length 30 && (Nat.beq (p.foldl (fun s r => Nat.land s r.2.1) (2 ^ 2 ^ a - 1)) M && Rx (p.map (·.1)) == [kp2 Nat.land a M, kp2 Nat.lor a M, kp3 Ayr a M])
theorem Ao1 {a M : Nat} (h : 1 ≤ a) (h3 : a ≤ 3) (hM : M < 2 ^ 2 ^ a) : Ar3 a M = true := by
 have c1 : (List.range (2 ^ 2 ^ 1)).all (Ar3 1) = true := by decide +kernel
 have c2 : (List.range (2 ^ 2 ^ 2)).all (Ar3 2) = true := by decide +kernel
 have c3 : (List.range (2 ^ 2 ^ 3)).all (Ar3 3) = true := by decide +kernel
 rcases (show a = 1 ∨ a = 2 ∨ a = 3 by omega) with rfl | rfl | rfl
 ·exact List.all_eq_true.1 c1 M (List.mem_range.2 hM)
 ·exact List.all_eq_true.1 c2 M (List.mem_range.2 hM)
 ·exact List.all_eq_true.1 c3 M (List.mem_range.2 hM)
theorem Anr (a : Nat) (c : List Int) {k : Nat} (hk : k < 2 ^ a) : (mkC a c).testBit k = obB (Az 2 a k) c := by
 rw [← Abn]; exact Z8 _ _ _ hk
def K8 (a M : Nat) : List (List Int) := (Au a M).map (Az 2 a)
theorem Ui {a M k : Nat} : k ∈ Au a M ↔ k < 2 ^ a ∧ M.testBit k = true := by simp [Au]
def J1 (T : List (List Int)) (c : List Int) : Bool := T.all fun t => obB t c
theorem Afi {a M : Nat} (hM : M < 2 ^ 2 ^ a) (c : List Int) : J1 (K8 a M) c = Nat.beq (Nat.land M (mkC a c)) M := by
 rw [Bool.eq_iff_iff, Nat.beq_eq]
 unfold J1 K8
 rw [List.all_map, List.all_eq_true]
 constructor
 ·intro h
  refine Nat.eq_of_testBit_eq fun i => ?_
  rw [show Nat.land M (mkC a c) = M &&& mkC a c from rfl, Nat.testBit_and]
  by_cases hi : i < 2 ^ a
  ·cases hb : M.testBit i with
   | false => rfl
   | true =>
     have := h i (Ui.2 ⟨hi, hb⟩)
     rw [Anr a c hi]
     simpa using this
  ·rw [Nat.testBit_lt_two_pow (x := M) (Nat.lt_of_lt_of_le hM (Nat.pow_le_pow_right (by omega) (by omega)))]; rfl
 ·intro h k hk
  obtain ⟨h1, h2⟩ := Ui.1 hk
  have : Nat.testBit (Nat.land M (mkC a c)) k = Nat.testBit M k := congrArg (fun m => Nat.testBit m k) h
  rw [show Nat.land M (mkC a c) = M &&& mkC a c from rfl, Nat.testBit_and, h2, Anr a c h1] at this
  simpa using this
def Vo (T : List (List Int)) (c : List Int) : Bool := J1 T c && (List.range c.length).all fun i => !J1 T (c.eraseIdx i)
theorem Aut {a M : Nat} (hM : M < 2 ^ 2 ^ a) (c : List Int) : Vo (K8 a M) c = prR M (A0n a c) := by
 unfold Vo prR A0n
 rw [Afi hM, List.all_map]
 congr 2
 funext i
 simp only [Function.comp]
 rw [Afi hM]
def F9 (a : Nat) (T : List (List Int)) : List (List Int) := (Cn a).filter (Vo T)
theorem Xk {a M : Nat} (h : 1 ≤ a) (h3 : a ≤ 3) (hM : M < 2 ^ 2 ^ a) : F9 a (K8 a M) = (Aws a M).map (·.1) := by
 unfold F9 Aws
 rw [← Ayy h h3]
 unfold Axv
 rw [List.filter_map, List.map_map]
 have e : ((fun x : List Int × Nat × List Nat => x.1) ∘ A0n a) = id := rfl
 rw [e, List.map_id]
 congr 1
 funext c
 exact Aut hM c
theorem Ahc {α : Type} (f : α → Nat) (k : Nat) : ∀ (p : List α) (s : Nat), (p.foldl (fun s r => Nat.land s (f r)) s).testBit k = (s.testBit k && p.all fun r => (f r).testBit k)
 | [], s => by simp
 | r :: p, s => by
   rw [List.foldl_cons, Ahc f k p, List.all_cons, show Nat.land s (f r) = s &&& f r from rfl, Nat.testBit_and, Bool.and_assoc]
section
variable {a M : Nat} (h : 1 ≤ a) (h3 : a ≤ 3) (hM : M < 2 ^ 2 ^ a)
include h h3 hM
theorem Ash : (F9 a (K8 a M)).length ≤ 30 := by
 have := Ao1 h h3 hM
 unfold Ar3 at this
 simp only [Bool.and_eq_true] at this
 rw [Xk h h3 hM, List.length_map]
 exact Nat.le_of_ble_eq_true this.1
theorem Aps : Rx (F9 a (K8 a M)) = [kp2 Nat.land a M, kp2 Nat.lor a M, kp3 Ayr a M] := by
 have := Ao1 h h3 hM
 unfold Ar3 at this
 simp only [Bool.and_eq_true] at this
 rw [Xk h h3 hM]
 exact eq_of_beq this.2.2
theorem Asx : (List.range (2 ^ a)).filter (fun k => (F9 a (K8 a M)).all fun c => obB (Az 2 a k) c) = Au a M := by
 have := Ao1 h h3 hM
 unfold Ar3 at this
 simp only [Bool.and_eq_true] at this
 have e := Nat.eq_of_beq_eq_true this.2.1
 refine List.filter_congr fun k hk => ?_
 have hk := List.mem_range.1 hk
 have eb : M.testBit k = ((Aws a M).foldl (fun s r => Nat.land s r.2.1) (2 ^ 2 ^ a - 1)).testBit k := by rw [e]
 rw [eb, Ahc (fun r : List Int × Nat × List Nat => r.2.1), Xk h h3 hM, List.all_map]
 have : (2 ^ 2 ^ a - 1).testBit k = true := by rw [Nat.testBit_two_pow_sub_one]; exact dtr0 hk
 rw [this, Bool.true_and]
 have hrow : ∀ r ∈ Aws a M, r.2.1.testBit k = obB (Az 2 a k) r.1 := by
  intro r hr
  have hr := (List.mem_filter.1 hr).1
  rw [← Ayy h h3] at hr
  obtain ⟨c, _, rfl⟩ := List.mem_map.1 hr
  exact Anr a c hk
 rw [Bool.eq_iff_iff, List.all_eq_true, List.all_eq_true]
 constructor
 ·intro g r hr
  rw [hrow r hr]; exact g r hr
 ·intro g r hr
  have := g r hr
  rw [hrow r hr] at this
  exact this
end
theorem Asw {a : Nat} {r : SRelation} (hr : Eh (2 : Nat) r) (ha : r.Arity = (a : Int)) : ∃ M, M < 2 ^ 2 ^ a ∧ r.Tuples = K8 a M := by
 refine ⟨Vw (fun k => decide (Az 2 a k ∈ r.Tuples)) (2 ^ a), Aef _ _, ?_⟩
 have e := hr.canon (by omega)
 rw [ha, tna0] at e
 refine e.trans ?_
 unfold Avq K8 Au
 congr 1
 refine List.filter_congr fun k hk => ?_
 have hk := List.mem_range.1 hk
 rw [← Abn, Z8 _ _ _ hk]
 exact decide_eq_decide.2 Iff.rfl
end Go.Proofs.Ytjcekpmojnnmbaa.Ax
namespace Go.Proofs.Ytjcekpmojnnmbaa.Ax
open Go Classical
section
variable {n r w : Nat} {f : SOp} {R : SRelation}
theorem Ye (h1 : 1 ≤ n) (h8 : n ≤ 8) (hf : OpQ n r f) (hr0 : 0 < r) (hfo : Ayu n f) (hok : Eh n R) (hM : R.Tuples.length ≤ 64) (hw : R.Arity = w) (hw3 : w ≤ 3) (hb : R.Tuples.length ^ r ≤ 70000) : C4 n f R = some (decide (Ac2 R.Tuples n w f r), true) := by
 have hL := Bd
 have hr2 := hf.le
 have hp81 : ∀ i, i ≤ r → R.Tuples.length ^ i ≤ 262144 := fun i hi => Nat.le_trans (Nat.pow_le_pow_left hM i) (Nat.le_trans (Nat.pow_le_pow_right (by omega) (show i ≤ 3 by omega)) (by decide))
 have hfp := hf.len
 have hfp2 : n ^ r ≤ 512 := Nat.le_trans (Nat.pow_le_pow_left h8 r) (Nat.le_trans (Nat.pow_le_pow_right (by omega) hr2) (by decide))
 have hrow : ∀ t ∈ R.Tuples, t.length = w ∧ Bl t n := fun t ht => by
  obtain ⟨a1, a2⟩ := hok.row ht
  exact ⟨by omega, a2⟩
 have e3 : ∃ a b, Dw n f R = some (a, b, decide (¬ Ac2 R.Tuples n w f r)) := by
  by_cases hT0 : 0 < R.Tuples.length
  ·exact Ak3 h1 h8 hf hT0 hM hw hw3 hrow
  ·have h0 : R.Tuples.length = 0 := by omega
   have hz : R.Tuples.length ^ r = 0 := by rw [h0]; exact Nat.zero_pow hr0
   obtain ⟨S, e, hS⟩ := Ajd (r := R) (by omega) (fun t ht => by rw [(hrow t ht).1]; omega)
   unfold Dw
   rw [e]
   simp only [obs0]
   rw [hf.ar, hw, Af (by omega), Af (by omega)]
   have st : ∀ X Y : List Int, Bg n f R S ((0 : Int), X, Y) = some (.inr (.inr ())) := fun X Y => by
    unfold Bg
    dsimp only
    rw [hf.ar, N7 262144 (by omega) hp81 (by omega), hz]
    simp only [obs0]
    rw [if_neg (by omega)]
   rw [Np (st _ _), dfa0 (show ¬ ¬ Ac2 R.Tuples n w f r from fun hc => hc (fun k hk => by omega))]
   exact ⟨_, _, rfl⟩
 obtain ⟨x, y, e2⟩ := e3
 unfold C4 Lo Hg Gq
 rw [if_pos (show (n : Int) ≥ 1 by omega), dtr0 (show (n : Int) ≤ 8 by omega)]
 simp only [obs0, if_true]
 rw [Tq (by omega) (fun t ht => by rw [(hrow t ht).1]; omega), dtr0 hok]
 simp only [obs0, if_true]
 rw [A1x (by omega) (by omega), dtr0 hfo]
 simp only [obs0, if_true]
 rw [hf.ar, N7 262144 (by omega) hp81 (by omega)]
 simp only [obs0]
 have hb' : ((R.Tuples.length ^ r : Nat) : Int) ≤ 70000 := Int.ofNat_le.2 hb
 rw [dtr0 hb', if_pos rfl, e2]
 by_cases hc : Ac2 R.Tuples n w f r
 ·rw [dfa0 (fun hh => hh hc), dtr0 hc]; rfl
 ·rw [dtr0 hc, dfa0 hc]; rfl
end
theorem Avh {a x y : Nat} (hx : x < 2 ^ a) (hy : y < 2 ^ a) (h : Az 2 a x = Az 2 a y) : x = y := by
 have e1 := Aa8 (n := 2) (by omega) a x hx
 have e2 := Aa8 (n := 2) (by omega) a y hy
 rw [h] at e1
 omega
theorem Ap4 {a M x : Nat} (hx : x < 2 ^ a) : Az 2 a x ∈ K8 a M ↔ M.testBit x = true := by
 unfold K8
 rw [List.mem_map]
 constructor
 ·rintro ⟨y, hy, e⟩
  obtain ⟨h1, h2⟩ := Ui.1 hy
  rw [← Avh h1 hx e]; exact h2
 ·intro h; exact ⟨x, Ui.2 ⟨hx, h⟩, rfl⟩
theorem Ah8 (a M : Nat) : (K8 a M).length = (Au a M).length := by simp [K8]
theorem Ays (a M : Nat) : (Au a M).length ≤ 2 ^ a := by
 unfold Au
 exact Nat.le_trans (List.length_filter_le _ _) (by simp)
section
variable {a M : Nat} {f : SOp}
theorem Xa {i : Nat} (hi : i < (Au a M).length) : nth (K8 a M) i = Az 2 a (nth (Au a M) i) := by
 unfold K8; exact Yg _ hi
theorem Abw {i : Nat} (hi : i < (Au a M).length) : nth (Au a M) i < 2 ^ a ∧ M.testBit (nth (Au a M) i) = true := Ui.1 (Aq hi)
theorem Aph {op : Nat → Nat → Nat} (hv : ∀ x y, x < 2 ^ a → y < 2 ^ a → op x y < 2 ^ a ∧ ((List.range a).map fun j => nth f.Table (G6 2 [nth (Az 2 a x) j, nth (Az 2 a y) j]).toNat) = Az 2 a (op x y)) :
  decide (Ac2 (K8 a M) 2 a f 2) = kp2 op a M := by
 have hl := Ah8 a M
 have val : ∀ i j, i < (Au a M).length → j < (Au a M).length → (Iw (K8 a M) 2 a f 2 (i * (Au a M).length + j) ∈ K8 a M ↔ M.testBit (op (nth (Au a M) i) (nth (Au a M) j)) = true) := fun i j hi hj => by
  have hi' := Abw hi
  have hj' := Abw hj
  obtain ⟨v1, v2⟩ := hv _ _ hi'.1 hj'.1
  rw [← Ap4 v1, ← v2]
  have e : Iw (K8 a M) 2 a f 2 (i * (Au a M).length + j) = (List.range a).map fun q => nth f.Table (G6 2 [nth (Az 2 a (nth (Au a M) i)) q, nth (Az 2 a (nth (Au a M) j)) q]).toNat := by
   unfold Iw hT
   rw [hl, Ahk hi hj]
   refine List.map_congr_left fun q _ => ?_
   rw [show (List.range 2) = [0, 1] from rfl]
   simp only [List.map_cons, List.map_nil]
   rw [show nth [(i : Int), (j : Int)] 0 = (i : Int) from rfl, show nth [(i : Int), (j : Int)] 1 = (j : Int) from rfl, tna0, tna0, Xa hi, Xa hj]
  rw [e]
 rw [Bool.eq_iff_iff, decide_eq_true_eq]
 unfold kp2
 simp only [List.all_eq_true]
 constructor
 ·intro h x hx y hy
  obtain ⟨i, hi, rfl⟩ := N1.1 hx
  obtain ⟨j, hj, rfl⟩ := N1.1 hy
  refine (val i j hi hj).1 (h _ ?_)
  rw [hl]
  have := Nat.mul_le_mul_right (Au a M).length (show i + 1 ≤ (Au a M).length by omega)
  rw [Nat.succ_mul] at this
  rw [Nat.pow_succ, Nat.pow_one]; omega
 ·intro h k hk
  rw [hl] at hk
  have h0 : 0 < (Au a M).length := by
   rcases Nat.eq_zero_or_pos (Au a M).length with h0 | h0
   ·rw [h0] at hk; simp at hk
   ·exact h0
  have hd : k / (Au a M).length < (Au a M).length := by
   rw [Nat.pow_succ, Nat.pow_one] at hk
   exact Nat.div_lt_of_lt_mul hk
  have hm := Nat.mod_lt k h0
  have e : k = k / (Au a M).length * (Au a M).length + k % (Au a M).length := by
   have := Nat.div_add_mod k (Au a M).length
   rw [Nat.mul_comm] at this; omega
  rw [e]
  exact (val _ _ hd hm).2 (h _ (Aq hd) _ (Aq hm))
theorem Asn {n x y z : Nat} (hx : x < n) (hy : y < n) (hz : z < n) : Az n 3 ((x * n + y) * n + z) = [(x : Int), (y : Int), (z : Int)] := by
 have e1 : ((x * n + y) * n + z) / n = x * n + y := by rw [Nat.mul_comm, Nat.mul_add_div (by omega), Nat.div_eq_of_lt hz]; omega
 have e2 : ((x * n + y) * n + z) % n = z := by rw [Nat.mul_comm, Nat.mul_add_mod, Nat.mod_eq_of_lt hz]
 show Az n 2 (((x * n + y) * n + z) / n) ++ [((((x * n + y) * n + z) % n : Nat) : Int)] = _
 rw [e1, e2, Ahk hx hy]
 rfl
theorem As5 {op : Nat → Nat → Nat → Nat} (hv : ∀ x y z, x < 2 ^ a → y < 2 ^ a → z < 2 ^ a → op x y z < 2 ^ a ∧ ((List.range a).map fun j => nth f.Table (G6 2 [nth (Az 2 a x) j, nth (Az 2 a y) j, nth (Az 2 a z) j]).toNat) = Az 2 a (op x y z)) :
  decide (Ac2 (K8 a M) 2 a f 3) = kp3 op a M := by
 have hl := Ah8 a M
 have val : ∀ i j l, i < (Au a M).length → j < (Au a M).length → l < (Au a M).length → (Iw (K8 a M) 2 a f 3 ((i * (Au a M).length + j) * (Au a M).length + l) ∈ K8 a M ↔ M.testBit (op (nth (Au a M) i) (nth (Au a M) j) (nth (Au a M) l)) = true) := fun i j l hi hj hl' => by
  have hi' := Abw hi
  have hj' := Abw hj
  have hl'' := Abw hl'
  obtain ⟨v1, v2⟩ := hv _ _ _ hi'.1 hj'.1 hl''.1
  rw [← Ap4 v1, ← v2]
  have e : Iw (K8 a M) 2 a f 3 ((i * (Au a M).length + j) * (Au a M).length + l) = (List.range a).map fun q => nth f.Table (G6 2 [nth (Az 2 a (nth (Au a M) i)) q, nth (Az 2 a (nth (Au a M) j)) q, nth (Az 2 a (nth (Au a M) l)) q]).toNat := by
   unfold Iw hT
   rw [hl, Asn hi hj hl']
   refine List.map_congr_left fun q _ => ?_
   rw [show (List.range 3) = [0, 1, 2] from rfl]
   simp only [List.map_cons, List.map_nil]
   rw [show nth [(i : Int), (j : Int), (l : Int)] 0 = (i : Int) from rfl, show nth [(i : Int), (j : Int), (l : Int)] 1 = (j : Int) from rfl, show nth [(i : Int), (j : Int), (l : Int)] 2 = (l : Int) from rfl, tna0, tna0, tna0, Xa hi, Xa hj, Xa hl']
  rw [e]
 rw [Bool.eq_iff_iff, decide_eq_true_eq]
 unfold kp3
 simp only [List.all_eq_true]
 constructor
 ·intro h x hx y hy z hz
  obtain ⟨i, hi, rfl⟩ := N1.1 hx
  obtain ⟨j, hj, rfl⟩ := N1.1 hy
  obtain ⟨l, hl', rfl⟩ := N1.1 hz
  refine (val i j l hi hj hl').1 (h _ ?_)
  rw [hl]
  have h1 := Nat.mul_le_mul_right (Au a M).length (show i + 1 ≤ (Au a M).length by omega)
  rw [Nat.succ_mul] at h1
  have h2 := Nat.mul_le_mul_right (Au a M).length (show i * (Au a M).length + j + 1 ≤ (Au a M).length * (Au a M).length by omega)
  rw [Nat.succ_mul] at h2
  rw [Nat.pow_succ, Nat.pow_succ, Nat.pow_one]; omega
 ·intro h k hk
  rw [hl] at hk
  have h0 : 0 < (Au a M).length := by
   rcases Nat.eq_zero_or_pos (Au a M).length with h0 | h0
   ·rw [h0] at hk; simp at hk
   ·exact h0
  have hd2 : k / (Au a M).length / (Au a M).length < (Au a M).length := by
   rw [Nat.div_div_eq_div_mul]
   rw [Nat.pow_succ, Nat.pow_succ, Nat.pow_one] at hk
   exact Nat.div_lt_of_lt_mul hk
  have hm := Nat.mod_lt k h0
  have hm2 := Nat.mod_lt (k / (Au a M).length) h0
  have e : k = k / (Au a M).length * (Au a M).length + k % (Au a M).length := by
   have := Nat.div_add_mod k (Au a M).length
   rw [Nat.mul_comm] at this; omega
  have e2 : k / (Au a M).length = k / (Au a M).length / (Au a M).length * (Au a M).length + k / (Au a M).length % (Au a M).length := by
   have := Nat.div_add_mod (k / (Au a M).length) (Au a M).length
   rw [Nat.mul_comm] at this; omega
  rw [e, show k / (Au a M).length * (Au a M).length = (k / (Au a M).length / (Au a M).length * (Au a M).length + k / (Au a M).length % (Au a M).length) * (Au a M).length by rw [← e2]]
  exact (val _ _ _ hd2 hm2 hm).2 (h _ (Aq hd2) _ (Aq hm2) _ (Aq hm))
end
def Ax6 (T : List Int) (op : Nat → Nat → Nat) (a : Nat) : Bool := (List.range (2 ^ a)).all fun x => (List.range (2 ^ a)).all fun y => Nat.blt (op x y) (2 ^ a) && (((List.range a).map fun j => nth T (G6 2 [nth (Az 2 a x) j, nth (Az 2 a y) j]).toNat) == Az 2 a (op x y))
def Atc (T : List Int) (op : Nat → Nat → Nat → Nat) (a : Nat) : Bool := (List.range (2 ^ a)).all fun x => (List.range (2 ^ a)).all fun y => (List.range (2 ^ a)).all fun z => Nat.blt (op x y z) (2 ^ a) && (((List.range a).map fun j => nth T (G6 2 [nth (Az 2 a x) j, nth (Az 2 a y) j, nth (Az 2 a z) j]).toNat) == Az 2 a (op x y z))
theorem Apt {T : List Int} {op : Nat → Nat → Nat} {a : Nat} (h : Ax6 T op a = true) : ∀ x y, x < 2 ^ a → y < 2 ^ a → op x y < 2 ^ a ∧ ((List.range a).map fun j => nth T (G6 2 [nth (Az 2 a x) j, nth (Az 2 a y) j]).toNat) = Az 2 a (op x y) := fun x y hx hy => by
 have := List.all_eq_true.1 (List.all_eq_true.1 h x (List.mem_range.2 hx)) y (List.mem_range.2 hy)
 rw [Bool.and_eq_true] at this
 exact ⟨Nat.lt_of_lt_of_le (Nat.lt_succ_self _) (Nat.le_of_ble_eq_true this.1), eq_of_beq this.2⟩
theorem Asp {T : List Int} {op : Nat → Nat → Nat → Nat} {a : Nat} (h : Atc T op a = true) : ∀ x y z, x < 2 ^ a → y < 2 ^ a → z < 2 ^ a → op x y z < 2 ^ a ∧ ((List.range a).map fun j => nth T (G6 2 [nth (Az 2 a x) j, nth (Az 2 a y) j, nth (Az 2 a z) j]).toNat) = Az 2 a (op x y z) := fun x y z hx hy hz => by
 have := List.all_eq_true.1 (List.all_eq_true.1 (List.all_eq_true.1 h x (List.mem_range.2 hx)) y (List.mem_range.2 hy)) z (List.mem_range.2 hz)
 rw [Bool.and_eq_true] at this
 exact ⟨Nat.lt_of_lt_of_le (Nat.lt_succ_self _) (Nat.le_of_ble_eq_true this.1), eq_of_beq this.2⟩
theorem A0o {a : Nat} (h : 1 ≤ a) (h3 : a ≤ 3) : Ax6 [0, 0, 0, 1] Nat.land a = true := by
 rcases (show a = 1 ∨ a = 2 ∨ a = 3 by omega) with rfl | rfl | rfl
 ·decide +kernel
 ·decide +kernel
 ·decide +kernel
theorem A03 {a : Nat} (h : 1 ≤ a) (h3 : a ≤ 3) : Ax6 [0, 1, 1, 1] Nat.lor a = true := by
 rcases (show a = 1 ∨ a = 2 ∨ a = 3 by omega) with rfl | rfl | rfl
 ·decide +kernel
 ·decide +kernel
 ·decide +kernel
theorem Az9 {a : Nat} (h : 1 ≤ a) (h3 : a ≤ 3) : Atc [0, 0, 0, 1, 0, 1, 1, 1] Ayr a = true := by
 rcases (show a = 1 ∨ a = 2 ∨ a = 3 by omega) with rfl | rfl | rfl
 ·decide +kernel
 ·decide +kernel
 ·decide +kernel
end Go.Proofs.Ytjcekpmojnnmbaa.Ax
namespace Go.Proofs.Ytjcekpmojnnmbaa.Ax
open Go Classical
theorem Xw {α : Type} [Inhabited α] {T : List α} {f : α → Bool} : T.all f = true ↔ ∀ i, i < T.length → f (nth T i) = true := by
 rw [List.all_eq_true]
 constructor
 ·intro h i hi; exact h _ (Aq hi)
 ·intro h x hx
  obtain ⟨i, hi, rfl⟩ := N1.1 hx
  exact h i hi
theorem Agy {α : Type} [Inhabited α] {T : List α} {f : α → Bool} (h : T.all f ≠ true) : ∃ i, 0 ≤ i ∧ i < T.length ∧ f (nth T i) = false := by
 refine Classical.byContradiction fun hc => h (Xw.2 fun i hi => ?_)
 cases hf : f (nth T i) with
 | true => rfl
 | false => exact absurd ⟨i, Nat.zero_le _, hi, hf⟩ hc
theorem Ayp {xs : List Int} (h : xs.length ≤ LIM) : Lu xs = some xs := by
 unfold Lu
 rw [Af (by show 0 + xs.length ≤ _; omega)]; rfl
theorem Am9 {xs : List Int} (h : xs.length ≤ LIM) : F8 xs = some xs := by
 unfold F8
 rw [Af (by show 0 + xs.length ≤ _; omega)]; rfl
section
variable {a : Nat} {t c : List Int} (ha : a ≤ 1000) (ht : t.length = a) (hl : c.length ≤ 1048576) (hc : Z2 a c)
include ha ht hl hc
theorem Abj : F3 t c = some (obB t c) := by
 unfold F3
 have := Fk (body := Dk t c) (fun i => (i : Int)) c.length (fun i => Arg t (nth c i) = true) () () (fun i hi hb => by
  have h := hc _ (Aq hi)
  unfold Dk
  rw [if_pos (by omega), Af (by omega), tna0]
  rcases h with h | h
  ·have h0 : ¬ nth t (nth c i - 1).toNat = 1 := fun e => hb ((Ac7 (by omega)).2 e)
   rw [if_pos (by omega), Af (by omega), Af (by unfold InI; omega), Af (by omega), if_neg h0, Af (by omega), if_neg (by omega), Af (by unfold InI; omega)]; rfl
  ·have hw : IntKind.i64.wrap (0 - nth c i) = - nth c i := by rw [Il (by omega) (by omega)]; omega
   have h0 : ¬ nth t (- nth c i - 1).toNat = 0 := fun e => hb ((Acv (by omega)).2 e)
   rw [if_neg (by omega), Af (by omega), if_pos (by omega), Af (by omega), hw, Af (by unfold InI; omega), Af (by omega), if_neg h0, Af (by unfold InI; omega)]; rfl) (fun i hi hb => by
  have h := hc _ (Aq hi)
  unfold Dk
  rw [if_pos (by omega), Af (by omega), tna0]
  rcases h with h | h
  ·have h0 : nth t (nth c i - 1).toNat = 1 := (Ac7 (by omega)).1 hb
   rw [if_pos (by omega), Af (by omega), Af (by unfold InI; omega), Af (by omega), if_pos h0]
  ·have hw : IntKind.i64.wrap (0 - nth c i) = - nth c i := by rw [Il (by omega) (by omega)]; omega
   have h0 : nth t (- nth c i - 1).toNat = 0 := (Acv (by omega)).1 hb
   rw [if_neg (by omega), Af (by omega), if_pos (by omega), Af (by omega), hw, Af (by unfold InI; omega), Af (by omega), if_pos h0]) (by unfold Dk; rw [if_neg (by omega)]) 0 (by omega)
 refine (Na this true false).trans (congrArg some ?_)
 by_cases hx : obB t c = true
 ·rw [if_pos (Ag2.2 hx), hx]
 ·rw [if_neg (fun h => hx (Ag2.1 h))]; simpa using hx
end
section
variable {a : Nat} {T : List (List Int)} {c : List Int} (ha : a ≤ 1000) (hT : ∀ t ∈ T, t.length = a) (hTl : T.length ≤ 1048576) (hl : c.length ≤ 1048576) (hc : Z2 a c)
include ha hT hTl hl hc
theorem Amw : G1 T c = some (J1 T c) := by
 unfold G1
 have := Fk (body := Du T c) (fun i => (i : Int)) T.length (fun i => obB (nth T i) c = false) () () (fun i hi hb => by
  unfold Du
  rw [if_pos (by omega), Af (by omega), tna0, S7 ha (hT _ (Aq hi)) hl hc]
  simp only [obs0]
  rw [if_pos (by simpa using hb), Af (by unfold InI; omega)]; rfl) (fun i hi hb => by
  unfold Du
  rw [if_pos (by omega), Af (by omega), tna0, S7 ha (hT _ (Aq hi)) hl hc]
  simp only [obs0]
  rw [if_neg (by simpa using hb)]) (by unfold Du; rw [if_neg (by omega)]) 0 (by omega)
 refine (Na this false true).trans (congrArg some ?_)
 unfold J1
 by_cases hx : (T.all fun t => obB t c) = true
 ·rw [if_neg (by rintro ⟨i, _, h1, h2⟩; rw [Xw.1 hx i h1] at h2; cases h2), hx]
 ·rw [if_pos (Agy hx)]; simpa using hx
theorem Axh {A : Int} : Gk { Arity := A, Tuples := T } c = some (J1 T c) := by
 unfold Gk
 have := Fk (body := D8 { Arity := A, Tuples := T } c) (fun i => (i : Int)) T.length (fun i => obB (nth T i) c = false) () () (fun i hi hb => by
  unfold D8
  dsimp only
  rw [if_pos (by omega), Af (by omega), tna0, Abj ha (hT _ (Aq hi)) hl hc]
  simp only [obs0]
  rw [if_pos (by simpa using hb), Af (by unfold InI; omega)]; rfl) (fun i hi hb => by
  unfold D8
  dsimp only
  rw [if_pos (by omega), Af (by omega), tna0, Abj ha (hT _ (Aq hi)) hl hc]
  simp only [obs0]
  rw [if_neg (by simpa using hb)]) (by unfold D8; dsimp only; rw [if_neg (by omega)]) 0 (by omega)
 refine (Na this false true).trans (congrArg some ?_)
 unfold J1
 by_cases hx : (T.all fun t => obB t c) = true
 ·rw [if_neg (by rintro ⟨i, _, h1, h2⟩; rw [Xw.1 hx i h1] at h2; cases h2), hx]
 ·rw [if_pos (Agy hx)]; simpa using hx
end
theorem Asg {x y : Int} {xs ys : List Int} : On (x :: xs) (y :: ys) ↔ x < y ∨ (x = y ∧ On xs ys) := by
 constructor
 ·rintro ⟨i, hi, h1, h2⟩
  cases i with
  | zero => exact .inl h2
  | succ i => exact .inr ⟨h1 0 (by omega), i, by simpa using hi, fun j hj => h1 (j + 1) (by omega), h2⟩
 ·rintro (h | ⟨rfl, i, hi, h1, h2⟩)
  ·exact ⟨0, by simp, fun j hj => by omega, h⟩
  ·refine ⟨i + 1, by simpa using hi, fun j hj => ?_, h2⟩
   cases j with
   | zero => rfl
   | succ j => exact h1 j (by omega)
theorem Aji : ∀ {a b : List Int}, a.length = b.length → (Awt a b = true ↔ On a b)
 | [], [], _ => by
   simp only [Awt, Bool.false_eq_true, false_iff]
   rintro ⟨i, hi, _⟩
   simp at hi
 | [], _ :: _, h => by simp at h
 | _ :: _, [], h => by simp at h
 | x :: xs, y :: ys, h => by
   rw [Asg, ← Aji (a := xs) (b := ys) (by simpa using h)]
   simp [Awt]
theorem Ai4 {a b : List Int} : Xi a b = true ↔ tLt a b := by
 unfold Xi tLt
 rw [Bool.or_eq_true, Bool.and_eq_true, decide_eq_true_eq, decide_eq_true_eq]
 constructor
 ·rintro (h | ⟨h1, h2⟩)
  ·exact .inl h
  ·exact .inr ⟨h1, (Aji h1).1 h2⟩
 ·rintro (h | ⟨h1, h2⟩)
  ·exact .inl h
  ·exact .inr ⟨h1, (Aji h1).2 h2⟩
theorem Aif {s t : List Int} (h : s.length ≤ LIM) : Hq s t = some (Xi s t) := by
 unfold Hq
 by_cases hl : s.length = t.length
 ·rw [if_neg (by simp [hl]), Aet hl h]
  simp only [obs0]
  congr 1
  rw [Bool.eq_iff_iff, decide_eq_true_eq, Ai4]
  exact ⟨fun hh => .inr ⟨hl, hh⟩, fun hh => hh.elim (fun h => by omega) fun h => h.2⟩
 ·rw [if_pos (by omega)]
  congr 1
  rw [Bool.eq_iff_iff, decide_eq_true_eq, Ai4]
  exact ⟨fun hh => .inl (by omega), fun hh => hh.elim (fun h => by omega) fun h => absurd h.1 hl⟩
def Axd : List (List Int) → Bool
 | [] => true
 | x :: xs => xs.all (Xi x) && Axd xs
theorem Al9 : ∀ {xs : List (List Int)}, Axd xs = true → Ax0 xs
 | [], _ => List.Pairwise.nil
 | x :: xs, h => by
   simp only [Axd, Bool.and_eq_true] at h
   refine List.pairwise_cons.2 ⟨fun y hy hc => ?_, Al9 h.2⟩
   have := Ai4.1 (List.all_eq_true.1 h.1 y hy)
   exact Z9 _ (Yu this hc)
section
variable {α : Type} [Inhabited α] (p : α → Bool)
theorem Axa : ∀ (l : List α) i, i < (l.takeWhile p).length → p (nth l i) = true
 | [], i, h => by simp at h
 | x :: l, i, h => by
   cases hx : p x with
   | false => rw [List.takeWhile_cons, hx] at h; simp at h
   | true =>
     rw [List.takeWhile_cons, hx] at h
     cases i with
     | zero => exact hx
     | succ i => exact Axa l i (by simpa using h)
theorem A1h : ∀ (l : List α), (l.takeWhile p).length < l.length → p (nth l (l.takeWhile p).length) = false
 | [], h => by simp at h
 | x :: l, h => by
   cases hx : p x with
   | false => simp only [List.takeWhile_cons, hx, Bool.false_eq_true, if_false, List.length_nil]; exact hx
   | true =>
     simp only [List.takeWhile_cons, hx, if_true, List.length_cons] at h ⊢
     exact A1h l (by omega)
omit [Inhabited α] in
theorem A1j (l : List α) : (l.takeWhile p).length ≤ l.length := by
 have := congrArg List.length (List.takeWhile_append_dropWhile (p := p) (l := l))
 rw [List.length_append] at this
 omega
omit [Inhabited α] in
theorem Ao3 : ∀ (l : List α), l.take (l.takeWhile p).length = l.takeWhile p ∧ l.drop (l.takeWhile p).length = l.dropWhile p
 | [] => ⟨rfl, rfl⟩
 | x :: l => by
   cases hx : p x with
   | false => simp [hx]
   | true =>
     simp only [List.takeWhile_cons, List.dropWhile_cons, hx, if_true, List.length_cons, List.take_succ_cons, List.drop_succ_cons]
     exact ⟨by rw [(Ao3 l).1], (Ao3 l).2⟩
end
theorem Ahi (s1 s2 : Int) : ∀ (i : Nat) (xs ys : List Int), clK s1 s2 i (xs ++ ys) = clK s1 s2 i xs ++ clK s1 s2 (i + xs.length) ys
 | i, [], ys => by simp [clK]
 | i, x :: xs, ys => by
   simp only [List.cons_append, clK, List.length_cons]
   rw [Ahi s1 s2 (i + 1) xs ys, List.append_assoc, show i + 1 + xs.length = i + (xs.length + 1) by omega]
theorem Abp (s1 s2 : Int) : ∀ (i : Nat) (xs : List Int), (clK s1 s2 i xs).length ≤ xs.length
 | _, [] => by simp [clK]
 | i, x :: xs => by
   have := Abp s1 s2 (i + 1) xs
   simp only [clK, List.length_append, List.length_cons]
   split
   ·simp only [List.length_cons, List.length_nil]; omega
   ·split
    ·simp only [List.length_cons, List.length_nil]; omega
    ·simp only [List.length_nil]; omega
theorem Ap9 {s1 s2 : Int} {ks : List Int} {x : Nat} (hx : x < ks.length) : clK s1 s2 0 (ks.take (x + 1)) = clK s1 s2 0 (ks.take x) ++ if nth ks x = 1 then [s1 * ((x : Int) + 1)] else if nth ks x = 2 then [s2 * ((x : Int) + 1)] else [] := by
 rw [E4 hx, Ahi]
 congr 1
 simp only [clK, List.append_nil, List.length_take, Nat.zero_add, Nat.min_eq_left (Nat.le_of_lt hx)]
section
variable {ks : List Int} (hk : ks.length ≤ 1000) (hks : ∀ v ∈ ks, 0 ≤ v ∧ v < 3)
include hk hks
theorem Akl (A x4 : Int) (x3 : List (List Int)) : Al (Cv A x4 x3 ks) (0, Ap Int) = some (clK (-1) 1 0 ks) := by
 have hL := Bd
 have key := Bk (body := Cv A x4 x3 ks) (fun x => ((x : Int), clK (-1) 1 0 (ks.take x))) ks.length (clK (-1) 1 0 ks) (fun x hx => by
  have hv := hks _ (Aq hx)
  have hlen := Abp (-1) 1 0 (ks.take x)
  rw [List.length_take] at hlen
  unfold Cv
  dsimp only
  rw [if_pos (by omega), Af (by omega), tna0, Ap9 hx]
  rcases (show nth ks x = 0 ∨ nth ks x = 1 ∨ nth ks x = 2 by omega) with e | e | e
  ·rw [e, if_neg (by omega), Af (by unfold InI; omega), if_neg (by omega), if_neg (by omega), List.append_nil]; rfl
  ·rw [e, if_pos (by omega), Af (by unfold InI; omega), Af (by unfold InI; omega), Af (by unfold InI; omega), Af (by unfold InI; omega), Af (by simp only [List.length_cons, List.length_nil]; omega), Af (by unfold InI; omega), if_pos rfl, show ((x : Int) + 1) * (2 * 1 - 3) = -1 * ((x : Int) + 1) by omega]; rfl
  ·rw [e, if_pos (by omega), Af (by unfold InI; omega), Af (by unfold InI; omega), Af (by unfold InI; omega), Af (by unfold InI; omega), Af (by simp only [List.length_cons, List.length_nil]; omega), Af (by unfold InI; omega), if_neg (by omega), if_pos rfl, show ((x : Int) + 1) * (2 * 2 - 3) = 1 * ((x : Int) + 1) by omega]; rfl) (by
  unfold Cv
  dsimp only
  rw [if_neg (by omega), List.take_of_length_le (by omega)])
 exact key
theorem Ali (x4 : Int) (x3 : List (List Int)) : Al (Cw (ks.length : Int) x4 x3 ks) (0, Ap Int) = some (clK 1 (-1) 0 ks) := by
 have hL := Bd
 have key := Bk (body := Cw (ks.length : Int) x4 x3 ks) (fun x => ((x : Int), clK 1 (-1) 0 (ks.take x))) ks.length (clK 1 (-1) 0 ks) (fun x hx => by
  have hv := hks _ (Aq hx)
  have hlen := Abp 1 (-1) 0 (ks.take x)
  rw [List.length_take] at hlen
  have hw : IntKind.i64.wrap (0 - (x : Int)) - 1 = -1 * ((x : Int) + 1) := by rw [Il (by omega) (by omega)]; omega
  unfold Cw
  dsimp only
  rw [if_pos (by omega), Af (by omega), tna0, Ap9 hx]
  rcases (show nth ks x = 0 ∨ nth ks x = 1 ∨ nth ks x = 2 by omega) with e | e | e
  ·have n1 : ¬ nth ks x = 1 := by omega
   have n2 : ¬ nth ks x = 2 := by omega
   rw [if_neg n1, if_neg n1]
   simp only [obs0]
   rw [Af (by omega), if_neg n2, if_neg n2, Af (by unfold InI; omega), List.append_nil]; rfl
  ·have n2 : ¬ nth ks x = 2 := by omega
   rw [if_pos e, if_pos e, Af (by unfold InI; omega), Af (by simp only [List.length_cons, List.length_nil]; omega)]
   simp only [obs0]
   rw [Af (by omega), if_neg n2, Af (by unfold InI; omega), Int.one_mul]; rfl
  ·have n1 : ¬ nth ks x = 1 := by omega
   rw [if_neg n1, if_neg n1]
   simp only [obs0]
   rw [Af (by omega), if_pos e, if_pos e, hw, Af (by unfold InI; omega), Af (by simp only [List.length_cons, List.length_nil]; omega), Af (by unfold InI; omega)]; rfl) (by
  unfold Cw
  dsimp only
  rw [if_neg (by omega), List.take_of_length_le (by omega)])
 exact key
end
theorem Ak2 {A x4 : Int} {out : List (List Int)} {c : List Int} (ho : out.length ≤ 1000) (hr : ∀ r ∈ out, r.length ≤ 1000) : Al (C2 A x4 out c) 0 = some (((out.takeWhile fun x => Xi x c).length : Nat) : Int) := by
 have hL := Bd
 have hle := A1j (fun x => Xi x c) out
 have key := Bk (body := C2 A x4 out c) (fun k => (k : Int)) (out.takeWhile fun x => Xi x c).length (((out.takeWhile fun x => Xi x c).length : Nat) : Int) (fun k hk => by
  have hy := Axa (fun x => Xi x c) out k hk
  have hm := hr _ (Aq (show k < out.length by omega))
  unfold C2
  rw [if_pos (by omega), Af (by omega), tna0, Aif (by omega)]
  simp only [obs0]
  rw [if_pos hy, Af (by unfold InI; omega)]; rfl) (by
  unfold C2
  by_cases h : (out.takeWhile fun x => Xi x c).length < out.length
  ·have hn := A1h (fun x => Xi x c) out h
   have hm := hr _ (Aq h)
   rw [if_pos (by omega), Af (by omega), tna0, Aif (by omega)]
   simp only [obs0]
   rw [if_neg (by simpa using hn)]
  ·rw [if_neg (by omega)])
 exact key
theorem Azf (out : List (List Int)) (c : List Int) : (Avz out c).length = out.length + 1 := by
 have := congrArg List.length (List.takeWhile_append_dropWhile (p := fun x => Xi x c) (l := out))
 rw [List.length_append] at this
 simp only [Avz, List.length_append, List.length_cons, List.length_nil]; omega
theorem Azh {out : List (List Int)} {c r : List Int} (h : r ∈ Avz out c) : r ∈ out ∨ r = c := by
 unfold Avz at h
 rcases List.mem_append.1 h with h | h
 ·rcases List.mem_append.1 h with h | h
  ·exact .inl ((List.takeWhile_sublist _).subset h)
  ·exact .inr (List.mem_singleton.1 h)
 ·exact .inl ((List.dropWhile_sublist _).subset h)
theorem Aen (a n : Nat) : Ws a (n + 1) = Avz (Ws a n) (clK 1 (-1) 0 (Az 3 a n)) := by
 unfold Ws
 rw [List.range_succ, List.map_append, List.foldl_append]
 rfl
theorem U0 (a : Nat) : ∀ n, (Ws a n).length = n
 | 0 => rfl
 | n + 1 => by rw [Aen, Azf, U0 a n]
theorem Aig (a : Nat) : ∀ n, ∀ r ∈ Ws a n, r.length ≤ a
 | 0, r, h => by simp [Ws] at h
 | n + 1, r, h => by
   rw [Aen] at h
   rcases Azh h with h | h
   ·exact Aig a n r h
   ·rw [h]; exact Nat.le_trans (Abp _ _ _ _) (Nat.le_of_eq (E1 _ _ _))
theorem A1q (a i : Nat) : ∀ v ∈ Az 3 a i, 0 ≤ v ∧ v < 3 := fun v hv => Agz (n := 3) (by omega) a i v hv
section
variable {a : Nat} (h1 : 1 ≤ a) (h3 : a ≤ 3)
include h1 h3
theorem Xz : ∀ i, i ≤ a → 3 ^ i ≤ 27 := fun i hi => Nat.le_trans (Nat.pow_le_pow_right (by omega) (show i ≤ 3 by omega)) (by decide)
theorem Ab8 : Em (a : Int) = some (Cn a) := by
 have hL := Bd
 have hp := Xz h1 h3
 have hpa := hp a (Nat.le_refl _)
 unfold Em
 have key := Bk (body := C0 (a : Int)) (fun i => ((i : Int), Ws a i)) (3 ^ a) (Cn a) (fun i hi => by
  have hlen := U0 a i
  have hrow : ∀ r ∈ Ws a i, r.length ≤ 1000 := fun r hr => by have := Aig a i r hr; omega
  unfold C0
  dsimp only
  rw [show ((3 : Int)) = ((3 : Nat) : Int) from rfl, L9 27 (by omega) hp (by omega)]
  simp only [obs0]
  rw [if_pos (by omega), Un (by omega) (by omega) (by omega) (by omega)]
  simp only [obs0]
  have e1 := Ali (ks := Az 3 a i) (by rw [E1]; omega) (A1q a i) (i : Int) (Ws a i)
  rw [E1] at e1
  rw [e1]
  simp only [obs0]
  rw [Ak2 (by omega) hrow]
  simp only [obs0]
  have hle := A1j (fun x => Xi x (clK 1 (-1) 0 (Az 3 a i))) (Ws a i)
  obtain ⟨t1, t2⟩ := Ao3 (fun x => Xi x (clK 1 (-1) 0 (Az 3 a i))) (Ws a i)
  generalize hk : ((Ws a i).takeWhile fun x => Xi x (clK 1 (-1) 0 (Az 3 a i))).length = k at *
  have e2 : List.take ((k : Int).toNat - Int.toNat 0) (List.drop (Int.toNat 0) (Ws a i)) = (Ws a i).take k := by simp
  have e3 : List.take (((Ws a i).length : Int).toNat - (k : Int).toNat) (List.drop (k : Int).toNat (Ws a i)) = (Ws a i).drop k := by
   rw [tna0, tna0]
   exact List.take_of_length_le (by simp)
  rw [e2, e3, Af (by omega), Af (by simp [Ap]; omega), Af (by simp [Ap]; omega), Af (by omega), Af (by simp [Ap]; omega), Af (by unfold InI; omega), Aen, t1, t2]
  rfl) (by
  unfold C0
  dsimp only
  rw [show ((3 : Int)) = ((3 : Nat) : Int) from rfl, L9 27 (by omega) hp (by omega)]
  simp only [obs0]
  rw [if_neg (by omega)]
  rfl)
 have key' : Al (C0 (a : Int)) (0, Ap (List Int)) = _ := key
 rw [key']; rfl
theorem Aw1 : (Cn a).Perm ((List.range (3 ^ a)).map fun i => clK (-1) 1 0 (Az 3 a i)) := by
 rcases (show a = 1 ∨ a = 2 ∨ a = 3 by omega) with rfl | rfl | rfl
 ·decide +kernel
 ·decide +kernel
 ·decide +kernel
theorem A02 : Ax0 (Cn a) := by
 refine Al9 ?_
 rcases (show a = 1 ∨ a = 2 ∨ a = 3 by omega) with rfl | rfl | rfl
 ·decide +kernel
 ·decide +kernel
 ·decide +kernel
theorem Aoh : F7 (a : Int) = some (Cn a) := by
 have hL := Bd
 have hp := Xz h1 h3
 have hpa := hp a (Nat.le_refl _)
 unfold F7
 have key := Bk (body := Cx (a : Int)) (fun i => ((i : Int), (List.range i).map fun i => clK (-1) 1 0 (Az 3 a i))) (3 ^ a) ((List.range (3 ^ a)).map fun i => clK (-1) 1 0 (Az 3 a i)) (fun i hi => by
  unfold Cx
  dsimp only
  rw [show ((3 : Int)) = ((3 : Nat) : Int) from rfl, N7 27 (by omega) hp (by omega)]
  simp only [obs0]
  rw [if_pos (by omega), Amm (by omega) (by omega) (by omega) (by omega)]
  simp only [obs0]
  rw [Akl (by rw [E1]; omega) (A1q a i)]
  simp only [obs0]
  rw [Af (by simp; omega), Af (by unfold InI; omega), List.range_succ, List.map_append]
  rfl) (by
  unfold Cx
  dsimp only
  rw [show ((3 : Int)) = ((3 : Nat) : Int) from rfl, N7 27 (by omega) hp (by omega)]
  simp only [obs0]
  rw [if_neg (by omega)])
 have key' : Al (Cx (a : Int)) (0, Ap (List Int)) = _ := key
 rw [key']
 simp only [obs0]
 rw [Apu (ys := Cn a) (by simp; omega) (fun r hr => by
  obtain ⟨i, _, rfl⟩ := List.mem_map.1 hr
  have := Abp (-1) 1 0 (Az 3 a i)
  rw [E1] at this
  omega) (Aw1 h1 h3) (A02 h1 h3)]
 rfl
def Ayl (a : Nat) (c : List Int) : Bool := c.all fun p => (decide (1 ≤ p) && decide (p ≤ (a : Int))) || (decide (-(a : Int) ≤ p) && decide (p ≤ -1))
omit h1 h3 in
theorem Avb {c : List Int} (h : Ayl a c = true) : Z2 a c := fun p hp => by
 have := List.all_eq_true.1 h p hp
 simpa using this
theorem Vu {c : List Int} (hc : c ∈ Cn a) : Z2 a c ∧ c.length ≤ 3 := by
 refine ⟨Avb ?_, Nat.le_trans (Aig a _ c hc) h3⟩
 have key : (Cn a).all (Ayl a) = true := by
  rcases (show a = 1 ∨ a = 2 ∨ a = 3 by omega) with rfl | rfl | rfl
  ·decide +kernel
  ·decide +kernel
  ·decide +kernel
 exact List.all_eq_true.1 key c hc
end
def prA (T : List (List Int)) (c : List Int) (j : Nat) : Bool := J1 T c && (List.range j).all fun i => !J1 T (c.eraseIdx i)
theorem Ahz (T : List (List Int)) (c : List Int) (j : Nat) : prA T c (j + 1) = (prA T c j && !J1 T (c.eraseIdx j)) := by
 unfold prA
 rw [List.range_succ, List.all_append, Bool.and_assoc]
 simp
theorem Ao5 (T : List (List Int)) (c : List Int) : prA T c c.length = Vo T c := rfl
theorem A29 (T : List (List Int)) (c : List Int) {j : Nat} (h : prA T c j = false) : ∀ k, j ≤ k → prA T c k = false := by
 intro k hk
 induction k with
 | zero => have : j = 0 := by omega
           subst this; exact h
 | succ k ih =>
   by_cases e : j = k + 1
   ·subst e; exact h
   ·rw [Ahz, ih (by omega)]; rfl
theorem Afs {a : Nat} {c : List Int} (h : Z2 a c) (i : Nat) : Z2 a (c.eraseIdx i) := fun p hp => h p (List.mem_of_mem_eraseIdx hp)
theorem Ame (c : List Int) (i : Nat) : (c.eraseIdx i).length ≤ c.length := (List.eraseIdx_sublist c i).length_le
theorem Asz {xs : List Int} {i : Nat} (hi : i < xs.length) (hl : xs.length ≤ 1048576) : Jl xs i = some (xs.eraseIdx i) := by
 have hL := Bd
 unfold Jl
 have e1 : (List.take (((i : Int)).toNat - Int.toNat 0) (List.drop (Int.toNat 0) xs)) = xs.take i := by simp
 have e3 : ((i : Int) + 1).toNat = i + 1 := by omega
 have e2 : List.take ((xs.length : Int).toNat - ((i : Int) + 1).toNat) (List.drop ((i : Int) + 1).toNat xs) = xs.drop (i + 1) := by
  rw [e3, tna0]
  exact List.take_of_length_le (by simp)
 rw [e1, e2, Af (by omega), Ayp (by simp; omega)]
 simp only [obs0]
 rw [Af (by unfold InI; omega), Af (by omega), Af (by simp; omega), List.eraseIdx_eq_take_drop_succ]
section
variable {a : Nat} {r : SRelation} (h1 : 1 ≤ a) (h3 : a ≤ 3) (hr : r.Arity = (a : Int)) (hT : ∀ t ∈ r.Tuples, t.length = a) (hTl : r.Tuples.length ≤ 1048576)
include h1 h3 hr hT hTl
omit h1 h3 hr hT hTl in
theorem Afe {i : Nat} (hi : i < (Cn a).length) : ((Cn a).take (i + 1)).filter (Vo r.Tuples) = if Vo r.Tuples (nth (Cn a) i) = true then ((Cn a).take i).filter (Vo r.Tuples) ++ [nth (Cn a) i] else ((Cn a).take i).filter (Vo r.Tuples) := by
 rw [E4 hi, List.filter_append]
 by_cases h : Vo r.Tuples (nth (Cn a) i) = true
 ·rw [if_pos h, List.filter_cons_of_pos h]; rfl
 ·rw [if_neg h, List.filter_cons_of_neg h]; simp
theorem X9 : Dz r = some (F9 a r.Tuples) := by
 have hL := Bd
 have hlen := U0 a (3 ^ a)
 have hpa := Xz h1 h3 a (Nat.le_refl _)
 unfold Dz
 rw [hr, Aoh h1 h3]
 simp only [obs0]
 have inner : ∀ i, i < (Cn a).length → ∀ x3, Al (Cc r (Cn a) (i : Int) x3) (0, J1 r.Tuples (nth (Cn a) i)) = some (Vo r.Tuples (nth (Cn a) i)) := by
  intro i hi x3
  obtain ⟨q1, q2⟩ := Vu h1 h3 (Aq hi)
  have key := Bk (body := Cc r (Cn a) (i : Int) x3) (fun j => ((j : Int), prA r.Tuples (nth (Cn a) i) j)) (nth (Cn a) i).length (Vo r.Tuples (nth (Cn a) i)) (fun j hj => by
   have he := Ame (nth (Cn a) i) j
   unfold Cc
   dsimp only
   rw [tna0, if_pos (by omega), Ahz]
   cases hb : prA r.Tuples (nth (Cn a) i) j with
   | false => rw [if_neg (by simp), Af (by unfold InI; omega)]; rfl
   | true =>
     rw [if_pos rfl, Asz hj (by omega)]
     simp only [obs0]
     rw [Amw (by omega) hT hTl (by omega) (Afs q1 j)]
     simp only [obs0]
     rw [Af (by unfold InI; omega), Bool.true_and]; rfl) (by
   unfold Cc
   dsimp only
   rw [tna0, if_neg (by omega), Ao5])
  have e0 : prA r.Tuples (nth (Cn a) i) 0 = J1 r.Tuples (nth (Cn a) i) := by simp [prA]
  rw [e0] at key
  exact key
 have key := Bk (body := Cb r (Cn a)) (fun i => ((i : Int), ((Cn a).take i).filter (Vo r.Tuples))) (Cn a).length (F9 a r.Tuples) (fun i hi => by
  obtain ⟨q1, q2⟩ := Vu h1 h3 (Aq hi)
  have hfl : (((Cn a).take i).filter (Vo r.Tuples)).length ≤ i := Nat.le_trans (List.length_filter_le _ _) (by simp; omega)
  have hcl : (Cn a).length ≤ 27 := by unfold Cn; omega
  unfold Cb
  dsimp only
  rw [if_pos (by omega), Af (by omega), tna0, Amw (by omega) hT hTl (by omega) q1]
  simp only [obs0]
  rw [inner i hi]
  simp only [obs0]
  rw [Afe hi]
  by_cases h : Vo r.Tuples (nth (Cn a) i) = true
  ·rw [if_pos h, if_pos h, Af (by simp only [List.length_cons, List.length_nil]; omega), Af (by unfold InI; omega)]; rfl
  ·rw [if_neg h, if_neg h, Af (by unfold InI; omega)]; rfl) (by
  unfold Cb
  dsimp only
  rw [if_neg (by omega), List.take_of_length_le (by omega)]
  rfl)
 have key' : Al (Cb r (Cn a)) (0, Ap (List Int)) = _ := key
 rw [key']; rfl
theorem Ajl : F4 r = some (F9 a r.Tuples) := by
 have hL := Bd
 have hlen := U0 a (3 ^ a)
 have hpa := Xz h1 h3 a (Nat.le_refl _)
 have hall : ∀ c : List Int, c.length ≤ 1048576 → Z2 a c → Gk r c = some (J1 r.Tuples c) := fun c h h' => Axh (A := r.Arity) (by omega) hT hTl h h'
 unfold F4
 rw [hr, Ab8 h1 h3]
 simp only [obs0]
 have inner : ∀ i, i < (Cn a).length → ∀ x3, Al (Ed r (Cn a) (i : Int) x3) (0, J1 r.Tuples (nth (Cn a) i)) = some (Vo r.Tuples (nth (Cn a) i)) := by
  intro i hi x3
  obtain ⟨q1, q2⟩ := Vu h1 h3 (Aq hi)
  obtain ⟨t, e, ht⟩ := Do (body := Ed r (Cn a) (i : Int) x3) (fun s => ∃ j : Nat, s = ((j : Int), prA r.Tuples (nth (Cn a) i) j) ∧ j ≤ (nth (Cn a) i).length) (fun s => (nth (Cn a) i).length - s.1.toNat) (fun t => t = Vo r.Tuples (nth (Cn a) i)) (by
   rintro s ⟨j, rfl, hj⟩
   have he := Ame (nth (Cn a) i) j
   unfold Ed
   dsimp only
   rw [Af (by omega), tna0]
   by_cases hjl : j < (nth (Cn a) i).length
   ·rw [if_pos (by omega)]
    cases hb : prA r.Tuples (nth (Cn a) i) j with
    | false =>
      rw [if_neg (by simp)]
      simp only [obs0]
      exact .inr ⟨_, rfl, by rw [← Ao5, A29 _ _ hb _ (by omega)]⟩
    | true =>
      rw [if_pos rfl]
      simp only [obs0]
      have e1 : (List.take (((j : Int)).toNat - Int.toNat 0) (List.drop (Int.toNat 0) (nth (Cn a) i))) = (nth (Cn a) i).take j := by simp
      have e3 : ((j : Int) + 1).toNat = j + 1 := by omega
      have e2 : List.take (((nth (Cn a) i).length : Int).toNat - ((j : Int) + 1).toNat) (List.drop ((j : Int) + 1).toNat (nth (Cn a) i)) = (nth (Cn a) i).drop (j + 1) := by
       rw [e3, tna0]
       exact List.take_of_length_le (by simp)
      rw [e1, e2, Af (by omega), Af (by omega), Am9 (by simp; omega)]
      simp only [obs0]
      rw [Af (by omega), Af (by unfold InI; omega), Af (by omega), Af (by simp; omega), ← List.eraseIdx_eq_take_drop_succ, hall _ (by omega) (Afs q1 j)]
      simp only [obs0]
      rw [Af (by unfold InI; omega)]
      refine .inl ⟨_, rfl, ⟨j + 1, ?_, hjl⟩, by dsimp only; omega⟩
      rw [Ahz, hb]; rfl
   ·have : j = (nth (Cn a) i).length := by omega
    subst this
    rw [if_neg (by omega)]
    simp only [obs0]
    exact .inr ⟨_, rfl, Ao5 _ _⟩) (s := ((0 : Int), J1 r.Tuples (nth (Cn a) i))) ⟨0, by simp [prA], Nat.zero_le _⟩
  rw [e, ht]
 have key := Bk (body := Dj r (Cn a)) (fun i => ((i : Int), ((Cn a).take i).filter (Vo r.Tuples))) (Cn a).length (F9 a r.Tuples) (fun i hi => by
  obtain ⟨q1, q2⟩ := Vu h1 h3 (Aq hi)
  have hfl : (((Cn a).take i).filter (Vo r.Tuples)).length ≤ i := Nat.le_trans (List.length_filter_le _ _) (by simp; omega)
  have hcl : (Cn a).length ≤ 27 := by unfold Cn; omega
  unfold Dj
  dsimp only
  rw [if_pos (by omega), Af (by omega), tna0, hall _ (by omega) q1]
  simp only [obs0]
  rw [inner i hi]
  simp only [obs0]
  rw [Afe hi]
  by_cases h : Vo r.Tuples (nth (Cn a) i) = true
  ·rw [if_pos h, if_pos h, Af (by omega), Af (by simp only [List.length_cons, List.length_nil]; omega), Af (by unfold InI; omega)]; rfl
  ·rw [if_neg h, if_neg h, Af (by unfold InI; omega)]; rfl) (by
  unfold Dj
  dsimp only
  rw [if_neg (by omega), List.take_of_length_le (by omega)]
  rfl)
 have key' : Al (Dj r (Cn a)) (0, Ap (List Int)) = _ := key
 rw [key']; rfl
end
end Go.Proofs.Ytjcekpmojnnmbaa.Ax
namespace Go.Proofs.Ytjcekpmojnnmbaa.Ax
open Go Classical
def Nq (p : Int) : Int := if p < 0 then -p else p
def Km (A : Int) : Int → List Int → Bool
 | _, [] => true
 | last, p :: c => (decide (last < Nq p) && decide (Nq p ≤ A)) && Km A (Nq p) c
theorem Apv {a : Nat} : ∀ {last : Int} {c : List Int}, 0 ≤ last → Km (a : Int) last c = true → Z2 a c
 | _, [], _, _ => fun p hp => by simp at hp
 | last, p :: c, h0, h => by
   simp only [Km, Bool.and_eq_true, decide_eq_true_eq] at h
   intro q hq
   rcases List.mem_cons.1 hq with rfl | hq
   ·have h1 := h.1
    unfold Nq at h1
    by_cases hn : q < 0
    ·rw [if_pos hn] at h1; right; omega
    ·rw [if_neg hn] at h1; left; omega
   ·exact Apv (by omega) h.2 q hq
theorem Aib {A : Int} (hA : -1000 ≤ A ∧ A ≤ 1000) {c : List Int} (hl : c.length ≤ 1048576) (hp : ∀ p ∈ c, InI p) : Hp A c = some (Km A 0 c) := by
 unfold Hp
 obtain ⟨t, e, ht⟩ := Do (body := Fp A c) (fun s => ∃ i : Nat, s.1 = (i : Int) ∧ i ≤ c.length ∧ 0 ≤ s.2 ∧ Km A s.2 (c.drop i) = Km A 0 c) (fun s => c.length - s.1.toNat) (fun t => t = if Km A 0 c = true then .inr () else .inl ()) (by
  rintro ⟨x, last⟩ ⟨i, rfl, h1, h2, h3⟩
  dsimp only at h2 h3
  unfold Fp
  dsimp only
  by_cases hi : i < c.length
  ·have hx := hp _ (Aq hi)
   unfold InI at hx
   rw [Al4 hi] at h3
   simp only [Km] at h3
   rw [if_pos (by omega), Af (by omega), tna0]
   by_cases hm : nth c i = -9223372036854775808
   ·have hw : IntKind.i64.wrap (0 - nth c i) = nth c i := by rw [hm]; decide
    have ha : Nq (nth c i) = 9223372036854775808 := by rw [hm]; decide
    have h3 : Km A 0 c = false := by
     rw [← h3, ha, dfa0 (show ¬ (9223372036854775808 : Int) ≤ A by omega), Bool.and_false, Bool.false_and]
    rw [hw, ite_self, if_pos (by omega)]
    exact .inr ⟨_, rfl, by rw [if_neg (by simp [h3])]⟩
   ·have hw : IntKind.i64.wrap (0 - nth c i) = - nth c i := by rw [Il (by omega) (by omega)]; omega
    have hv : (if - nth c i > nth c i then - nth c i else nth c i) = Nq (nth c i) := by
     unfold Nq
     by_cases hn : nth c i < 0
     ·rw [if_pos hn, if_pos (by omega)]
     ·rw [if_neg hn, if_neg (by omega)]
    have hab : 0 ≤ Nq (nth c i) := by unfold Nq; split <;> omega
    rw [hw, hv]
    by_cases c1 : Nq (nth c i) ≤ last
    ·rw [if_pos c1]
     rw [dfa0 (show ¬ last < Nq (nth c i) by omega), Bool.false_and, Bool.false_and] at h3
     exact .inr ⟨_, rfl, by rw [if_neg (by simp [← h3])]⟩
    ·rw [if_neg c1]
     by_cases c2 : Nq (nth c i) > A
     ·rw [if_pos c2]
      rw [dfa0 (show ¬ Nq (nth c i) ≤ A by omega), Bool.and_false, Bool.false_and] at h3
      exact .inr ⟨_, rfl, by rw [if_neg (by simp [← h3])]⟩
     ·rw [if_neg c2, Af (by unfold InI; omega)]
      rw [dtr0 (show last < Nq (nth c i) by omega), dtr0 (show Nq (nth c i) ≤ A by omega), Bool.true_and, Bool.true_and] at h3
      exact .inl ⟨_, rfl, ⟨i + 1, rfl, hi, hab, h3⟩, by dsimp only; omega⟩
  ·rw [if_neg (by omega)]
   rw [List.drop_of_length_le (by omega)] at h3
   exact .inr ⟨_, rfl, by rw [← h3]; rfl⟩) (s := ((0 : Int), (0 : Int))) ⟨0, rfl, Nat.zero_le _, Int.le_refl _, rfl⟩
 rw [e, ht]
 cases Km A 0 c <;> rfl
theorem Afv {A : Int} (hA : -1000 ≤ A ∧ A ≤ 1000) {c : List Int} (hl : c.length ≤ 1048576) (hp : ∀ p ∈ c, InI p) : G2 A c = some (Km A 0 c) := by
 unfold G2
 have hwA : IntKind.i64.wrap (0 - A) = - A := by rw [Il (by omega) (by omega)]; omega
 obtain ⟨t, e, ht⟩ := Do (body := E0 A c) (fun s => ∃ i : Nat, s.1 = (i : Int) ∧ i ≤ c.length ∧ 0 ≤ s.2 ∧ Km A s.2 (c.drop i) = Km A 0 c) (fun s => c.length - s.1.toNat) (fun t => t = if Km A 0 c = true then .inr () else .inl ()) (by
  rintro ⟨x, last⟩ ⟨i, rfl, h1, h2, h3⟩
  dsimp only at h2 h3
  unfold E0
  dsimp only
  by_cases hi : i < c.length
  ·have hx := hp _ (Aq hi)
   unfold InI at hx
   rw [Al4 hi] at h3
   simp only [Km] at h3
   rw [if_pos (by omega), Af (by omega), tna0, hwA, Aab]
   simp only [obs0]
   by_cases hin : -A ≤ nth c i ∧ nth c i ≤ A
   ·have hw : IntKind.i64.wrap (0 - nth c i) = - nth c i := by rw [Il (by omega) (by omega)]; omega
    have hv : (if nth c i > - nth c i then nth c i else - nth c i) = Nq (nth c i) := by
     unfold Nq
     by_cases hn : nth c i < 0
     ·rw [if_pos hn, if_neg (by omega)]
     ·rw [if_neg hn]
      by_cases h0 : nth c i = 0
      ·rw [if_neg (by omega)]; omega
      ·rw [if_pos (by omega)]
    have hab : 0 ≤ Nq (nth c i) ∧ Nq (nth c i) ≤ A ∧ (nth c i = 0 → Nq (nth c i) = 0) := by
     unfold Nq
     split <;> omega
    rw [dtr0 hin, if_pos rfl, Af (by omega)]
    by_cases c0 : nth c i = 0
    ·rw [if_pos c0]
     have := hab.2.2 c0
     rw [dfa0 (show ¬ last < Nq (nth c i) by omega), Bool.false_and, Bool.false_and] at h3
     exact .inr ⟨_, rfl, by rw [if_neg (by simp [← h3])]⟩
    ·rw [if_neg c0, Af (by omega), Af (by omega), Ait, hw, hv]
     simp only [obs0]
     by_cases c1 : Nq (nth c i) ≤ last
     ·rw [if_pos c1]
      rw [dfa0 (show ¬ last < Nq (nth c i) by omega), Bool.false_and, Bool.false_and] at h3
      exact .inr ⟨_, rfl, by rw [if_neg (by simp [← h3])]⟩
     ·rw [if_neg c1]
      simp only [obs0]
      rw [Af (by omega), Af (by omega), Af (by unfold InI; omega)]
      rw [dtr0 (show last < Nq (nth c i) by omega), dtr0 hab.2.1, Bool.true_and, Bool.true_and] at h3
      exact .inl ⟨_, rfl, ⟨i + 1, rfl, hi, hab.1, h3⟩, by dsimp only; omega⟩
   ·have hna : ¬ Nq (nth c i) ≤ A := by
     unfold Nq
     split <;> omega
    rw [dfa0 hin, if_neg Bool.false_ne_true]
    rw [dfa0 hna, Bool.and_false, Bool.false_and] at h3
    exact .inr ⟨_, rfl, by rw [if_neg (by simp [← h3])]⟩
  ·rw [if_neg (by omega)]
   rw [List.drop_of_length_le (by omega)] at h3
   exact .inr ⟨_, rfl, by rw [← h3]; rfl⟩) (s := ((0 : Int), (0 : Int))) ⟨0, rfl, Nat.zero_le _, Int.le_refl _, rfl⟩
 rw [e, ht]
 cases Km A 0 c <;> rfl
def Lk (a : Nat) (cs : List (List Int)) (k : Nat) : List Nat := (List.range k).filter fun k => cs.all fun c => obB (Az 2 a k) c
theorem Adc (a : Nat) (cs : List (List Int)) (k : Nat) : Lk a cs (k + 1) = if (cs.all fun c => obB (Az 2 a k) c) = true then Lk a cs k ++ [k] else Lk a cs k := by
 unfold Lk
 rw [List.range_succ, List.filter_append]
 by_cases h : (cs.all fun c => obB (Az 2 a k) c) = true
 ·rw [if_pos h, List.filter_cons_of_pos (p := fun k => cs.all fun c => obB (Az 2 a k) c) h]; rfl
 ·rw [if_neg h, List.filter_cons_of_neg (p := fun k => cs.all fun c => obB (Az 2 a k) c) h]; simp
theorem Yd (a : Nat) (cs : List (List Int)) (k : Nat) : (Lk a cs k).length ≤ k := by
 unfold Lk
 exact Nat.le_trans (List.length_filter_le _ _) (by simp)
def Sb (a : Nat) (cs : List (List Int)) : SRelation := { Arity := (a : Int), Tuples := (Lk a cs (2 ^ a)).map (Az 2 a) }
def Aa4 (A : Int) (cs : List (List Int)) : SRelation × Bool := if 1 ≤ A ∧ A ≤ 3 ∧ cs.length ≤ 30 ∧ (cs.all (Km A 0)) = true then (Sb A.toNat cs, true) else ({ Arity := 0, Tuples := Ap (List Int) }, false)
def Ll (cs : List (List Int)) : Prop := cs.length ≤ 1048576 ∧ ∀ c ∈ cs, c.length ≤ 1048576 ∧ ∀ p ∈ c, InI p
section
variable {A : Int} {cs : List (List Int)} (hA : -1000 ≤ A ∧ A ≤ 1000) (hs : Ll cs)
include hA hs
theorem Anh (r1 : SRelation × Bool) : Al (Be A cs r1) 0 = some (if (cs.all (Km A 0)) = true then .inr () else .inl ()) := by
 have this := Fk (body := Be A cs r1) (fun i => (i : Int)) cs.length (fun i => Km A 0 (nth cs i) = false) () () (fun i hi hb => by
  obtain ⟨g1, g2⟩ := hs.2 _ (Aq hi)
  have := hs.1
  unfold Be
  rw [if_pos (by omega), Af (by omega), tna0, Aib hA g1 g2]
  simp only [obs0]
  rw [if_pos (by simpa using hb), Af (by unfold InI; omega)]; rfl) (fun i hi hb => by
  obtain ⟨g1, g2⟩ := hs.2 _ (Aq hi)
  unfold Be
  rw [if_pos (by omega), Af (by omega), tna0, Aib hA g1 g2]
  simp only [obs0]
  rw [if_neg (by simpa using hb)]) (by unfold Be; rw [if_neg (by omega)]) 0 (by omega)
 refine this.trans (congrArg some ?_)
 by_cases hx : (cs.all (Km A 0)) = true
 ·rw [if_neg (by rintro ⟨i, _, h1, h2⟩; rw [Xw.1 hx i h1] at h2; cases h2), if_pos hx]
 ·rw [if_pos (Agy hx), if_neg hx]
theorem An5 : Al (Bf A cs) 0 = some (if (cs.all (Km A 0)) = true then .inr () else .inl ()) := by
 have this := Fk (body := Bf A cs) (fun i => (i : Int)) cs.length (fun i => Km A 0 (nth cs i) = false) () () (fun i hi hb => by
  obtain ⟨g1, g2⟩ := hs.2 _ (Aq hi)
  have := hs.1
  unfold Bf
  rw [if_pos (by omega), Af (by omega), tna0, Afv hA g1 g2]
  simp only [obs0]
  rw [if_pos (by simpa using hb), Af (by unfold InI; omega)]; rfl) (fun i hi hb => by
  obtain ⟨g1, g2⟩ := hs.2 _ (Aq hi)
  unfold Bf
  rw [if_pos (by omega), Af (by omega), tna0, Afv hA g1 g2]
  simp only [obs0]
  rw [if_neg (by simpa using hb)]) (by unfold Bf; rw [if_neg (by omega)]) 0 (by omega)
 refine this.trans (congrArg some ?_)
 by_cases hx : (cs.all (Km A 0)) = true
 ·rw [if_neg (by rintro ⟨i, _, h1, h2⟩; rw [Xw.1 hx i h1] at h2; cases h2), if_pos hx]
 ·rw [if_pos (Agy hx), if_neg hx]
end
theorem Hx {α : Type} [Inhabited α] {cs : List α} (f : α → Bool) {j : Nat} (hj : j < cs.length) : (cs.take (j + 1)).all f = ((cs.take j).all f && f (nth cs j)) := by
 rw [E4 hj, List.all_append]
 simp
section
variable {a : Nat} {cs : List (List Int)} (h1 : 1 ≤ a) (h3 : a ≤ 3) (hl : cs.length ≤ 30) (hs : Ll cs) (hc : (cs.all (Km (a : Int) 0)) = true)
include h1 h3 hl hs hc
omit h1 h3 hl in
theorem A1n {c : List Int} (h : c ∈ cs) : Z2 a c ∧ c.length ≤ 1048576 := ⟨Apv (Int.le_refl _) (List.all_eq_true.1 hc c h), (hs.2 c h).1⟩
theorem Aux {r1 : SRelation × Bool} {k : Nat} (hr : nth r1.1.Tuples k = Az 2 a k) (x8 : SRelation) : Al (Bo cs r1 (k : Int) x8) (0, true) = some (cs.all fun c => obB (Az 2 a k) c) := by
 have key := Bk (body := Bo cs r1 (k : Int) x8) (fun j => ((j : Int), (cs.take j).all fun c => obB (Az 2 a k) c)) cs.length (cs.all fun c => obB (Az 2 a k) c) (fun j hj => by
  obtain ⟨g1, g2⟩ := A1n hs hc (Aq hj)
  unfold Bo
  dsimp only
  rw [if_pos (by omega), Af (by omega), tna0, tna0, hr, Hx _ hj]
  cases hb : (cs.take j).all fun c => obB (Az 2 a k) c with
  | true =>
    rw [if_pos rfl, S7 (a := a) (by omega) (E1 _ _ _) g2 g1]
    simp only [obs0]
    rw [Af (by unfold InI; omega), Bool.true_and]; rfl
  | false => rw [if_neg (by simp), Af (by unfold InI; omega)]; rfl) (by
  unfold Bo
  dsimp only
  rw [if_neg (by omega), List.take_of_length_le (by omega)])
 exact key
theorem Awg (k : Nat) (x8 : Int) (x7 : SRelation) (A : Int) : Al (B6 A cs x8 x7 (Az 2 a k)) (0, true) = some (cs.all fun c => obB (Az 2 a k) c) := by
 obtain ⟨t, e, ht⟩ := Do (body := B6 A cs x8 x7 (Az 2 a k)) (fun s => ∃ j : Nat, s = ((j : Int), (cs.take j).all fun c => obB (Az 2 a k) c) ∧ j ≤ cs.length) (fun s => cs.length - s.1.toNat) (fun t => t = cs.all fun c => obB (Az 2 a k) c) (by
  rintro s ⟨j, rfl, hj⟩
  unfold B6
  dsimp only
  by_cases hjl : j < cs.length
  ·obtain ⟨g1, g2⟩ := A1n hs hc (Aq hjl)
   rw [if_pos (by omega)]
   cases hb : (cs.take j).all fun c => obB (Az 2 a k) c with
   | true =>
     rw [if_pos rfl, Af (by omega), tna0, Abj (a := a) (by omega) (E1 _ _ _) g2 g1]
     simp only [obs0]
     rw [Af (by unfold InI; omega)]
     exact .inl ⟨_, rfl, ⟨j + 1, by rw [Hx _ hjl, hb, Bool.true_and]; rfl, hjl⟩, by dsimp only; omega⟩
   | false =>
     rw [if_neg (by simp), Af (by unfold InI; omega)]
     exact .inl ⟨_, rfl, ⟨j + 1, by rw [Hx _ hjl, hb, Bool.false_and]; rfl, hjl⟩, by dsimp only; omega⟩
  ·rw [if_neg (by omega), List.take_of_length_le (by omega)]
   exact .inr ⟨_, rfl, rfl⟩) (s := ((0 : Int), true)) ⟨0, rfl, Nat.zero_le _⟩
 rw [e, ht]
omit hl hs hc in
theorem Ae9 : ∀ i, i ≤ a → 2 ^ i ≤ 8 := fun i hi => Nat.le_trans (Nat.pow_le_pow_right (by omega) (show i ≤ 3 by omega)) (by decide)
theorem Au9 : Al (Bn cs ({ Arity := (a : Int), Tuples := (List.range (2 ^ a)).map (Az 2 a) }, true)) (0, { Arity := (a : Int), Tuples := Ap (List Int) }) = some (Sb a cs) := by
 have hL := Bd
 have hp := Ae9 h1 h3 a (Nat.le_refl _)
 have key := Bk (body := Bn cs ({ Arity := (a : Int), Tuples := (List.range (2 ^ a)).map (Az 2 a) }, true)) (fun k => ((k : Int), ({ Arity := (a : Int), Tuples := (Lk a cs k).map (Az 2 a) } : SRelation))) (2 ^ a) (Sb a cs) (fun k hk => by
  have hlen := Yd a cs k
  have hn : nth ((List.range (2 ^ a)).map (Az 2 a)) k = Az 2 a k := by rw [Yg _ (by simpa using hk), Aum hk]
  unfold Bn
  dsimp only
  have hlr : ((List.range (2 ^ a)).map (Az 2 a)).length = 2 ^ a := by simp
  rw [if_pos (by rw [hlr]; omega), Af (by rw [hlr]; omega), Aux h1 h3 hl hs hc (by dsimp only; exact hn)]
  simp only [obs0]
  rw [Adc]
  by_cases hb : (cs.all fun c => obB (Az 2 a k) c) = true
  ·rw [if_pos hb, if_pos hb, Af (by simp only [List.length_cons, List.length_nil, List.length_map]; omega), Af (by unfold InI; omega), tna0, hn, List.map_append]; rfl
  ·rw [if_neg hb, if_neg hb, Af (by unfold InI; omega)]; rfl) (by
  unfold Bn
  dsimp only
  have hlr : ((List.range (2 ^ a)).map (Az 2 a)).length = 2 ^ a := by simp
  rw [if_neg (by rw [hlr]; omega)]
  rfl)
 exact key
theorem Av7 : Al (Bm (a : Int) cs) (0, { Arity := (a : Int), Tuples := Ap (List Int) }) = some (Sb a cs) := by
 have hL := Bd
 have hp := Ae9 h1 h3
 have hpa := hp a (Nat.le_refl _)
 have key := Bk (body := Bm (a : Int) cs) (fun k => ((k : Int), ({ Arity := (a : Int), Tuples := (Lk a cs k).map (Az 2 a) } : SRelation))) (2 ^ a) (Sb a cs) (fun k hk => by
  have hlen := Yd a cs k
  unfold Bm
  dsimp only
  rw [show ((2 : Int)) = ((2 : Nat) : Int) from rfl, L9 8 (by omega) hp (by omega)]
  simp only [obs0]
  rw [if_pos (by omega), Un (by omega) (by omega) (by omega) (by omega)]
  simp only [obs0]
  rw [Awg h1 h3 hl hs hc]
  simp only [obs0]
  rw [Adc]
  by_cases hb : (cs.all fun c => obB (Az 2 a k) c) = true
  ·rw [if_pos hb, if_pos hb, Af (by simp only [List.length_cons, List.length_nil, List.length_map]; omega), Af (by unfold InI; omega), List.map_append]; rfl
  ·rw [if_neg hb, if_neg hb, Af (by unfold InI; omega)]; rfl) (by
  unfold Bm
  dsimp only
  rw [show ((2 : Int)) = ((2 : Nat) : Int) from rfl, L9 8 (by omega) hp (by omega)]
  simp only [obs0]
  rw [if_neg (by omega)]
  rfl)
 exact key
end
theorem Aj2 {a : Nat} (h1 : 1 ≤ a) (h3 : a ≤ 3) : C8 2 (a : Int) = some ({ Arity := (a : Int), Tuples := (List.range (2 ^ a)).map (Az 2 a) }, true) := by
 have hL := Bd
 have hp := Ae9 h1 h3
 have hpa := hp a (Nat.le_refl _)
 unfold C8 Gq
 have key := Bk (body := Cd 2 (a : Int)) (fun i => ((i : Int), ({ Arity := (a : Int), Tuples := (List.range i).map (Az 2 a) } : SRelation))) (2 ^ a) ({ Arity := (a : Int), Tuples := (List.range (2 ^ a)).map (Az 2 a) } : SRelation) (fun i hi => by
  unfold Cd
  dsimp only
  rw [show ((2 : Int)) = ((2 : Nat) : Int) from rfl, N7 8 (by omega) hp (by omega)]
  simp only [obs0]
  rw [if_pos (by omega), Amm (by omega) (by omega) (by omega) (by omega)]
  simp only [obs0]
  rw [Af (by simp; omega), Af (by unfold InI; omega), List.range_succ, List.map_append]
  rfl) (by
  unfold Cd
  dsimp only
  rw [show ((2 : Int)) = ((2 : Nat) : Int) from rfl, N7 8 (by omega) hp (by omega)]
  simp only [obs0]
  rw [if_neg (by omega)])
 have key' : Al (Cd 2 (a : Int)) (0, { Arity := (a : Int), Tuples := Ap (List Int) }) = _ := key
 rw [if_pos (by decide), dtr0 (by decide)]
 simp only [obs0, if_true]
 rw [if_neg (by omega), if_neg (by omega)]
 simp only [obs0]
 rw [key']; rfl
theorem Axb {A : Int} (h : A < 1 ∨ A > 3) : ∃ r, C8 2 A = some (r, false) := by
 unfold C8 Gq
 rw [if_pos (by decide), dtr0 (by decide)]
 simp only [obs0, if_true]
 by_cases h1 : A < 1
 ·rw [if_pos h1]; exact ⟨_, rfl⟩
 ·rw [if_neg h1, if_pos (by omega)]; exact ⟨_, rfl⟩
section
variable {A : Int} {cs : List (List Int)} (hA : -1000 ≤ A ∧ A ≤ 1000) (hs : Ll cs)
include hA hs
theorem Qn : Bp A cs = some (Aa4 A cs) := by
 unfold Bp Aa4
 by_cases h13 : 1 ≤ A ∧ A ≤ 3
 ·obtain ⟨a, rfl⟩ := Int.eq_ofNat_of_zero_le (show 0 ≤ A by omega)
  rw [Aj2 (by omega) (by omega)]
  simp only [obs0, if_true]
  by_cases h30 : cs.length ≤ 30
  ·rw [if_neg (by omega)]
   simp only [obs0]
   rw [Anh hA hs]
   simp only [obs0]
   by_cases hc : (cs.all (Km (a : Int) 0)) = true
   ·rw [if_pos hc, if_pos ⟨h13.1, h13.2, h30, hc⟩, tna0, Au9 (by omega) (by omega) h30 hs hc]
    rfl
   ·rw [if_neg hc, if_neg (fun hh => hc hh.2.2.2)]
  ·rw [if_pos (by omega), if_neg (fun hh => h30 hh.2.2.1)]
   rfl
 ·obtain ⟨r, e⟩ := Axb (A := A) (by omega)
  rw [e]
  simp only [obs0, Bool.false_eq_true, if_false]
  rw [if_neg (fun hh => h13 ⟨hh.1, hh.2.1⟩)]
theorem Agm : Df A cs = some (Aa4 A cs) := by
 unfold Df Aa4
 rw [Aab]
 simp only [obs0]
 by_cases h13 : 1 ≤ A ∧ A ≤ 3
 ·obtain ⟨a, rfl⟩ := Int.eq_ofNat_of_zero_le (show 0 ≤ A by omega)
  rw [dtr0 h13, if_pos rfl]
  by_cases h30 : cs.length ≤ 30
  ·rw [if_neg (by omega)]
   simp only [obs0]
   rw [An5 hA hs]
   simp only [obs0]
   by_cases hc : (cs.all (Km (a : Int) 0)) = true
   ·rw [if_pos hc, if_pos ⟨h13.1, h13.2, h30, hc⟩, tna0, Av7 (by omega) (by omega) h30 hs hc]
    rfl
   ·rw [if_neg hc, if_neg (fun hh => hc hh.2.2.2)]
  ·rw [if_pos (by omega), if_neg (fun hh => h30 hh.2.2.1)]
   rfl
 ·rw [dfa0 h13, if_neg Bool.false_ne_true, if_neg (fun hh => h13 ⟨hh.1, hh.2.1⟩)]
  rfl
end
theorem Ar5 {a : Nat} {cs ds : List (List Int)} (h : ∀ c ∈ ds, c ∈ cs) : (Sb a cs).Tuples.length ≤ (Sb a ds).Tuples.length := by
 unfold Sb Lk
 simp only [List.length_map, ← List.countP_eq_length_filter]
 refine List.countP_mono_left fun k _ hk => ?_
 rw [List.all_eq_true] at hk ⊢
 exact fun c hc => hk c (h c hc)
theorem Aqo (a : Nat) (h3 : a ≤ 3) (cs : List (List Int)) : (Sb a cs).Tuples.length ≤ 8 ∧ ∀ t ∈ (Sb a cs).Tuples, t.length ≤ 3 := by
 unfold Sb
 refine ⟨?_, fun t ht => ?_⟩
 ·dsimp only
  rw [List.length_map]
  exact Nat.le_trans (Yd _ _ _) (Nat.le_trans (Nat.pow_le_pow_right (by omega) h3) (by decide))
 ·obtain ⟨k, _, rfl⟩ := List.mem_map.1 ht
  rw [E1]; exact h3
section
variable {a : Nat} (h1 : 1 ≤ a) (h3 : a ≤ 3)
include h1 h3
theorem A3a {c : List Int} (hc : c ∈ Cn a) : Km (a : Int) 0 c = true := by
 have key : (Cn a).all (Km (a : Int) 0) = true := by
  rcases (show a = 1 ∨ a = 2 ∨ a = 3 by omega) with rfl | rfl | rfl
  ·decide +kernel
  ·decide +kernel
  ·decide +kernel
 exact List.all_eq_true.1 key c hc
theorem Awa {cs : List (List Int)} (hl : cs.length ≤ 1048576) (hc : ∀ c ∈ cs, c ∈ Cn a) : Ll cs := by
 refine ⟨hl, fun c h => ?_⟩
 obtain ⟨q1, q2⟩ := Vu h1 h3 (hc c h)
 refine ⟨by omega, fun p hp => ?_⟩
 have := q1 p hp
 unfold InI
 omega
theorem Aq8 {M : Nat} (hM : M < 2 ^ 2 ^ a) : Aa4 (a : Int) (F9 a (K8 a M)) = ({ Arity := (a : Int), Tuples := K8 a M }, true) := by
 have hmem : ∀ c ∈ F9 a (K8 a M), c ∈ Cn a := fun c hc => (List.mem_filter.1 hc).1
 unfold Aa4
 rw [if_pos ⟨by omega, by omega, Ash h1 h3 hM, List.all_eq_true.2 fun c hc => A3a h1 h3 (hmem c hc)⟩, tna0]
 unfold Sb Lk
 rw [Asx h1 h3 hM]
 rfl
end
theorem Amc {c : List Int} {x : Nat} (hx : x < c.length) : Me (c.take (x + 1)) = Me (c.take x) + if nth c x > 0 then 1 else 0 := by
 unfold Me
 rw [E4 hx, List.filter_append, List.length_append]
 by_cases h : nth c x > 0
 ·rw [if_pos h, List.filter_cons_of_pos (by simpa using h)]; rfl
 ·rw [if_neg h, List.filter_cons_of_neg (by simpa using h)]; rfl
theorem Aca (c : List Int) : Me c ≤ c.length := List.length_filter_le _ _
theorem Aq3 {b0 b1 b2 v : Bool} : (if b0 = true then some ([b0, b1, b2].set (Int.toNat 0) v) else some ([b0, b1, b2].set (Int.toNat 0) false)) = some [b0 && v, b1, b2] := by cases b0 <;> rfl
section
variable {cs : List (List Int)} (hl : cs.length ≤ 1048576) (hr : ∀ c ∈ cs, c.length ≤ 1000)
include hl hr
omit hl in
theorem A0i {i : Nat} (hi : i < cs.length) (x4 : List Bool) : Al (Cp cs (i : Int) x4) (0, 0) = some ((Me (nth cs i) : Nat) : Int) := by
 have hc := hr _ (Aq hi)
 have key := Bk (body := Cp cs (i : Int) x4) (fun x => ((x : Int), ((Me ((nth cs i).take x) : Nat) : Int))) (nth cs i).length ((Me (nth cs i) : Nat) : Int) (fun x hx => by
  have hp := Aca ((nth cs i).take x)
  rw [List.length_take] at hp
  have ht := Amc hx
  unfold Cp
  dsimp only
  rw [tna0, if_pos (by omega), Af (by omega), tna0]
  by_cases h : nth (nth cs i) x > 0
  ·rw [if_pos h] at ht
   rw [if_pos h, Af (by unfold InI; omega), Af (by unfold InI; omega), ht]; rfl
  ·rw [if_neg h] at ht
   rw [if_neg h, Af (by unfold InI; omega), ht]; rfl) (by
  unfold Cp
  dsimp only
  rw [tna0, if_neg (by omega), List.take_of_length_le (by omega)])
 exact key
omit hl in
theorem Axc {i : Nat} (hi : i < cs.length) (x4 : List Bool) : Al (Cr cs (i : Int) x4) (0, 0) = some ((Me (nth cs i) : Nat) : Int) := by
 have hc := hr _ (Aq hi)
 have key := Bk (body := Cr cs (i : Int) x4) (fun x => ((x : Int), ((Me ((nth cs i).take x) : Nat) : Int))) (nth cs i).length ((Me (nth cs i) : Nat) : Int) (fun x hx => by
  have hp := Aca ((nth cs i).take x)
  rw [List.length_take] at hp
  have ht := Amc hx
  unfold Cr
  dsimp only
  rw [Af (by omega), tna0, if_pos (by omega), Af (by omega), Af (by omega), tna0]
  by_cases h : nth (nth cs i) x > 0
  ·rw [if_pos h] at ht
   rw [if_pos h, Af (by unfold InI; omega), Af (by unfold InI; omega), ht]; rfl
  ·rw [if_neg h] at ht
   rw [if_neg h, Af (by unfold InI; omega), ht]; rfl) (by
  unfold Cr
  dsimp only
  rw [Af (by omega), tna0, if_neg (by omega), List.take_of_length_le (by omega)])
 exact key
omit hl hr in
theorem Amp {i : Nat} (hi : i < cs.length) : Rx (cs.take (i + 1)) = [((cs.take i).all fun c => decide (Me c ≤ 1)) && decide (((Me (nth cs i) : Nat) : Int) ≤ 1), ((cs.take i).all fun c => decide (c.length - Me c ≤ 1)) && decide (((nth cs i).length : Int) - ((Me (nth cs i) : Nat) : Int) ≤ 1), ((cs.take i).all fun c => decide (c.length ≤ 2)) && decide (((nth cs i).length : Int) ≤ 2)] := by
 have hp := Aca (nth cs i)
 have e1 : decide (((Me (nth cs i) : Nat) : Int) ≤ 1) = decide (Me (nth cs i) ≤ 1) := decide_eq_decide.2 (by omega)
 have e2 : decide (((nth cs i).length : Int) - ((Me (nth cs i) : Nat) : Int) ≤ 1) = decide ((nth cs i).length - Me (nth cs i) ≤ 1) := decide_eq_decide.2 (by omega)
 have e3 : decide (((nth cs i).length : Int) ≤ 2) = decide ((nth cs i).length ≤ 2) := decide_eq_decide.2 (by omega)
 rw [e1, e2, e3]
 unfold Rx
 rw [Hx _ hi, Hx _ hi, Hx _ hi]
theorem A2m : Al (Ck cs) (0, [true, true, true]) = some (Rx cs) := by
 have key := Bk (body := Ck cs) (fun i => ((i : Int), Rx (cs.take i))) cs.length (Rx cs) (fun i hi => by
  have hc := hr _ (Aq hi)
  have hp := Aca (nth cs i)
  rw [Amp hi]
  unfold Ck Rx
  dsimp only
  generalize (cs.take i).all (fun c => decide (Me c ≤ 1)) = b0
  generalize (cs.take i).all (fun c => decide (c.length - Me c ≤ 1)) = b1
  generalize (cs.take i).all (fun c => decide (c.length ≤ 2)) = b2
  rw [if_pos (by omega), Af (by omega), A0i hr hi, tna0]
  simp only [obs0]
  rw [Af (by simp), show nth [b0, b1, b2] (Int.toNat 0) = b0 from rfl, Af (by simp), Af (by simp), Aq3]
  simp only [obs0]
  rw [Af (by simp), show nth [b0 && decide (((Me (nth cs i) : Nat) : Int) ≤ 1), b1, b2] (Int.toNat 1) = b1 from rfl]
  generalize (b0 && decide (((Me (nth cs i) : Nat) : Int) ≤ 1)) = c0
  have s3 : ∀ v : Bool, (ask ((0 : Int) ≤ 2 ∧ (2 : Int) < (([c0, v, b2].length : Nat) : Int)) <|
    if nth [c0, v, b2] (Int.toNat 2) = true then
     ask ((0 : Int) ≤ 2 ∧ (2 : Int) < (([c0, v, b2].length : Nat) : Int)) <| ask (InI ((i : Int) + 1)) <| (some (.inl ((i : Int) + 1, [c0, v, b2].set (Int.toNat 2) (decide (((nth cs i).length : Int) ≤ 2)))) : Option ((Int × List Bool) ⊕ List Bool))
    else
     ask ((0 : Int) ≤ 2 ∧ (2 : Int) < (([c0, v, b2].length : Nat) : Int)) <| ask (InI ((i : Int) + 1)) <| some (.inl ((i : Int) + 1, [c0, v, b2].set (Int.toNat 2) false))) = some (.inl (((i + 1 : Nat) : Int), [c0, v, b2 && decide (((nth cs i).length : Int) ≤ 2)])) := fun v => by
   repeat rw [Af (by first | omega | (unfold InI; omega) | simp)]
   rw [show nth [c0, v, b2] (Int.toNat 2) = b2 from rfl]
   cases b2 <;> rfl
  cases b1 with
  | true =>
    rw [if_pos rfl, Af (by unfold InI; omega), Af (by simp), Bool.true_and]
    simp only [obs0]
    exact s3 _
  | false =>
    rw [if_neg Bool.false_ne_true, Af (by simp), Bool.false_and]
    simp only [obs0]
    exact s3 _) (by
  unfold Ck
  dsimp only
  rw [if_neg (by omega), List.take_of_length_le (by omega)])
 exact key
theorem A05 : Al (Cq cs) (0, [true, true, true]) = some (Rx cs) := by
 have key := Bk (body := Cq cs) (fun i => ((i : Int), Rx (cs.take i))) cs.length (Rx cs) (fun i hi => by
  have hc := hr _ (Aq hi)
  have hp := Aca (nth cs i)
  rw [Amp hi]
  unfold Cq Rx
  dsimp only
  generalize (cs.take i).all (fun c => decide (Me c ≤ 1)) = b0
  generalize (cs.take i).all (fun c => decide (c.length - Me c ≤ 1)) = b1
  generalize (cs.take i).all (fun c => decide (c.length ≤ 2)) = b2
  rw [if_pos (by omega), Axc hr hi, tna0]
  simp only [obs0]
  rw [Af (by simp), show nth [b0, b1, b2] (Int.toNat 0) = b0 from rfl, Af (by simp), Af (by simp), Aq3]
  simp only [obs0]
  rw [Af (by simp), show nth [b0 && decide (((Me (nth cs i) : Nat) : Int) ≤ 1), b1, b2] (Int.toNat 1) = b1 from rfl]
  generalize (b0 && decide (((Me (nth cs i) : Nat) : Int) ≤ 1)) = c0
  have s3 : ∀ v : Bool, (ask ((0 : Int) ≤ 2 ∧ (2 : Int) < (([c0, v, b2].length : Nat) : Int)) <|
    if nth [c0, v, b2] (Int.toNat 2) = true then
     ask ((0 : Int) ≤ (i : Int) ∧ (i : Int) < (cs.length : Int)) <| ask ((0 : Int) ≤ 2 ∧ (2 : Int) < (([c0, v, b2].length : Nat) : Int)) <| ask (InI ((i : Int) + 1)) <| (some (.inl ((i : Int) + 1, [c0, v, b2].set (Int.toNat 2) (decide (((nth cs i).length : Int) ≤ 2)))) : Option ((Int × List Bool) ⊕ List Bool))
    else
     ask ((0 : Int) ≤ 2 ∧ (2 : Int) < (([c0, v, b2].length : Nat) : Int)) <| ask (InI ((i : Int) + 1)) <| some (.inl ((i : Int) + 1, [c0, v, b2].set (Int.toNat 2) false))) = some (.inl (((i + 1 : Nat) : Int), [c0, v, b2 && decide (((nth cs i).length : Int) ≤ 2)])) := fun v => by
   repeat rw [Af (by first | omega | (unfold InI; omega) | simp)]
   rw [show nth [c0, v, b2] (Int.toNat 2) = b2 from rfl]
   cases b2 <;> rfl
  cases b1 with
  | true =>
    rw [if_pos rfl, Af (by omega), Af (by unfold InI; omega), Af (by simp), Bool.true_and]
    simp only [obs0]
    exact s3 _
  | false =>
    rw [if_neg Bool.false_ne_true, Af (by simp), Bool.false_and]
    simp only [obs0]
    exact s3 _) (by
  unfold Cq
  dsimp only
  rw [if_neg (by omega), List.take_of_length_le (by omega)])
 exact key
end
end Go.Proofs.Ytjcekpmojnnmbaa.Ax
namespace Go.Proofs.Ytjcekpmojnnmbaa.Ax
open Go
def Cur (k : Nat) (c : Sl1Cur) : Prop := (∀ x ∈ c.code, 0 ≤ x ∧ x ≤ 255) ∧ c.code.length ≤ 65536 ∧ 0 ≤ c.at_ ∧ c.at_ ≤ k
theorem Cur.mono {k l : Nat} {c : Sl1Cur} (h : Cur k c) (hl : k ≤ l) : Cur l c := ⟨h.1, h.2.1, h.2.2.1, by have := h.2.2.2; omega⟩
theorem Ayo {n : Int} (h0 : 0 ≤ n) (h1 : n ≤ 255) : IntKind.u64.wrap n = n := by
 simp [IntKind.wrap, IntKind.bits, IntKind.signed]
 omega
theorem Amr {c : Sl1Cur} {k : Nat} (h : Cur k c) (hk : k ≤ 1000000000) : ∃ r d, Eo c = some (r, d) ∧ Cur (k + 1) d ∧ 0 ≤ r ∧ r ≤ 255 := by
 obtain ⟨h1, h2, h3, h4⟩ := h
 unfold Eo
 have fin : ∀ q : Int, 0 ≤ q → q ≤ 255 → ∃ r d, (ask (InI (c.at_ + 1)) <|
   if c.at_ + 1 ≤ (c.code.length : Int) then
    some (q, ({ code := c.code, at_ := c.at_ + 1, seed := IntKind.u64.wrap (IntKind.u64.wrap (IntKind.u64.wrap (c.seed * 6364136223846793005) + IntKind.u64.wrap q) + 550289) } : Sl1Cur))
   else some (IntKind.i64.wrap (IntKind.u64.wrap (((BitVec.ofInt IntKind.u64.bits ((IntKind.u64.wrap (IntKind.u64.wrap (IntKind.u64.wrap (c.seed * 6364136223846793005) + IntKind.u64.wrap q) + 550289)).fdiv (2 ^ min (Int.toNat 40) IntKind.u64.bits)) &&& BitVec.ofInt IntKind.u64.bits 255).toNat : Nat) : Int)),
    ({ code := c.code, at_ := c.at_ + 1, seed := IntKind.u64.wrap (IntKind.u64.wrap (IntKind.u64.wrap (c.seed * 6364136223846793005) + IntKind.u64.wrap q) + 550289) } : Sl1Cur))) = some (r, d) ∧ Cur (k + 1) d ∧ 0 ≤ r ∧ r ≤ 255 := by
  intro q hq0 hq1
  rw [Af (by unfold InI; omega)]
  split
  ·exact ⟨_, _, rfl, ⟨h1, h2, by show 0 ≤ c.at_ + 1; omega, by show c.at_ + 1 ≤ ((k + 1 : Nat) : Int); omega⟩, hq0, hq1⟩
  ·refine ⟨_, _, rfl, ⟨h1, h2, by show 0 ≤ c.at_ + 1; omega, by show c.at_ + 1 ≤ ((k + 1 : Nat) : Int); omega⟩, ?_⟩
   generalize BitVec.ofInt IntKind.u64.bits ((IntKind.u64.wrap (IntKind.u64.wrap (IntKind.u64.wrap (c.seed * 6364136223846793005) + IntKind.u64.wrap q) + 550289)).fdiv (2 ^ min (Int.toNat 40) IntKind.u64.bits)) = b
   have hb : (b &&& BitVec.ofInt IntKind.u64.bits 255).toNat ≤ 255 := by
    rw [BitVec.toNat_and]
    have : (BitVec.ofInt IntKind.u64.bits 255).toNat = 255 := by decide
    rw [this]
    exact Nat.and_le_right
   generalize (b &&& BitVec.ofInt IntKind.u64.bits 255).toNat = z at hb
   rw [Ayo (by omega) (by omega), Il (by omega) (by omega)]
   omega
 by_cases hc : c.at_ < (c.code.length : Int)
 ·rw [if_pos hc, Af ⟨h3, hc⟩]
  have hm := h1 _ (Aq (xs := c.code) (i := c.at_.toNat) (by omega))
  rw [Il (by omega) (by omega)]
  simp only [obs0]
  exact fin _ hm.1 hm.2
 ·rw [if_neg hc]
  simp only [obs0]
  exact fin 0 (by omega) (by omega)
theorem G3 {c : Sl1Cur} {k : Nat} (h : Cur k c) (hk : k ≤ 900000000) (n : Int) : ∃ r d, Bb c n = some (r, d) ∧ Cur (k + 2) d ∧ 0 ≤ r ∧ (r < n ∨ (n ≤ 1 ∧ r = 0)) := by
 unfold Bb
 by_cases h1 : n ≤ 1
 ·rw [if_pos h1]; exact ⟨0, c, rfl, h.mono (by omega), by omega, .inr ⟨h1, rfl⟩⟩
 ·rw [if_neg h1]
  obtain ⟨r, d, e, hd, a1, a2⟩ := Amr h (by omega)
  simp only [e, obs0]
  by_cases h2 : n > 200
  ·rw [if_pos h2, Af (by unfold InI; omega)]
   obtain ⟨r2, d2, e2, hd2, b1, b2⟩ := Amr hd (by omega)
   simp only [e2, obs0]
   rw [Af (by unfold InI; omega), Af (by omega)]
   refine ⟨_, _, rfl, hd2, Int.tmod_nonneg _ (by omega), .inl ?_⟩
   exact Int.tmod_lt_of_pos _ (by omega)
  ·rw [if_neg h2, Af (by omega)]
   refine ⟨_, _, rfl, hd.mono (by omega), Int.tmod_nonneg _ (by omega), .inl ?_⟩
   exact Int.tmod_lt_of_pos _ (by omega)
theorem Ahq {c : Sl1Cur} {k : Nat} (h : Cur k c) (hk : k ≤ 900000000) (n : Int) : ∃ b d, C5 c n = some (b, d) ∧ Cur (k + 2) d := by
 unfold C5
 obtain ⟨r, d, e, hd, _, _⟩ := G3 h hk n
 simp only [e, obs0]
 exact ⟨_, _, rfl, hd⟩
theorem Jf {c : Sl1Cur} {k : Nat} (h : Cur k c) (hk : k ≤ 900000000) (l : List Int) (h0 : 0 < l.length) : ∃ r d, Bj c l = some (r, d) ∧ Cur (k + 2) d ∧ r ∈ l := by
 unfold Bj
 obtain ⟨r, d, e, hd, a1, a2⟩ := G3 h hk (l.length : Int)
 simp only [e, obs0]
 rw [Af (by omega)]
 exact ⟨_, _, rfl, hd, Aq (by omega)⟩
open Classical
end Go.Proofs.Ytjcekpmojnnmbaa.Ax
namespace Go.Proofs.Ytjcekpmojnnmbaa.Ax
open Go Classical
def Ay1 (n r k : Nat) (S : Nat → Bool) : Prop := ∀ x ∈ Az n r k, S x.toNat = true
def A10 (a : SAlgebra) (i k : Nat) : Nat := (nth (nth a.Ops i).Table k).toNat
def A1m (a : SAlgebra) (i k : Nat) (S : Nat → Bool) : Prop := Ay1 a.Size.toNat (nth a.Ops i).Arity.toNat k S
def A0v (H : List Bool) : Nat := H.count true
section
variable {a : SAlgebra}
structure ReadyA (a : SAlgebra) (n : Nat) : Prop where
 good : Awo a
 sz : a.Size = (n : Int)
 pos : 0 < n
 le : n ≤ 8
theorem ReadyA.nat {n : Nat} (h : ReadyA a n) : a.Size.toNat = n := by have := h.sz; omega
theorem ReadyA.op {n : Nat} (h : ReadyA a n) {i : Nat} (hi : i < a.Ops.length) : ∃ r : Nat, (nth a.Ops i).Arity = (r : Int) ∧ r ≤ 3 ∧ (nth a.Ops i).Table.length = n ^ r ∧ Bl (nth a.Ops i).Table n ∧ (nth a.Ops i).Table.length ≤ 512 ∧ (∀ k S, A1m a i k S ↔ Ay1 n r k S) := by
 have := h.good.2.2.2 _ (Aq hi)
 rw [h.nat] at this
 obtain ⟨h1, h2, h3, h4⟩ := this
 refine ⟨(nth a.Ops i).Arity.toNat, by omega, by omega, h3, h4, ?_, fun k S => by unfold A1m; rw [h.nat]⟩
 rw [h3]; exact Am3 h.le (by omega)
theorem ReadyA.val {n : Nat} (h : ReadyA a n) {i k : Nat} (hi : i < a.Ops.length) (hk : k < (nth a.Ops i).Table.length) : nth (nth a.Ops i).Table k = (A10 a i k : Int) ∧ A10 a i k < n := by
 obtain ⟨r, _, _, _, h4, _⟩ := h.op hi
 have := h4 _ (Aq hk)
 unfold A10
 omega
structure Pass (n : Nat) (G : Nat → Bool) (c0 : Bool) (H0 : List Bool) (c : Bool) (H : List Bool) (done : (Nat → Bool) → Prop) : Prop where
 len : H.length = n
 more : ∀ z, nth H0 z = true → nth H z = true
 low : ∀ z, nth H z = true → G z = true
 up : c = true → c0 = true ∨ A0v H0 < A0v H
 no : c = false → c0 = false ∧ H = H0 ∧ done (nth H)
 mono : A0v H0 ≤ A0v H
end
end Go.Proofs.Ytjcekpmojnnmbaa.Ax
namespace Go.Proofs.Ytjcekpmojnnmbaa.Ax
open Go Classical
theorem Atf {code : List Int} (hc : ∀ x ∈ code, 0 ≤ x ∧ x ≤ 255) (hl : code.length ≤ 65536) : Cur 0 ({ code := code, at_ := 0, seed := 0 } : Sl1Cur) := ⟨hc, hl, Int.le_refl _, Int.le_refl _⟩
end Go.Proofs.Ytjcekpmojnnmbaa.Ax
namespace Go.Proofs.Ytjcekpmojnnmbaa.Ax
open Go Classical
section
variable {a : SAlgebra} {n : Nat}
variable (Inv : List Int → Prop) (hI : ∀ q, Inv q → okP n q)
include hI
end
section
variable {a : SAlgebra} {n : Nat}
end
end Go.Proofs.Ytjcekpmojnnmbaa.Ax
namespace Go.Proofs.Ytjcekpmojnnmbaa.Ax
open Go Classical
theorem Awy (a b : Int) : Jb a b = some (if a < b then a else b) := by
 unfold Jb; split <;> rfl
end Go.Proofs.Ytjcekpmojnnmbaa.Ax
namespace Go.Proofs.Ytjcekpmojnnmbaa.Ax
open Go Classical
section
variable {n : Nat} {r : SRelation}
end
end Go.Proofs.Ytjcekpmojnnmbaa.Ax
namespace Go.Proofs.Ytjcekpmojnnmbaa.Ax
open Go Classical
section
variable {n : Nat} {r : SRelation}
end
end Go.Proofs.Ytjcekpmojnnmbaa.Ax
namespace Go.Proofs.Ytjcekpmojnnmbaa.Ax
open Go Classical
section
variable {n : Nat} {r : SRelation}
end
end Go.Proofs.Ytjcekpmojnnmbaa.Ax
namespace Go.Proofs.Ytjcekpmojnnmbaa.Ax
open Go Classical
section
variable {n r : Nat} {f : SOp} {p : List Int}
end
section
variable {a : SAlgebra} {n : Nat} {p : List Int}
end
end Go.Proofs.Ytjcekpmojnnmbaa.Ax
namespace Go.Proofs.Ytjcekpmojnnmbaa.Ax
open Go Classical
section
variable {r : SRelation} (hl : r.Tuples.length ≤ 1048576) (hr : ∀ t ∈ r.Tuples, t.length ≤ 1048576)
include hl hr
end
section
variable {a : SAlgebra} {n : Nat} {p : List Int}
end
end Go.Proofs.Ytjcekpmojnnmbaa.Ax
namespace Go.Proofs.Ytjcekpmojnnmbaa.Ax
open Go Classical
theorem Aeo {c : Sl1Cur} {k : Nat} (h : Cur k c) (hk : k ≤ 600000000) {n : Int} (hn : n ≤ 9) : ∃ p d, Ch c n = some (p, d) ∧ Cur (k + 20) d ∧ p.length = n.toNat := by
 have hL := Bd
 unfold Ch
 obtain ⟨⟨p, d⟩, e, hp, hd⟩ := Do (body := Ct n) (fun s => ∃ i : Nat, s.1 = (i : Int) ∧ i ≤ n.toNat ∧ s.2.1.length = i ∧ Cur (k + 2 * i) s.2.2) (fun s => n.toNat - s.1.toNat) (fun t => t.1.length = n.toNat ∧ Cur (k + 20) t.2) (by
  rintro ⟨x, p, c⟩ ⟨i, rfl, g1, g2, g3⟩
  dsimp only at g2 g3
  unfold Ct
  dsimp only
  by_cases hi : (i : Int) < n
  ·obtain ⟨r, d, e, hd, r0, r1⟩ := G3 g3 (by omega) ((i : Int) + 1)
   rw [if_pos hi, Af (by unfold InI; omega), e]
   simp only [obs0]
   by_cases hr : r < (i : Int)
   ·rw [if_pos hr, Af (by omega), Af (by simp; omega), Af (by unfold InI; omega)]
    exact .inl ⟨_, rfl, ⟨i + 1, rfl, by omega, by simp; omega, hd.mono (by omega)⟩, by dsimp only; omega⟩
   ·rw [if_neg hr, Af (by simp; omega), Af (by unfold InI; omega)]
    exact .inl ⟨_, rfl, ⟨i + 1, rfl, by omega, by simp; omega, hd.mono (by omega)⟩, by dsimp only; omega⟩
  ·rw [if_neg hi]
   exact .inr ⟨_, rfl, by dsimp only; omega, g3.mono (by omega)⟩) (s := ((0 : Int), Ap Int, c)) ⟨0, rfl, Nat.zero_le _, rfl, h.mono (by omega)⟩
 rw [e]
 exact ⟨p, d, rfl, hd, hp⟩
theorem Am0 {T : List (List Int)} {t : List Int} {w : Nat} (hT : T.length ≤ 1000000) (hw : w ≤ 1000) (hr : ∀ r ∈ T, r.length = w) (ht : t.length = w) : ∃ (k : Nat) (b : Bool), Ff T t = some ((k : Int), b) ∧ k ≤ T.length := by
 have hL := Bd
 unfold Ff
 obtain ⟨k, e, k0, k1⟩ := Do (body := G5 T t) (fun s => 0 ≤ s.2 ∧ s.2 ≤ s.1 ∧ s.1 ≤ T.length) (fun s => (s.1 - s.2).toNat) (fun k => 0 ≤ k ∧ k ≤ T.length) (by
  rintro ⟨tz, fr⟩ ⟨g0, g1, g2⟩
  dsimp only at g0 g1 g2
  unfold G5
  dsimp only
  by_cases hlt : fr < tz
  ·have e2 : (fr + tz).tdiv 2 = (fr + tz) / 2 := Int.tdiv_eq_ediv_of_nonneg (by omega)
   rw [if_pos hlt, e2, Af (by unfold InI; omega), Af ⟨by decide, by unfold InI; omega⟩, Af (by omega)]
   obtain ⟨m, hm⟩ := Int.eq_ofNat_of_zero_le (show 0 ≤ (fr + tz) / 2 by omega)
   rw [hm, tna0]
   have hml : m < T.length := by omega
   have hrm := hr _ (Aq hml)
   have ec := Aet (a := nth T m) (b := t) (by omega) (by omega)
   rw [ec]
   simp only [obs0]
   by_cases c : On (nth T m) t
   ·rw [dtr0 c, if_pos rfl, Af (by unfold InI; omega)]
    exact .inl ⟨_, rfl, ⟨by dsimp only; omega, by dsimp only; omega, g2⟩, by dsimp only; omega⟩
   ·rw [dfa0 c, if_neg Bool.false_ne_true]
    exact .inl ⟨_, rfl, ⟨g0, by dsimp only; omega, by dsimp only; omega⟩, by dsimp only; omega⟩
  ·rw [if_neg hlt]
   exact .inr ⟨_, rfl, g0, by omega⟩) (s := ((T.length : Int), (0 : Int))) ⟨Int.le_refl _, by dsimp only; omega, Int.le_refl _⟩
 rw [e]
 simp only [obs0]
 obtain ⟨m, rfl⟩ := Int.eq_ofNat_of_zero_le k0
 by_cases hm : m < T.length
 ·have hrm := hr _ (Aq hm)
  rw [if_pos (by omega), Af (by omega), tna0, Azi (by omega)]
  exact ⟨m, _, rfl, by omega⟩
 ·rw [if_neg (by omega)]
  exact ⟨m, _, rfl, by omega⟩
theorem Ahf {T : List (List Int)} {t : List Int} {w : Nat} (hT : T.length ≤ 1000000) (hw : w ≤ 1000) (hr : ∀ r ∈ T, r.length = w) (ht : t.length = w) : ∃ M, Fc T t = some M ∧ M.length ≤ T.length + 1 ∧ ∀ r ∈ M, r.length = w := by
 have hLim := Bd
 obtain ⟨k, b, e, hk⟩ := Am0 hT hw hr ht
 unfold Fc
 rw [e]
 simp only [obs0]
 by_cases hb : b = true
 ·rw [if_pos hb]
  exact ⟨T, rfl, Nat.le_succ _, hr⟩
 ·rw [if_neg hb, Af (by omega), Af (by simp [Ap]; omega), Af (by simp [Ap]; omega), Af (by omega), Af (by simp [Ap]; omega)]
  refine ⟨_, rfl, by simp [Ap]; omega, fun r hr' => ?_⟩
  rcases List.mem_append.1 hr' with h | h
  ·rcases List.mem_append.1 h with h | h
   ·rcases List.mem_append.1 h with h | h
    ·simp [Ap] at h
    ·exact hr r (List.mem_of_mem_drop (List.mem_of_mem_take h))
   ·rw [List.mem_singleton.1 h]; exact ht
  ·exact hr r (List.mem_of_mem_drop (List.mem_of_mem_take h))
theorem Azr {n A : Nat} (h1 : 1 ≤ n) (h8 : n ≤ 8) (hA : A ≤ 3) : ∃ T, Dg (n : Int) (A : Int) = some { Arity := (A : Int), Tuples := T } ∧ T.length ≤ 512 ∧ ∀ t ∈ T, t.length = A := by
 have hLim := Bd
 have hp : ∀ i, i ≤ A → n ^ i ≤ 512 := fun i hi => Nat.le_trans (Nat.pow_le_pow_left h8 i) (Nat.le_trans (Nat.pow_le_pow_right (by omega) (show i ≤ 3 by omega)) (by decide))
 have hpA := hp A (Nat.le_refl _)
 unfold Dg
 have key := Bk (body := Bw (n : Int) (A : Int)) (fun i => ((i : Int), ({ Arity := (A : Int), Tuples := (List.range i).map (Az n A) } : SRelation))) (n ^ A) ({ Arity := (A : Int), Tuples := (List.range (n ^ A)).map (Az n A) } : SRelation) (fun i hi => by
  unfold Bw
  dsimp only
  rw [L9 512 (by omega) hp (by omega)]
  simp only [obs0]
  rw [if_pos (by omega), Un (by omega) (by omega) (by omega) (by omega)]
  simp only [obs0]
  rw [Af (by simp; omega), Af (by unfold InI; omega), List.range_succ, List.map_append]
  rfl) (by
  unfold Bw
  dsimp only
  rw [L9 512 (by omega) hp (by omega)]
  simp only [obs0]
  rw [if_neg (by omega)])
 have key' : Al (Bw (n : Int) (A : Int)) (0, { Arity := (A : Int), Tuples := Ap (List Int) }) = _ := key
 rw [key']
 refine ⟨_, rfl, by simp; omega, fun t ht => ?_⟩
 obtain ⟨i, _, rfl⟩ := List.mem_map.1 ht
 exact E1 _ _ _
def Wc (m : Nat) (r : SRelation) : Prop := r.Tuples.length ≤ m ∧ ∀ t ∈ r.Tuples, t.length ≤ 3
theorem Wc.mono {m l : Nat} {r : SRelation} (h : Wc m r) (hl : m ≤ l) : Wc l r := ⟨Nat.le_trans h.1 hl, h.2⟩
theorem Avk {p : List Int} (hp : p.length ≤ 9) : Wc 600 { Arity := 2, Tuples := Aqp p } := by
 have := Amb p (p.length ^ 2)
 have e : Uk p (p.length ^ 2) = Aqp p := rfl
 rw [e] at this
 have : p.length ^ 2 ≤ 81 := Nat.le_trans (Nat.pow_le_pow_left hp 2) (by decide)
 refine ⟨by show (Aqp p).length ≤ 600; omega, fun t ht => ?_⟩
 have ht : t ∈ Aqp p := ht
 unfold Aqp at ht
 obtain ⟨k, _, _, rfl⟩ := Aw2.1 ht
 rw [E1]; omega
theorem Zm {c : Sl1Cur} {k : Nat} (h : Cur k c) (hk : k ≤ 500000000) (n A : Int) : ∃ r d, Db c n A = some (r, d) ∧ Cur (k + 200) d ∧ Wc 601 r := by
 have hLim := Bd
 unfold Db Ny
 rw [Aab]
 simp only [obs0]
 by_cases hn : 1 ≤ n ∧ n ≤ 8
 ·rw [dtr0 (show (1 : Int) ≤ n ∧ n ≤ 8 from hn), if_pos rfl, Aab]
  simp only [obs0]
  by_cases hA : 1 ≤ A ∧ A ≤ 3
  ·rw [dtr0 hA, if_pos rfl]
   obtain ⟨N, rfl⟩ := Int.eq_ofNat_of_zero_le (show 0 ≤ n by omega)
   obtain ⟨w, rfl⟩ := Int.eq_ofNat_of_zero_le (show 0 ≤ A by omega)
   obtain ⟨m, d, e, hd, hm⟩ := Jf h (by omega) [0, 1, 2, 3, 4, 6, 9] (by simp)
   rw [e]
   simp only [obs0]
   simp only [List.mem_cons, List.not_mem_nil, or_false] at hm
   have inner : ∀ (x : Int) (q : SRelation) (c : Sl1Cur) (k : Nat), Cur k c → k ≤ 600000000 → ∃ t d, Al (Ci (N : Int) (w : Int) x q) (0, Ap Int, c) = some (t, d) ∧ t.length = w ∧ Cur (k + 6) d := by
    intro x q c k h hk
    obtain ⟨⟨t, d⟩, e, h1, h2⟩ := Do (body := Ci (N : Int) (w : Int) x q) (fun s => ∃ i : Nat, s.1 = (i : Int) ∧ i ≤ w ∧ s.2.1.length = i ∧ Cur (k + 2 * i) s.2.2) (fun s => w - s.1.toNat) (fun t => t.1.length = w ∧ Cur (k + 6) t.2) (by
     rintro ⟨y, t, c⟩ ⟨i, rfl, g1, g2, g3⟩
     dsimp only at g2 g3
     unfold Ci
     dsimp only
     by_cases hi : i < w
     ·obtain ⟨r, d, e, hd, _⟩ := G3 g3 (by omega) (N : Int)
      rw [if_pos (by omega), e]
      simp only [obs0]
      rw [Af (by simp; omega), Af (by unfold InI; omega)]
      exact .inl ⟨_, rfl, ⟨i + 1, rfl, hi, by simp; omega, hd.mono (by omega)⟩, by dsimp only; omega⟩
     ·rw [if_neg (by omega)]
      exact .inr ⟨_, rfl, by dsimp only; omega, g3.mono (by omega)⟩) (s := ((0 : Int), Ap Int, c)) ⟨0, rfl, Nat.zero_le _, rfl, h.mono (by omega)⟩
    exact ⟨t, d, e, h1, h2⟩
   obtain ⟨⟨q, d2⟩, e2, hq, hd2⟩ := Do (body := Dd (N : Int) (w : Int)) (fun s => ∃ i : Nat, s.1 = (i : Int) ∧ i ≤ 9 ∧ s.2.1.Tuples.length ≤ 9 - i ∧ (∀ t ∈ s.2.1.Tuples, t.length = w) ∧ Cur (k + 2 + 6 * (9 - i)) s.2.2) (fun s => s.1.toNat) (fun t => Wc 600 t.1 ∧ Cur (k + 60) t.2) (by
    rintro ⟨x, q, c⟩ ⟨i, rfl, g1, g2, g3, g4⟩
    dsimp only at g2 g3 g4
    unfold Dd
    dsimp only
    by_cases hi : (i : Int) > 0
    ·obtain ⟨t, d, e, ht, hd⟩ := inner (i : Int) q c _ g4 (by omega)
     obtain ⟨M, e', hM, hMr⟩ := Ahf (T := q.Tuples) (t := t) (w := w) (by omega) (by omega) g3 ht
     rw [if_pos hi, e]
     simp only [obs0]
     rw [e']
     simp only [obs0]
     rw [Af (by unfold InI; omega)]
     exact .inl ⟨_, rfl, ⟨i - 1, by dsimp only; omega, by omega, by dsimp only; omega, hMr, hd.mono (by omega)⟩, by dsimp only; omega⟩
    ·rw [if_neg hi]
     exact .inr ⟨_, rfl, ⟨by dsimp only; omega, fun t ht => by rw [g3 t ht]; omega⟩, g4.mono (by omega)⟩) (s := (m, { Arity := (w : Int), Tuples := Ap (List Int) }, d)) ⟨m.toNat, by dsimp only; omega, by omega, by simp [Ap], fun t ht => by simp [Ap] at ht, hd.mono (by omega)⟩
   rw [e2]
   simp only [obs0]
   dsimp only at hq hd2
   have s2 : ∃ r d, (if (w : Int) = 2 then
     (C5 d2 3).bind fun (r18, u19) =>
     if r18 = true then
      (Ch u19 (N : Int)).bind fun (r21, u22) =>
      (Da r21).bind fun r23 =>
      some (r23, u22)
     else
      some (q, u19)
     else
     some (q, d2) : Option (SRelation × Sl1Cur)) = some (r, d) ∧ Wc 600 r ∧ Cur (k + 90) d := by
    by_cases h2 : (w : Int) = 2
    ·rw [if_pos h2]
     obtain ⟨b, d3, e3, hd3⟩ := Ahq hd2 (by omega) 3
     rw [e3]
     simp only [obs0]
     by_cases hb : b = true
     ·rw [if_pos hb]
      obtain ⟨p, d4, e4, hd4, hp⟩ := Aeo hd3 (by omega) (n := (N : Int)) (by omega)
      rw [e4]
      simp only [obs0]
      rw [Aed (by omega)]
      exact ⟨_, _, rfl, Avk (by omega), hd4.mono (by omega)⟩
     ·rw [if_neg hb]
      exact ⟨_, _, rfl, hq, hd3.mono (by omega)⟩
    ·rw [if_neg h2]
     exact ⟨_, _, rfl, hq, hd2.mono (by omega)⟩
   obtain ⟨r3, d3, e3, hr3, hd3⟩ := s2
   rw [e3]
   simp only [obs0]
   have s4 : ∃ r d, ((C5 d3 12).bind fun (r25, u26) =>
        if r25 = true then
         (Dg (N : Int) (w : Int)).bind fun r28 =>
         some (r28, u26)
        else
         some (r3, u26) : Option (SRelation × Sl1Cur)) = some (r, d) ∧ Wc 600 r ∧ Cur (k + 100) d := by
    obtain ⟨b, d4, e4, hd4⟩ := Ahq hd3 (by omega) 12
    rw [e4]
    simp only [obs0]
    by_cases hb : b = true
    ·rw [if_pos hb]
     obtain ⟨T, eT, hT1, hT2⟩ := Azr (n := N) (A := w) (by omega) (by omega) (by omega)
     rw [eT]
     exact ⟨_, _, rfl, ⟨by dsimp only; omega, fun t ht => by rw [hT2 t ht]; omega⟩, hd4.mono (by omega)⟩
    ·rw [if_neg hb]
     exact ⟨_, _, rfl, hr3, hd4.mono (by omega)⟩
   obtain ⟨r4, d4, e4, hr4, hd4⟩ := s4
   rw [e4]
   simp only [obs0]
   obtain ⟨v, d5, e5, hd5, _⟩ := G3 hd4 (by omega) 40
   have hlen := hr4.1
   rw [e5]
   simp only [obs0]
   by_cases c0 : v = 0
   ·rw [if_pos c0]
    obtain ⟨u, d6, e6, hd6, _⟩ := Jf hd5 (by omega) [0, 4, -1] (by simp)
    rw [e6]
    exact ⟨_, _, rfl, hd6.mono (by omega), hr4.mono (by omega)⟩
   rw [if_neg c0]
   by_cases c1 : v = 1
   ·rw [if_pos c1, Af (by omega), Af (by simp; omega)]
    refine ⟨_, _, rfl, hd5.mono (by omega), by simp; omega, fun t ht => ?_⟩
    rcases List.mem_append.1 ht with h | h
    ·exact hr4.2 t h
    ·rw [List.mem_singleton.1 h, List.length_replicate]; omega
   rw [if_neg c1]
   by_cases c2 : v = 2
   ·rw [if_pos c2]
    by_cases h0 : (r4.Tuples.length : Int) > 0
    ·rw [if_pos h0]
     obtain ⟨u, d6, e6, hd6, _⟩ := Jf hd5 (by omega) [-1, (N : Int), 0] (by simp)
     rw [e6]
     simp only [obs0]
     rw [Af (by omega)]
     refine ⟨_, _, rfl, hd6.mono (by omega), by dsimp only; rw [List.length_set]; omega, fun t ht => ?_⟩
     rcases List.mem_or_eq_of_mem_set ht with h | h
     ·exact hr4.2 t h
     ·rw [h]; simp
    ·rw [if_neg h0]
     exact ⟨_, _, rfl, hd5.mono (by omega), hr4.mono (by omega)⟩
   ·rw [if_neg c2]
    exact ⟨_, _, rfl, hd5.mono (by omega), hr4.mono (by omega)⟩
  ·rw [dfa0 hA, if_neg Bool.false_ne_true]
   exact ⟨_, _, rfl, h.mono (by omega), by simp [Ap], fun t ht => by simp [Ap] at ht⟩
 ·rw [dfa0 (show ¬ ((1 : Int) ≤ n ∧ n ≤ 8) from hn), if_neg Bool.false_ne_true]
  exact ⟨_, _, rfl, h.mono (by omega), by simp [Ap], fun t ht => by simp [Ap] at ht⟩
end Go.Proofs.Ytjcekpmojnnmbaa.Ax
namespace Go.Proofs.Ytjcekpmojnnmbaa.Ax
open Go Classical
def apV (T : List (List Int)) (n w : Nat) (f : SOp) (r : Nat) : List Int := (List.range w).map fun j => nth f.Table (hT n r fun i => nth (nth T i) j).toNat
theorem Ahs {a : SAlgebra} {n r w i : Nat} (hsz : a.Size = n) (h8 : n ≤ 8) (hi : i < a.Ops.length) (_hil : a.Ops.length ≤ 1048576) (hf : OpQ n r (nth a.Ops i)) {T : List (List Int)} (hTr : T.length = r) (hrow : ∀ t ∈ T, t.length = w ∧ Bl t n) (hw : w ≤ 1000) :
  Ha a i T w = some (apV T n w (nth a.Ops i) r) ∧ Bl (apV T n w (nth a.Ops i) r) n := by
 have hL := Bd
 have hr3 := hf.le
 have hy : ∀ j, j < w → ∀ q, q < r → 0 ≤ nth (nth T q) j ∧ nth (nth T q) j < n := fun j hj q hq => by
  obtain ⟨a1, a2⟩ := hrow _ (Aq (show q < T.length by omega))
  exact a2 _ (Aq (by omega))
 constructor
 ·unfold Ha
  have key := Bk (body := Dv a i T w) (fun j => ((j : Int), (List.range j).map fun j => nth (nth a.Ops i).Table (hT n r fun q => nth (nth T q) j).toNat)) w (apV T n w (nth a.Ops i) r) (fun j hj => by
   obtain ⟨⟨d, d1, d2, _⟩, _⟩ := hf.at h8 (hy j hj)
   have l1 : ∀ b, Al (Er a i T w (j : Int) b) (0, 0) = some (hT n r fun q => nth (nth T q) j) := fun b => by
    refine Auf n r _ (fun q hq => ?_) fun q => by unfold Er; dsimp only; rw [if_neg (by omega)]
    obtain ⟨b1, b2⟩ := hrow _ (Aq (show q < T.length by omega))
    have b3 := hy j hj q hq
    obtain ⟨c, c1, _, c3⟩ := Adf (n := n) (r := q) (y := fun q => nth (nth T q) j) h8 (by omega) (fun q' hq' => hy j hj q' (by omega))
    have q5 : (c : Int) * (n : Int) = ((c * n : Nat) : Int) := by push_cast; rfl
    have q6 : c * n ≤ 512 * 8 := Nat.mul_le_mul (by omega) h8
    unfold Er
    dsimp only
    rw [if_pos (by omega), hsz, c1, q5, Af (by unfold InI; omega), Af (by omega), tna0, Af (by omega), tna0, Af (by unfold InI; omega), Af (by unfold InI; omega)]
    rfl
   unfold Dv
   dsimp only
   rw [if_pos (by omega), l1]
   simp only [obs0]
   rw [tna0, Af (by omega), d1, Af (by omega), Af (by simp; omega), Af (by unfold InI; omega), List.range_succ, List.map_append]
   simp only [List.map_cons, List.map_nil]
   rw [d1]
   rfl) (by
   unfold Dv
   dsimp only
   rw [if_neg (by omega)]
   rfl)
  have key' : Al (Dv a i T w) (0, Ap Int) = _ := key
  rw [key']; rfl
 ·intro v hv
  obtain ⟨j, hj, rfl⟩ := List.mem_map.1 hv
  exact (hf.at h8 (hy j (List.mem_range.1 hj))).2
theorem Aud (T : List (List Int)) (n w : Nat) (f : SOp) (r : Nat) : (apV T n w f r).length = w := by simp [apV]
theorem Aqc (N : Nat) (ys : List Int) : ∀ m, G6 N (ys ++ List.replicate m 0) = G6 N ys * ((N ^ m : Nat) : Int)
 | 0 => by simp
 | m + 1 => by
   rw [List.replicate_succ', ← List.append_assoc, Gz, Aqc N ys m, Int.add_zero, Int.mul_assoc, Nat.pow_succ]
   congr 1
theorem Amg (N : Nat) (ys : List Int) : ∀ m, G6 N (ys ++ List.replicate m ((N : Int) - 1)) + 1 = (G6 N ys + 1) * ((N ^ m : Nat) : Int)
 | 0 => by simp
 | m + 1 => by
   have := Amg N ys m
   rw [List.replicate_succ', ← List.append_assoc, Gz]
   have e : G6 N (ys ++ List.replicate m ((N : Int) - 1)) * (N : Int) + ((N : Int) - 1) + 1 = (G6 N (ys ++ List.replicate m ((N : Int) - 1)) + 1) * (N : Int) := by
    rw [Int.add_mul, Int.one_mul]; omega
   rw [e, this, Int.mul_assoc, Nat.pow_succ]
   congr 1
theorem Avj {xs : List Int} {r N : Nat} (hl : xs.length = r) (hr : r ≤ 100) (hN : 1 ≤ N) (hN2 : N ≤ 1000000) (hx : Bl xs N) : ∃ ys b, H4 xs N = some (ys, b) ∧ ys.length = r ∧ Bl ys N ∧ (b = true → G6 N ys = G6 N xs + 1) := by
 have hL := Bd
 unfold H4
 rw [Am9 (by omega)]
 simp only [obs0]
 rw [Af (by unfold InI; omega)]
 obtain ⟨t, e, ht⟩ := Do (body := G7 N) (fun s => ∃ j : Nat, s = ((j : Int) - 1, xs.take j ++ List.replicate (r - j) 0) ∧ j ≤ r ∧ ∀ q, j ≤ q → q < r → nth xs q = (N : Int) - 1) (fun s => (s.1 + 1).toNat) (fun t => match t with
  | .inl ys => ys.length = r ∧ Bl ys N ∧ G6 N ys = G6 N xs + 1
  | .inr ys => ys.length = r ∧ Bl ys N) (by
  rintro s ⟨j, rfl, hj, hq⟩
  unfold G7
  dsimp only
  have hlen : (xs.take j ++ List.replicate (r - j) 0).length = r := by simp; omega
  by_cases h0 : 0 < j
  ·obtain ⟨i, rfl⟩ : ∃ i, j = i + 1 := ⟨j - 1, by omega⟩
   have hv : nth (xs.take (i + 1) ++ List.replicate (r - (i + 1)) 0) i = nth xs i := by
    rw [Wi (by simp; omega), E4 (by omega)]
    have := Ai0 (xs := xs.take i) (y := nth xs i)
    rwa [List.length_take, Nat.min_eq_left (by omega)] at this
   have hxi := hx _ (Aq (show i < xs.length by omega))
   have hset : ∀ v : Int, (xs.take (i + 1) ++ List.replicate (r - (i + 1)) 0).set i v = xs.take i ++ [v] ++ List.replicate (r - (i + 1)) 0 := fun v => by
    rw [E4 (by omega), List.set_append_left _ _ (by simp; omega), List.set_append_right _ _ (by simp; omega)]
    simp [List.length_take, Nat.min_eq_left (show i ≤ xs.length by omega)]
   have htake : Bl (xs.take i) N := fun z hz => hx z (List.mem_of_mem_take hz)
   rw [show (((i + 1 : Nat) : Int) - 1) = (i : Int) by omega, if_pos (by omega), Af (by omega), Af (by unfold InI; omega), tna0, hv]
   by_cases hlt : nth xs i < (N : Int) - 1
   ·rw [if_pos hlt, Af (by omega), Af (by unfold InI; omega), Af (by omega), hset]
    refine .inr ⟨_, rfl, by simp; omega, ?_, ?_⟩
    ·intro z hz
     simp only [List.mem_append, List.mem_singleton, List.mem_replicate] at hz
     rcases hz with (hz | hz) | hz
     ·exact htake z hz
     ·omega
     ·omega
    ·have e1 : xs = xs.take i ++ [nth xs i] ++ List.replicate (r - (i + 1)) ((N : Int) - 1) := by
      rw [← E4 (by omega)]
      refine Yp (by simp; omega) fun q hq' => ?_
      by_cases hqi : q < i + 1
      ·rw [Wi (by simp; omega), Ez hq', Ez (by simp; omega), List.getElem_take]
      ·rw [hq q (by omega) (by omega)]
       rw [Ez (by simp; omega), List.getElem_append_right (by simp; omega)]
       simp
     have e2 := Amg N (xs.take i ++ [nth xs i]) (r - (i + 1))
     rw [← e1] at e2
     rw [e2, Aqc, Gz, Gz, Int.add_assoc]
   ·rw [if_neg hlt, Af (by omega), Af (by unfold InI; omega), hset]
    refine .inl ⟨_, rfl, ⟨i, ?_, by omega, fun q h1 h2 => ?_⟩, by dsimp only; omega⟩
    ·rw [show r - i = (r - (i + 1)) + 1 by omega, List.replicate_succ]
     simp
    ·by_cases e : q = i
     ·subst e; omega
     ·exact hq q (by omega) h2
  ·have : j = 0 := by omega
   subst this
   rw [if_neg (by omega)]
   refine .inr ⟨_, rfl, hlen, fun z hz => ?_⟩
   simp only [List.take_zero, List.nil_append, List.mem_replicate] at hz
   omega) (s := ((xs.length : Int) - 1, xs)) ⟨r, by rw [hl, List.take_of_length_le (by omega)]; simp, Nat.le_refl _, fun q h1 h2 => by omega⟩
 rw [e]
 cases t with
 | inl ys => exact ⟨ys, true, rfl, ht.1, ht.2.1, fun _ => ht.2.2⟩
 | inr ys => exact ⟨ys, false, rfl, ht.1, ht.2, fun h => absurd h (by simp)⟩
theorem Are {line : List (List Int)} {xs : List Int} (hl : xs.length ≤ 1048576) (hx : Bl xs line.length) : Ht line xs = some (xs.map fun i => nth line i.toNat, line) := by
 have hL := Bd
 unfold Ht
 have key := Bk (body := Dl line xs) (fun i => ((i : Int), (xs.take i).map fun i => nth line i.toNat)) xs.length (xs.map fun i => nth line i.toNat) (fun i hi => by
  have := hx _ (Aq hi)
  unfold Dl
  dsimp only
  rw [if_pos (by omega), Af (by omega), tna0, Af (by omega), Af (by simp; omega), Af (by unfold InI; omega), E4 hi, List.map_append]
  rfl) (by
  unfold Dl
  dsimp only
  rw [if_neg (by omega), List.take_of_length_le (by omega)])
 have key' : Al (Dl line xs) (0, Ap (List Int)) = _ := key
 rw [key']; rfl
theorem Awj {a : SAlgebra} (hl : a.Ops.length ≤ 1048576) : ∃ m : Int, J8 a = some m ∧ 40 ≤ m ∧ m ≤ 300 := by
 unfold J8
 obtain ⟨t, e, _⟩ := Do (body := Hc a) (fun s => ∃ i : Nat, s.1 = (i : Int) ∧ i ≤ a.Ops.length) (fun s => a.Ops.length - s.1.toNat) (fun _ => True) (by
  rintro ⟨x, m⟩ ⟨i, rfl, hi⟩
  unfold Hc
  dsimp only
  by_cases h : i < a.Ops.length
  ·rw [if_pos (by omega), Af (by omega), Ait]
   simp only [obs0]
   rw [Af (by unfold InI; omega)]
   exact .inl ⟨_, rfl, ⟨i + 1, rfl, h⟩, by dsimp only; omega⟩
  ·rw [if_neg (by omega)]
   exact .inr ⟨_, rfl, trivial⟩) (s := ((0 : Int), (0 : Int))) ⟨0, rfl, Nat.zero_le _⟩
 rw [e]
 simp only [obs0]
 by_cases h3 : t = 3
 ·rw [if_pos h3]; exact ⟨_, rfl, by decide, by decide⟩
 rw [if_neg h3]
 by_cases h2 : t = 2
 ·rw [if_pos h2]; exact ⟨_, rfl, by decide, by decide⟩
 rw [if_neg h2]; exact ⟨_, rfl, by decide, by decide⟩
structure ClQ (n w : Nat) (line out : List (List Int)) : Prop where
 row : ∀ t ∈ line, t.length = w ∧ Bl t n
 orow : ∀ t ∈ out, t.length = w
 le : out.length ≤ line.length
 most : line.length ≤ 1200
theorem ClQ.add {n w : Nat} {line out : List (List Int)} (h : ClQ n w line out) (hw : w ≤ 1000) {t : List Int} (ht : t.length = w) (hti : Bl t n) (hlt : line.length < 1200) :
  ∃ k b, Ff out t = some (k, b) ∧ ∃ M, Fc out t = some M ∧ ClQ n w (line ++ [t]) M := by
 obtain ⟨k, b, e, _⟩ := Am0 (T := out) (t := t) (w := w) (by have := h.le; have := h.most; omega) hw h.orow ht
 obtain ⟨M, e2, h1, h2⟩ := Ahf (T := out) (t := t) (w := w) (by have := h.le; have := h.most; omega) hw h.orow ht
 refine ⟨_, b, e, M, e2, fun s hs => ?_, h2, ?_, ?_⟩
 ·rcases List.mem_append.1 hs with hs | hs
  ·exact h.row s hs
  ·rw [List.mem_singleton.1 hs]; exact ⟨ht, hti⟩
 ·have := h.le
  rw [List.length_append]; simp only [List.length_cons, List.length_nil]; omega
 ·rw [List.length_append]; simp only [List.length_cons, List.length_nil]; omega
section
variable {a : SAlgebra} {n w : Nat} (hsz : a.Size = n) (h8 : n ≤ 8) (hol : a.Ops.length ≤ 100) (hops : ∀ i, i < a.Ops.length → ∃ r, OpQ n r (nth a.Ops i)) (hw : w ≤ 1000)
include hsz h8 hol hops hw
omit hops in
theorem A2q {m : Int} (hm : m ≤ 300) {x i : Nat} (hi : i < a.Ops.length) {r : Nat} (hf : OpQ n r (nth a.Ops i)) {line out : List (List Int)} (hx : x < line.length) (h : ClQ n w line out) (b : Bool) :
  ∃ L O, Al (Ek a w m x i) (b, List.replicate r 0, line, out) = some (L, O) ∧ ClQ n w L O ∧ x < L.length := by
 have hLm := Bd
 have hr3 := hf.le
 have hx0 := h.most
 obtain ⟨t, e, ht⟩ := Do (body := Ek a w m x i) (fun s => s.2.1.length = r ∧ Bl s.2.1 ((x + 1 : Nat) : Int) ∧ ClQ n w s.2.2.1 s.2.2.2 ∧ x < s.2.2.1.length) (fun s => if s.1 = true then 1 + ((((x + 1) ^ r : Nat) : Int) - G6 (x + 1) s.2.1).toNat else 0) (fun t => ClQ n w t.1 t.2 ∧ x < t.1.length) (by
  rintro ⟨b, xs, L, O⟩ ⟨g1, g2, g3, g4⟩
  dsimp only at g1 g2 g3 g4
  unfold Ek
  dsimp only
  cases b with
  | false =>
    rw [if_neg (by simp)]
    exact .inr ⟨_, rfl, g3, g4⟩
  | true =>
    rw [if_pos rfl]
    by_cases hLl : (L.length : Int) ≤ m
    ·rw [if_pos hLl]
     simp only [obs0]
     have hg := g3.most
     obtain ⟨ys, c, e1, y1, y2, y3⟩ := Avj g1 (by omega) (show 1 ≤ x + 1 by omega) (by omega) g2
     obtain ⟨d, d1, d2⟩ := Sl r xs g1 g2
     obtain ⟨d', d1', d2'⟩ := Sl r ys y1 y2
     have fin : ∀ L' O', ClQ n w L' O' → x < L'.length → (∃ s', (((H4 xs ((x : Int) + 1)).bind fun r44 => some (.inl (r44.snd, r44.fst, L', O'))) : Option ((Bool × (List Int) × (List (List Int)) × (List (List Int))) ⊕ ((List (List Int)) × (List (List Int))))) = some (.inl s') ∧ (s'.2.1.length = r ∧ Bl s'.2.1 ((x + 1 : Nat) : Int) ∧ ClQ n w s'.2.2.1 s'.2.2.2 ∧ x < s'.2.2.1.length) ∧ (if s'.1 = true then 1 + ((((x + 1) ^ r : Nat) : Int) - G6 (x + 1) s'.2.1).toNat else 0) < (if true = true then 1 + ((((x + 1) ^ r : Nat) : Int) - G6 (x + 1) xs).toNat else 0)) := fun L' O' k1 k2 => by
      rw [show ((x : Int) + 1) = ((x + 1 : Nat) : Int) by omega, e1]
      refine ⟨_, rfl, ⟨y1, y2, k1, k2⟩, ?_⟩
      dsimp only
      rw [if_pos rfl]
      cases c with
      | false => rw [if_neg (by simp)]; omega
      | true =>
        have := y3 rfl
        rw [if_pos rfl]
        omega
     rw [A0d _ _ (by omega)]
     simp only [obs0]
     by_cases hh : (x : Int) ∈ xs
     ·rw [dtr0 hh, if_pos rfl, Are (by omega) (fun z hz => by have := g2 z hz; omega)]
      simp only [obs0]
      have hrow : ∀ t ∈ xs.map (fun i => nth L i.toNat), t.length = w ∧ Bl t n := fun t ht => by
       obtain ⟨z, hz, rfl⟩ := List.mem_map.1 ht
       have := g2 z hz
       exact g3.row _ (Aq (by omega))
      obtain ⟨p1, p2⟩ := Ahs hsz h8 hi (by omega) hf (T := xs.map fun i => nth L i.toNat) (by rw [List.length_map]; exact g1) hrow hw
      rw [p1]
      simp only [obs0]
      obtain ⟨k, bb, f1, M, f2, f3⟩ := g3.add hw (Aud _ _ _ _ _) p2 (by omega)
      rw [f1]
      simp only [obs0]
      cases bb with
      | true =>
        rw [if_pos rfl]
        simp only [obs0]
        rw [Af (by unfold InI; omega)]
        exact .inl (fin _ _ g3 g4)
      | false =>
        rw [if_neg (by simp), f2]
        simp only [obs0]
        rw [Af (by simp only [List.length_cons, List.length_nil]; omega)]
        simp only [obs0]
        rw [Af (by unfold InI; omega)]
        exact .inl (fin _ _ f3 (by rw [List.length_append]; omega))
     ·rw [dfa0 hh, if_neg (by simp)]
      simp only [obs0]
      rw [Af (by unfold InI; omega)]
      exact .inl (fin _ _ g3 g4)
    ·rw [if_neg hLl]
     exact .inr ⟨_, rfl, g3, g4⟩) (s := (b, List.replicate r 0, line, out)) ⟨by simp, fun z hz => by rw [List.mem_replicate] at hz; omega, h, hx⟩
 exact ⟨t.1, t.2, e, ht.1, ht.2⟩
theorem A2y {m : Int} (hm : m ≤ 300) {x : Nat} {line out : List (List Int)} (hx : x < line.length) (h : ClQ n w line out) :
  ∃ L O, Al (Ej a w m x) (0, line, out) = some (L, O) ∧ ClQ n w L O ∧ x < L.length := by
 have hLm := Bd
 obtain ⟨t, e, ht⟩ := Do (body := Ej a w m x) (fun s => ∃ i : Nat, s.1 = (i : Int) ∧ i ≤ a.Ops.length ∧ ClQ n w s.2.1 s.2.2 ∧ x < s.2.1.length) (fun s => a.Ops.length - s.1.toNat) (fun t => ClQ n w t.1 t.2 ∧ x < t.1.length) (by
  rintro ⟨y, L, O⟩ ⟨i, rfl, g1, g2, g3⟩
  dsimp only at g2 g3
  unfold Ej
  dsimp only
  by_cases hi : i < a.Ops.length
  ·obtain ⟨r, hf⟩ := hops i hi
   have hr3 := hf.le
   obtain ⟨L', O', e, q1, q2⟩ := A2q hsz h8 hol hw hm hi hf g3 g2 (decide ((r : Int) > 0))
   rw [if_pos (by omega), Af (by omega), tna0, hf.ar, Af (by omega), Af (by omega), tna0, e]
   simp only [obs0]
   rw [Af (by unfold InI; omega)]
   exact .inl ⟨_, rfl, ⟨i + 1, rfl, hi, q1, q2⟩, by dsimp only; omega⟩
  ·rw [if_neg (by omega)]
   exact .inr ⟨_, rfl, g2, g3⟩) (s := ((0 : Int), line, out)) ⟨0, rfl, Nat.zero_le _, h, hx⟩
 exact ⟨t.1, t.2, e, ht.1, ht.2⟩
theorem Ar8 {gens : List (List Int)} (hgl : gens.length ≤ 1000) (hg : ∀ t ∈ gens, t.length = w ∧ Bl t n) : ∃ T b, G4 a w gens = some (T, b) ∧ T.length ≤ 1200 ∧ ∀ t ∈ T, t.length = w := by
 have hLm := Bd
 obtain ⟨m, em, m1, m2⟩ := Awj (a := a) (by omega)
 unfold G4
 rw [em]
 simp only [obs0]
 have k1 := Bk (body := Dr a w gens m) (fun i => ((i : Int), gens.take i)) gens.length gens (fun i hi => by
  have hgi := hg _ (Aq hi)
  unfold Dr
  dsimp only
  rw [if_pos (by omega), Af (by omega), tna0, Am9 (by omega)]
  simp only [obs0]
  rw [Af (by simp; omega), Af (by unfold InI; omega), E4 hi]
  rfl) (by
  unfold Dr
  dsimp only
  rw [if_neg (by omega), List.take_of_length_le (by omega)])
 have k1' : Al (Dr a w gens m) (0, Ap (List Int)) = some gens := k1
 rw [k1']
 simp only [obs0]
 obtain ⟨F, e2, f1, f2⟩ := Do (body := Gf a w m) (fun s => ∃ i : Nat, s.1 = (i : Int) ∧ i ≤ a.Ops.length ∧ s.2.length ≤ 1000 + i ∧ ∀ t ∈ s.2, t.length = w ∧ Bl t n) (fun s => a.Ops.length - s.1.toNat) (fun t => t.length ≤ 1100 ∧ ∀ r ∈ t, r.length = w ∧ Bl r n) (by
  rintro ⟨y, F⟩ ⟨i, rfl, g1, g2, g3⟩
  dsimp only at g2 g3
  unfold Gf
  dsimp only
  by_cases hi : i < a.Ops.length
  ·obtain ⟨r, hf⟩ := hops i hi
   rw [if_pos (by omega), Af (by omega), tna0, hf.ar]
   by_cases h0 : (r : Int) = 0
   ·have h0' : r = 0 := by omega
    subst h0'
    obtain ⟨p1, p2⟩ := Ahs hsz h8 hi (by omega) hf (T := Ap (List Int)) rfl (fun t ht => by simp [Ap] at ht) hw
    rw [if_pos h0, p1]
    simp only [obs0]
    rw [Af (by simp only [List.length_cons, List.length_nil]; omega), Af (by unfold InI; omega)]
    refine .inl ⟨_, rfl, ⟨i + 1, rfl, hi, by rw [List.length_append]; simp only [List.length_cons, List.length_nil]; omega, fun t ht => ?_⟩, by dsimp only; omega⟩
    rcases List.mem_append.1 ht with ht | ht
    ·exact g3 t ht
    ·rw [List.mem_singleton.1 ht]; exact ⟨Aud _ _ _ _ _, p2⟩
   ·rw [if_neg h0, Af (by unfold InI; omega)]
    exact .inl ⟨_, rfl, ⟨i + 1, rfl, hi, by dsimp only; omega, g3⟩, by dsimp only; omega⟩
  ·rw [if_neg (by omega)]
   exact .inr ⟨_, rfl, by omega, g3⟩) (s := ((0 : Int), gens)) ⟨0, rfl, Nat.zero_le _, by dsimp only; omega, hg⟩
 rw [e2]
 simp only [obs0]
 obtain ⟨⟨L, O⟩, e3, l1⟩ := Do (body := Gb a w m F) (fun s => ∃ i : Nat, s.1 = (i : Int) ∧ i ≤ F.length ∧ ClQ n w s.2.1 s.2.2 ∧ s.2.1.length ≤ i) (fun s => F.length - s.1.toNat) (fun t => ClQ n w t.1 t.2) (by
  rintro ⟨y, L, O⟩ ⟨i, rfl, g1, g2, g3⟩
  dsimp only at g2 g3
  unfold Gb
  dsimp only
  by_cases hi : i < F.length
  ·obtain ⟨q1, q2⟩ := f2 _ (Aq hi)
   obtain ⟨k, bb, p1, M, p2, p3⟩ := g2.add hw q1 q2 (by omega)
   rw [if_pos (by omega), Af (by omega), tna0, p1]
   simp only [obs0]
   cases bb with
   | true =>
     rw [if_pos rfl, Af (by unfold InI; omega)]
     exact .inl ⟨_, rfl, ⟨i + 1, rfl, hi, g2, by dsimp only; omega⟩, by dsimp only; omega⟩
   | false =>
     rw [if_neg (by simp), Af (by omega), p2]
     simp only [obs0]
     rw [Af (by omega), Af (by simp only [List.length_cons, List.length_nil]; omega), Af (by unfold InI; omega)]
     exact .inl ⟨_, rfl, ⟨i + 1, rfl, hi, p3, by rw [List.length_append]; simp only [List.length_cons, List.length_nil]; omega⟩, by dsimp only; omega⟩
  ·rw [if_neg (by omega)]
   exact .inr ⟨_, rfl, g2⟩) (s := ((0 : Int), Ap (List Int), Ap (List Int))) ⟨0, rfl, Nat.zero_le _, ⟨fun t ht => by simp [Ap] at ht, fun t ht => by simp [Ap] at ht, Nat.le_refl _, by simp [Ap]⟩, Nat.le_refl _⟩
 dsimp only at l1
 rw [e3]
 simp only [obs0]
 obtain ⟨T, e4, t1, t2⟩ := Do (body := F6 a w m) (fun s => ∃ x : Nat, s.1 = (x : Int) ∧ x ≤ 1200 ∧ ClQ n w s.2.1 s.2.2) (fun s => 1200 - s.1.toNat) (fun t => t.length ≤ 1200 ∧ ∀ r ∈ t, r.length = w) (by
  rintro ⟨y, L, O⟩ ⟨x, rfl, g1, g2⟩
  dsimp only at g2
  have q1 := g2.le
  have q2 := g2.most
  unfold F6
  dsimp only
  by_cases hx : x < L.length
  ·rw [if_pos (by omega)]
   by_cases hLm' : (L.length : Int) ≤ m
   ·obtain ⟨L', O', e, p1, p2⟩ := A2y hsz h8 hol hops hw m2 hx g2
    rw [if_pos hLm']
    simp only [obs0]
    rw [e]
    simp only [obs0]
    rw [Af (by unfold InI; omega)]
    exact .inl ⟨_, rfl, ⟨x + 1, rfl, by omega, p1⟩, by dsimp only; omega⟩
   ·rw [if_neg hLm']
    exact .inr ⟨_, rfl, by omega, g2.orow⟩
  ·rw [if_neg (by omega)]
   exact .inr ⟨_, rfl, by omega, g2.orow⟩) (s := ((0 : Int), L, O)) ⟨0, rfl, Nat.zero_le _, l1⟩
 rw [e4]
 exact ⟨T, _, rfl, t1, t2⟩
end
theorem Aik {v : Nat} {x : Int} (hv : v ≤ 1000) : Fo v x = some (List.replicate v x) := by
 have hL := Bd
 unfold Fo
 have key := Bk (body := Co v x) (fun i => ((i : Int), List.replicate i x)) v (List.replicate v x) (fun i hi => by
  unfold Co
  dsimp only
  rw [if_pos (by omega), Af (by simp; omega), Af (by unfold InI; omega), List.replicate_succ']
  rfl) (by
  unfold Co
  dsimp only
  rw [if_neg (by omega)])
 have key' : Al (Co v x) (0, Ap Int) = _ := key
 rw [key']; rfl
theorem As4 {a : Nat} (h1 : 1 ≤ a) (h3 : a ≤ 3) : Dg 2 (a : Int) = some { Arity := (a : Int), Tuples := (List.range (2 ^ a)).map (Az 2 a) } := by
 have hL := Bd
 have hp := Ae9 h1 h3
 have hpa := hp a (Nat.le_refl _)
 unfold Dg
 have key := Bk (body := Bw 2 (a : Int)) (fun i => ((i : Int), ({ Arity := (a : Int), Tuples := (List.range i).map (Az 2 a) } : SRelation))) (2 ^ a) ({ Arity := (a : Int), Tuples := (List.range (2 ^ a)).map (Az 2 a) } : SRelation) (fun i hi => by
  unfold Bw
  dsimp only
  rw [show ((2 : Int)) = ((2 : Nat) : Int) from rfl, L9 8 (by omega) hp (by omega)]
  simp only [obs0]
  rw [if_pos (by omega), Un (by omega) (by omega) (by omega) (by omega)]
  simp only [obs0]
  rw [Af (by simp; omega), Af (by unfold InI; omega), List.range_succ, List.map_append]
  rfl) (by
  unfold Bw
  dsimp only
  rw [show ((2 : Int)) = ((2 : Nat) : Int) from rfl, L9 8 (by omega) hp (by omega)]
  simp only [obs0]
  rw [if_neg (by omega)])
 have key' : Al (Bw 2 (a : Int)) (0, { Arity := (a : Int), Tuples := Ap (List Int) }) = _ := key
 rw [key']; rfl
theorem A3w {i : Nat} (hi : i < 4) : ∃ r, OpQ 2 r (nth [({ Arity := 2, Table := [0, 0, 0, 1] } : SOp), { Arity := 2, Table := [0, 1, 1, 1] }, { Arity := 3, Table := [0, 1, 1, 0, 1, 0, 0, 1] }, { Arity := 3, Table := [0, 0, 0, 1, 0, 1, 1, 1] }] i) := by
 have key : ∀ T : List Int, (∀ v ∈ T, v = 0 ∨ v = 1) → Bl T 2 := fun T h v hv => by have := h v hv; omega
 rcases (show i = 0 ∨ i = 1 ∨ i = 2 ∨ i = 3 by omega) with rfl | rfl | rfl | rfl
 ·exact ⟨2, rfl, by omega, rfl, key _ (by simp [nth])⟩
 ·exact ⟨2, rfl, by omega, rfl, key _ (by simp [nth])⟩
 ·exact ⟨3, rfl, by omega, rfl, key _ (by simp [nth])⟩
 ·exact ⟨3, rfl, by omega, rfl, key _ (by simp [nth])⟩
theorem Aro {c : Sl1Cur} {k : Nat} (h : Cur k c) (hk : k ≤ 400000000) {cl : Int} (h0 : 0 ≤ cl) (h7 : cl ≤ 8) : ∃ r d, Fr c cl = some (r, d) ∧ Cur (k + 210) d ∧ Wc 1200 r := by
 have hLm := Bd
 unfold Fr
 obtain ⟨A, d, e, hd, hA⟩ := Jf h (by omega) [1, 2, 2, 3, 3, 3] (by simp)
 rw [e]
 simp only [obs0]
 simp only [List.mem_cons, List.not_mem_nil, or_false] at hA
 obtain ⟨w, rfl⟩ := Int.eq_ofNat_of_zero_le (show 0 ≤ A by omega)
 obtain ⟨r, d2, e2, hd2, hr⟩ := Zm hd (by omega) 2 (w : Int)
 rw [e2]
 simp only [obs0]
 have g := Ae7 (n := 2) (r := r) (Nat.le_trans hr.1 (by omega)) (fun t ht => Nat.le_trans (hr.2 t ht) (by omega)) (by omega)
 rw [show ((2 : Nat) : Int) = 2 from rfl] at g
 rw [g]
 simp only [obs0]
 have hq : ∃ q, (if decide (Eh 2 r) = true then some r else (Dg 2 (w : Int)).bind fun r7 => some r7) = some q ∧ (∃ a : Nat, q.Arity = (a : Int) ∧ a ≤ 3 ∧ ∀ t ∈ q.Tuples, t.length = a ∧ Bl t 2) ∧ q.Tuples.length ≤ 601 := by
  by_cases hok : Eh 2 r
  ·rw [dtr0 hok, if_pos rfl]
   have h1 := hok.1
   have h3 := hok.2.1
   obtain ⟨a, ha⟩ := Int.eq_ofNat_of_zero_le (show 0 ≤ r.Arity by omega)
   refine ⟨r, rfl, ⟨a, ha, by omega, fun t ht => ?_⟩, hr.1⟩
   obtain ⟨q1, q2⟩ := Eh.row (n := 2) hok ht
   exact ⟨by omega, q2⟩
  ·rw [dfa0 hok, if_neg (by simp), As4 (by omega) (by omega)]
   refine ⟨_, rfl, ⟨w, rfl, by omega, fun t ht => ?_⟩, ?_⟩
   ·obtain ⟨i, _, rfl⟩ := List.mem_map.1 ht
    exact ⟨E1 _ _ _, Agz (n := 2) (by omega) _ _⟩
   ·have := Ae9 (a := w) (by omega) (by omega) w (Nat.le_refl _)
    simp; omega
 obtain ⟨q, eq, ⟨a, ha, ha3, hrow⟩, hql⟩ := hq
 rw [eq]
 simp only [obs0]
 have hqt : Wc 1200 q := ⟨by omega, fun t ht => by rw [(hrow t ht).1]; exact ha3⟩
 have rest : ∃ r d, ((if cl > 1 then some (decide (cl < 6)) else some false : Option Bool).bind fun q15_35 =>
   if q15_35 = true then
    Ke.bind fun r17 =>
     ask (InI (cl - 2)) <|
     ask (0 ≤ cl - 2 ∧ cl - 2 < (r17.length : Int)) <|
     (G4 { Size := 2, Ops := [nth r17 (cl - 2).toNat] } q.Arity q.Tuples).bind fun r20 =>
     some (({ Arity := q.Arity, Tuples := r20.fst } : SRelation), d2)
   else some (q, d2)) = some (r, d) ∧ Cur (k + 210) d ∧ Wc 1200 r := by
  by_cases h1 : cl > 1
  ·rw [if_pos h1]
   simp only [obs0]
   by_cases h6 : cl < 6
   ·rw [dtr0 h6, if_pos rfl]
    unfold Ke
    simp only [obs0]
    obtain ⟨s, hs⟩ := A3w (i := (cl - 2).toNat) (by omega)
    obtain ⟨T, b, eT, hT, hTr⟩ := Ar8 (a := { Size := 2, Ops := [nth [({ Arity := 2, Table := [0, 0, 0, 1] } : SOp), { Arity := 2, Table := [0, 1, 1, 1] }, { Arity := 3, Table := [0, 1, 1, 0, 1, 0, 0, 1] }, { Arity := 3, Table := [0, 0, 0, 1, 0, 1, 1, 1] }] (cl - 2).toNat] }) (n := 2) (w := a) rfl (by omega) (by simp) (fun i hi => by
     have : i = 0 := by simp at hi; omega
     subst this
     exact ⟨s, hs⟩) (by omega) (gens := q.Tuples) (by omega) (fun t ht => hrow t ht)
    rw [Af (by unfold InI; omega), Af (by simp; omega), ha, eT]
    exact ⟨_, _, rfl, hd2.mono (by omega), hT, fun t ht => by rw [hTr t ht]; exact ha3⟩
   ·rw [dfa0 h6, if_neg (by simp)]
    exact ⟨_, _, rfl, hd2.mono (by omega), hqt⟩
  ·rw [if_neg h1]
   simp only [obs0]
   rw [if_neg (by simp)]
   exact ⟨_, _, rfl, hd2.mono (by omega), hqt⟩
 by_cases h1 : cl ≤ 1
 ·rw [if_pos h1]
  simp only [obs0]
  by_cases hl : (q.Tuples.length : Int) > 0
  ·rw [dtr0 hl, if_pos rfl, ha, Aik (by omega)]
   simp only [obs0]
   obtain ⟨M, eM, hM, hMr⟩ := Ahf (T := q.Tuples) (t := List.replicate a cl) (w := a) (by omega) (by omega) (fun t ht => (hrow t ht).1) (by simp)
   rw [eM]
   exact ⟨_, _, rfl, hd2.mono (by omega), by dsimp only; omega, fun t ht => by rw [hMr t ht]; exact ha3⟩
  ·rw [dfa0 hl, if_neg (by simp)]
   exact rest
 ·rw [if_neg h1]
  simp only [obs0]
  rw [if_neg (by simp)]
  exact rest
theorem Adp {code : List Int} (hc : ∀ x ∈ code, 0 ≤ x ∧ x ≤ 255) (hl : code.length ≤ 65536) : ∃ r, Dm code = some r ∧ Wc 1200 r := by
 unfold Dm
 obtain ⟨b, d, e, hd⟩ := Ahq (Atf hc hl) (by omega) 12
 rw [e]
 simp only [obs0]
 by_cases hb : b = true
 ·rw [if_pos hb]
  obtain ⟨n, d2, e2, hd2, _⟩ := Jf hd (by omega) [2, 3] (by simp)
  rw [e2]
  simp only [obs0]
  obtain ⟨A, d3, e3, hd3, _⟩ := Jf hd2 (by omega) [1, 2, 3] (by simp)
  rw [e3]
  simp only [obs0]
  obtain ⟨r, d4, e4, hd4, hr⟩ := Zm hd3 (by omega) n A
  rw [e4]
  exact ⟨r, rfl, hr.mono (by omega)⟩
 ·rw [if_neg hb]
  obtain ⟨v, d2, e2, hd2, v0, v1⟩ := G3 hd (by omega) 8
  rw [e2]
  simp only [obs0]
  obtain ⟨r, d3, e3, hd3, hr⟩ := Aro hd2 (by omega) v0 (by omega)
  rw [e3]
  exact ⟨r, rfl, hr⟩
theorem Adl {code : List Int} (hc : ∀ x ∈ code, 0 ≤ x ∧ x ≤ 255) (hl : code.length ≤ 65536) : ∃ A cs, Ce code = some (A, cs) ∧ (-1000 ≤ A ∧ A ≤ 1000) ∧ Ll cs := by
 have hLm := Bd
 unfold Ce
 obtain ⟨w, d, e, hd, w0, w1⟩ := G3 (Atf hc hl) (by omega) 24
 rw [e]
 simp only [obs0]
 have et : w.tdiv 11 = w / 11 := Int.tdiv_eq_ediv_of_nonneg w0
 rw [et, Af ⟨by decide, by unfold InI; omega⟩, Af (by unfold InI; omega), Af (by simp only [List.length_cons, List.length_nil]; omega)]
 obtain ⟨A, d2, e2, hd2, hA⟩ := Jf hd (by omega) (List.take ((5 + w / 11).toNat - Int.toNat 0) (List.drop (Int.toNat 0) [1, 2, 2, 3, 3, 0, 4])) (by simp; omega)
 rw [e2]
 have hA2 := List.mem_of_mem_drop (List.mem_of_mem_take hA)
 simp only [List.mem_cons, List.not_mem_nil, or_false] at hA2
 simp only [obs0]
 obtain ⟨m, d3, e3, hd3, m0, m1⟩ := G3 hd2 (by omega) 5
 rw [e3]
 simp only [obs0]
 have hAb : -1000 ≤ A ∧ A ≤ 1000 := by omega
 obtain ⟨⟨cs, d4⟩, e4, q1, q2, q3⟩ := Do (body := B7 A) (fun s => ∃ i : Nat, s.1 = (i : Int) ∧ i ≤ 5 ∧ s.2.1.length ≤ 5 - i ∧ (∀ c ∈ s.2.1, c.length ≤ 3 ∧ ∀ p ∈ c, InI p) ∧ Cur (100 + 2 * (5 - i)) s.2.2) (fun s => s.1.toNat) (fun t => t.1.length ≤ 5 ∧ (∀ c ∈ t.1, c.length ≤ 3 ∧ ∀ p ∈ c, InI p) ∧ Cur 200 t.2) (by
  rintro ⟨x, cs, c⟩ ⟨i, rfl, g1, g2, g3, g4⟩
  dsimp only at g2 g3 g4
  unfold B7
  dsimp only
  by_cases hi : (i : Int) > 0
  ·obtain ⟨a, ha, ha1, ha3⟩ : ∃ a : Nat, (if 1 > (if A < 3 then A else 3) then 1 else (if A < 3 then A else 3)) = (a : Int) ∧ 1 ≤ a ∧ a ≤ 3 := by
    rcases hA2 with h | h | h | h | h | h | h <;> subst h
    ·exact ⟨1, rfl, by omega, by omega⟩
    ·exact ⟨2, rfl, by omega, by omega⟩
    ·exact ⟨2, rfl, by omega, by omega⟩
    ·exact ⟨3, rfl, by omega, by omega⟩
    ·exact ⟨3, rfl, by omega, by omega⟩
    ·exact ⟨1, rfl, by omega, by omega⟩
    ·exact ⟨3, rfl, by omega, by omega⟩
   have hcl : (Cn a).length = 3 ^ a := U0 a _
   have hpos : 0 < 3 ^ a := Nat.pow_pos (by omega)
   obtain ⟨v, d5, e5, hd5, v0, v1⟩ := G3 g4 (by omega) ((Cn a).length : Int)
   rw [if_pos hi, Awy]
   simp only [obs0]
   rw [Ait]
   simp only [obs0]
   rw [ha, Ab8 ha1 ha3]
   simp only [obs0]
   rw [e5]
   simp only [obs0]
   have hv : v.toNat < (Cn a).length := by omega
   obtain ⟨p1, p2⟩ := Vu ha1 ha3 (Aq hv)
   rw [Af (by omega), Am9 (by omega)]
   simp only [obs0]
   rw [Af (by simp; omega), Af (by unfold InI; omega)]
   refine .inl ⟨_, rfl, ⟨i - 1, by dsimp only; omega, by omega, by simp; omega, fun c hcm => ?_, hd5.mono (by omega)⟩, by dsimp only; omega⟩
   rcases List.mem_append.1 hcm with hcm | hcm
   ·exact g3 c hcm
   ·rw [List.mem_singleton.1 hcm]
    refine ⟨p2, fun p hp => ?_⟩
    have := p1 p hp
    unfold InI
    omega
  ·rw [if_neg hi]
   exact .inr ⟨_, rfl, by dsimp only; omega, g3, g4.mono (by omega)⟩) (s := (m, Ap (List Int), d3)) ⟨m.toNat, by dsimp only; omega, by omega, by simp [Ap], fun c hcm => by simp [Ap] at hcm, hd3.mono (by omega)⟩
 dsimp only at q1 q2 q3
 rw [e4]
 simp only [obs0]
 obtain ⟨u, d5, e5, hd5, u0, u1⟩ := G3 q3 (by omega) 32
 rw [e5]
 simp only [obs0]
 have hbase : Ll cs := ⟨by omega, fun c hcm => ⟨by have := (q2 c hcm).1; omega, (q2 c hcm).2⟩⟩
 have hone : ∀ l : List Int, l.length ≤ 1048576 → (∀ p ∈ l, InI p) → Ll (cs ++ [l]) := fun l h1 h2 => by
  refine ⟨by simp; omega, fun c hcm => ?_⟩
  rcases List.mem_append.1 hcm with hcm | hcm
  ·exact hbase.2 c hcm
  ·rw [List.mem_singleton.1 hcm]; exact ⟨h1, h2⟩
 by_cases c0 : u = 0
 ·rw [if_pos c0, Af (by unfold InI; omega)]
  obtain ⟨v, d6, e6, hd6, hv⟩ := Jf hd5 (by omega) [0, A + 1, -9223372036854775808] (by simp)
  rw [e6]
  simp only [obs0]
  simp only [List.mem_cons, List.not_mem_nil, or_false] at hv
  rw [Af (by simp; omega)]
  refine ⟨_, _, rfl, hAb, hone _ (by simp) fun p hp => ?_⟩
  rw [List.mem_singleton.1 hp]
  unfold InI
  omega
 rw [if_neg c0]
 by_cases c1 : u = 1
 ·rw [if_pos c1, Af (by simp; omega)]
  refine ⟨_, _, rfl, hAb, hone _ (by simp) fun p hp => ?_⟩
  simp only [List.mem_cons, List.not_mem_nil, or_false] at hp
  unfold InI
  omega
 rw [if_neg c1]
 by_cases c2 : u = 2
 ·rw [if_pos c2]
  obtain ⟨t, e6, h6⟩ := Do (body := B8 A) (fun s => s.1.length ≤ 31 ∧ Ll s.1 ∧ Cur (202 + 2 * s.1.length) s.2) (fun s => 31 - s.1.length) (fun t => Ll t) (by
   rintro ⟨cs, c⟩ ⟨g1, g2, g3⟩
   dsimp only at g1 g2 g3
   unfold B8
   dsimp only
   obtain ⟨v, d6, e6, hd6, v0, v1⟩ := G3 g3 (by omega) 2
   rw [e6]
   simp only [obs0]
   rw [Af (by unfold InI; omega)]
   by_cases hlt : (cs.length : Int) < 30 + v
   ·rw [if_pos hlt, Af (by simp; omega)]
    refine .inl ⟨_, rfl, ⟨by simp; omega, ⟨by simp; omega, fun c hcm => ?_⟩, ?_⟩, by simp; omega⟩
    ·rcases List.mem_append.1 hcm with hcm | hcm
     ·exact g2.2 c hcm
     ·rw [List.mem_singleton.1 hcm]
      refine ⟨by simp, fun p hp => ?_⟩
      rw [List.mem_singleton.1 hp]
      unfold InI
      omega
    ·refine hd6.mono ?_
     rw [List.length_append]; simp only [List.length_cons, List.length_nil]; omega
   ·rw [if_neg hlt]
    exact .inr ⟨_, rfl, g2⟩) (s := (cs, d5)) ⟨by dsimp only; omega, hbase, hd5.mono (by omega)⟩
  rw [e6]
  exact ⟨_, _, rfl, hAb, h6⟩
 ·rw [if_neg c2]
  exact ⟨_, _, rfl, hAb, hbase⟩
end Go.Proofs.Ytjcekpmojnnmbaa.Ax
