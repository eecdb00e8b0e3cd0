/-
 Plain facts, joined.
-/
import Derived.Test.YtidaaijecmkndaaPA
namespace Go.Proofs.Ytidaaijecmkndaa.Ax
open Go Classical
def Ao0 (m i : Nat) : Bool := decide (m / 2 ^ i % 2 = 1)
def Aoz (f : Nat → Nat → Bool) (ls : List Int) : Prop := ∀ x ∈ ls, ∀ y ∈ ls, ¬ (x.toNat ≠ y.toNat ∧ f x.toNat y.toNat = true)
section
end
end Go.Proofs.Ytidaaijecmkndaa.Ax
namespace Go.Proofs.Ytidaaijecmkndaa.Ax
open Go Classical
def pc (n m : Nat) : Nat := (M2 n (Ao0 m)).length
theorem Ais {q q' : Nat → Bool} {x : Nat} (hq : q x = false) (h : ∀ i, q' i = (q i || decide (x = i))) : ∀ n, (M2 n q').length = (M2 n q).length + if x < n then 1 else 0 := by
 intro n
 induction n with
 | zero => simp [M2]
 | succ n ih =>
   rw [Y6, Y6, h n]
   by_cases hxn : x = n
   ·subst hxn
    rw [hq]
    simp only [decide_true, Bool.or_true, if_true, Bool.false_eq_true, if_false]
    rw [List.length_append, ih, if_neg (by omega), if_pos (by omega)]; rfl
   ·rw [decide_eq_false hxn, Bool.or_false]
    by_cases hqn : q n = true
    ·rw [if_pos hqn, if_pos hqn, List.length_append, List.length_append, ih]
     by_cases hx : x < n
     ·rw [if_pos hx, if_pos (by omega)]; simp
     ·rw [if_neg hx, if_neg (by omega)]; rfl
    ·rw [if_neg hqn, if_neg hqn, ih]
     by_cases hx : x < n
     ·rw [if_pos hx, if_pos (by omega)]
     ·rw [if_neg hx, if_neg (by omega)]
def wt (n m : Nat) : Nat := 10 ^ (10 - pc n m)
def phi (n : Nat) (ws : List Int) : Nat → Nat → Int
 | _, 0 => 0
 | M, k + 1 => nth ws M * wt n M + phi n ws (M + 1) k
section
variable {n : Nat} {f : Nat → Nat → Bool}
structure okW (n m : Nat) (ws : List Int) : Prop where
 len : ws.length = 2 ^ n
 pos : ∀ i, i < ws.length → 0 ≤ nth ws i
 sum : phi n ws m (2 ^ n - m) ≤ 10000000000
end
section
end
end Go.Proofs.Ytidaaijecmkndaa.Ax
namespace Go.Proofs.Ytidaaijecmkndaa.Ax
open Go Classical
section
variable {n : Nat} {ps : List (Int × Int)}
end
end Go.Proofs.Ytidaaijecmkndaa.Ax
namespace Go.Proofs.Ytidaaijecmkndaa.Ax
open Go Classical
section
variable {n : Nat} {f : Nat → Nat → Bool}
end
section
end
end Go.Proofs.Ytidaaijecmkndaa.Ax
namespace Go.Proofs.Ytidaaijecmkndaa.Ax
open Go Classical
noncomputable def Aop (n : Nat) (g h : Nat → Nat → Nat) (S : Nat → Bool) : Nat → Bool := fun z => decide (S z = true ∨ ∃ x y, x < n ∧ y < n ∧ S x = true ∧ S y = true ∧ (z = g x y ∨ z = h x y))
noncomputable def Ady (n : Nat) (g h : Nat → Nat → Nat) (S : Nat → Bool) : Nat → Nat → Bool
 | 0 => S
 | k + 1 => Aop n g h (Ady n g h S k)
section
variable {n : Nat} {g h : Nat → Nat → Nat} {S : Nat → Bool}
def Ao1 (n : Nat) (g h : Nat → Nat → Nat) (S : Nat → Bool) (k : Nat) : Prop := ∀ z, z < n → Ady n g h S (k + 1) z = Ady n g h S k z
noncomputable def closed (n : Nat) (g h : Nat → Nat → Nat) (S : Nat → Bool) : Nat → Bool := Ady n g h S n
end
end Go.Proofs.Ytidaaijecmkndaa.Ax
namespace Go.Proofs.Ytidaaijecmkndaa.Ax
open Go Classical
theorem Afn {xs ys : List Int} (h : xs.length ≤ LIM) : Hk xs ys = some (decide (xs = ys)) := by
 unfold Hk
 rw [Bx] at h
 split
 ·rename_i hl
  rw [decide_eq_false]
  rintro rfl; exact hl rfl
 rename_i hl
 have hl : xs.length = ys.length := by omega
 have := Ey (body := Db xs ys) (fun i => (i : Int)) xs.length (fun i => ¬ nth xs i = nth ys i) () () (fun i hi hb => by
  unfold Db
  rw [if_pos (by omega), Af (by omega), Af (by omega)]
  simp only [Int.toNat_natCast]
  rw [if_neg (by simpa using hb), Af (by unfold InI; omega)]; rfl) (fun i hi hb => by
  unfold Db
  rw [if_pos (by omega), Af (by omega), Af (by omega)]
  simp only [Int.toNat_natCast]
  rw [if_pos hb]) (by unfold Db; rw [if_neg (by omega)]) 0 (by omega)
 show ((Aw _ ((0 : Nat) : Int)).bind _) = _
 rw [this]
 by_cases hx : ∃ i, 0 ≤ i ∧ i < xs.length ∧ ¬ nth xs i = nth ys i
 ·rw [if_pos hx, decide_eq_false]
  ·rfl
  ·rintro rfl; obtain ⟨i, _, _, hc⟩ := hx; exact hc rfl
 ·rw [if_neg hx, decide_eq_true (Ail hl (Im.1 hx))]
  rfl
section
end
end Go.Proofs.Ytidaaijecmkndaa.Ax
namespace Go.Proofs.Ytidaaijecmkndaa.Ax
open Go Classical
end Go.Proofs.Ytidaaijecmkndaa.Ax
namespace Go.Proofs.Ytidaaijecmkndaa.Ax
open Go Classical
end Go.Proofs.Ytidaaijecmkndaa.Ax
namespace Go.Proofs.Ytidaaijecmkndaa.Ax
open Go Classical
section
end
end Go.Proofs.Ytidaaijecmkndaa.Ax
namespace Go.Proofs.Ytidaaijecmkndaa.Ax
open Go Classical
def Amu (n : Nat) (f : SOp) : Prop := 0 ≤ f.Arity ∧ f.Arity ≤ 3 ∧ f.Table.length = n ^ f.Arity.toNat ∧ Cg f.Table n
def Akq (a : SAlgebra) : Prop := 1 ≤ a.Size ∧ a.Size ≤ 8 ∧ a.Ops.length ≤ 4 ∧ ∀ f ∈ a.Ops, Amu a.Size.toNat f
theorem Ahl {n k : Nat} (hn : n ≤ 8) (hk : k ≤ 3) : n ^ k ≤ 512 :=
 Nat.le_trans (Nat.pow_le_pow_left hn k) (Nat.le_trans (Nat.pow_le_pow_right (by omega) hk) (by decide))
theorem Al2 {n k : Nat} (hn : n ≤ 8) (hk : k ≤ 3) : Gu n k = some ((n ^ k : Nat) : Int) := by
 unfold Gu
 have key := Cz (body := Dw n) (fun j => (((n ^ j : Nat) : Int), ((k : Int) - (j : Int)))) k ((n ^ k : Nat) : Int) (fun j hj => by
  unfold Dw
  dsimp only
  have hp := Ahl hn (show j + 1 ≤ 3 by omega)
  rw [Nat.pow_succ] at hp
  rw [if_pos (by omega), ← Int.natCast_mul, Nat.pow_succ]
  generalize n ^ j * n = N at hp ⊢
  rw [Af (by unfold InI; omega), Af (by unfold InI; omega), show ((k : Int) - (j : Int) - 1) = (k : Int) - ((j + 1 : Nat) : Int) by omega]) (by
  unfold Dw
  dsimp only
  rw [if_neg (by omega)])
 have key' : Aw (Dw n) (1, (k : Int)) = some ((n ^ k : Nat) : Int) := by simpa using key
 rw [key']; rfl
theorem Ad3 {n k : Nat} (hn : n ≤ 8) (hk : k ≤ 3) : Fb n k = some ((n ^ k : Nat) : Int) := by
 unfold Fb
 have key := Cz (body := Dr n) (fun j => (((n ^ j : Nat) : Int), ((k : Int) - (j : Int)))) k ((n ^ k : Nat) : Int) (fun j hj => by
  unfold Dr
  dsimp only
  have hp := Ahl hn (show j + 1 ≤ 3 by omega)
  rw [Nat.pow_succ] at hp
  rw [if_pos (by omega), ← Int.natCast_mul, Nat.pow_succ]
  generalize n ^ j * n = N at hp ⊢
  rw [Af (by unfold InI; omega), Af (by unfold InI; omega), show ((k : Int) - (j : Int) - 1) = (k : Int) - ((j + 1 : Nat) : Int) by omega]) (by
  unfold Dr
  dsimp only
  rw [if_neg (by omega)])
 have key' : Aw (Dr n) (1, (k : Int)) = some ((n ^ k : Nat) : Int) := by simpa using key
 rw [key']; rfl
theorem Anj {n : Nat} (hn : n ≤ 8) {f : SOp} (hl : f.Table.length ≤ LIM) : J9 f n = some (decide (Amu n f)) := by
 unfold J9
 by_cases h0 : 0 ≤ f.Arity
 ·rw [if_pos (show f.Arity ≥ 0 from h0)]
  by_cases h3 : f.Arity ≤ 3
  ·have e : Gu (n : Int) f.Arity = some ((n ^ f.Arity.toNat : Nat) : Int) := by
    have := Al2 hn (k := f.Arity.toNat) (by omega)
    rwa [show ((f.Arity.toNat : Nat) : Int) = f.Arity by omega] at this
   rw [if_pos h3, e]
   simp only [Option.bind_some]
   by_cases hL : f.Table.length = n ^ f.Arity.toNat
   ·rw [if_pos (by rw [hL]), Aa4 _ _ hl]
    simp only [Option.bind_some]
    congr 1
    rw [decide_eq_decide]
    exact ⟨fun h => ⟨h0, h3, hL, h⟩, fun h => h.2.2.2⟩
   ·rw [if_neg (fun hc => hL (Int.ofNat_inj.1 hc)), decide_eq_false (fun h => hL h.2.2.1)]
  ·rw [if_neg h3, decide_eq_false (fun h => h3 h.2.1)]
 ·rw [if_neg (by omega), decide_eq_false (fun h => h0 h.1)]
theorem Anl {n : Nat} (hn1 : 1 ≤ n) (hn : n ≤ 8) {f : SOp} (hl : f.Table.length ≤ LIM) : Ke n f = some (decide (Amu n f)) := by
 unfold Ke
 rw [L3]
 simp only [Option.bind_some]
 by_cases h0 : 0 ≤ f.Arity ∧ f.Arity ≤ 3
 ·have e : Fb (n : Int) f.Arity = some ((n ^ f.Arity.toNat : Nat) : Int) := by
   have := Ad3 hn (k := f.Arity.toNat) (by omega)
   rwa [show ((f.Arity.toNat : Nat) : Int) = f.Arity by omega] at this
  rw [decide_eq_true h0, if_pos rfl, e]
  simp only [Option.bind_some]
  by_cases hL : f.Table.length = n ^ f.Arity.toNat
  ·rw [if_neg (by rw [hL]; simp)]
   simp only [Option.bind_some]
   have hl' := hl
   rw [Bx] at hl'
   have this := Ey (body := Ef n f) (fun i => (i : Int)) f.Table.length (fun i => ¬ (0 ≤ nth f.Table i ∧ nth f.Table i ≤ (n : Int) - 1)) () () (fun i hi hb => by
    unfold Ef
    rw [if_pos (by omega), Af (by omega), Af (by unfold InI; omega), L3]
    simp only [Int.toNat_natCast, Option.bind_some]
    rw [decide_eq_true (Classical.not_not.1 hb), if_pos rfl, Af (by unfold InI; omega)]; rfl) (fun i hi hb => by
    unfold Ef
    rw [if_pos (by omega), Af (by omega), Af (by unfold InI; omega), L3]
    simp only [Int.toNat_natCast, Option.bind_some]
    rw [decide_eq_false hb, if_neg (by simp)]) (by
    unfold Ef
    rw [if_neg (by omega)]) 0 (by omega)
   refine (Ic this false true).trans (congrArg some (Mu ?_))
   rw [Im]
   constructor
   ·intro h
    refine ⟨h0.1, h0.2, hL, fun x hx => ?_⟩
    obtain ⟨i, hi, rfl⟩ := Um.1 hx
    have := h i hi; omega
   ·intro h i hi
    have := h.2.2.2 _ (Bc hi); omega
  ·rw [if_pos (fun hc => hL (Int.ofNat_inj.1 hc)), decide_eq_false (fun h => hL h.2.2.1)]; rfl
 ·rw [decide_eq_false h0, if_neg (by simp), decide_eq_false (fun h => h0 ⟨h.1, h.2.1⟩)]; rfl
def Ane (a : SAlgebra) : List Int := a.Ops.map (·.Arity)
theorem Ze {xs ys : List Int} (h : xs.length ≤ LIM) : F0 xs ys = some (decide (xs = ys)) := by
 unfold F0
 rw [Bx] at h
 by_cases hne : xs.length = ys.length
 ·rw [if_neg (by omega)]
  have this := Ey (body := Ch xs ys) (fun i => (i : Int)) xs.length (fun i => ¬ nth xs i = nth ys i) () () (fun i hi hb => by
   unfold Ch
   rw [if_pos (by omega), Af (by omega), Af (by omega)]
   simp only [Int.toNat_natCast]
   rw [if_neg (fun hc => hc (Classical.not_not.1 hb).symm), Af (by unfold InI; omega)]; rfl) (fun i hi hb => by
   unfold Ch
   rw [if_pos (by omega), Af (by omega), Af (by omega)]
   simp only [Int.toNat_natCast]
   rw [if_pos (fun hc => hb hc.symm)]) (by unfold Ch; rw [if_neg (by omega)]) 0 (by omega)
  refine (Ic this false true).trans (congrArg some (Mu ?_))
  rw [Im]
  exact ⟨fun hh => Ail hne hh, fun hh i _ => by rw [hh]⟩
 ·rw [if_pos (by omega), decide_eq_false (fun hh => hne (by rw [hh]))]
end Go.Proofs.Ytidaaijecmkndaa.Ax
namespace Go.Proofs.Ytidaaijecmkndaa.Ax
open Go Classical
def Acr (n : Nat) : Nat → Nat → List Int
 | 0, _ => []
 | r + 1, k => Acr n r (k / n) ++ [((k % n : Nat) : Int)]
theorem Af4 (n : Nat) : ∀ r k, (Acr n r k).length = r := by
 intro r
 induction r with
 | zero => intro k; rfl
 | succ r ih => intro k; simp [Acr, ih]
theorem Amz {n : Nat} (hn : 0 < n) : ∀ r k, Cg (Acr n r k) n := by
 intro r
 induction r with
 | zero => intro k x hx; cases hx
 | succ r ih =>
   intro k x hx
   simp only [Acr] at hx
   rcases List.mem_append.1 hx with hx | hx
   ·exact ih _ x hx
   ·rw [List.mem_singleton.1 hx]
    have := Nat.mod_lt k hn
    omega
def Kk (m : Nat) (xs : List Int) : Int := xs.foldl (fun s x => s * (m : Int) + x) 0
theorem Wr (m : Nat) (xs : List Int) (y : Int) : Kk m (xs ++ [y]) = Kk m xs * (m : Int) + y := by
 unfold Kk; rw [List.foldl_append]; rfl
theorem Al4 {m : Nat} : ∀ (r : Nat) (xs : List Int), xs.length = r → Cg xs m → ∃ c : Nat, Kk m xs = (c : Int) ∧ c < m ^ r := by
 intro r
 induction r with
 | zero =>
   intro xs hl _
   have : xs = [] := List.length_eq_zero_iff.1 hl
   subst this
   exact ⟨0, rfl, by simp⟩
 | succ r ih =>
   intro xs hl hx
   obtain ⟨ys, y, rfl⟩ : ∃ ys y, xs = ys ++ [y] := by
    refine ⟨xs.take r, nth xs r, ?_⟩
    rw [← L1 (by omega), List.take_of_length_le (by omega)]
   have hy := hx y (by simp)
   obtain ⟨c, h1, h2⟩ := ih ys (by simpa using hl) fun z hz => hx z (by simp [hz])
   obtain ⟨d, rfl⟩ := Int.eq_ofNat_of_zero_le hy.1
   refine ⟨c * m + d, by rw [Wr, h1]; push_cast; rfl, ?_⟩
   have h3 := Nat.mul_le_mul_right m (show c + 1 ≤ m ^ r from h2)
   rw [Nat.succ_mul] at h3
   rw [Nat.pow_succ]
   omega
theorem S0 {m : Nat} (hm : m ≤ 8) {xs : List Int} (hl : xs.length ≤ 3) (hx : Cg xs m) : ∃ c : Nat, Kk m xs = (c : Int) ∧ c < m ^ xs.length ∧ c < 512 := by
 obtain ⟨c, h1, h2⟩ := Al4 xs.length xs rfl hx
 have := Ahl hm hl
 exact ⟨c, h1, h2, by omega⟩
theorem Wu {m : Nat} {xs : List Int} {i : Nat} (hi : i < xs.length) : Kk m (xs.take (i + 1)) = Kk m (xs.take i) * (m : Int) + nth xs i := by
 rw [L1 hi, Wr]
theorem V6 {m : Nat} (hm : m ≤ 8) {xs : List Int} (hl : xs.length ≤ 3) (hx : Cg xs m) {i : Nat} (hi : i < xs.length) :
  InI (Kk m (xs.take i) * (m : Int)) ∧ InI (Kk m (xs.take i) * (m : Int) + nth xs i) := by
 obtain ⟨c, h1, _, h3⟩ := S0 hm (xs := xs.take i) (by rw [List.length_take]; omega) fun z hz => hx z (List.mem_of_mem_take hz)
 have hv := hx _ (Bc hi)
 have h4 : c * m ≤ 512 * 8 := Nat.mul_le_mul (by omega) hm
 rw [h1, ← Int.natCast_mul]
 generalize c * m = d at h4
 unfold InI
 omega
theorem Ajr {m : Nat} (hm : m ≤ 8) {xs : List Int} (hl : xs.length ≤ 3) (hx : Cg xs m) : Fj xs m = some (Kk m xs) := by
 unfold Fj
 have key := Cz (body := Cy xs m) (fun i => ((i : Int), Kk m (xs.take i))) xs.length (Kk m xs) (fun i hi => by
  unfold Cy
  dsimp only
  obtain ⟨h1, h2⟩ := V6 hm hl hx hi
  rw [if_pos (by omega), Af (by omega), Af h1, Int.toNat_natCast, Af h2, Af (by unfold InI; omega), Wu hi]
  rfl) (by
  unfold Cy
  dsimp only
  rw [if_neg (by omega), List.take_length])
 have key' : Aw (Cy xs m) (0, 0) = _ := key
 rw [key']; rfl
def Am1 (n m : Nat) (f : List Int) : Nat → Nat → Int
 | 0, _ => 0
 | r + 1, k => Am1 n m f r (k / n) * (m : Int) + nth f (k % n)
theorem Alz (n m : Nat) (f : List Int) : ∀ r k, Kk m ((Acr n r k).map fun x => nth f x.toNat) = Am1 n m f r k := by
 intro r
 induction r with
 | zero => intro k; rfl
 | succ r ih =>
   intro k
   simp only [Acr, Am1, List.map_append, List.map_cons, List.map_nil, Int.toNat_natCast]
   rw [Wr, ih]
theorem Ait {n m : Nat} (hn : 0 < n) {f : List Int} (hf : f.length = n) (hfx : Cg f m) (r k : Nat) : Cg ((Acr n r k).map fun x => nth f x.toNat) m := by
 intro y hy
 obtain ⟨x, hx, rfl⟩ := List.mem_map.1 hy
 have := Amz hn r k x hx
 exact hfx _ (Bc (by omega))
structure Homs (a b : SAlgebra) (f : List Int) (n m : Nat) : Prop where
 ga : Akq a
 gb : Akq b
 ty : Ane a = Ane b
 sa : a.Size = n
 sb : b.Size = m
 len : f.length = n
 fin : Cg f m
section
variable {a b : SAlgebra} {f : List Int} {n m : Nat}
theorem Homs.pos (h : Homs a b f n m) : 0 < n ∧ n ≤ 8 ∧ 0 < m ∧ m ≤ 8 := by
 have := h.sa; have := h.sb; have := h.ga.1; have := h.ga.2.1; have := h.gb.1; have := h.gb.2.1
 omega
theorem Homs.low (h : Homs a b f n m) {r k : Nat} (hr : r ≤ 3) : ∃ c : Nat, Am1 n m f r k = (c : Int) ∧ c < m ^ r := by
 obtain ⟨hn, _, _, hm⟩ := h.pos
 obtain ⟨c, h1, h2, _⟩ := S0 hm (xs := (Acr n r k).map fun x => nth f x.toNat) (by rw [List.length_map, Af4]; exact hr) (Ait hn h.len h.fin r k)
 rw [Alz] at h1
 rw [List.length_map, Af4] at h2
 exact ⟨c, h1, h2⟩
end
def uniq (f : List Int) : Prop := ∀ i, i < f.length → nth f i ∉ f.take i
end Go.Proofs.Ytidaaijecmkndaa.Ax
namespace Go.Proofs.Ytidaaijecmkndaa.Ax
open Go Classical
structure Perm (f : List Int) (n : Nat) : Prop where
 len : f.length = n
 fin : Cg f n
 un : uniq f
theorem Perm.count {f : List Int} {n : Nat} (h : Perm f n) : ∀ i, i ≤ n → (M2 n fun z => decide ((z : Int) ∈ f.take i)).length = i := by
 intro i
 induction i with
 | zero =>
   intro _
   rw [List.length_eq_zero_iff]
   exact Aj0.2 fun z _ => by simp
 | succ i ih =>
   intro hi
   have hil : i < f.length := by rw [h.len]; exact hi
   have hv := h.fin _ (Bc hil)
   have hu := h.un i hil
   have hc : nth f i = (((nth f i).toNat : Nat) : Int) := by omega
   have := Ais (q := fun z => decide ((z : Int) ∈ f.take i)) (q' := fun z => decide ((z : Int) ∈ f.take (i + 1))) (x := (nth f i).toNat) (decide_eq_false (by rw [← hc]; exact hu)) (fun z => by
    rw [L1 hil, Bool.eq_iff_iff]
    simp only [decide_eq_true_eq, List.mem_append, List.mem_singleton, Bool.or_eq_true]
    constructor
    ·rintro (h1 | h1)
     ·exact .inl h1
     ·exact .inr (by omega)
    ·rintro (h1 | h1)
     ·exact .inl h1
     ·exact .inr (by omega)) n
   rw [this, ih (by omega), if_pos (by omega)]
section
variable {a : SAlgebra} {f : List Int} {n : Nat}
end
end Go.Proofs.Ytidaaijecmkndaa.Ax
namespace Go.Proofs.Ytidaaijecmkndaa.Ax
open Go Classical
noncomputable def many (n : Nat) (q : Nat → Bool) : Nat := (M2 n q).length
section
variable {n : Nat} {f : Nat → Nat → Bool}
end
section
variable {n m : Nat} {f g : Nat → Nat → Bool}
end
end Go.Proofs.Ytidaaijecmkndaa.Ax
namespace Go.Proofs.Ytidaaijecmkndaa.Ax
open Go
def Cur (k : Nat) (c : Sl1Cur) : Prop := (∀ x ∈ c.code, 0 ≤ x ∧ x ≤ 255) ∧ c.code.length ≤ 65536 ∧ 0 ≤ c.at_ ∧ c.at_ ≤ k
theorem Cur.mono {k l : Nat} {c : Sl1Cur} (h : Cur k c) (hl : k ≤ l) : Cur l c := ⟨h.1, h.2.1, h.2.2.1, by have := h.2.2.2; omega⟩
theorem Alx {n : Int} (h0 : 0 ≤ n) (h1 : n ≤ 255) : IntKind.u64.wrap n = n := by
 simp [IntKind.wrap, IntKind.bits, IntKind.signed]
 omega
theorem Ab5 {c : Sl1Cur} {k : Nat} (h : Cur k c) (hk : k ≤ 1000000000) : ∃ r d, Do c = some (r, d) ∧ Cur (k + 1) d ∧ 0 ≤ r ∧ r ≤ 255 := by
 obtain ⟨h1, h2, h3, h4⟩ := h
 unfold Do
 have fin : ∀ q : Int, 0 ≤ q → q ≤ 255 → ∃ r d, (ask (InI (c.at_ + 1)) <|
   if c.at_ + 1 ≤ (c.code.length : Int) then
    some (q, ({ code := c.code, at_ := c.at_ + 1, seed := IntKind.u64.wrap (IntKind.u64.wrap (IntKind.u64.wrap (c.seed * 6364136223846793005) + IntKind.u64.wrap q) + 550289) } : Sl1Cur))
   else some (IntKind.i64.wrap (IntKind.u64.wrap (((BitVec.ofInt IntKind.u64.bits ((IntKind.u64.wrap (IntKind.u64.wrap (IntKind.u64.wrap (c.seed * 6364136223846793005) + IntKind.u64.wrap q) + 550289)).fdiv (2 ^ min (Int.toNat 40) IntKind.u64.bits)) &&& BitVec.ofInt IntKind.u64.bits 255).toNat : Nat) : Int)),
    ({ code := c.code, at_ := c.at_ + 1, seed := IntKind.u64.wrap (IntKind.u64.wrap (IntKind.u64.wrap (c.seed * 6364136223846793005) + IntKind.u64.wrap q) + 550289) } : Sl1Cur))) = some (r, d) ∧ Cur (k + 1) d ∧ 0 ≤ r ∧ r ≤ 255 := by
  intro q hq0 hq1
  rw [Af (by unfold InI; omega)]
  split
  ·exact ⟨_, _, rfl, ⟨h1, h2, by show 0 ≤ c.at_ + 1; omega, by show c.at_ + 1 ≤ ((k + 1 : Nat) : Int); omega⟩, hq0, hq1⟩
  ·refine ⟨_, _, rfl, ⟨h1, h2, by show 0 ≤ c.at_ + 1; omega, by show c.at_ + 1 ≤ ((k + 1 : Nat) : Int); omega⟩, ?_⟩
   generalize BitVec.ofInt IntKind.u64.bits ((IntKind.u64.wrap (IntKind.u64.wrap (IntKind.u64.wrap (c.seed * 6364136223846793005) + IntKind.u64.wrap q) + 550289)).fdiv (2 ^ min (Int.toNat 40) IntKind.u64.bits)) = b
   have hb : (b &&& BitVec.ofInt IntKind.u64.bits 255).toNat ≤ 255 := by
    rw [BitVec.toNat_and]
    have : (BitVec.ofInt IntKind.u64.bits 255).toNat = 255 := by decide
    rw [this]
    exact Nat.and_le_right
   generalize (b &&& BitVec.ofInt IntKind.u64.bits 255).toNat = z at hb
   rw [Alx (by omega) (by omega), R1 (by omega) (by omega)]
   omega
 by_cases hc : c.at_ < (c.code.length : Int)
 ·rw [if_pos hc, Af ⟨h3, hc⟩]
  have hm := h1 _ (Bc (xs := c.code) (i := c.at_.toNat) (by omega))
  rw [R1 (by omega) (by omega)]
  simp only [Option.bind_some]
  exact fin _ hm.1 hm.2
 ·rw [if_neg hc]
  simp only [Option.bind_some]
  exact fin 0 (by omega) (by omega)
theorem Cq {c : Sl1Cur} {k : Nat} (h : Cur k c) (hk : k ≤ 900000000) (n : Int) : ∃ r d, Am c n = some (r, d) ∧ Cur (k + 2) d ∧ 0 ≤ r ∧ (r < n ∨ (n ≤ 1 ∧ r = 0)) := by
 unfold Am
 by_cases h1 : n ≤ 1
 ·rw [if_pos h1]; exact ⟨0, c, rfl, h.mono (by omega), by omega, .inr ⟨h1, rfl⟩⟩
 ·rw [if_neg h1]
  obtain ⟨r, d, e, hd, a1, a2⟩ := Ab5 h (by omega)
  simp only [e, Option.bind_some]
  by_cases h2 : n > 200
  ·rw [if_pos h2, Af (by unfold InI; omega)]
   obtain ⟨r2, d2, e2, hd2, b1, b2⟩ := Ab5 hd (by omega)
   simp only [e2, Option.bind_some]
   rw [Af (by unfold InI; omega), Af (by omega)]
   refine ⟨_, _, rfl, hd2, Int.tmod_nonneg _ (by omega), .inl ?_⟩
   exact Int.tmod_lt_of_pos _ (by omega)
  ·rw [if_neg h2, Af (by omega)]
   refine ⟨_, _, rfl, hd.mono (by omega), Int.tmod_nonneg _ (by omega), .inl ?_⟩
   exact Int.tmod_lt_of_pos _ (by omega)
theorem Q8 {c : Sl1Cur} {k : Nat} (h : Cur k c) (hk : k ≤ 900000000) (n : Int) : ∃ b d, Bt c n = some (b, d) ∧ Cur (k + 2) d := by
 unfold Bt
 obtain ⟨r, d, e, hd, _, _⟩ := Cq h hk n
 simp only [e, Option.bind_some]
 exact ⟨_, _, rfl, hd⟩
theorem C7 {c : Sl1Cur} {k : Nat} (h : Cur k c) (hk : k ≤ 900000000) (l : List Int) (h0 : 0 < l.length) : ∃ r d, At c l = some (r, d) ∧ Cur (k + 2) d ∧ r ∈ l := by
 unfold At
 obtain ⟨r, d, e, hd, a1, a2⟩ := Cq h hk (l.length : Int)
 simp only [e, Option.bind_some]
 rw [Af (by omega)]
 exact ⟨_, _, rfl, hd, Bc (by omega)⟩
open Classical
end Go.Proofs.Ytidaaijecmkndaa.Ax
namespace Go.Proofs.Ytidaaijecmkndaa.Ax
open Go Classical
section
variable {n m : Nat} {f g : Nat → Nat → Bool}
end
end Go.Proofs.Ytidaaijecmkndaa.Ax
namespace Go.Proofs.Ytidaaijecmkndaa.Ax
open Go Classical
section
end
theorem Ad8 {xs : List Int} (h : xs.length ≤ LIM) : E9 xs xs = some true := by
 have hL := Bx
 unfold E9
 rw [if_neg (by simp)]
 have := Cz (body := Du xs xs) (fun i => (i : Int)) xs.length (.inr ()) (fun i hi => by
  unfold Du
  rw [if_pos (by omega)]
  repeat rw [Af (by first | omega | (unfold InI; omega))]
  rw [if_neg (by simp)]
  rfl) (by
  unfold Du
  rw [if_neg (by omega)])
 have h0 : Aw (Du xs xs) 0 = some (.inr ()) := this
 rw [h0]; rfl
theorem Ak2 {xss : List (List Int)} (h : xss.length ≤ LIM) (h1 : ∀ r ∈ xss, r.length ≤ LIM) : F4 xss xss = some true := by
 have hL := Bx
 unfold F4
 rw [if_neg (by simp)]
 have := Cz (body := C9 xss xss) (fun i => (i : Int)) xss.length (.inr ()) (fun i hi => by
  unfold C9
  rw [if_pos (by omega)]
  repeat rw [Af (by first | omega | (unfold InI; omega))]
  rw [Int.toNat_natCast, Ad8 (h1 _ (Bc hi))]
  simp only [Option.bind_some, if_true]
  rfl) (by
  unfold C9
  rw [if_neg (by omega)])
 have h0 : Aw (C9 xss xss) 0 = some (.inr ()) := this
 rw [h0]; rfl
section
variable {n m : Nat} {f g : Nat → Nat → Bool}
end
end Go.Proofs.Ytidaaijecmkndaa.Ax
namespace Go.Proofs.Ytidaaijecmkndaa.Ax
open Go Classical
def Al8 (H : List Bool) : Nat := H.count true
section
variable {a : SAlgebra}
structure ReadyA (a : SAlgebra) (n : Nat) : Prop where
 good : Akq a
 sz : a.Size = (n : Int)
 pos : 0 < n
 le : n ≤ 8
structure Pass (n : Nat) (G : Nat → Bool) (c0 : Bool) (H0 : List Bool) (c : Bool) (H : List Bool) (done : (Nat → Bool) → Prop) : Prop where
 len : H.length = n
 more : ∀ z, nth H0 z = true → nth H z = true
 low : ∀ z, nth H z = true → G z = true
 up : c = true → c0 = true ∨ Al8 H0 < Al8 H
 no : c = false → c0 = false ∧ H = H0 ∧ done (nth H)
 mono : Al8 H0 ≤ Al8 H
end
end Go.Proofs.Ytidaaijecmkndaa.Ax
namespace Go.Proofs.Ytidaaijecmkndaa.Ax
open Go Classical
theorem Ah8 {α β : Type} {o : Option α} {k : α → Option β} {Q : α → Prop} {R : β → Prop} (h : ∃ a, o = some a ∧ Q a) (h2 : ∀ a, Q a → ∃ b, k a = some b ∧ R b) : ∃ b, o.bind k = some b ∧ R b := by
 obtain ⟨a, e, hq⟩ := h
 rw [e]; exact h2 a hq
theorem Akw {β : Type} {c : Prop} [Decidable c] {x y : Option β} {R : β → Prop} (h1 : c → ∃ b, x = some b ∧ R b) (h2 : ¬ c → ∃ b, y = some b ∧ R b) : ∃ b, (if c then x else y) = some b ∧ R b := by
 split
 ·exact h1 ‹_›
 ·exact h2 ‹_›
def Sl (a : SAlgebra) : Prop := a.Ops.length ≤ 10 ∧ ∀ f ∈ a.Ops, f.Table.length ≤ 101
theorem Afm (s : ByteArray) (hs : s.size ≤ 100) : ∃ f, A2 s = some f ∧ f.Table.length ≤ 100 := by
 have hL := Bx
 unfold A2
 obtain ⟨f, e, hf⟩ := Gg (body := Ei s) (fun t => ∃ j : Nat, t.1 = (j : Int) ∧ j ≤ s.size ∧ t.2.Table.length ≤ j) (fun t => s.size - t.1.toNat) (fun f => f.Table.length ≤ 100) (fun t ht => by
  obtain ⟨x4, x3⟩ := t
  obtain ⟨j, g1, g2, g3⟩ := ht
  simp only at g1 g2 g3
  subst g1
  unfold Ei
  dsimp only
  by_cases hj : (j : Int) < (s.size : Int)
  ·left
   rw [if_pos hj, Af (by omega), Af (by simp; omega), Af (by unfold InI; omega)]
   exact ⟨_, rfl, ⟨j + 1, rfl, by omega, by simp; omega⟩, by simp only; omega⟩
  ·right
   rw [if_neg hj]
   exact ⟨_, rfl, by omega⟩) (s := ((0 : Int), ({ Arity := 2, Table := Ba Int } : SOp))) ⟨0, rfl, Nat.zero_le _, by simp [Ba]⟩
 rw [e]
 exact ⟨_, rfl, hf⟩
theorem Afa {n : Int} (hn : n = 2 ∨ n = 3) : ∃ f, E2 n = some f ∧ f.Table.length ≤ 100 := by
 have hL := Bx
 unfold E2
 obtain ⟨f, e, hf⟩ := Gg (body := Eg n) (fun t => ∃ j : Nat, t.1 = (j : Int) ∧ j ≤ 27 ∧ t.2.Table.length ≤ j) (fun t => 27 - t.1.toNat) (fun f => f.Table.length ≤ 100) (fun t ht => by
  obtain ⟨x4, x3⟩ := t
  obtain ⟨j, g1, g2, g3⟩ := ht
  simp only at g1 g2 g3
  subst g1
  unfold Eg
  dsimp only
  have d1 : ∀ m : Int, (j : Int).tdiv m = (j : Int) / m := fun m => Int.tdiv_eq_ediv_of_nonneg (by omega)
  have d2 : ∀ m : Int, (j : Int).tmod m = (j : Int) % m := fun m => Int.tmod_eq_emod_of_nonneg (by omega)
  rw [d1, d1, d2]
  rcases hn with rfl | rfl
  ·have d3 : ((j : Int) / 2).tmod 2 = ((j : Int) / 2) % 2 := Int.tmod_eq_emod_of_nonneg (by omega)
   rw [d3]
   by_cases hj : (j : Int) < 2 * 2 * 2
   ·left
    rw [Af (by unfold InI; omega), Af (by unfold InI; omega), if_pos hj]
    rw [Af (by unfold InI; omega), Af (by unfold InI; omega), Af (by unfold InI; omega), Af (by unfold InI; omega), Af (by omega), Af (by unfold InI; omega), Af (by omega), Af (by unfold InI; omega), Af (by omega), Af (by simp; omega), Af (by unfold InI; omega)]
    exact ⟨_, rfl, ⟨j + 1, rfl, by omega, by simp; omega⟩, by simp only; omega⟩
   ·right
    rw [Af (by unfold InI; omega), Af (by unfold InI; omega), if_neg hj]
    exact ⟨_, rfl, by omega⟩
  ·have d3 : ((j : Int) / 3).tmod 3 = ((j : Int) / 3) % 3 := Int.tmod_eq_emod_of_nonneg (by omega)
   rw [d3]
   by_cases hj : (j : Int) < 3 * 3 * 3
   ·left
    rw [Af (by unfold InI; omega), Af (by unfold InI; omega), if_pos hj]
    rw [Af (by unfold InI; omega), Af (by unfold InI; omega), Af (by unfold InI; omega), Af (by unfold InI; omega), Af (by omega), Af (by unfold InI; omega), Af (by omega), Af (by unfold InI; omega), Af (by omega), Af (by simp; omega), Af (by unfold InI; omega)]
    exact ⟨_, rfl, ⟨j + 1, rfl, by omega, by simp; omega⟩, by simp only; omega⟩
   ·right
    rw [Af (by unfold InI; omega), Af (by unfold InI; omega), if_neg hj]
    exact ⟨_, rfl, by omega⟩) (s := ((0 : Int), ({ Arity := 3, Table := Ba Int } : SOp))) ⟨0, rfl, Nat.zero_le _, by simp [Ba]⟩
 rw [e]
 exact ⟨_, rfl, hf⟩
theorem T5 (k : Int) : ∃ a, Fn k = some a ∧ Sl a := by
 have fin0 : ∀ {z : Int}, Sl { Size := z, Ops := Ba SOp } := ⟨by simp [Ba], fun f hf => by simp [Ba] at hf⟩
 have fin1 : ∀ {z : Int} {f : SOp}, f.Table.length ≤ 100 → Sl { Size := z, Ops := [f] } := fun h => ⟨by simp, fun f hf => by simp at hf; subst hf; omega⟩
 have fin2 : ∀ {z : Int} {f g : SOp}, f.Table.length ≤ 100 → g.Table.length ≤ 100 → Sl { Size := z, Ops := [f, g] } := fun h1 h2 => ⟨by simp, fun f hf => by
  simp only [List.mem_cons, List.not_mem_nil, or_false] at hf
  rcases hf with rfl | rfl <;> omega⟩
 have fin3 : ∀ {z : Int} {f g e : SOp}, f.Table.length ≤ 100 → g.Table.length ≤ 100 → e.Table.length ≤ 100 → Sl { Size := z, Ops := [f, g, e] } := fun h1 h2 h3 => ⟨by simp, fun f hf => by
  simp only [List.mem_cons, List.not_mem_nil, or_false] at hf
  rcases hf with rfl | rfl | rfl <;> omega⟩
 unfold Fn
 repeat' (first | refine Akw (fun _ => ?_) (fun _ => ?_) | refine Ah8 (Afm _ (by decide)) fun f hf => ?_ | refine Ah8 (Afa (by simp)) fun f hf => ?_)
 all_goals
  first
   | exact ⟨_, rfl, fin0⟩
   | exact ⟨_, rfl, fin1 (by first | assumption | decide)⟩
   | exact ⟨_, rfl, fin2 (by first | assumption | decide) (by first | assumption | decide)⟩
   | exact ⟨_, rfl, fin3 (by first | assumption | decide) (by first | assumption | decide) (by first | assumption | decide)⟩
theorem Aei {c : Sl1Cur} {k : Nat} (h : Cur k c) (hk : k ≤ 600000000) : ∃ a d, Dk c = some (a, d) ∧ Cur (k + 1000) d ∧ Sl a := by
 have hL := Bx
 unfold Dk
 obtain ⟨b, d, e, hd⟩ := Q8 h (by omega) 4
 rw [e]
 simp only [Option.bind_some]
 by_cases hb : b = true
 ·rw [if_pos hb]
  obtain ⟨n, d2, e2, hd2, hn⟩ := C7 hd (by omega) [2, 2, 3, 3, 4] (by simp)
  rw [e2]
  simp only [Option.bind_some]
  obtain ⟨m, d3, e3, hd3, hm⟩ := C7 hd2 (by omega) [1, 1, 2] (by simp)
  rw [e3]
  simp only [Option.bind_some]
  obtain ⟨N, rfl, hN⟩ : ∃ N : Nat, n = (N : Int) ∧ 2 ≤ N ∧ N ≤ 4 := ⟨n.toNat, by simp at hn; omega, by simp at hn; omega⟩
  obtain ⟨M, rfl, hM⟩ : ∃ M : Nat, m = (M : Int) ∧ 1 ≤ M ∧ M ≤ 2 := ⟨m.toNat, by simp at hm; omega, by simp at hm; omega⟩
  obtain ⟨⟨a, d4⟩, e4, ⟨ha1, ha2, ha3⟩, hd4⟩ := Gg (body := Cj (N : Int)) (fun s => ∃ j : Nat, s.1 = (j : Int) ∧ j ≤ M ∧ s.2.1.Size = (N : Int) ∧ s.2.1.Ops.length = M - j ∧ (∀ f ∈ s.2.1.Ops, 1 ≤ f.Table.length ∧ f.Table.length ≤ 64) ∧ Cur (k + 6 + 200 * (M - j)) s.2.2) (fun s => s.1.toNat)
   (fun t => (t.1.Size = (N : Int) ∧ t.1.Ops.length = M ∧ ∀ f ∈ t.1.Ops, 1 ≤ f.Table.length ∧ f.Table.length ≤ 64) ∧ Cur (k + 500) t.2) (fun s hs => by
   obtain ⟨x6, x5, x1⟩ := s
   obtain ⟨j, g1, g2, g3, g4, g5, g6⟩ := hs
   simp only at g1 g2 g3 g4 g5 g6
   subst g1
   unfold Cj
   dsimp only
   by_cases hj : (j : Int) > 0
   ·left
    rw [if_pos hj]
    obtain ⟨r, d5, e5, hd5, hr⟩ := C7 g6 (by omega) [0, 1, 2, 2, 3] (by simp)
    rw [e5]
    simp only [Option.bind_some]
    obtain ⟨R, rfl, hR⟩ : ∃ R : Nat, r = (R : Int) ∧ R ≤ 3 := ⟨r.toNat, by simp at hr; omega, by simp at hr; omega⟩
    have hop : ∃ f : SOp, ((if (N : Int) = 4 then if (R : Int) = 3 then some ({ Arity := 2, Table := Ba Int } : SOp) else some { Arity := (R : Int), Table := Ba Int } else some { Arity := (R : Int), Table := Ba Int } : Option SOp)) = some f ∧ f.Table = [] ∧ ∃ Q : Nat, f.Arity = (Q : Int) ∧ 1 ≤ N ^ Q ∧ N ^ Q ≤ 64 ∧ Q ≤ 3 := by
     by_cases h4 : (N : Int) = 4
     ·rw [if_pos h4]
      have h4 : N = 4 := by omega
      subst h4
      by_cases h3 : (R : Int) = 3
      ·rw [if_pos h3]; exact ⟨_, rfl, rfl, 2, rfl, by decide⟩
      ·rw [if_neg h3]
       refine ⟨_, rfl, rfl, R, rfl, ?_⟩
       have : R = 0 ∨ R = 1 ∨ R = 2 := by omega
       rcases this with rfl | rfl | rfl <;> decide
     ·rw [if_neg h4]
      refine ⟨_, rfl, rfl, R, rfl, ?_⟩
      have h5 : N = 2 ∨ N = 3 := by omega
      have : R = 0 ∨ R = 1 ∨ R = 2 ∨ R = 3 := by omega
      rcases h5 with rfl | rfl <;> rcases this with rfl | rfl | rfl | rfl <;> decide
    obtain ⟨f, ef, ht, Q, hQ, q1, q2, q3⟩ := hop
    rw [ef]
    simp only [Option.bind_some]
    rw [hQ, Ad3 (by omega) q3]
    simp only [Option.bind_some]
    obtain ⟨⟨f2, d6⟩, e6, hf2, hd6⟩ := Gg (body := Co (N : Int) (j : Int) x5) (fun s => ∃ i : Nat, s.1 = (i : Int) ∧ i ≤ N ^ Q ∧ s.2.1.Table.length = N ^ Q - i ∧ Cur (k + 6 + 200 * (M - j) + 2 + 2 * (N ^ Q - i)) s.2.2) (fun s => s.1.toNat) (fun t => t.1.Table.length = N ^ Q ∧ Cur (k + 6 + 200 * (M - j) + 2 + 2 * N ^ Q) t.2) (fun s hs => by
     obtain ⟨x8, x7, x9⟩ := s
     obtain ⟨i, k1, k2, k3, k4⟩ := hs
     simp only at k1 k2 k3 k4
     subst k1
     unfold Co
     dsimp only
     by_cases hi : (i : Int) > 0
     ·left
      rw [if_pos hi]
      obtain ⟨v, d7, e7, hd7, _⟩ := Cq k4 (by omega) (N : Int)
      rw [e7]
      simp only [Option.bind_some]
      rw [Af (by simp; omega), Af (by unfold InI; omega)]
      exact ⟨_, rfl, ⟨i - 1, by simp only; omega, by omega, by simp; omega, hd7.mono (by omega)⟩, by simp only; omega⟩
     ·right
      rw [if_neg hi]
      exact ⟨_, rfl, by simp only; omega, k4.mono (by omega)⟩) (s := (((N ^ Q : Nat) : Int), f, d5)) ⟨N ^ Q, rfl, Nat.le_refl _, by simp [ht], hd5.mono (by omega)⟩
    rw [e6]
    simp only [Option.bind_some]
    rw [Af (by simp; omega), Af (by unfold InI; omega)]
    simp only at hf2 hd6
    refine ⟨_, rfl, ⟨j - 1, by simp only; omega, by omega, g3, by simp; omega, fun f hf => ?_, hd6.mono (by omega)⟩, by simp only; omega⟩
    rcases List.mem_append.1 hf with h' | h'
    ·exact g5 f h'
    ·rw [List.mem_singleton.1 h']; omega
   ·right
    rw [if_neg hj]
    exact ⟨_, rfl, ⟨g3, by simp only; omega, g5⟩, g6.mono (by omega)⟩) (s := ((M : Int), ({ Size := (N : Int), Ops := Ba SOp } : SAlgebra), d3)) ⟨M, rfl, Nat.le_refl _, rfl, by simp [Ba], fun f hf => by simp [Ba] at hf, hd3.mono (by omega)⟩
  rw [e4]
  simp only [Option.bind_some]
  simp only at ha1 ha2 ha3 hd4
  have h0 : 0 < a.Ops.length := by omega
  have hf0 := ha3 _ (Bc h0)
  have ht : Sl a := ⟨by omega, fun f hf => by have := ha3 f hf; omega⟩
  have hset : ∀ {z : Int} {f : SOp}, f.Table.length ≤ 101 → Sl { Size := z, Ops := a.Ops.set (Int.toNat 0) f } := fun hf => ⟨by simp; omega, fun g hg => by
   rcases List.mem_or_eq_of_mem_set hg with h' | h'
   ·have := ha3 g h'; omega
   ·rw [h']; exact hf⟩
  obtain ⟨w, d5, e5, hd5, w0, _⟩ := Cq hd4 (by omega) 16
  rw [e5]
  simp only [Option.bind_some]
  by_cases c0 : w = 0
  ·rw [if_pos c0, Af (by unfold InI; omega)]
   obtain ⟨r, d6, e6, hd6, _⟩ := C7 hd5 (by omega) [0, 9, (N : Int) + 1] (by simp)
   rw [e6]
   exact ⟨_, _, rfl, hd6.mono (by omega), ht⟩
  rw [if_neg c0]
  by_cases c1 : w = 1
  ·rw [if_pos c1, Af (by omega), Af (by simp only [Int.toNat_zero, List.length_singleton]; omega)]
   exact ⟨_, _, rfl, hd5.mono (by omega), hset (by simp only [Int.toNat_zero, List.length_append, List.length_singleton]; omega)⟩
  rw [if_neg c1]
  by_cases c2 : w = 2
  ·rw [if_pos c2, Af (by omega)]
   obtain ⟨r, d6, e6, hd6, r0, r1⟩ := Cq hd5 (by omega) ((nth a.Ops (Int.toNat 0)).Table.length : Int)
   rw [e6]
   simp only [Option.bind_some]
   obtain ⟨s, d7, e7, hd7, _⟩ := C7 hd6 (by omega) [-1, (N : Int)] (by simp)
   rw [e7]
   simp only [Option.bind_some]
   simp only [Int.toNat_zero] at r1 ⊢
   rw [Af (by omega)]
   exact ⟨_, _, rfl, hd7.mono (by omega), hset (by simp only [List.length_set]; omega)⟩
  rw [if_neg c2]
  by_cases c3 : w = 3
  ·rw [if_pos c3]
   obtain ⟨r, d6, e6, hd6, _⟩ := C7 hd5 (by omega) [-1, 4] (by simp)
   rw [e6]
   simp only [Option.bind_some]
   rw [Af (by omega)]
   exact ⟨_, _, rfl, hd6.mono (by omega), hset (by simp only [Int.toNat_zero]; omega)⟩
  rw [if_neg c3]
  by_cases c4 : w = 4
  ·rw [if_pos c4]
   obtain ⟨⟨a2, d6⟩, e6, ht2, hd6⟩ := Gg (body := Cp (N : Int)) (fun s => s.1.Ops.length ≤ 5 ∧ (∀ f ∈ s.1.Ops, f.Table.length ≤ 64) ∧ Cur (k + 502 + 2 * s.1.Ops.length) s.2) (fun s => 5 - s.1.Ops.length) (fun t => Sl t.1 ∧ Cur (k + 600) t.2) (fun s hs => by
    obtain ⟨x5, x1⟩ := s
    obtain ⟨g1, g2, g3⟩ := hs
    simp only at g1 g2 g3
    unfold Cp
    dsimp only
    obtain ⟨r, d7, e7, hd7, r0, r1⟩ := Cq g3 (by omega) 2
    rw [e7]
    simp only [Option.bind_some]
    rw [Af (by unfold InI; omega)]
    by_cases hl : (x5.Ops.length : Int) < 4 + r
    ·left
     rw [if_pos hl, Af (by omega), Af (by simp; omega)]
     refine ⟨_, rfl, ⟨by simp; omega, fun f hf => ?_, hd7.mono (by simp; omega)⟩, by simp; omega⟩
     rcases List.mem_append.1 hf with h' | h'
     ·exact g2 f h'
     ·rw [List.mem_singleton.1 h']; simp; omega
    ·right
     rw [if_neg hl]
     exact ⟨_, rfl, ⟨by simp only; omega, fun f hf => by have := g2 f hf; omega⟩, hd7.mono (by omega)⟩) (s := (a, d5)) ⟨by simp only; omega, fun f hf => (ha3 f hf).2, hd5.mono (by omega)⟩
   rw [e6]
   exact ⟨_, _, rfl, hd6.mono (by omega), ht2⟩
  rw [if_neg c4]
  exact ⟨_, _, rfl, hd5.mono (by omega), ht⟩
 ·rw [if_neg hb]
  obtain ⟨r, d2, e2, hd2, _⟩ := Cq hd (by omega) 17
  rw [e2]
  simp only [Option.bind_some]
  obtain ⟨a, e3, ht⟩ := T5 r
  rw [e3]
  exact ⟨_, _, rfl, hd2.mono (by omega), ht⟩
theorem Aik {code : List Int} (hc : ∀ x ∈ code, 0 ≤ x ∧ x ≤ 255) (hl : code.length ≤ 65536) : Cur 0 ({ code := code, at_ := 0, seed := 0 } : Sl1Cur) := ⟨hc, hl, Int.le_refl _, Int.le_refl _⟩
end Go.Proofs.Ytidaaijecmkndaa.Ax
namespace Go.Proofs.Ytidaaijecmkndaa.Ax
open Go Classical
theorem Ale {xs : List Int} (h : xs.length ≤ LIM) : Iv xs = some xs := by
 unfold Iv
 rw [Af (by show 0 + xs.length ≤ _; omega)]; rfl
theorem Ahp {xs : List Int} (h : xs.length ≤ LIM) : Fs xs = some xs := by
 unfold Fs
 rw [Af (by show 0 + xs.length ≤ _; omega)]; rfl
theorem U0 {α : Type} [Inhabited α] {xs : List α} {p : α → Prop} : (∀ i, i < xs.length → p (nth xs i)) ↔ ∀ x ∈ xs, p x := by
 constructor
 ·intro h x hx
  obtain ⟨i, h1, rfl⟩ := Um.1 hx
  exact h i h1
 ·exact fun h i hi => h _ (Bc hi)
def O5 (c : SCondition) : Prop := c.Rules.length ≤ 1000 ∧ ∀ r ∈ c.Rules, r.Left.length ≤ 1000 ∧ r.Right.length ≤ 1000
def Adg (m : Int) (r : SRule) : Prop := ((r.Left.length : Int) = m ∧ Cg r.Left 2) ∧ ((r.Right.length : Int) = m ∨ (r.Right.length : Int) = 1) ∧ Cg r.Right 2
def F6 (c : SCondition) : Prop := (2 ≤ c.Arity ∧ c.Arity ≤ 3) ∧ (1 ≤ c.Rules.length ∧ c.Rules.length ≤ 6) ∧ ∀ r ∈ c.Rules, Adg c.Arity r
theorem Hq {α β : Type} {o : Option α} {a : α} {k : α → Option β} {r : Option β} (h : o = some a) (h2 : k a = r) : o.bind k = r := by rw [h]; exact h2
theorem Rx {xs : List Int} (h : xs.length ≤ LIM) : Dj xs = some (decide (Cg xs 2)) := by
 unfold Dj
 rw [Aa4 _ _ h]; rfl
theorem Akx {xs : List Int} (h : xs.length ≤ LIM) : Cv 2 xs = some (decide (Cg xs 2)) := by
 have := Vl 2 xs h (by rw [Bx]; omega)
 exact this
theorem Uf (n : Int) : Ce n = some (decide (1 ≤ n ∧ n ≤ 4)) := by
 unfold Ce
 by_cases h : n ≥ 1
 ·rw [if_pos h]; congr 1; rw [decide_eq_decide]; exact ⟨fun h2 => ⟨h, h2⟩, fun h2 => h2.2⟩
 ·rw [if_neg h, decide_eq_false]; exact fun h2 => h h2.1
theorem Np {c : SCondition} (h : O5 c) : Ci c = some (decide (F6 c)) := by
 have hL := Bx
 unfold Ci
 by_cases h1 : 2 ≤ c.Arity ∧ c.Arity ≤ 3
 ·by_cases h2 : 1 ≤ c.Rules.length ∧ c.Rules.length ≤ 6
  ·rw [if_neg (by omega), if_neg (by omega), if_neg (by omega), if_neg (by omega)]
   simp only [Option.bind_some]
   have key := Ey (body := Bw c) (fun i => (i : Int)) c.Rules.length (fun i => ¬ Adg c.Arity (nth c.Rules i)) () () (fun i hi hb => by
    obtain ⟨⟨b1, b2⟩, b3, b4⟩ := Classical.not_not.1 hb
    have hs := h.2 _ (Bc hi)
    unfold Bw
    rw [if_pos (by omega), Af (by omega), Int.toNat_natCast, if_neg (fun hc => hc b1), Rx (by omega), Rx (by omega), decide_eq_true b2, decide_eq_true b4]
    simp only [Option.bind_some, if_true]
    rw [Af (by unfold InI; omega)]
    split
    ·rw [if_neg (by omega)]; rfl
    ·rfl) (fun i hi hb => by
    have hs := h.2 _ (Bc hi)
    unfold Bw
    rw [if_pos (by omega), Af (by omega), Int.toNat_natCast, Rx (by omega), Rx (by omega)]
    by_cases b1 : ((nth c.Rules i).Left.length : Int) = c.Arity
    ·rw [if_neg (fun hc => hc b1)]
     simp only [Option.bind_some, decide_eq_true_eq]
     by_cases b3 : ((nth c.Rules i).Right.length : Int) = c.Arity ∨ ((nth c.Rules i).Right.length : Int) = 1
     ·by_cases b2 : Cg (nth c.Rules i).Left 2
      ·by_cases b4 : Cg (nth c.Rules i).Right 2
       ·exact absurd ⟨⟨b1, b2⟩, b3, b4⟩ hb
       ·rw [if_pos b2, if_neg b4]
        split
        ·rw [if_neg (by omega)]
        ·rfl
      ·rw [if_neg b2]
       split
       ·rw [if_neg (by omega)]
       ·rfl
     ·rw [if_pos (fun hc => b3 (.inl hc)), if_pos (fun hc => b3 (.inr hc))]
    ·rw [if_pos b1]) (by
    unfold Bw
    rw [if_neg (by omega)]) 0 (Nat.zero_le _)
   refine (Ic key false true).trans (congrArg some (Mu ?_))
   rw [Im, U0]
   exact ⟨fun hh => ⟨h1, h2, hh⟩, fun hh => hh.2.2⟩
  ·rw [if_neg (by omega), if_neg (by omega), decide_eq_false (fun hc => h2 hc.2.1)]
   by_cases h3 : (c.Rules.length : Int) < 1
   ·rw [if_pos h3]; rfl
   ·rw [if_neg h3, if_pos (by omega)]; rfl
 ·rw [decide_eq_false (fun hc => h1 hc.1)]
  by_cases h3 : c.Arity < 2
  ·rw [if_pos h3]; rfl
  ·rw [if_neg h3, if_pos (by omega)]; rfl
theorem Fh {xs : List Int} (h : xs.length ≤ LIM) (k : Int) : Cb xs k = some (decide ((xs.length : Int) = k ∧ Cg xs 2)) := by
 unfold Cb
 by_cases hk : (xs.length : Int) = k
 ·rw [if_pos hk, Akx h]
  simp only [Option.bind_some]
  congr 1; rw [decide_eq_decide]; exact ⟨fun h2 => ⟨hk, h2⟩, fun h2 => h2.2⟩
 ·rw [if_neg hk, decide_eq_false (fun h2 => hk h2.1)]
theorem Wc {c : SCondition} (h : O5 c) : Ee c = some (decide (F6 c)) := by
 have hL := Bx
 unfold Ee
 rw [L3, L3]
 simp only [Option.bind_some, decide_eq_true_eq]
 by_cases h1 : 2 ≤ c.Arity ∧ c.Arity ≤ 3
 ·by_cases h2 : 1 ≤ c.Rules.length ∧ c.Rules.length ≤ 6
  ·rw [if_pos h1, if_pos (by omega)]
   simp only [Option.bind_some]
   have key := Ey (body := Ct c) (fun i => (i : Int)) c.Rules.length (fun i => ¬ Adg c.Arity (nth c.Rules i)) () () (fun i hi hb => by
    obtain ⟨b1, b3, b4⟩ := Classical.not_not.1 hb
    have hs := h.2 _ (Bc hi)
    unfold Ct
    rw [if_pos (by omega), Af (by omega), Int.toNat_natCast, Fh (by omega), Fh (by omega), Fh (by omega), decide_eq_true b1]
    simp only [Option.bind_some, if_true, decide_eq_true_eq]
    rw [Af (by unfold InI; omega)]
    by_cases b5 : ((nth c.Rules i).Right.length : Int) = c.Arity
    ·rw [if_pos ⟨b5, b4⟩]; rfl
    ·rw [if_neg (fun hc => b5 hc.1), if_pos ⟨b3.resolve_left b5, b4⟩]; rfl) (fun i hi hb => by
    have hs := h.2 _ (Bc hi)
    unfold Ct
    rw [if_pos (by omega), Af (by omega), Int.toNat_natCast, Fh (by omega), Fh (by omega), Fh (by omega)]
    simp only [Option.bind_some, decide_eq_true_eq]
    by_cases b1 : ((nth c.Rules i).Left.length : Int) = c.Arity ∧ Cg (nth c.Rules i).Left 2
    ·rw [if_pos b1, if_neg (fun hc => hb ⟨b1, .inl hc.1, hc.2⟩), if_neg (fun hc => hb ⟨b1, .inr hc.1, hc.2⟩)]
    ·rw [if_neg b1]) (by
    unfold Ct
    rw [if_neg (by omega)]) 0 (Nat.zero_le _)
   refine (Ic key false true).trans (congrArg some (Mu ?_))
   rw [Im, U0]
   exact ⟨fun hh => ⟨h1, h2, hh⟩, fun hh => hh.2.2⟩
  ·rw [if_pos h1, if_neg (by omega), decide_eq_false (fun hc => h2 hc.2.1)]; rfl
 ·rw [if_neg h1, decide_eq_false (fun hc => h1 hc.1)]; rfl
noncomputable def Dv (ps : List (List Int)) (p : List Int) : Int := if p ∈ ps then (ps.idxOf p : Int) else -1
theorem Z1 {ps : List (List Int)} {p : List Int} {i : Nat} (hi : i < ps.length) (h : nth ps i = p) (h2 : ∀ j, j < i → ¬ nth ps j = p) : Dv ps p = (i : Int) := by
 unfold Dv
 rw [if_pos (h ▸ Bc hi)]
 congr 1
 have hm : p ∈ ps := h ▸ Bc hi
 have h3 := List.idxOf_lt_length_iff.2 hm
 have h4 : nth ps (ps.idxOf p) = p := by rw [Lz h3]; exact List.getElem_idxOf h3
 rcases Nat.lt_trichotomy (ps.idxOf p) i with h5 | h5 | h5
 ·exact absurd h4 (h2 _ h5)
 ·exact h5
 ·have h6 : (ps[i] == p) = false := by simpa using List.not_of_lt_findIdx (p := (· == p)) (xs := ps) h5
  rw [Lz hi] at h
  simp [h] at h6
theorem Ack {ps : List (List Int)} {p : List Int} (h : ∀ i, i < ps.length → ¬ nth ps i = p) : Dv ps p = -1 := by
 unfold Dv
 rw [if_neg]
 intro hc
 obtain ⟨i, h1, h2⟩ := Um.1 hc
 exact h i h1 h2
theorem Rs {ps : List (List Int)} {p : List Int} (h : p ∈ ps) : ∃ i : Nat, Dv ps p = (i : Int) ∧ i < ps.length ∧ nth ps i = p := by
 have h3 := List.idxOf_lt_length_iff.2 h
 refine ⟨ps.idxOf p, if_pos h, h3, ?_⟩
 rw [Lz h3]; exact List.getElem_idxOf h3
theorem Qi {ps : List (List Int)} {p : List Int} (hp : p.length ≤ 1000) (hl : ps.length ≤ 100000) : Ck ps p = some (Dv ps p) := by
 have hL := Bx
 unfold Ck
 rcases Acb (body := Bm ps p) (fun i => (i : Int)) ps.length (fun i => nth ps i = p) (fun i => .inl (i : Int)) (.inr ()) (fun i hi hb => by
  unfold Bm
  rw [if_pos (by omega), Af (by omega), Int.toNat_natCast, Ze (by omega), decide_eq_false (fun hc => hb hc.symm)]
  simp only [Option.bind_some, Bool.false_eq_true, if_false]
  rw [Af (by unfold InI; omega)]; rfl) (fun i hi hb => by
  unfold Bm
  rw [if_pos (by omega), Af (by omega), Int.toNat_natCast, Ze (by omega), decide_eq_true hb.symm]
  simp only [Option.bind_some, if_true]) (by
  unfold Bm
  rw [if_neg (by omega)]) with ⟨i, hi, h1, h2, e⟩ | ⟨h1, e⟩
 ·have e' : Aw (Bm ps p) 0 = _ := e
  rw [e', Z1 hi h1 h2]; rfl
 ·have e' : Aw (Bm ps p) 0 = _ := e
  rw [e', Ack h1]; rfl
theorem Po {ps : List (List Int)} {p : List Int} (hps : ∀ q ∈ ps, q.length ≤ 1000) (hl : ps.length ≤ 100000) : C1 ps p = some (Dv ps p) := by
 have hL := Bx
 unfold C1
 rcases Acb (body := Bq ps p) (fun i => (i : Int)) ps.length (fun i => nth ps i = p) (fun i => .inl (i : Int)) (.inr ()) (fun i hi hb => by
  have hs := hps _ (Bc hi)
  unfold Bq
  rw [if_pos (by omega), Af (by omega), Int.toNat_natCast, Afn (by omega), decide_eq_false hb]
  simp only [Option.bind_some, Bool.false_eq_true, if_false]
  rw [Af (by unfold InI; omega)]; rfl) (fun i hi hb => by
  have hs := hps _ (Bc hi)
  unfold Bq
  rw [if_pos (by omega), Af (by omega), Int.toNat_natCast, Afn (by omega), decide_eq_true hb]
  simp only [Option.bind_some, if_true]) (by
  unfold Bq
  rw [if_neg (by omega)]) with ⟨i, hi, h1, h2, e⟩ | ⟨h1, e⟩
 ·have e' : Aw (Bq ps p) 0 = _ := e
  rw [e', Z1 hi h1 h2]; rfl
 ·have e' : Aw (Bq ps p) 0 = _ := e
  rw [e', Ack h1]; rfl
noncomputable def Gx (ps : List (List Int)) (p : List Int) : List (List Int) := if p ∈ ps then ps else ps ++ [p]
noncomputable def Wy (m : Int) (ps : List (List Int)) (r : SRule) : List (List Int) := if (r.Right.length : Int) = m then Gx (Gx ps r.Left) r.Right else Gx ps r.Left
noncomputable def Hp (m : Int) (rs : List SRule) : List (List Int) := rs.foldl (Wy m) []
noncomputable def pats (c : SCondition) : List (List Int) := Hp c.Arity c.Rules
theorem Rw {ps : List (List Int)} {p q : List Int} (h : q ∈ Gx ps p) : q ∈ ps ∨ q = p := by
 unfold Gx at h
 split at h
 ·exact .inl h
 ·rcases List.mem_append.1 h with h | h
  ·exact .inl h
  ·exact .inr (List.mem_singleton.1 h)
theorem Ajk {ps : List (List Int)} {p : List Int} (h : p ∈ ps) : Gx ps p = ps := if_pos h
theorem Akk {ps : List (List Int)} {p : List Int} (h : p ∉ ps) : Gx ps p = ps ++ [p] := if_neg h
theorem Wh (ps : List (List Int)) (p : List Int) : p ∈ Gx ps p := by
 unfold Gx
 split
 ·assumption
 ·simp
theorem Jj {ps : List (List Int)} {p q : List Int} (h : q ∈ ps) : q ∈ Gx ps p := by
 unfold Gx
 split
 ·exact h
 ·exact List.mem_append_left _ h
theorem Rv (ps : List (List Int)) (p : List Int) : (Gx ps p).length ≤ ps.length + 1 := by
 unfold Gx
 split <;> simp
theorem Lh {ps : List (List Int)} {p : List Int} : Dv ps p < 0 ↔ p ∉ ps := by
 unfold Dv
 constructor
 ·intro h hp; rw [if_pos hp] at h; omega
 ·intro h; rw [if_neg h]; omega
theorem Tp (m : Int) (rs : List SRule) (r : SRule) : Hp m (rs ++ [r]) = Wy m (Hp m rs) r := by
 unfold Hp; rw [List.foldl_append]; rfl
theorem Ajc (m : Int) (ps : List (List Int)) (r : SRule) : (Wy m ps r).length ≤ ps.length + 2 := by
 unfold Wy
 have h1 := Rv ps r.Left
 have h2 := Rv (Gx ps r.Left) r.Right
 split <;> omega
theorem Wz (m : Int) : ∀ rs : List SRule, (∀ r ∈ rs, Adg m r) → (Hp m rs).length ≤ 2 * rs.length ∧ (∀ p ∈ Hp m rs, (p.length : Int) = m ∧ Cg p 2) ∧ ∀ r ∈ rs, r.Left ∈ Hp m rs ∧ ((r.Right.length : Int) = m → r.Right ∈ Hp m rs) := by
 intro rs h
 obtain ⟨n, hn⟩ : ∃ n, rs.length = n := ⟨_, rfl⟩
 induction n generalizing rs with
 | zero =>
   have : rs = [] := List.length_eq_zero_iff.1 hn
   subst this
   exact ⟨by simp [Hp], fun p hp => by simp [Hp] at hp, fun r hr => by simp at hr⟩
 | succ n ih =>
   obtain ⟨qs, r, rfl⟩ : ∃ qs r, rs = qs ++ [r] := ⟨rs.take n, nth rs n, by rw [← L1 (by omega), List.take_of_length_le (by omega)]⟩
   obtain ⟨i1, i2, i3⟩ := ih qs (fun x hx => h x (by simp [hx])) (by simpa using hn)
   obtain ⟨r1, r2, r3⟩ := h r (by simp)
   rw [Tp]
   refine ⟨?_, ?_, ?_⟩
   ·have := Ajc m (Hp m qs) r
    rw [List.length_append, List.length_singleton]; omega
   ·intro p hp
    unfold Wy at hp
    split at hp
    ·rename_i hR
     rcases Rw hp with hp | rfl
     ·rcases Rw hp with hp | rfl
      ·exact i2 p hp
      ·exact r1
     ·exact ⟨hR, r3⟩
    ·rcases Rw hp with hp | rfl
     ·exact i2 p hp
     ·exact r1
   ·intro x hx
    rcases List.mem_append.1 hx with hx | hx
    ·obtain ⟨j1, j2⟩ := i3 x hx
     unfold Wy
     split
     ·exact ⟨Jj (Jj j1), fun hh => Jj (Jj (j2 hh))⟩
     ·exact ⟨Jj j1, fun hh => Jj (j2 hh)⟩
    ·rw [List.mem_singleton.1 hx]
     unfold Wy
     split
     ·exact ⟨Jj (Wh _ _), fun _ => Wh _ _⟩
     ·rename_i hR
      exact ⟨Wh _ _, fun hh => absurd hh hR⟩
theorem F6.pats {c : SCondition} (h : F6 c) : (pats c).length ≤ 12 ∧ (∀ p ∈ pats c, (p.length : Int) = c.Arity ∧ Cg p 2) ∧ ∀ r ∈ c.Rules, r.Left ∈ Ax.pats c ∧ ((r.Right.length : Int) = c.Arity → r.Right ∈ Ax.pats c) := by
 obtain ⟨h1, h2, h3⟩ := Wz c.Arity c.Rules h.2.2
 have := h.2.1.2
 unfold Ax.pats
 exact ⟨by omega, h2, h3⟩
theorem F6.upto {c : SCondition} (h : F6 c) (i : Nat) : (Hp c.Arity (c.Rules.take i)).length ≤ 12 ∧ ∀ p ∈ Hp c.Arity (c.Rules.take i), p.length ≤ 3 := by
 obtain ⟨h1, h2, _⟩ := Wz c.Arity (c.Rules.take i) (fun r hr => h.2.2 r (List.mem_of_mem_take hr))
 have h3 := h.2.1.2
 have h4 := h.1.2
 have h5 : (c.Rules.take i).length ≤ 6 := Nat.le_trans (by rw [List.length_take]; exact Nat.min_le_right _ _) h3
 exact ⟨by omega, fun p hp => by have := (h2 p hp).1; omega⟩
theorem Alv {c : SCondition} (_h : F6 c) {ps : List (List Int)} (hps : ps.length ≤ 100) {p : List Int} (hp : p.length ≤ 3) :
  C0 p c ps = some ((), if (p.length : Int) = c.Arity then Gx ps p else ps) := by
 have hL := Bx
 unfold C0
 by_cases h1 : (p.length : Int) = c.Arity
 ·rw [if_pos h1, if_pos h1, Qi (by omega) (by omega)]
  simp only [Option.bind_some]
  by_cases h2 : p ∈ ps
  ·rw [if_neg (fun hc => Lh.1 hc h2)]
   unfold Gx; rw [if_pos h2]
  ·rw [if_pos (Lh.2 h2), Ale (by omega)]
   simp only [Option.bind_some]
   rw [Af (by simp; omega)]
   unfold Gx; rw [if_neg h2]
 ·rw [if_neg h1, if_neg h1]
theorem K9 {c : SCondition} (h : F6 c) : Cd c = some (pats c) := by
 have hL := Bx
 have h6 := h.2.1.2
 have hA := h.1.2
 unfold Cd
 have key := Cz (body := B3 c) (fun i => ((i : Int), Hp c.Arity (c.Rules.take i))) c.Rules.length (pats c) (fun i hi => by
  obtain ⟨⟨b1, b2⟩, b3, b4⟩ := h.2.2 _ (Bc hi)
  obtain ⟨u1, u2⟩ := h.upto i
  have u3 := Rv (Hp c.Arity (c.Rules.take i)) (nth c.Rules i).Left
  unfold B3
  dsimp only
  rw [if_pos (by omega), Af (by omega), Int.toNat_natCast, Alv h (by omega) (by omega)]
  simp only [Option.bind_some]
  rw [if_pos b1, Alv h (by omega) (by omega)]
  simp only [Option.bind_some]
  rw [Af (by unfold InI; omega), L1 hi, Tp]
  rfl) (by
  unfold B3
  dsimp only
  rw [if_neg (by omega), List.take_length]; rfl)
 have key' : Aw (B3 c) (0, Ba (List Int)) = _ := key
 rw [key']; rfl
theorem Hr {c : SCondition} (h : F6 c) : Bf c = some (pats c) := by
 have hL := Bx
 have h6 := h.2.1.2
 have hA := h.1
 unfold Bf
 have key := Cz (body := Bv c) (fun i => ((i : Int), Hp c.Arity (c.Rules.take i))) c.Rules.length (pats c) (fun i hi => by
  obtain ⟨⟨b1, b2⟩, b3, b4⟩ := h.2.2 _ (Bc hi)
  obtain ⟨u1, u2⟩ := h.upto i
  have u3 := Rv (Hp c.Arity (c.Rules.take i)) (nth c.Rules i).Left
  have u4 : ∀ p ∈ Gx (Hp c.Arity (c.Rules.take i)) (nth c.Rules i).Left, p.length ≤ 1000 := fun p hp => by
   rcases Rw hp with hp | rfl
   ·have := u2 p hp; omega
   ·omega
  unfold Bv
  dsimp only
  rw [if_pos (by omega), Af (by omega), Int.toNat_natCast, Po (fun q hq => by have := u2 q hq; omega) (by omega)]
  simp only [Option.bind_some]
  refine Hq (a := Gx (Hp c.Arity (c.Rules.take i)) (nth c.Rules i).Left) ?_ ?_
  ·by_cases h2 : (nth c.Rules i).Left ∈ Hp c.Arity (c.Rules.take i)
   ·rw [if_neg (fun hc => Lh.1 hc h2)]
    unfold Gx; rw [if_pos h2]
   ·rw [if_pos (Lh.2 h2), Af (by omega), Ahp (by omega)]
    simp only [Option.bind_some]
    rw [Af (by simp; omega)]
    unfold Gx; rw [if_neg h2]
  ·rw [Af (by omega), Af (by omega), Po u4 (by omega), Ahp (by omega)]
   simp only [Option.bind_some]
   rw [L1 hi, Tp]
   unfold Wy
   by_cases h3 : ((nth c.Rules i).Right.length : Int) = c.Arity
   ·rw [if_pos (by omega), if_pos h3]
    simp only [Option.bind_some, decide_eq_true_eq]
    by_cases h4 : (nth c.Rules i).Right ∈ Gx (Hp c.Arity (c.Rules.take i)) (nth c.Rules i).Left
    ·rw [if_neg (fun hc => Lh.1 hc h4), Af (by unfold InI; omega)]
     rw [Ajk h4]; rfl
    ·rw [if_pos (Lh.2 h4), Af (by omega), Af (by simp; omega), Af (by unfold InI; omega)]
     rw [Akk h4]; rfl
   ·rw [if_neg (by omega), if_neg h3]
    simp only [Option.bind_some, Bool.false_eq_true, if_false]
    rw [Af (by unfold InI; omega)]; rfl) (by
  unfold Bv
  dsimp only
  rw [if_neg (by omega), List.take_length]; rfl)
 have key' : Aw (Bv c) (0, Ba (List Int)) = _ := key
 rw [key']; rfl
end Go.Proofs.Ytidaaijecmkndaa.Ax
namespace Go.Proofs.Ytidaaijecmkndaa.Ax
open Go Classical
theorem Ahn {p : List Int} {u v : Int} (hp : p.length ≤ 1000) (h2 : Cg p 2) : Ge p [u, v] = some (p.map fun q => nth [u, v] q.toNat) := by
 have hL := Bx
 unfold Ge
 rw [Af (by omega), Int.toNat_natCast]
 have key := Cz (body := Cx p [u, v]) (fun i => ((i : Int), (p.take i).map (fun q => nth [u, v] q.toNat) ++ List.replicate (p.length - i) 0)) p.length (p.map fun q => nth [u, v] q.toNat) (fun i hi => by
  have hq := h2 _ (Bc hi)
  unfold Cx
  dsimp only
  rw [if_pos (by omega), Af (by omega), Int.toNat_natCast, Af (by simp; omega), Af (by simp; omega), Af (by unfold InI; omega), Amn _ _ _ hi (by simp; omega), L1 hi]
  simp) (by
  unfold Cx
  dsimp only
  rw [if_neg (by omega), List.take_length]
  simp)
 have key' : Aw (Cx p [u, v]) (0, List.replicate p.length 0) = _ := key
 rw [key']; rfl
def L8 (p : List Int) (x y : Nat) : List Int := p.map fun q => nth [(x : Int), (y : Int)] q.toNat
def W8 (n : Nat) (T : List Int) (ps : List (List Int)) (j : Nat) : Int := nth T (Kk n (L8 (nth ps (j / (n * n))) (j / n % n) (j % n))).toNat
def J7 (n : Nat) (T : List Int) (ps : List (List Int)) : List Int := (List.range (ps.length * (n * n))).map (W8 n T ps)
theorem Is (p : List Int) (x y : Nat) : (L8 p x y).length = p.length := by simp [L8]
theorem Aoq {q : Int} (h : 0 ≤ q ∧ q < 2) (u v : Int) : nth [u, v] q.toNat = if q = 1 then v else u := by
 by_cases h1 : q = 1
 ·subst h1; rfl
 ·have : q = 0 := by omega
  subst this; rfl
theorem Yw {p : List Int} {n x y : Nat} (hp : Cg p 2) (hx : x < n) (hy : y < n) : Cg (L8 p x y) n := by
 intro z hz
 unfold L8 at hz
 obtain ⟨q, hq, rfl⟩ := List.mem_map.1 hz
 rw [Aoq (hp q hq)]
 split <;> omega
structure RowR (n : Nat) (T : List Int) (ps : List (List Int)) : Prop where
 lo : 1 ≤ n
 hi : n ≤ 4
 len : ps.length ≤ 12
 pat : ∀ p ∈ ps, p.length ≤ 3 ∧ T.length = n ^ p.length ∧ Cg p 2
 tin : Cg T n
theorem Aor {n : Nat} (lo : 1 ≤ n) (hi : n ≤ 4) {i x y : Nat} (hx : x < n) (hy : y < n) : (i * (n * n) + x * n + y) / (n * n) = i ∧ (i * (n * n) + x * n + y) / n % n = x ∧ (i * (n * n) + x * n + y) % n = y := by
 have hn : n = 1 ∨ n = 2 ∨ n = 3 ∨ n = 4 := by omega
 rcases hn with rfl | rfl | rfl | rfl <;> omega
theorem Z2 {n : Nat} (lo : 1 ≤ n) (hi : n ≤ 4) (T : List Int) (ps : List (List Int)) {i x y : Nat} (hx : x < n) (hy : y < n) : W8 n T ps (i * (n * n) + x * n + y) = nth T (Kk n (L8 (nth ps i) x y)).toNat := by
 obtain ⟨h1, h2, h3⟩ := Aor (i := i) lo hi hx hy
 unfold W8
 rw [h1, h2, h3]
theorem Ld {n : Nat} (lo : 1 ≤ n) (hi : n ≤ 4) {N i x y : Nat} (hN : N ≤ 100) (hI : i < N) (hx : x < n) (hy : y < n) :
  InI ((i : Int) * n) ∧ InI ((i : Int) * n * n) ∧ InI ((x : Int) * n) ∧ InI ((i : Int) * n * n + (x : Int) * n) ∧ InI ((i : Int) * n * n + (x : Int) * n + y) ∧ 0 ≤ (i : Int) * n * n + (x : Int) * n + y ∧ ((i : Int) * n * n + (x : Int) * n + y).toNat = i * (n * n) + x * n + y ∧ i * (n * n) + x * n + y < N * (n * n) := by
 unfold InI
 have hn : n = 1 ∨ n = 2 ∨ n = 3 ∨ n = 4 := by omega
 rcases hn with rfl | rfl | rfl | rfl <;> omega
theorem N9 {n : Nat} (hi : n ≤ 4) {N : Nat} (hN : N ≤ 100) : InI ((N : Int) * n) ∧ InI ((N : Int) * n * n) ∧ (N : Int) * n * n = ((N * (n * n) : Nat) : Int) ∧ N * (n * n) ≤ 1600 := by
 unfold InI
 have hn : n = 0 ∨ n = 1 ∨ n = 2 ∨ n = 3 ∨ n = 4 := by omega
 rcases hn with rfl | rfl | rfl | rfl | rfl <;> omega
theorem Q4 (n : Nat) (T : List Int) (ps : List (List Int)) : (J7 n T ps).length = ps.length * (n * n) := by simp [J7]
section
variable {n : Nat} {T : List Int} {ps : List (List Int)}
theorem RowR.at (h : RowR n T ps) {i x y : Nat} (hi : i < ps.length) (hx : x < n) (hy : y < n) : ∃ k : Nat, Kk n (L8 (nth ps i) x y) = (k : Int) ∧ k < T.length := by
 obtain ⟨h1, h2, h3⟩ := h.pat _ (Bc hi)
 have h4 := h.hi
 obtain ⟨c, e, hc, _⟩ := S0 (m := n) (by omega) (xs := L8 (nth ps i) x y) (by rw [Is]; exact h1) (Yw h3 hx hy)
 rw [Is] at hc
 exact ⟨c, e, by omega⟩
theorem RowR.nth_row (h : RowR n T ps) {i x y : Nat} (hi : i < ps.length) (hx : x < n) (hy : y < n) : nth (J7 n T ps) (i * (n * n) + x * n + y) = nth T (Kk n (L8 (nth ps i) x y)).toNat := by
 have hb := (Ld h.lo h.hi (N := ps.length) (by have := h.len; omega) hi hx hy).2.2.2.2.2.2.2
 unfold J7
 rw [Z5 _ (by simpa using hb), Ajv hb, Z2 h.lo h.hi T ps hx hy]
theorem RowR.row_in (h : RowR n T ps) : Cg (J7 n T ps) n := by
 intro v hv
 unfold J7 at hv
 obtain ⟨j, hj, rfl⟩ := List.mem_map.1 hv
 have hj := List.mem_range.1 hj
 have lo := h.lo
 have hnn : 0 < n * n := Nat.mul_pos lo lo
 have hi : j / (n * n) < ps.length := Nat.div_lt_of_lt_mul (by rw [Nat.mul_comm]; exact hj)
 obtain ⟨k, e, hk⟩ := h.at hi (x := j / n % n) (y := j % n) (Nat.mod_lt _ lo) (Nat.mod_lt _ lo)
 unfold W8
 rw [e]
 exact h.tin _ (Bc (by simpa using hk))
theorem Acf (_lo : 1 ≤ n) (_hi : n ≤ 4) (_hN : ps.length ≤ 12) {g : Nat → Int}
  {b3 : (Int × List Int) → Option ((Int × List Int) ⊕ List Int)} {b2 : Nat → (Int × List Int) → Option ((Int × List Int) ⊕ List Int)} {b1 : Nat → Nat → (Int × List Int) → Option ((Int × List Int) ⊕ List Int)}
  (h1 : ∀ i x y k, i < ps.length → x < n → y < n → k = i * (n * n) + x * n + y → b1 i x ((y : Int), (List.range k).map g) = some (.inl (((y + 1 : Nat) : Int), (List.range (k + 1)).map g)))
  (h1e : ∀ i x l, i < ps.length → x < n → b1 i x ((n : Int), l) = some (.inr l))
  (h2 : ∀ i x l l', i < ps.length → x < n → Aw (b1 i x) ((0 : Nat), l) = some l' → b2 i ((x : Int), l) = some (.inl (((x + 1 : Nat) : Int), l')))
  (h2e : ∀ i l, i < ps.length → b2 i ((n : Int), l) = some (.inr l))
  (h3 : ∀ i l l', i < ps.length → Aw (b2 i) ((0 : Nat), l) = some l' → b3 ((i : Int), l) = some (.inl (((i + 1 : Nat) : Int), l')))
  (h3e : ∀ l, b3 ((ps.length : Int), l) = some (.inr l)) : Aw b3 ((0 : Nat), []) = some ((List.range (ps.length * (n * n))).map g) := by
 have k3 := Cz (body := b3) (fun i => ((i : Int), (List.range (i * (n * n))).map g)) ps.length ((List.range (ps.length * (n * n))).map g) (fun i hI => by
  refine h3 i _ _ hI ?_
  have k2 := Cz (body := b2 i) (fun x => ((x : Int), (List.range (i * (n * n) + x * n)).map g)) n ((List.range ((i + 1) * (n * n))).map g) (fun x hx => by
   refine h2 i x _ _ hI hx ?_
   have k1 := Cz (body := b1 i x) (fun y => ((y : Int), (List.range (i * (n * n) + x * n + y)).map g)) n ((List.range (i * (n * n) + (x + 1) * n)).map g) (fun y hy => h1 i x y _ hI hx hy rfl) (by
    rw [h1e i x _ hI hx, Nat.succ_mul, Nat.add_assoc])
   exact k1) (by
   rw [h2e i _ hI, Nat.succ_mul])
  have e0 : (i * (n * n) + 0 * n) = i * (n * n) := by omega
  rw [e0] at k2
  exact k2) (by
  rw [h3e])
 have e0 : (0 * (n * n)) = 0 := Nat.zero_mul _
 rw [e0] at k3
 exact k3
theorem Ah0 {c : SCondition} (hc : F6 c) (h : RowR n T (pats c)) : Gr n T c = some (J7 n T (pats c)) := by
 have hL := Bx
 have lo := h.lo
 have hi := h.hi
 have hN := h.len
 unfold Gr
 rw [K9 hc]
 simp only [Option.bind_some]
 have key := Acf (n := n) (ps := pats c) lo hi hN (g := W8 n T (pats c)) (b3 := Dt n T (pats c)) (b2 := fun i => E3 n T (pats c) i) (b1 := fun i x => E1 n T (pats c) i x)
  (fun i x y k hI hx hy hk => by
   have hb := (Ld lo hi (N := (pats c).length) (by omega) hI hx hy).2.2.2.2.2.2.2
   have hsz := (N9 hi (N := (pats c).length) (by omega)).2.2.2
   obtain ⟨p1, p2, p3⟩ := h.pat _ (Bc hI)
   obtain ⟨z, e, hz⟩ := h.at hI hx hy
   have he : Fj (L8 (nth (pats c) i) x y) n = some (Kk n (L8 (nth (pats c) i) x y)) := Ajr (by omega) (by rw [Is]; exact p1) (Yw p3 hx hy)
   unfold E1
   dsimp only
   rw [if_pos (by omega), Int.toNat_natCast, Af hI, Ahn (by omega) p3]
   simp only [Option.bind_some]
   rw [show (List.map (fun q => nth [(x : Int), (y : Int)] q.toNat) (nth (pats c) i)) = L8 (nth (pats c) i) x y from rfl, he]
   simp only [Option.bind_some]
   have hc : nth T (Kk n (L8 (nth (pats c) i) x y)).toNat = W8 n T (pats c) k := by rw [hk, Z2 lo hi T _ hx hy]
   rw [hc]
   rw [e, Af (by omega), Af (by simp; omega), Af (by unfold InI; omega), List.range_succ, List.map_append]
   rfl)
  (fun i x l hI hx => by
   unfold E1
   dsimp only
   rw [if_neg (by omega)])
  (fun i x l l' hI hx e => by
   unfold E3
   dsimp only
   rw [if_pos (by omega)]
   refine Hq e ?_
   rw [Af (by unfold InI; omega)]; rfl)
  (fun i l hI => by
   unfold E3
   dsimp only
   rw [if_neg (by omega)])
  (fun i l l' hI e => by
   unfold Dt
   dsimp only
   rw [if_pos (by omega), Af (by omega)]
   refine Hq e ?_
   rw [Af (by unfold InI; omega)]; rfl)
  (fun l => by
   unfold Dt
   dsimp only
   rw [if_neg (by omega)])
 have key' : Aw (Dt n T (pats c)) (0, Ba Int) = _ := key
 rw [key']; rfl
theorem Agm {f : SOp} (lo : 1 ≤ n) (hi : n ≤ 4) (_hN : ps.length ≤ 12) {i x y : Nat} (hI : i < ps.length) (hx : x < n) (hy : y < n) (p1 : (nth ps i).length ≤ 3) (p3 : Cg (nth ps i) 2) (l : List Int) :
  Aw (C6 n f ps i x y l) (0, 0) = some (Kk n (L8 (nth ps i) x y)) := by
 have key := Cz (body := C6 n f ps i x y l) (fun k => ((k : Int), Kk n ((L8 (nth ps i) x y).take k))) (nth ps i).length (Kk n (L8 (nth ps i) x y)) (fun k hk => by
  have hk' : k < (L8 (nth ps i) x y).length := by rw [Is]; exact hk
  obtain ⟨h1, h2⟩ := V6 (m := n) (by omega) (by rw [Is]; exact p1) (Yw p3 hx hy) hk'
  have hq := p3 _ (Bc hk)
  have e : nth (L8 (nth ps i) x y) k = nth [(x : Int), (y : Int)] (nth (nth ps i) k).toNat := Z5 _ hk
  rw [e] at h2
  unfold C6
  dsimp only
  rw [Af (by omega), Int.toNat_natCast, if_pos (by omega), Af h1, Af (by omega), Af (by omega), Int.toNat_natCast, Af (by simp; omega), Af h2, Af (by unfold InI; omega), Wu hk', e]
  rfl) (by
  unfold C6
  dsimp only
  rw [Af (by omega), Int.toNat_natCast, if_neg (by omega), ← Is (nth ps i) x y, List.take_length])
 exact key
theorem Zc {f : SOp} (h : RowR n f.Table ps) : D6 n f ps = some (J7 n f.Table ps) := by
 have hL := Bx
 have lo := h.lo
 have hi := h.hi
 have hN := h.len
 unfold D6
 have key := Acf (n := n) (ps := ps) lo hi hN (g := W8 n f.Table ps) (b3 := C8 n f ps) (b2 := fun i => Ec n f ps i) (b1 := fun i x => Eb n f ps i x)
  (fun i x y k hI hx hy hk => by
   have hb := (Ld lo hi (N := ps.length) (by omega) hI hx hy).2.2.2.2.2.2.2
   have hsz := (N9 hi (N := ps.length) (by omega)).2.2.2
   obtain ⟨p1, p2, p3⟩ := h.pat _ (Bc hI)
   obtain ⟨z, e, hz⟩ := h.at hI hx hy
   unfold Eb
   dsimp only
   rw [if_pos (by omega), Agm lo hi hN hI hx hy p1 p3]
   simp only [Option.bind_some]
   have hc : nth f.Table (Kk n (L8 (nth ps i) x y)).toNat = W8 n f.Table ps k := by rw [hk, Z2 lo hi _ _ hx hy]
   rw [hc]
   rw [e, Af (by omega), Af (by simp; omega), Af (by unfold InI; omega), List.range_succ, List.map_append]
   rfl)
  (fun i x l hI hx => by
   unfold Eb
   dsimp only
   rw [if_neg (by omega)])
  (fun i x l l' hI hx e => by
   unfold Ec
   dsimp only
   rw [if_pos (by omega)]
   refine Hq e ?_
   rw [Af (by unfold InI; omega)]; rfl)
  (fun i l hI => by
   unfold Ec
   dsimp only
   rw [if_neg (by omega)])
  (fun i l l' hI e => by
   unfold C8
   dsimp only
   rw [if_pos (by omega)]
   refine Hq e ?_
   rw [Af (by unfold InI; omega)]; rfl)
  (fun l => by
   unfold C8
   dsimp only
   rw [if_neg (by omega)])
 have key' : Aw (C8 n f ps) (0, Ba Int) = _ := key
 rw [key']; rfl
end
noncomputable def Aa0 (n : Nat) (row : List Int) (m : Int) (ps : List (List Int)) (r : SRule) (j : Nat) : Int :=
 if (r.Right.length : Int) = m then nth row ((Dv ps r.Right).toNat * (n * n) + j) else nth [((j / n : Nat) : Int), ((j % n : Nat) : Int)] (nth r.Right 0).toNat
def okC (n : Nat) (row : List Int) (m : Int) (ps : List (List Int)) (r : SRule) (j : Nat) : Prop := nth row ((Dv ps r.Left).toNat * (n * n) + j) = Aa0 n row m ps r j
def W6 (n : Nat) (row : List Int) (c : SCondition) : Prop := ∀ r ∈ c.Rules, ∀ j, j < n * n → okC n row c.Arity (pats c) r j
theorem Ol {n : Nat} (lo : 1 ≤ n) (hi : n ≤ 4) {N i j : Nat} (hN : N ≤ 100) (hI : i < N) (hj : j < n * n) :
  InI ((i : Int) * n) ∧ InI ((i : Int) * n * n) ∧ InI ((i : Int) * n * n + j) ∧ 0 ≤ (i : Int) * n * n + j ∧ ((i : Int) * n * n + j).toNat = i * (n * n) + j ∧ i * (n * n) + j < N * (n * n) := by
 unfold InI
 have hn : n = 1 ∨ n = 2 ∨ n = 3 ∨ n = 4 := by omega
 rcases hn with rfl | rfl | rfl | rfl <;> omega
section
variable {n : Nat} {row : List Int} {c : SCondition}
theorem Aam (lo : 1 ≤ n) (hi : n ≤ 4) (hc : F6 c) (hrow : row.length = (pats c).length * (n * n)) : E0 n row c (pats c) = some (decide (W6 n row c)) := by
 have hL := Bx
 obtain ⟨hN, hpat, hmem⟩ := hc.pats
 have h6 := hc.2.1.2
 have hA := hc.1
 unfold E0
 have key := Ey (body := C5 n row c (pats c)) (fun i => (i : Int)) c.Rules.length (fun i => ¬ ∀ j, j < n * n → okC n row c.Arity (pats c) (nth c.Rules i) j) () () (fun i hI hb => ?_) (fun i hI hb => ?_) (by
  unfold C5
  rw [if_neg (by omega)]) 0 (Nat.zero_le _)
 ·refine (Ic key false true).trans (congrArg some (Mu ?_))
  rw [Im, U0 (p := fun r => ∀ j, j < n * n → okC n row c.Arity (pats c) r j)]
  rfl
 all_goals
  obtain ⟨⟨b1, b2⟩, b3, b4⟩ := hc.2.2 _ (Bc hI)
  obtain ⟨m1, m2⟩ := hmem _ (Bc hI)
  obtain ⟨a, ea, ha, _⟩ := Rs m1
  have hs : (n * n) ≤ 16 := Nat.mul_le_mul hi hi
  have hnn : (n : Int) * n = ((n * n : Nat) : Int) := rfl
  have hq := b4 _ (Bc (xs := (nth c.Rules i).Right) (i := 0) (by omega))
  have inner : ∀ q6 : Int, (if ((nth c.Rules i).Right.length : Int) = c.Arity then q6 = Dv (pats c) (nth c.Rules i).Right else q6 = -1) →
    Aw (B1 n row c (pats c) i (Dv (pats c) (nth c.Rules i).Left) q6) 0 = some (if ∃ j, 0 ≤ j ∧ j < n * n ∧ ¬ okC n row c.Arity (pats c) (nth c.Rules i) j then .inl () else .inr ()) := by
   intro q6 hq6
   have step : ∀ j, j < n * n → B1 n row c (pats c) i (Dv (pats c) (nth c.Rules i).Left) q6 (j : Int) = some (if okC n row c.Arity (pats c) (nth c.Rules i) j then .inl (((j + 1 : Nat) : Int)) else .inr (.inl ())) := by
    intro j hj
    obtain ⟨r1, r2, r3, r4, r5, r6⟩ := Ol lo hi (N := (pats c).length) (by omega) ha hj
    have hd : j / n ≤ j := Nat.div_le_self j n
    have d1 : (j : Int).tdiv (n : Int) = ((j / n : Nat) : Int) := rfl
    have d2 : (j : Int).tmod (n : Int) = ((j % n : Nat) : Int) := rfl
    unfold B1
    rw [hnn, d1, d2, Af (by unfold InI; omega), if_pos (by omega), Af ⟨by omega, by generalize j / n = jd at hd; unfold InI; omega⟩, Af (by omega), Int.toNat_natCast, Af (by omega), Af (by simp only [List.length_cons, List.length_nil]; exact ⟨hq.1, hq.2⟩)]
    refine Hq (a := Aa0 n row c.Arity (pats c) (nth c.Rules i) j) ?_ ?_
    ·unfold Aa0
     by_cases hR : ((nth c.Rules i).Right.length : Int) = c.Arity
     ·rw [if_pos hR] at hq6
      obtain ⟨b, eb, hb, _⟩ := Rs (m2 hR)
      obtain ⟨s1, s2, s3, s4, s5, s6⟩ := Ol lo hi (N := (pats c).length) (by omega) hb hj
      rw [if_pos hR, hq6, eb, if_pos (by omega), Af s1, Af s2, Af s3, Af ⟨s4, by omega⟩, s5, Int.toNat_natCast]
     ·rw [if_neg hR] at hq6
      rw [if_neg hR, hq6, if_neg (by omega)]
      rfl
    ·rw [ea, Af r1, Af r2, Af r3, Af ⟨r4, by omega⟩, r5]
     unfold okC
     rw [ea, Int.toNat_natCast]
     by_cases ho : nth row (a * (n * n) + j) = Aa0 n row c.Arity (pats c) (nth c.Rules i) j
     ·rw [if_neg (fun hh => hh ho), if_pos ho, Af (by unfold InI; omega)]; rfl
     ·rw [if_pos ho, if_neg ho]
   have k1 := Ey (body := B1 n row c (pats c) i (Dv (pats c) (nth c.Rules i).Left) q6) (fun j => (j : Int)) (n * n) (fun j => ¬ okC n row c.Arity (pats c) (nth c.Rules i) j) () () (fun j hj hb => by
    rw [step j hj, if_pos (Classical.not_not.1 hb)]) (fun j hj hb => by
    rw [step j hj, if_neg hb]) (by
    unfold B1
    rw [hnn, Af (by unfold InI; omega), if_neg (by omega)]) 0 (Nat.zero_le _)
   exact k1
  have two : ((if ((nth c.Rules i).Right.length : Int) = c.Arity then (Ck (pats c) (nth c.Rules i).Right).bind fun r5 => some r5 else some (-1) : Option Int)) = some (if ((nth c.Rules i).Right.length : Int) = c.Arity then Dv (pats c) (nth c.Rules i).Right else -1) := by
   split
   ·rw [Qi (by omega) (by omega)]; rfl
   ·rfl
  unfold C5
  rw [if_pos (by omega), Af (by omega), Int.toNat_natCast, Qi (by omega) (by omega)]
  simp only [Option.bind_some]
  refine Hq two ?_
  rw [inner _ (by split <;> rfl)]
 ·rw [if_neg (fun ⟨j, _, hj, hh⟩ => hh (Classical.not_not.1 hb j hj))]
  simp only [Option.bind_some]
  rw [Af (by unfold InI; omega)]; rfl
 ·rw [if_pos (Classical.byContradiction fun hh => hb fun j hj => Classical.byContradiction fun h2 => hh ⟨j, Nat.zero_le _, hj, h2⟩)]
  rfl
theorem Zq (lo : 1 ≤ n) (hi : n ≤ 4) (hc : F6 c) (hrow : row.length = (pats c).length * (n * n)) : Ez n row c (pats c) = some (decide (W6 n row c)) := by
 have hL := Bx
 obtain ⟨hN, hpat, hmem⟩ := hc.pats
 have h6 := hc.2.1.2
 have hA := hc.1
 unfold Ez
 have key := Ey (body := Dc n row c (pats c)) (fun i => (i : Int)) c.Rules.length (fun i => ¬ ∀ j, j < n * n → okC n row c.Arity (pats c) (nth c.Rules i) j) () () (fun i hI hb => ?_) (fun i hI hb => ?_) (by
  unfold Dc
  rw [if_neg (by omega)]) 0 (Nat.zero_le _)
 ·refine (Ic key false true).trans (congrArg some (Mu ?_))
  rw [Im, U0 (p := fun r => ∀ j, j < n * n → okC n row c.Arity (pats c) r j)]
  rfl
 all_goals
  obtain ⟨⟨b1, b2⟩, b3, b4⟩ := hc.2.2 _ (Bc hI)
  obtain ⟨m1, m2⟩ := hmem _ (Bc hI)
  obtain ⟨a, ea, ha, _⟩ := Rs m1
  have hq := b4 _ (Bc (xs := (nth c.Rules i).Right) (i := 0) (by omega))
  have hpl : ∀ q ∈ pats c, q.length ≤ 1000 := fun q hq => by have := (hpat q hq).1; omega
  have inner : ∀ r7 : Int, r7 = Dv (pats c) (nth c.Rules i).Right →
    Aw (B0 n row c (pats c) i (Dv (pats c) (nth c.Rules i).Left) r7) 0 = some (if ∃ x, 0 ≤ x ∧ x < n ∧ ¬ ∀ y, y < n → okC n row c.Arity (pats c) (nth c.Rules i) (x * n + y) then .inl () else .inr ()) := by
   intro r7 hr7
   have step : ∀ x y, x < n → y < n → B4 n row c (pats c) i (Dv (pats c) (nth c.Rules i).Left) r7 (x : Int) (y : Int) = some (if okC n row c.Arity (pats c) (nth c.Rules i) (x * n + y) then .inl (((y + 1 : Nat) : Int)) else .inr (.inl ())) := by
    intro x y hx hy
    obtain ⟨r1, r2, r3, r4, r5, r6, r8, r9⟩ := Ld lo hi (N := (pats c).length) (by omega) ha hx hy
    obtain ⟨_, i2, i3⟩ := Aor (i := 0) lo hi hx hy
    have d1 : (x * n + y) / n = x := by
     rw [Nat.add_comm, Nat.add_mul_div_right _ _ (by omega), Nat.div_eq_of_lt hy]; omega
    have d2 : (x * n + y) % n = y := by simpa using i3
    unfold B4
    rw [if_pos (by omega), Af (by omega), Int.toNat_natCast, Af (by omega), Af (by simp only [List.length_cons, List.length_nil]; exact ⟨hq.1, hq.2⟩), Af (by omega)]
    refine Hq (a := Aa0 n row c.Arity (pats c) (nth c.Rules i) (x * n + y)) ?_ ?_
    ·unfold Aa0
     by_cases hR : ((nth c.Rules i).Right.length : Int) = c.Arity
     ·obtain ⟨b, eb, hb, _⟩ := Rs (m2 hR)
      obtain ⟨s1, s2, s3, s4, s5, s6, s7, s8⟩ := Ld lo hi (N := (pats c).length) (by omega) hb hx hy
      rw [if_pos hR, hr7, eb, if_pos (by omega), Af s3, Af s4, Af s5, Af ⟨s6, by omega⟩, s7, Int.toNat_natCast, Nat.add_assoc]
     ·rw [if_neg hR, if_neg (by omega), d1, d2]
      rfl
    ·rw [ea, Af r3, Af r4, Af r5, Af ⟨r6, by omega⟩, r8]
     unfold okC
     rw [ea, Int.toNat_natCast, ← Nat.add_assoc]
     by_cases ho : nth row (a * (n * n) + x * n + y) = Aa0 n row c.Arity (pats c) (nth c.Rules i) (x * n + y)
     ·rw [if_neg (fun hh => hh ho), if_pos ho, Af (by unfold InI; omega)]; rfl
     ·rw [if_pos ho, if_neg ho]
   have k1 : ∀ x, x < n → Aw (B4 n row c (pats c) i (Dv (pats c) (nth c.Rules i).Left) r7 (x : Int)) 0 = some (if ∃ y, 0 ≤ y ∧ y < n ∧ ¬ okC n row c.Arity (pats c) (nth c.Rules i) (x * n + y) then .inl () else .inr ()) := fun x hx =>
    Ey (body := B4 n row c (pats c) i (Dv (pats c) (nth c.Rules i).Left) r7 (x : Int)) (fun j => (j : Int)) n (fun y => ¬ okC n row c.Arity (pats c) (nth c.Rules i) (x * n + y)) () () (fun y hy hb => by
     rw [step x y hx hy, if_pos (Classical.not_not.1 hb)]) (fun y hy hb => by
     rw [step x y hx hy, if_neg hb]) (by
     unfold B4
     rw [if_neg (by omega)]) 0 (Nat.zero_le _)
   have k2 := Ey (body := B0 n row c (pats c) i (Dv (pats c) (nth c.Rules i).Left) r7) (fun j => (j : Int)) n (fun x => ¬ ∀ y, y < n → okC n row c.Arity (pats c) (nth c.Rules i) (x * n + y)) () () (fun x hx hb => by
    unfold B0
    rw [if_pos (by omega), k1 x hx, if_neg (fun ⟨y, _, hy, hh⟩ => hh (Classical.not_not.1 hb y hy))]
    simp only [Option.bind_some]
    rw [Af (by unfold InI; omega)]; rfl) (fun x hx hb => by
    unfold B0
    rw [if_pos (by omega), k1 x hx, if_pos (Classical.byContradiction fun hh => hb fun y hy => Classical.byContradiction fun h2 => hh ⟨y, Nat.zero_le _, hy, h2⟩)]
    rfl) (by
    unfold B0
    rw [if_neg (by omega)]) 0 (Nat.zero_le _)
   exact k2
  have same : (∃ x, 0 ≤ x ∧ x < n ∧ ¬ ∀ y, y < n → okC n row c.Arity (pats c) (nth c.Rules i) (x * n + y)) ↔ ¬ ∀ j, j < n * n → okC n row c.Arity (pats c) (nth c.Rules i) j := by
   constructor
   ·rintro ⟨x, _, hx, hh⟩ hall
    refine hh fun y hy => hall _ ?_
    have : x * n + n ≤ n * n := by rw [← Nat.succ_mul]; exact Nat.mul_le_mul_right n hx
    omega
   ·intro hh
    refine Classical.byContradiction fun hc2 => hh fun j hj => ?_
    have h1 : j / n < n := Nat.div_lt_of_lt_mul hj
    have h2 : j % n < n := Nat.mod_lt _ (by omega)
    have h3 : j / n * n + j % n = j := by rw [Nat.mul_comm]; exact Nat.div_add_mod j n
    rw [← h3]
    exact Classical.byContradiction fun h4 => hc2 ⟨j / n, Nat.zero_le _, h1, fun hall => h4 (hall _ h2)⟩
  have q1 := N9 hi (N := (pats c).length) (by omega)
  have q2 := Ol lo hi (N := (pats c).length) (by omega) ha (j := 0) (Nat.mul_pos lo lo)
  have q3 : InI (Dv (pats c) (nth c.Rules i).Right * n) ∧ InI (Dv (pats c) (nth c.Rules i).Right * n * n) := by
   unfold Dv
   split
   ·rename_i hm
    have := Ol lo hi (N := (pats c).length) (by omega) (List.idxOf_lt_length_iff.2 hm) (j := 0) (Nat.mul_pos lo lo)
    exact ⟨this.1, this.2.1⟩
   ·unfold InI
    have hn : n = 1 ∨ n = 2 ∨ n = 3 ∨ n = 4 := by omega
    rcases hn with rfl | rfl | rfl | rfl <;> omega
  unfold Dc
  rw [if_pos (by omega), Af (by omega), Int.toNat_natCast, Po hpl (by omega)]
  simp only [Option.bind_some]
  rw [Af (by rw [ea]; exact q2.1), Af (by rw [ea]; exact q2.2.1), Af (by omega), Po hpl (by omega)]
  simp only [Option.bind_some]
  rw [Af q3.1, Af q3.2, inner _ rfl]
 ·rw [if_neg (fun hh => same.1 hh (Classical.not_not.1 hb))]
  simp only [Option.bind_some]
  rw [Af (by unfold InI; omega)]; rfl
 ·rw [if_pos (same.2 hb)]
  rfl
end
end Go.Proofs.Ytidaaijecmkndaa.Ax
namespace Go.Proofs.Ytidaaijecmkndaa.Ax
open Go Classical
def Ue (c : SCondition) : Prop := c.Rules.length ≤ 10 ∧ ∀ r ∈ c.Rules, r.Left.length ≤ 5 ∧ r.Right.length ≤ 5
theorem Qr {c : SCondition} (h : Ue c) : O5 c := ⟨by have := h.1; omega, fun r hr => by have := h.2 r hr; omega⟩
theorem Alp {c : Sl1Cur} {k : Nat} (h : Cur k c) (hk : k ≤ 900000000) (l : List ByteArray) (h0 : 0 < l.length) : ∃ r d, F1 c l = some (r, d) ∧ Cur (k + 2) d := by
 unfold F1
 obtain ⟨r, d, e, hd, a1, a2⟩ := Cq h hk (l.length : Int)
 simp only [e, Option.bind_some]
 rw [Af (by omega)]
 exact ⟨_, _, rfl, hd⟩
theorem Ajj {α β γ δ : Type} {o : Option (α × β)} {k : α × β → Option (γ × δ)} {P : β → Prop} {Q : γ → δ → Prop} (h : ∃ a b, o = some (a, b) ∧ P b) (h2 : ∀ a b, P b → ∃ c d, k (a, b) = some (c, d) ∧ Q c d) : ∃ c d, o.bind k = some (c, d) ∧ Q c d := by
 obtain ⟨a, b, e, hb⟩ := h
 rw [e]; exact h2 a b hb
theorem Ahk (s : ByteArray) : ∃ c, Fy s = some c ∧ Ue c := by
 unfold Fy
 repeat' refine Akw (fun _ => ?_) (fun _ => ?_)
 all_goals
  refine ⟨_, rfl, ?_⟩
  unfold Ue
  decide
def Xb (r : SRule) : Prop := (1 ≤ r.Left.length ∧ r.Left.length ≤ 3) ∧ r.Right.length ≤ 3
theorem Z7 {c : Sl1Cur} {k : Nat} (h : Cur k c) (hk : k ≤ 600000000) : ∃ a d, Cu c = some (a, d) ∧ Cur (k + 1000) d ∧ Ue a := by
 have hL := Bx
 unfold Cu
 obtain ⟨b, d, e, hd⟩ := Q8 h (by omega) 4
 rw [e]
 simp only [Option.bind_some]
 by_cases hb : b = true
 ·rw [if_pos hb]
  obtain ⟨n, d2, e2, hd2, hn⟩ := C7 hd (by omega) [2, 2, 3] (by simp)
  rw [e2]
  simp only [Option.bind_some]
  obtain ⟨m, d3, e3, hd3, hm⟩ := C7 hd2 (by omega) [1, 1, 2, 3] (by simp)
  rw [e3]
  simp only [Option.bind_some]
  obtain ⟨A, rfl, hA⟩ : ∃ A : Nat, n = (A : Int) ∧ 2 ≤ A ∧ A ≤ 3 := ⟨n.toNat, by simp at hn; omega, by simp at hn; omega⟩
  obtain ⟨M, rfl, hM⟩ : ∃ M : Nat, m = (M : Int) ∧ 1 ≤ M ∧ M ≤ 3 := ⟨m.toNat, by simp at hm; omega, by simp at hm; omega⟩
  obtain ⟨⟨a, d4⟩, e4, ⟨ha1, ha2, ha3⟩, hd4⟩ := Gg (body := B8) (fun s => ∃ j : Nat, s.1 = (j : Int) ∧ j ≤ M ∧ s.2.1.Arity = (A : Int) ∧ s.2.1.Rules.length = M - j ∧ (∀ r ∈ s.2.1.Rules, Xb r) ∧ Cur (k + 6 + 30 * (M - j)) s.2.2) (fun s => s.1.toNat)
   (fun t => (t.1.Arity = (A : Int) ∧ t.1.Rules.length = M ∧ ∀ r ∈ t.1.Rules, Xb r) ∧ Cur (k + 6 + 30 * M) t.2) (fun s hs => by
   obtain ⟨x4, x3, x1⟩ := s
   obtain ⟨j, g1, g2, g3, g4, g5, g6⟩ := hs
   simp only at g1 g2 g3 g4 g5 g6
   subst g1
   unfold B8
   dsimp only
   by_cases hj : (j : Int) > 0
   ·left
    rw [if_pos hj]
    obtain ⟨r, d5, e5, hd5, _⟩ := Cq g6 (by omega) 2
    rw [e5]
    simp only [Option.bind_some]
    obtain ⟨⟨q, d6⟩, e6, hq, hd6⟩ := Gg (body := Ca (j : Int) x3) (fun s => ∃ i : Nat, s.1 = (i : Int) ∧ i ≤ A ∧ s.2.1.Left.length = i ∧ s.2.1.Right.length = 1 ∧ Cur (k + 6 + 30 * (M - j) + 2 + 2 * i) s.2.2) (fun s => A - s.1.toNat)
     (fun t => (t.1.Left.length = A ∧ t.1.Right.length = 1) ∧ Cur (k + 6 + 30 * (M - j) + 2 + 2 * A) t.2) (fun s hs => by
     obtain ⟨x6, x5, x9⟩ := s
     obtain ⟨i, k1, k2, k3, k4, k5⟩ := hs
     simp only at k1 k2 k3 k4 k5
     subst k1
     unfold Ca
     dsimp only
     rw [g3]
     by_cases hi : (i : Int) < (A : Int)
     ·left
      rw [if_pos hi]
      obtain ⟨v, d7, e7, hd7, _⟩ := Cq k5 (by omega) 2
      rw [e7]
      simp only [Option.bind_some]
      rw [Af (by simp; omega), Af (by unfold InI; omega)]
      exact ⟨_, rfl, ⟨i + 1, rfl, by omega, by simp; omega, k4, hd7.mono (by omega)⟩, by simp only; omega⟩
     ·right
      rw [if_neg hi]
      exact ⟨_, rfl, ⟨by simp only; omega, k4⟩, k5.mono (by omega)⟩) (s := ((0 : Int), ({ Left := Ba Int, Right := [r] } : SRule), d5)) ⟨0, rfl, Nat.zero_le _, rfl, rfl, hd5.mono (by omega)⟩
    rw [e6]
    simp only [Option.bind_some]
    simp only at hq hd6
    obtain ⟨b2, d7, e7, hd7⟩ := Q8 hd6 (by omega) 2
    rw [e7]
    simp only [Option.bind_some]
    have fin : ∀ (z : SRule) (d9 : Sl1Cur), Xb z → Cur (k + 6 + 30 * (M - j) + 24) d9 → ∃ s' : Int × SCondition × Sl1Cur, (ask ((x3.Rules).length + ([z]).length ≤ LIM) <| ask (InI ((j : Int) - 1)) <| some (Sum.inl (((j : Int) - 1, ({ Arity := x3.Arity, Rules := x3.Rules ++ [z] } : SCondition), d9) : Int × SCondition × Sl1Cur)) : Option ((Int × SCondition × Sl1Cur) ⊕ (SCondition × Sl1Cur))) = some (.inl s') ∧ (∃ j : Nat, s'.1 = (j : Int) ∧ j ≤ M ∧ s'.2.1.Arity = (A : Int) ∧ s'.2.1.Rules.length = M - j ∧ (∀ r ∈ s'.2.1.Rules, Xb r) ∧ Cur (k + 6 + 30 * (M - j)) s'.2.2) ∧ s'.1.toNat < (j : Int).toNat := fun z d9 hz hd9 => by
     rw [Af (by simp; omega), Af (by unfold InI; omega)]
     refine ⟨_, rfl, ⟨j - 1, by simp only; omega, by omega, g3, by simp; omega, fun f hf => ?_, hd9.mono (by omega)⟩, by simp only; omega⟩
     rcases List.mem_append.1 hf with h' | h'
     ·exact g5 f h'
     ·rw [List.mem_singleton.1 h']; exact hz
    by_cases hb2 : b2 = true
    ·rw [if_pos hb2]
     obtain ⟨⟨q2, d8⟩, e8, hq2, hd8⟩ := Gg (body := B7 (j : Int) x3) (fun s => ∃ i : Nat, s.1 = (i : Int) ∧ 1 ≤ i ∧ i ≤ A ∧ s.2.1.Left.length = A ∧ s.2.1.Right.length = i ∧ Cur (k + 6 + 30 * (M - j) + 10 + 2 * i) s.2.2) (fun s => A - s.1.toNat)
      (fun t => (t.1.Left.length = A ∧ t.1.Right.length = A) ∧ Cur (k + 6 + 30 * (M - j) + 10 + 2 * A) t.2) (fun s hs => by
      obtain ⟨x6, x5, x9⟩ := s
      obtain ⟨i, k1, k0, k2, k3, k4, k5⟩ := hs
      simp only at k1 k2 k3 k4 k5
      subst k1
      unfold B7
      dsimp only
      rw [g3]
      by_cases hi : (i : Int) < (A : Int)
      ·left
       rw [if_pos hi]
       obtain ⟨v, d7, e7, hd7, _⟩ := Cq k5 (by omega) 2
       rw [e7]
       simp only [Option.bind_some]
       rw [Af (by simp; omega), Af (by unfold InI; omega)]
       exact ⟨_, rfl, ⟨i + 1, rfl, by omega, by omega, k3, by simp; omega, hd7.mono (by omega)⟩, by simp only; omega⟩
      ·right
       rw [if_neg hi]
       exact ⟨_, rfl, ⟨k3, by simp only; omega⟩, k5.mono (by omega)⟩) (s := ((1 : Int), q, d7)) ⟨1, rfl, Nat.le_refl _, by omega, hq.1, hq.2, hd7.mono (by omega)⟩
     rw [e8]
     simp only [Option.bind_some]
     simp only at hq2 hd8
     exact fin q2 d8 ⟨by omega, by omega⟩ (hd8.mono (by omega))
    ·rw [if_neg hb2]
     exact fin q d7 ⟨by omega, by omega⟩ (hd7.mono (by omega))
   ·right
    rw [if_neg hj]
    exact ⟨_, rfl, ⟨g3, by simp only; omega, g5⟩, g6.mono (by omega)⟩) (s := ((M : Int), ({ Arity := (A : Int), Rules := Ba SRule } : SCondition), d3)) ⟨M, rfl, Nat.le_refl _, rfl, by simp [Ba], fun f hf => by simp [Ba] at hf, hd3.mono (by omega)⟩
  rw [e4]
  simp only [Option.bind_some]
  simp only at ha1 ha2 ha3 hd4
  have h0 : 0 < a.Rules.length := by omega
  have hf0 := ha3 _ (Bc h0)
  have ht : Ue a := ⟨by omega, fun f hf => by have := ha3 f hf; unfold Xb at this; omega⟩
  have hset : ∀ {f : SRule}, f.Left.length ≤ 5 ∧ f.Right.length ≤ 5 → Ue { Arity := a.Arity, Rules := a.Rules.set (Int.toNat 0) f } := fun hf => ⟨by simp; omega, fun g hg => by
   rcases List.mem_or_eq_of_mem_set hg with h' | h'
   ·exact ht.2 g h'
   ·rw [h']; exact hf⟩
  obtain ⟨w, d5, e5, hd5, w0, _⟩ := Cq hd4 (by omega) 12
  rw [e5]
  simp only [Option.bind_some]
  unfold Xb at hf0
  by_cases c0 : w = 0
  ·rw [if_pos c0, ha1, Af (by unfold InI; omega)]
   obtain ⟨r, d6, e6, hd6, _⟩ := C7 hd5 (by omega) [1, 4, 5 - (A : Int)] (by simp)
   rw [e6]
   exact ⟨_, _, rfl, hd6.mono (by omega), ht⟩
  rw [if_neg c0]
  by_cases c1 : w = 1
  ·rw [if_pos c1, Af (by omega)]
   obtain ⟨r, d6, e6, hd6, _⟩ := C7 hd5 (by omega) [-1, 2] (by simp)
   rw [e6]
   simp only [Option.bind_some, Int.toNat_zero]
   rw [Af (by omega)]
   exact ⟨_, _, rfl, hd6.mono (by omega), hset (by simp only [List.length_set]; omega)⟩
  rw [if_neg c1]
  by_cases c2 : w = 2
  ·rw [if_pos c2, Af (by omega)]
   exact ⟨_, _, rfl, hd5.mono (by omega), hset (by simp only [Int.toNat_zero, Ba, List.length_nil]; omega)⟩
  rw [if_neg c2]
  by_cases c3 : w = 3
  ·rw [if_pos c3]
   obtain ⟨⟨a2, d6⟩, e6, ht2, hd6⟩ := Gg (body := B9) (fun s => (1 ≤ s.1.Rules.length ∧ s.1.Rules.length ≤ 7) ∧ (∀ f ∈ s.1.Rules, Xb f) ∧ Cur (k + 200 + 2 * s.1.Rules.length) s.2) (fun s => 7 - s.1.Rules.length) (fun t => Ue t.1 ∧ Cur (k + 300) t.2) (fun s hs => by
    obtain ⟨x5, x1⟩ := s
    obtain ⟨g1, g2, g3⟩ := hs
    simp only at g1 g2 g3
    unfold B9
    dsimp only
    obtain ⟨r, d7, e7, hd7, r0, r1⟩ := Cq g3 (by omega) 2
    rw [e7]
    simp only [Option.bind_some]
    rw [Af (by unfold InI; omega)]
    by_cases hl : (x5.Rules.length : Int) < 6 + r
    ·left
     rw [if_pos hl, Af (by omega), Af (by simp; omega)]
     refine ⟨_, rfl, ⟨by simp; omega, fun f hf => ?_, hd7.mono (by simp; omega)⟩, by simp; omega⟩
     rcases List.mem_append.1 hf with h' | h'
     ·exact g2 f h'
     ·rw [List.mem_singleton.1 h']; exact g2 _ (Bc (by simp only [Int.toNat_zero]; omega))
    ·right
     rw [if_neg hl]
     exact ⟨_, rfl, ⟨by simp only; omega, fun f hf => by have := g2 f hf; unfold Xb at this; omega⟩, hd7.mono (by omega)⟩) (s := (a, d5)) ⟨by simp only; omega, ha3, hd5.mono (by omega)⟩
   rw [e6]
   exact ⟨_, _, rfl, hd6.mono (by omega), ht2⟩
  rw [if_neg c3]
  exact ⟨_, _, rfl, hd5.mono (by omega), ht⟩
 ·rw [if_neg hb]
  refine Ajj (Alp hd (by omega) _ (by decide)) fun s d2 hd2 => ?_
  obtain ⟨a, e3, ht⟩ := Ahk s
  rw [e3]
  exact ⟨_, _, rfl, hd2.mono (by omega), ht⟩
theorem Aab {c : Sl1Cur} {k : Nat} (h : Cur k c) (hk : k ≤ 500000000) : ∃ a d, Cw c = some (a, d) ∧ Cur (k + 1010) d ∧ Sl a := by
 unfold Cw
 obtain ⟨b, d, e, hd⟩ := Q8 h (by omega) 6
 rw [e]
 simp only [Option.bind_some]
 by_cases hb : b = true
 ·rw [if_pos hb]
  obtain ⟨a, d2, e2, hd2, ha⟩ := Aei hd (by omega)
  rw [e2]
  exact ⟨_, _, rfl, hd2.mono (by omega), ha⟩
 ·rw [if_neg hb]
  obtain ⟨r, d2, e2, hd2, _⟩ := C7 hd (by omega) [0, 1, 2, 3, 4, 5, 6, 7, 8, 9, 10, 12, 13, 14, 15, 16] (by simp)
  rw [e2]
  simp only [Option.bind_some]
  obtain ⟨a, e3, ht⟩ := T5 r
  rw [e3]
  exact ⟨_, _, rfl, hd2.mono (by omega), ht⟩
theorem Aad {code : List Int} (hc : ∀ x ∈ code, 0 ≤ x ∧ x ≤ 255) (hl : code.length ≤ 65536) : ∃ n f c, D9 code = some (n, f, c) ∧ f.Table.length ≤ 200 ∧ Ue c := by
 have hL := Bx
 unfold D9
 obtain ⟨c, d, e, hd, htc⟩ := Z7 (Aik hc hl) (by omega)
 rw [e]
 simp only [Option.bind_some]
 obtain ⟨a, d2, e2, hd2, hta⟩ := Aab hd (by omega)
 rw [e2]
 simp only [Option.bind_some]
 obtain ⟨t, e3, hp⟩ := Gg (body := Dx c a) (fun s => ∃ j : Nat, s.1 = (j : Int) ∧ j ≤ a.Ops.length ∧ Cur (3000 + 2 * j) s.2) (fun s => a.Ops.length - s.1.toNat)
  (fun t => match t with | .inl f => f.Table.length ≤ 200 | .inr d => Cur 4000 d) (fun s hs => by
  obtain ⟨x8, x5⟩ := s
  obtain ⟨j, g1, g2, g3⟩ := hs
  simp only at g1 g2 g3
  subst g1
  have ho := hta.1
  unfold Dx
  dsimp only
  by_cases hj : (j : Int) < (a.Ops.length : Int)
  ·rw [if_pos hj, Af (by omega), Af (by omega), Int.toNat_natCast]
   have hf := hta.2 _ (Bc (xs := a.Ops) (i := j) (by omega))
   have hq : ∃ b d3, ((if (nth a.Ops j).Arity = c.Arity then (Bt x5 2).bind fun (r8, u9) => some (r8, u9) else some (false, x5) : Option (Bool × Sl1Cur))) = some (b, d3) ∧ Cur (3000 + 2 * j + 2) d3 := by
    by_cases hA : (nth a.Ops j).Arity = c.Arity
    ·rw [if_pos hA]
     obtain ⟨b, d3, e3, hd3⟩ := Q8 g3 (by omega) 2
     rw [e3]; exact ⟨_, _, rfl, hd3⟩
    ·rw [if_neg hA]; exact ⟨_, _, rfl, g3.mono (by omega)⟩
   obtain ⟨b, d3, e3, hd3⟩ := hq
   rw [e3]
   simp only [Option.bind_some]
   by_cases hb : b = true
   ·right
    rw [if_pos hb]
    unfold Jy
    rw [Ahp (by omega)]
    exact ⟨_, rfl, by simp only; omega⟩
   ·left
    rw [if_neg hb, Af (by unfold InI; omega)]
    exact ⟨_, rfl, ⟨j + 1, rfl, by omega, hd3.mono (by omega)⟩, by simp only; omega⟩
  ·right
   rw [if_neg hj]
   exact ⟨_, rfl, g3.mono (by omega)⟩) (s := ((0 : Int), d2)) ⟨0, rfl, Nat.zero_le _, hd2.mono (by omega)⟩
 rw [e3]
 simp only [Option.bind_some]
 cases t with
 | inl f => exact ⟨_, _, _, rfl, hp, htc⟩
 | inr d3 =>
   simp only at hp ⊢
   obtain ⟨r, d4, e4, hd4, r0, r1⟩ := Cq hp (by omega) 24
   rw [e4]
   simp only [Option.bind_some]
   have hr : r.tdiv 11 = r / 11 := Int.tdiv_eq_ediv_of_nonneg r0
   rw [hr, Af ⟨by omega, by unfold InI; omega⟩, Af (by unfold InI; omega), Af (by simp; omega)]
   obtain ⟨n, d5, e5, hd5, hn⟩ := C7 hd4 (by omega) (List.take ((6 + r / 11).toNat - Int.toNat 0) (List.drop (Int.toNat 0) [1, 2, 2, 2, 3, 4, 0, 5])) (by simp; omega)
   rw [e5]
   simp only [Option.bind_some]
   rw [L3, L3]
   simp only [Option.bind_some, decide_eq_true_eq]
   by_cases hN : 1 ≤ n ∧ n ≤ 3
   ·rw [if_pos hN]
    simp only [Option.bind_some, decide_eq_true_eq]
    by_cases hA : 1 ≤ c.Arity ∧ c.Arity ≤ 3
    ·rw [if_pos hA]
     obtain ⟨N, rfl, hN2⟩ : ∃ N : Nat, n = (N : Int) ∧ 1 ≤ N ∧ N ≤ 3 := ⟨n.toNat, by omega, by omega⟩
     obtain ⟨A, eA, hA2⟩ : ∃ A : Nat, c.Arity = (A : Int) ∧ 1 ≤ A ∧ A ≤ 3 := ⟨c.Arity.toNat, by omega, by omega⟩
     have hpw : N ^ A ≤ 27 := Nat.le_trans (Nat.pow_le_pow_left hN2.2 A) (Nat.pow_le_pow_right (show 0 < 3 by omega) hA2.2)
     rw [eA, Ad3 (by omega) hA2.2]
     simp only [Option.bind_some]
     obtain ⟨f, e6, hf⟩ := Gg (body := D0 c (N : Int)) (fun s => ∃ j : Nat, s.1 = (j : Int) ∧ j ≤ N ^ A ∧ s.2.1.Table.length = N ^ A - j ∧ Cur (5000 + 2 * (N ^ A - j)) s.2.2) (fun s => s.1.toNat)
      (fun f => f.Table.length ≤ 200) (fun s hs => by
      obtain ⟨x8, x7, x9⟩ := s
      obtain ⟨i, k1, k2, k3, k4⟩ := hs
      simp only at k1 k2 k3 k4
      subst k1
      unfold D0
      dsimp only
      by_cases hi : (i : Int) > 0
      ·left
       rw [if_pos hi]
       obtain ⟨v, d7, e7, hd7, _⟩ := Cq k4 (by omega) (N : Int)
       rw [e7]
       simp only [Option.bind_some]
       rw [Af (by simp; omega), Af (by unfold InI; omega)]
       exact ⟨_, rfl, ⟨i - 1, by simp only; omega, by omega, by simp; omega, hd7.mono (by omega)⟩, by simp only; omega⟩
      ·right
       rw [if_neg hi]
       exact ⟨_, rfl, by omega⟩) (s := (((N ^ A : Nat) : Int), ({ Arity := (A : Int), Table := Ba Int } : SOp), d5)) ⟨N ^ A, rfl, Nat.le_refl _, by simp [Ba], hd5.mono (by omega)⟩
     rw [e6]
     exact ⟨_, _, _, rfl, hf, htc⟩
    ·rw [if_neg hA]
     exact ⟨_, _, _, rfl, by simp [Ba], htc⟩
   ·rw [if_neg hN]
    simp only [Option.bind_some, Bool.false_eq_true, if_false]
    exact ⟨_, _, _, rfl, by simp [Ba], htc⟩
def It (n : Int) (f : SOp) (c : SCondition) : Prop := F6 c ∧ (1 ≤ n ∧ n ≤ 4) ∧ f.Arity = c.Arity ∧ Amu n.toNat f
theorem Ss {n : Int} {f : SOp} {c : SCondition} (hc : O5 c) (hf : f.Table.length ≤ LIM) : Dp n f c = some (decide (It n f c)) := by
 unfold Dp
 rw [Wc hc, L3]
 simp only [Option.bind_some, decide_eq_true_eq]
 by_cases h1 : F6 c
 ·rw [if_pos h1]
  by_cases h2 : 1 ≤ n ∧ n ≤ 4
  ·obtain ⟨N, rfl, hN⟩ : ∃ N : Nat, n = (N : Int) ∧ 1 ≤ N ∧ N ≤ 4 := ⟨n.toNat, by omega, by omega⟩
   rw [if_pos h2, Anl hN.1 (by omega) hf]
   simp only [Option.bind_some]
   by_cases h3 : f.Arity = c.Arity
   ·rw [if_pos h3]; congr 1; rw [decide_eq_decide]; exact ⟨fun h => ⟨h1, h2, h3, h⟩, fun h => h.2.2.2⟩
   ·rw [if_neg h3, decide_eq_false (fun h => h3 h.2.2.1)]
  ·rw [if_neg h2, decide_eq_false (fun h => h2 h.2.1)]
 ·rw [if_neg h1, decide_eq_false (fun h => h1 h.1)]
theorem Pz {n : Int} {f : SOp} {c : SCondition} (hc : O5 c) (hf : f.Table.length ≤ LIM) : Cn n f c = some (decide (It n f c)) := by
 unfold Cn
 rw [Np hc, Uf]
 simp only [Option.bind_some, decide_eq_true_eq]
 by_cases h2 : 1 ≤ n ∧ n ≤ 4
 ·obtain ⟨N, rfl, hN⟩ : ∃ N : Nat, n = (N : Int) ∧ 1 ≤ N ∧ N ≤ 4 := ⟨n.toNat, by omega, by omega⟩
  rw [if_pos h2]
  by_cases h1 : F6 c
  ·rw [if_pos h1, Anj (by omega) hf]
   simp only [Option.bind_some]
   by_cases h3 : f.Arity = c.Arity
   ·rw [if_pos h3]; congr 1; rw [decide_eq_decide]; exact ⟨fun h => ⟨h1, h2, h3, h⟩, fun h => h.2.2.2⟩
   ·rw [if_neg h3, decide_eq_false (fun h => h3 h.2.2.1)]
  ·rw [if_neg h1, decide_eq_false (fun h => h1 h.1)]
 ·rw [if_neg h2, decide_eq_false (fun h => h2 h.2.1)]
theorem It.rowR {N : Nat} {f : SOp} {c : SCondition} (h : It (N : Int) f c) : RowR N f.Table (pats c) := by
 obtain ⟨h1, h2, h3, _, h5, h6, h7⟩ := h
 obtain ⟨p1, p2, _⟩ := h1.pats
 have hA := h1.1
 refine ⟨by omega, by omega, p1, fun p hp => ?_, h7⟩
 obtain ⟨q1, q2⟩ := p2 p hp
 refine ⟨by omega, ?_, q2⟩
 rw [Int.toNat_natCast] at h6
 rw [h6]; congr 1; omega
theorem Aa8 {code : List Int} (hc : ∀ x ∈ code, 0 ≤ x ∧ x ≤ 255) (hl : code.length ≤ 65536) : ∃ n row c, Dz code = some (n, row, c) ∧ row.length ≤ 2000 ∧ Ue c := by
 have hL := Bx
 unfold Dz
 obtain ⟨n, f, c, e, hf, htc⟩ := Aad hc hl
 rw [e]
 simp only [Option.bind_some]
 rw [Ss (Qr htc) (by omega)]
 simp only [Option.bind_some, decide_eq_true_eq]
 have hq : ∃ q : List Int, ((if It n f c then (Bf c).bind fun r4 => (D6 n f r4).bind fun r5 => some r5 else some (Ba Int) : Option (List Int))) = some q ∧ q.length ≤ 1600 := by
  by_cases h : It n f c
  ·obtain ⟨N, rfl, hN⟩ : ∃ N : Nat, n = (N : Int) ∧ 1 ≤ N ∧ N ≤ 4 := ⟨n.toNat, by have := h.2.1; omega, by have := h.2.1; omega⟩
   have hp := h.1.pats.1
   rw [if_pos h, Hr h.1]
   simp only [Option.bind_some]
   rw [Zc h.rowR]
   refine ⟨_, rfl, ?_⟩
   rw [Q4]
   exact (N9 hN.2 (N := (pats c).length) (by omega)).2.2.2
  ·rw [if_neg h]; exact ⟨_, rfl, by simp [Ba]⟩
 obtain ⟨q, eq, hq⟩ := hq
 rw [eq]
 simp only [Option.bind_some]
 obtain ⟨w, d, e1, hd, w0, _⟩ := Cq (Aik hc hl) (by omega) 10
 rw [e1]
 simp only [Option.bind_some]
 by_cases c0 : w = 0
 ·rw [if_pos c0, Af (by simp; omega)]
  exact ⟨_, _, _, rfl, by simp; omega, htc⟩
 rw [if_neg c0]
 by_cases c1 : w = 1
 ·rw [if_pos c1]
  by_cases c2 : (q.length : Int) > 0
  ·rw [if_pos c2]
   obtain ⟨r, d2, e2, hd2, r0, r1⟩ := Cq hd (by omega) (q.length : Int)
   rw [e2]
   simp only [Option.bind_some]
   obtain ⟨s, d3, e3, hd3, _⟩ := C7 hd2 (by omega) [-1, n, 0, 1] (by simp)
   rw [e3]
   simp only [Option.bind_some]
   rw [Af (by omega)]
   exact ⟨_, _, _, rfl, by simp; omega, htc⟩
  ·rw [if_neg c2]; exact ⟨_, _, _, rfl, by omega, htc⟩
 ·rw [if_neg c1]; exact ⟨_, _, _, rfl, by omega, htc⟩
end Go.Proofs.Ytidaaijecmkndaa.Ax
