/-
 The law of homomorphisms, on plain functions.
-/
import Derived.Test.YtiakjbigaaanhaaPB
import Derived.Test.YtiakjbigaaanhaaLHoms
namespace Go.Proofs.Ytiakjbigaaanhaa.Ax
open Go Classical
theorem Afx {a b : SAlgebra} (ha : Ek a) (hb : Ek b) {f : List Int} (hl : f.length ≤ 1048576) : ∃ r, Fe a b f = some r ∧ Fg a b f = some r ∧ r.1.length ≤ 1048576 ∧
  (r.2 = true → My a b f ∧ My b a r.1 ∧ Ge f r.1 = (List.range a.Size.toNat).map fun x : Nat => (x : Int)) := by
 have hL := Aw
 unfold Fe Fg
 rw [Wl ha hb, Yi ha hb]
 simp only [Option.bind_some]
 by_cases h : I2 a b
 ·rw [show (decide (Bk a ∧ Bk b ∧ Bx a = Bx b)) = true from decide_eq_true h, if_pos rfl, if_pos rfl]
  by_cases hS : a.Size = b.Size
  ·rw [Aeh h (by omega), Alo h (by omega)]
   simp only [hS, ne_eq, not_true_eq_false, if_false, Option.bind_some]
   by_cases hh : My a b f
   ·have H := Qc h hh.2.1
    obtain ⟨hn, hn8, _, _⟩ := H.pos
    have hlen := H.len
    have hfin : Bh f a.Size.toNat := by have := hh.2.1.2; rw [← hS, H.sa] at this; exact this
    rw [decide_eq_true hh]
    simp only [if_true]
    rw [Aul (by omega) hfin, Ap6 (by omega) _ (by have := h.2.1.2.1; omega)]
    simp only [Option.bind_some]
    have hsz : (f.length : Int) = b.Size := by rw [← hS]; exact hh.2.1.1
    by_cases hu : uniq f
    ·have hP : Perm f a.Size.toNat := ⟨hlen, hfin, hu⟩
     obtain ⟨j, e, h1, h2⟩ := Aqp hP (by omega)
     have es : Am (Fk f) (0, List.replicate a.Size.toNat 0) = some j := e
     unfold Jx
     rw [decide_eq_true hu, decide_eq_true (show (f.length : Int) = b.Size ∧ Bh f b.Size ∧ uniq f from ⟨hsz, hh.2.1.2, hu⟩)]
     simp only [if_true]
     rw [Af (by omega), Af (by omega), Int.toNat_natCast, hlen, e, es]
     refine ⟨(j, true), rfl, rfl, by simp only; omega, fun _ => ⟨hh, Axn hh hS hP h1 h2, ?_⟩⟩
     refine List.ext_getElem (by simp [Ge, hlen, hS]) fun x hx1 hx2 => ?_
     simp only [Ge, List.getElem_map, List.getElem_range]
     have hx : x < f.length := by simpa [Ge] using hx1
     have := h2 x (by omega)
     rw [Ft hx] at this
     exact this
    ·rw [decide_eq_false hu, decide_eq_false (fun hc => hu hc.2.2)]
     exact ⟨([], false), rfl, rfl, by simp, fun hh => by cases hh⟩
   ·rw [decide_eq_false hh]
    exact ⟨([], false), rfl, rfl, by simp, fun hh => by cases hh⟩
  ·simp only [hS, ne_eq, not_false_eq_true, if_true]
   exact ⟨([], false), rfl, rfl, by simp, fun hh => by cases hh⟩
 ·rw [show (decide (Bk a ∧ Bk b ∧ Bx a = Bx b)) = false from decide_eq_false h]
  exact ⟨([], false), rfl, rfl, by simp, fun hh => by cases hh⟩
theorem Awb {a : SAlgebra} (ha : Ek a) (op : Int) : Ki a op = some (decide (Bk a ∧ 0 ≤ op ∧ op < a.Ops.length)) := by
 unfold Ki
 rw [L8 ha]
 simp only [Option.bind_some]
 by_cases hg : Bk a
 ·rw [decide_eq_true hg, if_pos rfl]
  by_cases h0 : op ≥ 0
  ·rw [if_pos h0]
   congr 1
   rw [decide_eq_decide]
   exact ⟨fun h => ⟨hg, h0, h⟩, fun h => h.2.2⟩
  ·rw [if_neg h0, decide_eq_false (fun h => h0 h.2.1)]
 ·rw [decide_eq_false hg, if_neg Bool.false_ne_true, decide_eq_false (fun h => hg h.1)]
theorem Acr {a : SAlgebra} {n : Nat} (ha : Ek a) (hg : Bk a) (hn : a.Size = n) {i r : Nat} (hi : i < a.Ops.length) (hr : r ≤ 3) (e : (nth a.Ops i).Arity = r) (hT : (nth a.Ops i).Table.length = n ^ r) {xs : List Int} (hl : xs.length = r) (hx : Bh xs n) :
  F7 a i xs = some (nth (nth a.Ops i).Table (R1 n xs).toNat, true) := by
 have hL := Aw
 have hn8 : n ≤ 8 := by have := hg.2.1; omega
 unfold F7
 rw [Awb ha, decide_eq_true (show Bk a ∧ (0 : Int) ≤ (i : Int) ∧ (i : Int) < a.Ops.length from ⟨hg, by omega, by omega⟩)]
 simp only [Option.bind_some, if_true]
 rw [Af (by omega), Int.toNat_natCast, if_neg (by omega), hn, Yo _ _ (by omega)]
 simp only [Option.bind_some]
 rw [decide_eq_true hx, if_pos rfl]
 simp only [Option.bind_some]
 rw [Af (by omega), Asc hn8 (by omega) hx]
 simp only [Option.bind_some]
 obtain ⟨c, h1, h2, _⟩ := Lk hn8 (xs := xs) (by omega) hx
 rw [hl] at h2
 rw [Af (by rw [h1, hT]; omega)]
theorem Ar6 {n : Nat} (_hn : 0 < n) : ∀ r k, k < n ^ r → R1 n (Fi n r k) = (k : Int) := by
 intro r
 induction r with
 | zero => intro k hk; simp at hk; subst hk; rfl
 | succ r ih =>
   intro k hk
   have hd : k / n < n ^ r := Nat.div_lt_of_lt_mul (by rw [Nat.mul_comm, ← Nat.pow_succ]; exact hk)
   simp only [Fi]
   rw [Wo, ih _ hd, ← Int.natCast_mul, ← Int.natCast_add, Nat.mul_comm, Nat.div_add_mod]
theorem O7 {α β : Type} {o : Option α} {a : α} {k : α → Option β} {r : Option β} (h : o = some a) (h2 : k a = r) : o.bind k = r := by rw [h]; exact h2
theorem Auh {code : List Int} (h : code.length ≤ BIG ∧ ∀ x ∈ code, 0 ≤ x ∧ x ≤ 255) : L5 code = some true := by
 unfold L5 P6
 simp only [Option.bind_some]
 by_cases hbig : (code.length : Int) > 65536
 ·rw [if_pos (by simpa using hbig)]
 rw [if_neg (by simpa using hbig)]
 have hL := Aw
 obtain ⟨a, b, f, ed, ta, tb, hf⟩ := Ahp h.2 (by omega)
 obtain ⟨a2, b2, c2, f2, g2, ed2, ta2, tb2, tc2, hf2, hg2⟩ := Abh h.2 (by omega)
 obtain ⟨a3, b3, f3, ed3, ta3, tb3, hf3⟩ := Ad2 h.2 (by omega)
 have sa := Bm ta
 have sb := Bm tb
 have sa2 := Bm ta2
 have sb2 := Bm tb2
 have sc2 := Bm tc2
 have sa3 := Bm ta3
 have sb3 := Bm tb3
 rw [ed]
 simp only [Option.bind_some]
 obtain ⟨r, e1, e2, hr3, hr⟩ := Ahw sa sb (f := f) (by omega)
 obtain ⟨i1, i2⟩ := Af6 sa sb (f := f) (by omega)
 rw [e1]
 simp only [Option.bind_some]
 refine O7 (a := .inr ()) ?_ ?_
 ·rw [e2]
  simp only [Option.bind_some, ne_eq, not_true_eq_false, if_false, beq_self_eq_true, if_true, Aga (show r.2.1.length ≤ LIM by omega)]
 dsimp only
 rw [i1]
 simp only [Option.bind_some]
 refine O7 (a := .inr ()) ?_ ?_
 ·rw [i2]
  simp only [Option.bind_some, beq_self_eq_true, if_true]
  rcases hr with ⟨hr, _⟩ | ⟨i, k, ha, hm, hF, hr⟩
  ·rw [hr]; rfl
  ·unfold Agf
   rw [if_pos ha, decide_eq_false (show ¬ My a b f from fun hh => hh.2.2 hF.faulty), hr]
   rfl
 dsimp only
 refine O7 (a := .inr ()) ?_ ?_
 ·rcases hr with ⟨hr, _⟩ | ⟨i, k, ha, hm, hF, hr⟩
  ·rw [hr, if_neg Bool.false_ne_true]
  ·have H := Qc ha hm
   obtain ⟨hn, hn8, hm0, hm8⟩ := H.pos
   have hfl := H.len
   obtain ⟨w, hw, w1, w2, w3, w4, w5, w6⟩ := H.op hF.1
   have ew : (nth a.Ops i).Arity.toNat = w := by omega
   have hib : i < b.Ops.length := by rw [← H.ops]; exact hF.1
   have hk := hF.2.1
   have hal := Hj a.Size.toNat w k
   have hai := Tg hn w k
   rw [ew] at hr
   rw [hr, if_pos rfl]
   dsimp only
   have v1 := Acr sa ha.1 H.sa hF.1 hw w1 w3 hal hai
   rw [Ar6 hn w k (by omega), Int.toNat_natCast] at v1
   rw [v1]
   simp only [Option.bind_some]
   have hrun : Am (Dj code (a, b, f) ((i : Int), Fi a.Size.toNat w k, true) (nth (nth a.Ops i).Table k, true)) (0, Al Int) = some (.inr ((Fi a.Size.toNat w k).map fun x => nth f x.toNat)) := by
    have key := Ca (body := Dj code (a, b, f) ((i : Int), Fi a.Size.toNat w k, true) (nth (nth a.Ops i).Table k, true)) (fun j => ((j : Int), ((Fi a.Size.toNat w k).take j).map fun x => nth f x.toNat)) w (.inr ((Fi a.Size.toNat w k).map fun x => nth f x.toNat)) (fun j hj => by
     have hv := hai _ (At (show j < (Fi a.Size.toNat w k).length by omega))
     unfold Dj
     dsimp only
     rw [if_pos (by omega), Af (by omega), Int.toNat_natCast, if_neg (by omega), Af (by omega), Af (by omega), Af (by simp; omega), Af (by unfold InI; omega), Ff (by omega), List.map_append]
     rfl) (by
     unfold Dj
     dsimp only
     rw [if_neg (by omega), List.take_of_length_le (by omega)])
    exact key
   rw [hrun]
   simp only [Option.bind_some]
   have v2 := Acr sb ha.2.1 H.sb hib hw w2 w4 (xs := (Fi a.Size.toNat w k).map fun x => nth f x.toNat) (by rw [List.length_map, hal]) (Se hn H.len H.fin w k)
   rw [Uw] at v2
   rw [v2]
   have hv := w5 _ (At hk)
   simp only [Option.bind_some, if_true]
   rw [if_neg (by omega), Af (by omega)]
   have hne := hF.2.2.1
   unfold B5 at hne
   rw [ew] at hne
   rw [if_neg hne]
 dsimp only
 rw [ed2]
 simp only [Option.bind_some]
 obtain ⟨c1, c2'⟩ := Ss sa2 sb2 sc2 (f := f2) (g := g2) (by omega) (by omega)
 rw [c1]
 simp only [Option.bind_some]
 have hcl : (Acl a2 b2 c2 f2 g2).1.length ≤ 9 := by
  unfold Acl
  split
  ·simp only [Ge, List.length_map]; exact hf2
  ·simp
 refine O7 (a := .inl ()) ?_ ?_
 ·rw [c2']
  simp only [Option.bind_some, beq_self_eq_true, if_true, Aga (show (Acl a2 b2 c2 f2 g2).1.length ≤ LIM by omega)]
 dsimp only
 refine O7 (a := .inl ()) ?_ ?_
 ·unfold Acl
  by_cases hc : My a2 b2 f2 ∧ My b2 c2 g2
  ·have hh := At9 hc.1 hc.2
   rw [if_pos hc]
   simp only [if_true]
   rw [(Af6 sa2 sc2 (f := Ge f2 g2) (by simp [Ge]; omega)).1]
   unfold Agf
   rw [if_pos hh.1, decide_eq_true hh]
   simp only [Option.bind_some, if_true]
  ·rw [if_neg hc, if_neg Bool.false_ne_true]
 dsimp only
 rw [ed3]
 simp only [Option.bind_some]
 obtain ⟨r3, j1, j2, hjl, hj⟩ := Afx sa3 sb3 (f := f3) (by omega)
 rw [j1]
 simp only [Option.bind_some]
 refine O7 (a := .inl ()) ?_ ?_
 ·rw [j2]
  simp only [Option.bind_some, beq_self_eq_true, if_true, Aga (show r3.1.length ≤ LIM by omega)]
 dsimp only
 by_cases ok : r3.2 = true
 ·obtain ⟨h1, h2, h3⟩ := hj ok
  rw [if_pos ok, (Ss sa3 sb3 sa3 (f := f3) (g := r3.1) (by omega) hjl).1]
  unfold Acl
  rw [if_pos ⟨h1, h2⟩, h3]
  have h0 : 0 ≤ a3.Size := by have := h1.1.1.1; omega
  have h8 : a3.Size.toNat ≤ 8 := by have := h1.1.1.2.1; omega
  have hlen : ((List.range a3.Size.toNat).map fun x : Nat => (x : Int)).length = a3.Size.toNat := by simp
  simp only [Option.bind_some, if_true]
  refine O7 (a := .inr ()) ?_ ?_
  ·rw [if_neg (by omega)]
  dsimp only
  have key := Ca (body := Di ((List.range a3.Size.toNat).map fun x : Nat => (x : Int), true)) (fun j => (j : Int)) a3.Size.toNat (.inr ()) (fun j hj => by
   have e : nth ((List.range a3.Size.toNat).map fun x : Nat => (x : Int)) j = (j : Int) := by
    rw [Ft (by omega)]; simp
   unfold Di
   dsimp only
   rw [if_pos (by omega), Af (by omega), Int.toNat_natCast, e, if_neg (by simp), Af (by unfold InI; omega)]
   rfl) (by
   unfold Di
   dsimp only
   rw [if_neg (by omega)])
  have key' : Am (Di ((List.range a3.Size.toNat).map fun x : Nat => (x : Int), true)) 0 = some (.inr ()) := key
  rw [key']; rfl
 ·rw [if_neg ok]
end Go.Proofs.Ytiakjbigaaanhaa.Ax
