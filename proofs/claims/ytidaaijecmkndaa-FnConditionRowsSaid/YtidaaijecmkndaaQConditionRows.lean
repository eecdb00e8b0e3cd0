/-
 The law of rows of conditions, on plain functions.
-/
import Derived.Test.YtidaaijecmkndaaPB
import Derived.Test.YtidaaijecmkndaaLConditionRows
namespace Go.Proofs.Ytidaaijecmkndaa.Ax
open Go Classical
noncomputable def Vx (n : Int) (f : SOp) (c : SCondition) : Bool × Bool := if It n f c then (decide (W6 n.toNat (J7 n.toNat f.Table (pats c)) c), true) else (false, false)
noncomputable def rowR (n : Int) (f : SOp) (c : SCondition) : List Int × Bool := if It n f c then (J7 n.toNat f.Table (pats c), true) else ([], false)
section
variable {n : Int} {f : SOp} {c : SCondition}
theorem It.cast (h : It n f c) : ∃ N : Nat, n = (N : Int) ∧ 1 ≤ N ∧ N ≤ 4 := ⟨n.toNat, by have := h.2.1; omega, by have := h.2.1; omega⟩
theorem Ag6 (hc : O5 c) (hf : f.Table.length ≤ LIM) : Iy n f c = some (Vx n f c) ∧ Il n f c = some (Vx n f c) := by
 unfold Iy Il
 rw [Pz hc hf, Ss hc hf]
 simp only [Option.bind_some, decide_eq_true_eq]
 by_cases h : It n f c
 ·have e : Vx n f c = (decide (W6 n.toNat (J7 n.toNat f.Table (pats c)) c), true) := if_pos h
  rw [e, if_pos h, if_pos h]
  obtain ⟨N, rfl, lo, hi⟩ := h.cast
  rw [Int.toNat_natCast, Ah0 h.1 h.rowR, K9 h.1, Hr h.1]
  simp only [Option.bind_some]
  rw [Zc h.rowR]
  simp only [Option.bind_some]
  rw [Aam lo hi h.1 (Q4 _ _ _), Zq lo hi h.1 (Q4 _ _ _)]
  exact ⟨by trivial, by trivial⟩
 ·have e : Vx n f c = (false, false) := if_neg h
  rw [e, if_neg h, if_neg h]
  exact ⟨by trivial, by trivial⟩
theorem Alb (hc : O5 c) (hf : f.Table.length ≤ LIM) : Di n f c = some (rowR n f c) ∧ Dg n f c = some (rowR n f c) := by
 unfold Di Dg
 rw [Pz hc hf, Ss hc hf]
 simp only [Option.bind_some, decide_eq_true_eq]
 by_cases h : It n f c
 ·have e : rowR n f c = (J7 n.toNat f.Table (pats c), true) := if_pos h
  rw [e, if_pos h, if_pos h]
  obtain ⟨N, rfl, lo, hi⟩ := h.cast
  rw [Int.toNat_natCast, Ah0 h.1 h.rowR, Hr h.1]
  simp only [Option.bind_some]
  rw [Zc h.rowR]
  exact ⟨by trivial, by trivial⟩
 ·have e : rowR n f c = ([], false) := if_neg h
  rw [e, if_neg h, if_neg h]
  exact ⟨by trivial, by trivial⟩
theorem Ai7 (h : F6 c) (hc : O5 c) : E6 c = some (pats c, true) ∧ Fa c = some (pats c, true) := by
 unfold E6 Fa
 rw [Np hc, Wc hc, decide_eq_true h]
 simp only [Option.bind_some, if_true]
 rw [K9 h, Hr h]
 exact ⟨by trivial, by trivial⟩
def Aou (n : Int) (row : List Int) (c : SCondition) : Prop := F6 c ∧ (1 ≤ n ∧ n ≤ 4) ∧ row.length = (pats c).length * (n.toNat * n.toNat) ∧ Cg row n
noncomputable def Ql (n : Int) (row : List Int) (c : SCondition) : Bool × Bool := if Aou n row c then (decide (W6 n.toNat row c), true) else (false, false)
theorem Sq {row : List Int} (hc : O5 c) (hr : row.length ≤ 4000) : E4 n row c = some (Ql n row c) ∧ F2 n row c = some (Ql n row c) := by
 have hL := Bx
 unfold E4 F2
 rw [Np hc, Wc hc, Uf, L3]
 simp only [Option.bind_some, decide_eq_true_eq]
 by_cases h1 : F6 c
 ·by_cases h2 : 1 ≤ n ∧ n ≤ 4
  ·obtain ⟨N, rfl, lo, hi⟩ : ∃ N : Nat, n = (N : Int) ∧ 1 ≤ N ∧ N ≤ 4 := ⟨n.toNat, by omega, by omega⟩
   have hp := h1.pats.1
   obtain ⟨s1, s2, s3, s4⟩ := N9 hi (N := (pats c).length) (by omega)
   simp only [if_pos h1, if_pos h2, Option.bind_some]
   rw [K9 h1, Hr h1]
   simp only [Option.bind_some]
   unfold Ht
   rw [Aa4 _ _ (by omega), Vl N row (by omega) (by omega), Af s1, Af s2, Af s1, Af s2, s3]
   simp only [Option.bind_some]
   by_cases h3 : row.length = (pats c).length * (N * N)
   ·have g2 : (row.length : Int) = (((pats c).length * (N * N) : Nat) : Int) := by rw [h3]
    rw [if_neg (fun hh => hh g2), if_pos g2]
    simp only [Option.bind_some, decide_eq_true_eq]
    by_cases h4 : Cg row (N : Int)
    ·have e : Ql (N : Int) row c = (decide (W6 N row c), true) := if_pos ⟨h1, h2, h3, h4⟩
     rw [e, if_pos h4, if_pos h4, Aam lo hi h1 h3]
     simp only [Option.bind_some]
     rw [Zq lo hi h1 h3]
     exact ⟨by trivial, by trivial⟩
    ·have e : Ql (N : Int) row c = (false, false) := if_neg fun hh => h4 hh.2.2.2
     rw [e, if_neg h4, if_neg h4]
     exact ⟨by trivial, by trivial⟩
   ·have e : Ql (N : Int) row c = (false, false) := if_neg fun hh => h3 hh.2.2.1
    have g2 : ¬ (row.length : Int) = (((pats c).length * (N * N) : Nat) : Int) := fun hh => h3 (Int.ofNat_inj.1 hh)
    rw [e, if_pos g2, if_neg g2]
    exact ⟨by trivial, by trivial⟩
  ·have e : Ql n row c = (false, false) := if_neg fun hh => h2 hh.2.1
   rw [e]
   simp only [if_pos h1, if_neg h2, Option.bind_some]
   exact ⟨by trivial, by trivial⟩
 ·have e : Ql n row c = (false, false) := if_neg fun hh => h1 hh.1
  rw [e]
  simp only [if_neg h1, Option.bind_some]
  constructor
  ·split <;> rfl
  ·trivial
end
theorem Am2 {code : List Int} {N : Nat} {f : SOp} {c : SCondition} (h : It (N : Int) f c) (lo : 1 ≤ N) (hi : N ≤ 4) {b b' : Bool} :
  Aw (Bh code ((N : Int), f, c) (J7 N f.Table (pats c), b) (pats c, b')) 0 = some (.inr ()) := by
 have hL := Bx
 have hr := h.rowR
 have hN := hr.len
 have k4 := Cz (body := Bh code ((N : Int), f, c) (J7 N f.Table (pats c), b) (pats c, b')) (fun i => (i : Int)) (pats c).length (.inr ()) (fun i hI => by
  obtain ⟨p1, p2, p3⟩ := hr.pat _ (Bc hI)
  have k3 := Cz (body := Bi code ((N : Int), f, c) (J7 N f.Table (pats c), b) (pats c, b') (i : Int)) (fun i => (i : Int)) N (.inr ()) (fun x hx => by
   have k2 := Cz (body := Bj code ((N : Int), f, c) (J7 N f.Table (pats c), b) (pats c, b') (i : Int) (x : Int)) (fun i => (i : Int)) N (.inr ()) (fun y hy => by
    obtain ⟨r1, r2, r3, r4, r5, r6, r8, r9⟩ := Ld lo hi (N := (pats c).length) (by omega) hI hx hy
    have k1 := Cz (body := Bp code ((N : Int), f, c) (J7 N f.Table (pats c), b) (pats c, b') (i : Int) (x : Int) (y : Int)) (fun k => ((k : Int), Kk N ((L8 (nth (pats c) i) x y).take k))) (nth (pats c) i).length (Kk N (L8 (nth (pats c) i) x y)) (fun k hk => by
     have hk' : k < (L8 (nth (pats c) i) x y).length := by rw [Is]; exact hk
     obtain ⟨h1, h2⟩ := V6 (m := N) (by omega) (by rw [Is]; exact p1) (Yw p3 hx hy) hk'
     have hq := p3 _ (Bc hk)
     have e : nth (L8 (nth (pats c) i) x y) k = nth [(x : Int), (y : Int)] (nth (nth (pats c) i) k).toNat := Z5 _ hk
     rw [Aoq hq] at e
     rw [e] at h2
     unfold Bp
     dsimp only
     rw [Af (by omega), Int.toNat_natCast, if_pos (by omega), Af (by omega), Af (by omega), Int.toNat_natCast, Wu hk', e]
     by_cases hq1 : nth (nth (pats c) i) k = 1
     ·rw [if_pos hq1] at h2 ⊢
      rw [if_pos hq1, Af h1, Af h2, Af (by unfold InI; omega)]
      rfl
     ·rw [if_neg hq1] at h2 ⊢
      rw [if_neg hq1, Af h1, Af h2, Af (by unfold InI; omega)]
      rfl) (by
     unfold Bp
     dsimp only
     rw [Af (by omega), Int.toNat_natCast, if_neg (by omega), ← Is (nth (pats c) i) x y, List.take_length])
    obtain ⟨z, ez, hz⟩ := hr.at hI hx hy
    have hrow := hr.nth_row hI hx hy
    unfold Bj
    dsimp only
    rw [if_pos (by omega)]
    refine Hq k1 ?_
    rw [Af r1, Af r2, Af r3, Af r4, Af r5, Af ⟨r6, by rw [Q4]; omega⟩, Af (by omega), r8, hrow, if_neg (fun hh => hh rfl), Af (by unfold InI; omega)]
    rfl) (by
    unfold Bj
    dsimp only
    rw [if_neg (by omega)])
   have k2' : Aw (Bj code ((N : Int), f, c) (J7 N f.Table (pats c), b) (pats c, b') (i : Int) (x : Int)) 0 = _ := k2
   unfold Bi
   dsimp only
   rw [if_pos (by omega), k2']
   simp only [Option.bind_some]
   rw [Af (by unfold InI; omega)]
   rfl) (by
   unfold Bi
   dsimp only
   rw [if_neg (by omega)])
  have k3' : Aw (Bi code ((N : Int), f, c) (J7 N f.Table (pats c), b) (pats c, b') (i : Int)) 0 = _ := k3
  unfold Bh
  dsimp only
  rw [if_pos (by omega), k3']
  simp only [Option.bind_some]
  rw [Af (by unfold InI; omega)]
  rfl) (by
  unfold Bh
  dsimp only
  rw [if_neg (by omega)])
 exact k4
theorem Ud {code : List Int} (h : code.length ≤ BIG ∧ ∀ x ∈ code, 0 ≤ x ∧ x ≤ 255) : D1 code = some true := by
 unfold D1 Nd
 simp only [Option.bind_some]
 by_cases hbig : (code.length : Int) > 65536
 ·rw [if_pos (by simpa using hbig)]
 rw [if_neg (by simpa using hbig)]
 have hL := Bx
 obtain ⟨n, f, c, ed, hf, htc⟩ := Aad h.2 (by omega)
 obtain ⟨m, row, d, ed2, hrow, htd⟩ := Aa8 h.2 (by omega)
 have hsc := Qr htc
 have hsd := Qr htd
 have hfl : f.Table.length ≤ LIM := by omega
 obtain ⟨o1, o2⟩ := Ag6 (n := n) hsc hfl
 obtain ⟨r1, r2⟩ := Alb (n := n) hsc hfl
 obtain ⟨q1, q2⟩ := Sq (n := m) hsd (row := row) (by omega)
 rw [ed, ed2]
 simp only [Option.bind_some]
 rw [o1, o2, r1, r2]
 simp only [Option.bind_some, beq_self_eq_true, if_true]
 by_cases ht : It n f c
 ·have e1 : Vx n f c = (decide (W6 n.toNat (J7 n.toNat f.Table (pats c)) c), true) := if_pos ht
  have e2 : rowR n f c = (J7 n.toNat f.Table (pats c), true) := if_pos ht
  rw [e1, e2]
  obtain ⟨N, rfl, lo, hi⟩ := ht.cast
  rw [Int.toNat_natCast]
  have hp := ht.1.pats
  have hr := ht.rowR
  obtain ⟨s1, s2, s3, s4⟩ := N9 hi (N := (pats c).length) (by omega)
  have hlen := Q4 N f.Table (pats c)
  have ri : E9 (J7 N f.Table (pats c)) (J7 N f.Table (pats c)) = some true := Ad8 (by omega)
  have rt : F4 (pats c) (pats c) = some true := Ak2 (by omega) (fun p hpm => by have := (hr.pat p hpm).1; omega)
  obtain ⟨u1, u2⟩ := Ai7 ht.1 hsc
  obtain ⟨v1, _⟩ := Sq (n := (N : Int)) hsc (row := J7 N f.Table (pats c)) (by omega)
  have e3 : Ql (N : Int) (J7 N f.Table (pats c)) c = (decide (W6 N (J7 N f.Table (pats c)) c), true) := if_pos ⟨ht.1, by omega, hlen, hr.row_in⟩
  simp only [ri, Option.bind_some, beq_self_eq_true, if_true]
  refine Hq (a := .inr ()) ?_ ?_
  ·rw [u1, u2]
   simp only [Option.bind_some, beq_self_eq_true, if_true, rt]
   rw [Af s1, Af s2, s3, if_neg (by rw [hlen]; exact fun hh => hh rfl)]
   simp only [Option.bind_some]
   rw [v1, e3]
   simp only [Option.bind_some, beq_self_eq_true, if_true]
   rw [Am2 ht lo hi]
   rfl
  ·dsimp only
   rw [q1, q2]
   simp only [Option.bind_some, beq_self_eq_true, if_true]
 ·have e1 : Vx n f c = (false, false) := if_neg ht
  have e2 : rowR n f c = ([], false) := if_neg ht
  have ri : E9 [] [] = some true := Ad8 (by simp)
  rw [e1, e2]
  simp only [ri, Option.bind_some, beq_self_eq_true, if_true, Bool.false_eq_true, if_false]
  rw [q1, q2]
  simp only [Option.bind_some, beq_self_eq_true, if_true]
end Go.Proofs.Ytidaaijecmkndaa.Ax
