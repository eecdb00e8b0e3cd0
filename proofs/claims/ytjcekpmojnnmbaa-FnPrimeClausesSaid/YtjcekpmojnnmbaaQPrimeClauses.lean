/-
 The law of prime clauses, on plain functions.
-/
import Derived.Test.YtjcekpmojnnmbaaPB
import Derived.Test.YtjcekpmojnnmbaaLPrimeClauses
namespace Go.Proofs.Ytjcekpmojnnmbaa.Ax
open Go Classical
theorem Aya {xs : List Int} (h : xs.length ≤ LIM) : Ln xs xs = some true := by
 have hL := Bd
 unfold Ln
 rw [if_neg (by simp)]
 have this := Fk (body := Ev xs xs) (fun i => (i : Int)) xs.length (fun _ => False) () () (fun i hi _ => by
  unfold Ev
  rw [if_pos (by omega), Af (by omega), Af (by omega), tna0, if_neg (by simp), Af (by unfold InI; omega)]; rfl) (fun i _ hb => absurd hb id) (by
  unfold Ev
  rw [if_neg (by omega)]) 0 (by omega)
 have this' : Al (Ev xs xs) 0 = _ := this
 rw [this', if_neg (by rintro ⟨i, _, _, h⟩; exact h)]
 rfl
theorem Alz {xss : List (List Int)} (h : xss.length ≤ LIM) (h1 : ∀ r ∈ xss, r.length ≤ LIM) : Hy xss xss = some true := by
 have hL := Bd
 unfold Hy
 rw [if_neg (by simp)]
 have this := Fk (body := Ec xss xss) (fun i => (i : Int)) xss.length (fun _ => False) () () (fun i hi _ => by
  unfold Ec
  rw [if_pos (by omega), Af (by omega), Af (by omega), tna0, Aya (h1 _ (Aq hi))]
  simp only [obs0, if_true]
  rw [Af (by unfold InI; omega)]; rfl) (fun i _ hb => absurd hb id) (by
  unfold Ec
  rw [if_neg (by omega)]) 0 (by omega)
 have this' : Al (Ec xss xss) 0 = _ := this
 rw [this', if_neg (by rintro ⟨i, _, _, h⟩; exact h)]
 rfl
theorem Al8 {xs : List Bool} (h : xs.length ≤ LIM) : Hv xs xs = some true := by
 have hL := Bd
 unfold Hv
 rw [if_neg (by simp)]
 have this := Fk (body := D7 xs xs) (fun i => (i : Int)) xs.length (fun _ => False) () () (fun i hi _ => by
  unfold D7
  rw [if_pos (by omega), Af (by omega), Af (by omega), tna0, if_pos (by simp), Af (by unfold InI; omega)]; rfl) (fun i _ hb => absurd hb id) (by
  unfold D7
  rw [if_neg (by omega)]) 0 (by omega)
 have this' : Al (D7 xs xs) 0 = _ := this
 rw [this', if_neg (by rintro ⟨i, _, _, h⟩; exact h)]
 rfl
theorem Aug {r : SRelation} (h : r.Tuples.length ≤ 1048576) (h1 : ∀ t ∈ r.Tuples, t.length ≤ 1048576) : Fl r r = some true := by
 have hL := Bd
 unfold Fl
 rw [if_pos rfl, Alz (by omega) (fun t ht => by have := h1 t ht; omega)]
 rfl
theorem Yx {α β : Type} {o : Option α} {a : α} {k : α → Option β} {r : Option β} (h : o = some a) (h2 : k a = r) : o.bind k = r := by rw [h]; exact h2
noncomputable def Qk (r : SRelation) : List (List Int) × Bool := if Eh 2 r then (F9 r.Arity.toNat r.Tuples, true) else (Ap (List Int), false)
noncomputable def Z3 (r : SRelation) : List Bool × Bool := if Eh 2 r then (Rx (F9 r.Arity.toNat r.Tuples), true) else (Ap Bool, false)
theorem Xc {a : Nat} (h1 : 1 ≤ a) (h3 : a ≤ 3) (T : List (List Int)) : (F9 a T).length ≤ 27 ∧ ∀ c ∈ F9 a T, c.length ≤ 3 := by
 constructor
 ·refine Nat.le_trans (List.length_filter_le _ _) ?_
  unfold Cn
  rw [U0]
  exact Xz h1 h3 a (Nat.le_refl _)
 ·intro c hc
  exact (Vu h1 h3 (List.mem_filter.1 hc).1).2
section
variable {r : SRelation} (hl : r.Tuples.length ≤ 1048576) (hr : ∀ t ∈ r.Tuples, t.length ≤ 1048576)
include hl hr
omit hl hr in
theorem Adg (hok : Eh 2 r) : ∃ a : Nat, r.Arity = (a : Int) ∧ 1 ≤ a ∧ a ≤ 3 ∧ r.Arity.toNat = a ∧ ∀ t ∈ r.Tuples, t.length = a := by
 have h1 := hok.1
 have h3 := hok.2.1
 obtain ⟨a, ha⟩ := Int.eq_ofNat_of_zero_le (show 0 ≤ r.Arity by omega)
 exact ⟨a, ha, by omega, by omega, by omega, fun t ht => by have := (hok.row ht).1; omega⟩
theorem Acc : E3 r = some (Qk r) ∧ E2 r = some (Qk r) := by
 have g1 := Tq (n := 2) hl hr
 have g2 := Ae7 (n := 2) hl hr (by omega)
 rw [show ((2 : Nat) : Int) = 2 from rfl] at g1 g2
 unfold E3 E2 Qk
 rw [g1, g2]
 simp only [obs0]
 by_cases hok : Eh 2 r
 ·obtain ⟨a, ha, a1, a3, at', hT⟩ := Adg hok
  rw [dtr0 hok, if_pos hok, X9 a1 a3 ha hT hl, Ajl a1 a3 ha hT hl, at']
  simp only [obs0, if_true, and_self]
 ·rw [dfa0 hok, if_neg hok]
  simp only [Bool.false_eq_true, if_false, and_self]
theorem Ad6 : Fv r = some (Z3 r) ∧ Fs r = some (Z3 r) := by
 have g1 := Tq (n := 2) hl hr
 have g2 := Ae7 (n := 2) hl hr (by omega)
 rw [show ((2 : Nat) : Int) = 2 from rfl] at g1 g2
 unfold Fv Fs Z3
 rw [g1, g2]
 simp only [obs0]
 by_cases hok : Eh 2 r
 ·obtain ⟨a, ha, a1, a3, at', hT⟩ := Adg hok
  obtain ⟨p1, p2⟩ := Xc a1 a3 r.Tuples
  rw [dtr0 hok, if_pos hok, X9 a1 a3 ha hT hl, Ajl a1 a3 ha hT hl, at']
  simp only [obs0, if_true]
  rw [A2m (by omega) (fun c hc => by have := p2 c hc; omega), A05 (by omega) (fun c hc => by have := p2 c hc; omega)]
  simp only [obs0, and_self]
 ·rw [dfa0 hok, if_neg hok]
  simp only [Bool.false_eq_true, if_false, and_self]
omit hr in
theorem Av0 (hok : Eh 2 r) : Bp r.Arity (Qk r).1 = some (r, true) ∧ ∃ x y z, C4 2 { Arity := 2, Table := [0, 0, 0, 1] } r = some (x, true) ∧ C4 2 { Arity := 2, Table := [0, 1, 1, 1] } r = some (y, true) ∧ C4 2 { Arity := 3, Table := [0, 0, 0, 1, 0, 1, 1, 1] } r = some (z, true) ∧ (Z3 r).1 = [x, y, z] := by
 obtain ⟨a, ha, a1, a3, at', hT⟩ := Adg hok
 obtain ⟨M, hM, hTM⟩ := Asw (a := a) (r := r) hok ha
 obtain ⟨p1, p2⟩ := Xc a1 a3 r.Tuples
 have hre : r = { Arity := (a : Int), Tuples := K8 a M } := by
  rw [← ha, ← hTM]
 have h8 : 2 ^ a ≤ 8 := Ae9 a1 a3 a (Nat.le_refl _)
 have hlen : r.Tuples.length ≤ 8 := by
  rw [hTM, Ah8]
  exact Nat.le_trans (Ays a M) h8
 have e1 : (Qk r).1 = F9 a (K8 a M) := by unfold Qk; rw [if_pos hok, at', ← hTM]
 have e2 : (Z3 r).1 = [kp2 Nat.land a M, kp2 Nat.lor a M, kp3 Ayr a M] := by
  unfold Z3
  rw [if_pos hok, at', hTM]
  exact Aps a1 a3 hM
 have hin : ∀ T : List Int, (∀ v ∈ T, v = 0 ∨ v = 1) → Bl T 2 := fun T h v hv => by have := h v hv; omega
 have pw : ∀ s, s ≤ 3 → r.Tuples.length ^ s ≤ 70000 := fun s hs => Nat.le_trans (Nat.pow_le_pow_left hlen s) (Nat.le_trans (Nat.pow_le_pow_right (by omega) hs) (by decide))
 refine ⟨?_, kp2 Nat.land a M, kp2 Nat.lor a M, kp3 Ayr a M, ?_, ?_, ?_, e2⟩
 ·have hsc : Ll (F9 a (K8 a M)) := Awa a1 a3 (by rw [← hTM]; omega) fun c hc => (List.mem_filter.1 hc).1
  rw [e1, ha, Qn (by omega) hsc, Aq8 a1 a3 hM, ← hre]
 ·have hf : OpQ 2 2 { Arity := 2, Table := [0, 0, 0, 1] } := ⟨rfl, by omega, rfl, hin _ (by simp)⟩
  have := Ye (n := 2) (r := 2) (w := a) (R := r) (by omega) (by omega) hf (by omega) ⟨by decide, by decide, rfl, hf.fin⟩ hok (by omega) ha a3 (pw 2 (by omega))
  rw [hTM, Aph (Apt (A0o a1 a3))] at this
  exact this
 ·have hf : OpQ 2 2 { Arity := 2, Table := [0, 1, 1, 1] } := ⟨rfl, by omega, rfl, hin _ (by simp)⟩
  have := Ye (n := 2) (r := 2) (w := a) (R := r) (by omega) (by omega) hf (by omega) ⟨by decide, by decide, rfl, hf.fin⟩ hok (by omega) ha a3 (pw 2 (by omega))
  rw [hTM, Aph (Apt (A03 a1 a3))] at this
  exact this
 ·have hf : OpQ 2 3 { Arity := 3, Table := [0, 0, 0, 1, 0, 1, 1, 1] } := ⟨rfl, by omega, rfl, hin _ (by simp)⟩
  have := Ye (n := 2) (r := 3) (w := a) (R := r) (by omega) (by omega) hf (by omega) ⟨by decide, by decide, rfl, hf.fin⟩ hok (by omega) ha a3 (pw 3 (by omega))
  rw [hTM, As5 (Asp (Az9 a1 a3))] at this
  exact this
end
theorem Arv (A : Int) (cs : List (List Int)) : (Aa4 A cs).1.Tuples.length ≤ 1048576 ∧ ∀ t ∈ (Aa4 A cs).1.Tuples, t.length ≤ 1048576 := by
 unfold Aa4
 by_cases h : 1 ≤ A ∧ A ≤ 3 ∧ cs.length ≤ 30 ∧ (cs.all (Km A 0)) = true
 ·rw [if_pos h]
  obtain ⟨q1, q2⟩ := Aqo A.toNat (by omega) cs
  exact ⟨by dsimp only; omega, fun t ht => by have := q2 t ht; omega⟩
 ·rw [if_neg h]
  exact ⟨by simp [Ap], fun t ht => by simp [Ap] at ht⟩
theorem Ad0 {code : List Int} (h : code.length ≤ BIG ∧ ∀ x ∈ code, 0 ≤ x ∧ x ≤ 255) : Fy code = some true := by
 unfold Fy Rs
 simp only [obs0]
 by_cases hbig : (code.length : Int) > 65536
 ·rw [if_pos (by simpa using hbig)]
 rw [if_neg (by simpa using hbig)]
 have hL := Bd
 obtain ⟨r, ed, hd⟩ := Adp h.2 (by omega)
 have hl : r.Tuples.length ≤ 1048576 := Nat.le_trans hd.1 (by omega)
 have hr : ∀ t ∈ r.Tuples, t.length ≤ 1048576 := fun t ht => Nat.le_trans (hd.2 t ht) (by omega)
 rw [ed]
 simp only [obs0]
 obtain ⟨c1, c2⟩ := Acc hl hr
 obtain ⟨d1, d2⟩ := Ad6 hl hr
 have hsm : (Qk r).1.length ≤ 27 ∧ ∀ c ∈ (Qk r).1, c.length ≤ 3 := by
  unfold Qk
  by_cases hok : Eh 2 r
  ·obtain ⟨a, ha, a1, a3, at', hT⟩ := Adg hok
   rw [if_pos hok, at']
   exact Xc a1 a3 _
  ·rw [if_neg hok]
   exact ⟨by simp [Ap], fun c hc => by simp [Ap] at hc⟩
 have htl : (Z3 r).1.length ≤ 3 := by
  unfold Z3
  by_cases hok : Eh 2 r
  ·rw [if_pos hok]; simp [Rx]
  ·rw [if_neg hok]; simp [Ap]
 rw [c1]
 simp only [obs0]
 refine Yx (a := .inl ()) ?_ ?_
 ·rw [c2]
  simp only [obs0, beq_self_eq_true, if_true]
  rw [Alz (by omega) (fun c hc => by have := hsm.2 c hc; omega)]
  simp only [obs0, if_true]
 dsimp only
 rw [d1]
 simp only [obs0]
 have hpt : (Z3 r).2 = (Qk r).2 := by
  unfold Z3 Qk
  by_cases hok : Eh 2 r
  ·rw [if_pos hok, if_pos hok]
  ·rw [if_neg hok, if_neg hok]
 refine Yx (a := .inl ()) ?_ ?_
 ·rw [d2]
  simp only [obs0, beq_self_eq_true, if_true]
  rw [if_pos (by rw [hpt]; simp), Al8 (by omega)]
  simp only [obs0, if_true]
 dsimp only
 refine Yx (a := .inl ()) ?_ ?_
 ·by_cases hok : Eh 2 r
  ·obtain ⟨p1, x, y, z, p2, p3, p4, p5⟩ := Av0 hl hok
   have e : (Qk r).2 = true := by unfold Qk; rw [if_pos hok]
   rw [if_pos e, p1]
   simp only [obs0, if_true]
   rw [Aug hl hr]
   simp only [obs0, if_true]
   rw [p2, p3, p4]
   simp only [obs0, if_true]
   rw [p5, Al8 (by simp; omega)]
   simp only [obs0, if_true]
  ·have e : (Qk r).2 = false := by unfold Qk; rw [if_neg hok]
   rw [if_neg (by simp [e])]
 dsimp only
 obtain ⟨A, cs, e3, hA, hcs⟩ := Adl h.2 (by omega)
 rw [e3]
 simp only [obs0]
 rw [Qn hA hcs]
 simp only [obs0]
 obtain ⟨s1, s2⟩ := Arv A cs
 refine Yx (a := .inl ()) ?_ ?_
 ·rw [Agm hA hcs]
  simp only [obs0, beq_self_eq_true, if_true]
  rw [Aug s1 s2]
  simp only [obs0, if_true]
 dsimp only
 by_cases ht : (Aa4 A cs).2 = true
 ·rw [if_pos ht]
  simp only [obs0]
  by_cases h0 : (cs.length : Int) > 0
  ·have hc : 1 ≤ A ∧ A ≤ 3 ∧ cs.length ≤ 30 ∧ (cs.all (Km A 0)) = true := Classical.byContradiction fun hc => by
    unfold Aa4 at ht
    rw [if_neg hc] at ht
    exact Bool.false_ne_true ht
   have htk : (List.take (((cs.length : Int) - 1).toNat - Int.toNat 0) (List.drop (Int.toNat 0) cs)) = cs.take (cs.length - 1) := by
    rw [show (((cs.length : Int) - 1).toNat - Int.toNat 0) = cs.length - 1 by show ((cs.length : Int) - 1).toNat - 0 = _; omega]
    rfl
   have hmem : ∀ c ∈ cs.take (cs.length - 1), c ∈ cs := fun c hh => List.mem_of_mem_take hh
   have hsub : Ll (cs.take (cs.length - 1)) := ⟨by simp; omega, fun c hh => hcs.2 c (hmem c hh)⟩
   have hall : ((cs.take (cs.length - 1)).all (Km A 0)) = true := List.all_eq_true.2 fun c hh => List.all_eq_true.1 hc.2.2.2 c (hmem c hh)
   have e1 : Aa4 A cs = (Sb A.toNat cs, true) := by unfold Aa4; rw [if_pos hc]
   have e2 : Aa4 A (cs.take (cs.length - 1)) = (Sb A.toNat (cs.take (cs.length - 1)), true) := by
    unfold Aa4
    rw [if_pos ⟨hc.1, hc.2.1, by simp; omega, hall⟩]
   have hm := Ar5 (a := A.toNat) hmem
   rw [dtr0 h0, if_pos rfl, Af (by unfold InI; omega), Af (by omega), htk, Qn hA hsub, e1, e2]
   simp only [obs0, if_true]
   rw [if_neg (by omega)]
  ·rw [dfa0 h0]
   simp
 ·rw [if_neg ht]
  simp
end Go.Proofs.Ytjcekpmojnnmbaa.Ax
