/-
 The law of subuniverses, on plain functions.
-/
import Derived.Test.YtidaaijecmkndaaPB
import Derived.Test.YtidaaijecmkndaaLSubuniverses
namespace Go.Proofs.Ytidaaijecmkndaa.Ax
open Go Classical
theorem Ape {α β : Type} {o : Option α} {a : α} {k : α → Option β} {r : Option β} (h : o = some a) (h2 : k a = r) : o.bind k = r := by rw [h]; exact h2
section
variable {a : SAlgebra} {n : Nat}
theorem Aq7 {code sub : List Int} {b b' : Bool} {S : Nat → Bool} (hn : n ≤ 8) (hs : sub = Ar n (Jc a S)) {J : Nat} (hJ : J ≤ n) (hsum : ((B9 a n S J).map List.length).sum = sub.length) :
  Ap (Bg code (sub, b) (B9 a n S J, b')) (0, 0) = some (.inr (sub.length : Int)) := by
 have hL := At
 have hsl : sub.length ≤ n := by rw [hs]; exact Dw _ _
 have hrl := Oy (a := a) (n := n) S J
 have key := C8 (body := Bg code (sub, b) (B9 a n S J, b')) (fun i => ((i : Int), ((((B9 a n S J).take i).map List.length).sum : Nat))) (B9 a n S J).length (.inr (sub.length : Int)) (fun i hi => by
  obtain ⟨r1, r2⟩ := Aej (Bu hi)
  have hle : ((((B9 a n S J).take i).map List.length).sum) + (nth (B9 a n S J) i).length ≤ sub.length := by
   have e : (B9 a n S J) = (B9 a n S J).take i ++ nth (B9 a n S J) i :: (B9 a n S J).drop (i + 1) := by
    rw [← Aq2 hi, List.take_append_drop]
   have e2 := congrArg (fun l => (List.map List.length l).sum) e
   simp only [List.map_append, List.map_cons, List.sum_append, List.sum_cons] at e2
   omega
  unfold Bg
  dsimp only
  rw [if_pos (by omega), Ae (by omega), Int.toNat_natCast, Ae (by unfold InI; omega), Ae (by omega), Ahh (by omega) (by omega) (fun x hx => by rw [hs]; exact r1 x hx)]
  simp only [Option.bind_some, if_true]
  rw [Ae (by unfold InI; omega), Ny hi, List.map_append, List.sum_append]
  simp) (by
  unfold Bg
  dsimp only
  rw [if_neg (by omega), List.take_length, hsum])
 exact key
theorem Aqd (h : ReadyA a n) {x y : List Int} (hx : Cd a n x) (hy : Cd a n y) {b b' b'' : Bool} :
  Ap (Bs (a, x, y) (Pv x y, b) (Pz a n (x ++ y), b') (Gm a n, b'')) 0 = some (.inr ()) := by
 have hL := At
 have h8 := h.le
 have hsl : (Gm a n).length ≤ 1048576 := Nat.le_trans Ag6 h.pow
 have hxl := Kg hx
 have hyl := Kg hy
 have hml := Kg (Aip h hx hy)
 have hjl := Acz (a := a) (n := n) (x ++ y)
 have hin : B3 (x ++ y) n := fun v hv => by
  rcases List.mem_append.1 hv with hv | hv
  ·exact hx.1 v hv
  ·exact hy.1 v hv
 have key := C8 (body := Bs (a, x, y) (Pv x y, b) (Pz a n (x ++ y), b') (Gm a n, b'')) (fun i => (i : Int)) (Gm a n).length (.inr ()) (fun i hi => by
  have hr := (Qh h).1 (Bu hi)
  have hrl := Kg hr
  unfold Bs
  dsimp only
  rw [Int.toNat_natCast]
  generalize nth (Gm a n) i = r at hr hrl
  rw [if_pos (by omega), Ae (by omega), Kf (by omega) (by omega)]
  simp only [Option.bind_some]
  refine Ape (a := .inl ()) ?_ ?_
  ·by_cases c1 : Abc r x
   ·rw [decide_eq_true c1, if_pos rfl, Ae (by omega), Kf (by omega) (by omega)]
    simp only [Option.bind_some]
    rw [Ae (by omega), Kf (by omega) (by omega)]
    simp only [Option.bind_some]
    have e : decide (Abc r y) = decide (Abc r (Pv x y)) := by
     rw [decide_eq_decide]
     exact ⟨fun hh v hv => M3.2 ⟨c1 v hv, hh v hv⟩, fun hh v hv => (M3.1 (hh v hv)).2⟩
    rw [e, if_pos (by simp)]
   ·rw [decide_eq_false c1, if_neg (by simp)]
  ·dsimp only
   rw [Ae (by omega), Kf (by omega) (by omega)]
   simp only [Option.bind_some]
   by_cases c1 : Abc x r
   ·rw [decide_eq_true c1, if_pos rfl, Ae (by omega), Kf (by omega) (by omega)]
    simp only [Option.bind_some]
    rw [Ae (by omega), Kf (by omega) (by omega)]
    simp only [Option.bind_some]
    have e : decide (Abc y r) = decide (Abc (Pz a n (x ++ y)) r) := by
     rw [decide_eq_decide]
     constructor
     ·intro hh
      exact Am8 h hr fun v hv => by
       rcases List.mem_append.1 hv with hv | hv
       ·exact c1 v hv
       ·exact hh v hv
     ·intro hh v hv
      exact hh v (Agw hin v (List.mem_append_right _ hv))
    rw [e, if_pos (by simp), Ae (by unfold InI; omega)]
    rfl
   ·rw [decide_eq_false c1, if_neg (by simp), Ae (by unfold InI; omega)]
    rfl) (by
  unfold Bs
  dsimp only
  rw [if_neg (by omega)])
 exact key
theorem Aqa (hsm : G1 a) {xs : List Int} (hl : xs.length ≤ 21) : ∃ r4 r10, Bt a xs = some r4 ∧ Cc a xs = some r4 ∧ r4.1.length ≤ 8 ∧ Bn a xs = some r10 ∧ Bp a xs = some r10 ∧
  r10.2 = r4.2 ∧ Dn r10.1 r10.1 = some true ∧ (r4.2 = true → Bt a r4.1 = some (r4.1, true) ∧ Co a r4.1 = some (true, true) ∧ Bm xs r4.1 = some true ∧
   ∀ code, Ap (Bg code r4 r10) (0, 0) = some (.inr (r4.1.length : Int))) := by
 have hL := At
 by_cases he : Sc a xs
 ·obtain ⟨hr, hx⟩ := he.ready
  have h20 := he.2.1
  have h8 := hr.le
  generalize a.Size.toNat = n at hr hx h8
  obtain ⟨J, hJ, hend, hgo⟩ := Asy a n (fun z : Nat => decide ((z : Int) ∈ xs))
  have hgl := Acz (a := a) (n := n) xs
  have hself := Apt (Ahz hr xs)
  refine ⟨(Pz a n xs, true), (B9 a n (fun z : Nat => decide ((z : Int) ∈ xs)) J, true), S0 hr hsm hx h20, Abv hr hsm hx h20, by simp only; omega, Aob hr hsm hx h20 rfl hJ hend hgo, Am4 hr hsm hx h20 rfl hJ hend hgo, rfl,
   Yt (by rw [Oy]; omega) (fun r hrm => by have := (Aej hrm).2; omega), fun _ => ⟨?_, ?_, Ahh (by omega) (by simp only; omega) (Agw hx), fun code => ?_⟩⟩
  ·have := S0 hr hsm (Ao3 (a := a) (n := n) xs) (by omega)
   rw [hself] at this; exact this
  ·rw [Xr hr hsm (by simp only; omega), decide_eq_true (Ahz hr xs)]
  ·exact Aq7 h8 rfl hJ (by rw [Acw, Apn hr hend])
 ·obtain ⟨g1, g2⟩ := Add hsm (xs := xs) (by omega) he
  obtain ⟨k1, k2⟩ := Aqq hsm (xs := xs) (by omega) he
  exact ⟨_, _, g1, g2, by simp, k1, k2, rfl, Yt (by simp) (by simp), fun hh => by cases hh⟩
end
theorem Zo {code : List Int} (h : code.length ≤ BIG ∧ ∀ x ∈ code, 0 ≤ x ∧ x ≤ 255) : Ey code = some true := by
 unfold Ey Om
 simp only [Option.bind_some]
 by_cases hbig : (code.length : Int) > 65536
 ·rw [if_pos (by simpa using hbig)]
 rw [if_neg (by simpa using hbig)]
 have hL := At
 obtain ⟨a, xs, ed, ha, hxl⟩ := Aaa h.2 (by omega)
 obtain ⟨b, x, y, ed2, hb, hx21, hy21⟩ := Afn h.2 (by omega)
 have hsa := Ur ha
 have hsb := Ur hb
 have r1 : Bw [] [] = some true := U7 (by simp)
 have r2 : Dn ([] : List (List Int)) [] = some true := Yt (by simp) (by simp)
 obtain ⟨p1, p2⟩ := Aqx hsb (x := x) (y := y) hx21 hy21
 obtain ⟨j1, j2⟩ := Aq1 hsb (x := x) (y := y) hx21 hy21
 obtain ⟨r4, r10, e1, e2, e3, e4, e5, e6, e7, hyes⟩ := Aqa hsa (xs := xs) hxl
 have e8 : Bw r4.1 r4.1 = some true := U7 (by omega)
 rw [ed]
 simp only [Option.bind_some]
 rw [e1, e2]
 simp only [Option.bind_some, beq_self_eq_true, if_true, e8]
 rw [e4, e5]
 simp only [Option.bind_some, beq_self_eq_true, if_true, e6, e7]
 refine Ape (a := .inr ()) ?_ ?_
 ·by_cases ok : r4.2 = true
  ·obtain ⟨h1, h2, h3, h4⟩ := hyes ok
   rw [if_pos ok, h1, h2]
   simp only [Option.bind_some, if_true, e8, h3, h4, ne_eq, not_true_eq_false, if_false]
  ·rw [if_neg ok]
 dsimp only
 rw [ed2]
 simp only [Option.bind_some, p1, p2, j1, j2, beq_self_eq_true, if_true]
 by_cases h2 : Tr b x y
 ·obtain ⟨n, hn, hr⟩ : ∃ n, n = b.Size.toNat ∧ ReadyA b n := ⟨_, rfl, Wq h2.1⟩
  have h8 := hr.le
  have hx := h2.2.1
  have hy := h2.2.2
  rw [← hn] at hx hy
  have hin : B3 (x ++ y) n := fun v hv => by
   rcases List.mem_append.1 hv with hv | hv
   ·exact hx.1 v hv
   ·exact hy.1 v hv
  have em : Ak2 b x y = (Pv x y, true) := if_pos h2
  have ej : Akz b x y = (Pz b n (x ++ y), true) := by rw [hn]; exact if_pos h2
  have hml := Kg (Aip hr hx hy)
  have hjl := Acz (a := b) (n := n) (x ++ y)
  have hsl : (Gm b n).length ≤ 1048576 := Nat.le_trans Ag6 hr.pow
  have hrow : ∀ r ∈ Gm b n, r.length ≤ LIM := fun r hrm => by have := Xq hr hrm; omega
  obtain ⟨a1, a2⟩ := Ama hr hsb
  obtain ⟨q1, f1, f2⟩ := Alw (xss := Gm b n) (t := Pv x y) (by omega) hrow ((Qh hr).2 (Aip hr hx hy))
  obtain ⟨q2, g1, g2⟩ := Alw (xss := Gm b n) (t := Pz b n (x ++ y)) (by omega) hrow ((Qh hr).2 (Ahz hr _))
  have ri1 : Bw (Pv x y) (Pv x y) = some true := U7 (by omega)
  have ri2 : Bw (Pz b n (x ++ y)) (Pz b n (x ++ y)) = some true := U7 (by omega)
  have rt : Dn (Gm b n) (Gm b n) = some true := Yt (by omega) hrow
  have l2 := Aqd hr hx hy (b := true) (b' := true) (b'' := true)
  simp only [em, ej, ri1, ri2, a1, a2, rt, f1, g1, if_neg (show ¬ q1 < 0 by omega), if_neg (show ¬ q2 < 0 by omega), l2, Option.bind_some, beq_self_eq_true, if_true]
 ·have em : Ak2 b x y = ([], false) := if_neg h2
  have ej : Akz b x y = ([], false) := if_neg h2
  simp only [em, ej, r1, Option.bind_some, beq_self_eq_true, if_true, Bool.false_eq_true, if_false]
end Go.Proofs.Ytidaaijecmkndaa.Ax
