/-
 The law of generators, on plain functions.
-/
import Derived.Test.YtidaaijecmkndaaPB
import Derived.Test.YtidaaijecmkndaaLGenerators
namespace Go.Proofs.Ytidaaijecmkndaa.Ax
open Go Classical
theorem Axq {α β : Type} {o : Option α} {a : α} {k : α → Option β} {r : Option β} (h : o = some a) (h2 : k a = r) : o.bind k = r := by rw [h]; exact h2
section
variable {a : SAlgebra} {n : Nat}
theorem Aq0 (h : ReadyA a n) {r17 : List Int × Bool} {b b' : Bool} :
  Am (Bt a (Ahf a n, b) (Sv a n, b') r17) 0 = some (.inr ()) := by
 have hL := Av
 have h8 := h.le
 have hml : (Sv a n).length ≤ 1048576 := Nat.le_trans (List.length_filter_le _ _) (Nat.le_trans Lb h.pow)
 have hnl : (Ahf a n).length ≤ n := Dk _ _
 have key := Cy (body := Bt a (Ahf a n, b) (Sv a n, b') r17) (fun i => (i : Int)) n (.inr ()) (fun x hx => by
  unfold Bt
  rw [h.sz, if_pos (by omega)]
  have inner : Am (Bs a (Ahf a n, b) (Sv a n, b') r17 (x : Int)) (0, true) = some (decide (Qo a n x)) := by
   have k := Cy (body := Bs a (Ahf a n, b) (Sv a n, b') r17 (x : Int)) (fun i => ((i : Int), decide (∀ r ∈ (Sv a n).take i, (x : Int) ∈ r))) (Sv a n).length (decide (Qo a n x)) (fun i hi => by
    have hr := (Aew h).1 (Bb hi)
    have hrl := K6 hr.1
    unfold Bs
    dsimp only
    rw [if_pos (by omega)]
    by_cases hb : ∀ r ∈ (Sv a n).take i, (x : Int) ∈ r
    ·rw [decide_eq_true hb, if_pos rfl, Ae (by omega), Int.toNat_natCast, Asw (by omega)]
     simp only [Option.bind_some]
     rw [Ae (by unfold InI; omega), N8 hi]
     congr 3
     rw [decide_eq_decide]
     constructor
     ·intro hm r hr
      rcases List.mem_append.1 hr with hr | hr
      ·exact hb r hr
      ·rw [List.mem_singleton.1 hr]; exact hm
     ·intro hall; exact hall _ (by simp)
    ·rw [decide_eq_false hb, if_neg (by simp), Ae (by unfold InI; omega)]
     congr 3
     refine (decide_eq_false fun hall => hb fun r hr => hall r ?_).symm
     rw [N8 hi]; exact List.mem_append_left _ hr) (by
    unfold Bs
    dsimp only
    rw [if_neg (by omega), List.take_length]
    congr 2
    rw [decide_eq_decide, Av1 h hx]
    exact ⟨fun hall ys hy => hall ys ((Aew h).2 hy), fun hall r hr => hall r ((Aew h).1 hr)⟩)
   have e0 : ((0 : Int), true) = (((0 : Nat) : Int), decide (∀ r ∈ (Sv a n).take 0, (x : Int) ∈ r)) := by simp
   rw [e0]; exact k
  rw [inner]
  simp only [Option.bind_some]
  rw [Asw (by omega)]
  simp only [Option.bind_some]
  have e : decide (Qo a n x) = decide ((x : Int) ∈ Ahf a n) := by
   unfold Ahf
   rw [decide_eq_decide, Ev, decide_eq_true_eq]
   exact ⟨fun hh => ⟨hx, hh⟩, fun hh => hh.2⟩
  rw [e, if_pos (by simp), Ae (by unfold InI; omega)]
  rfl) (by
  unfold Bt
  rw [h.sz, if_neg (by omega)])
 exact key
theorem Aqp (h : ReadyA a n) (hsm : I6 a) {b : Bool} : Am (Bq a (T8 a n, b)) 0 = some (.inr ()) := by
 have hL := Av
 have h8 := h.le
 have hml : (T8 a n).length ≤ 1048576 := Nat.le_trans (List.length_filter_le _ _) (Nat.le_trans Lb h.pow)
 have key := Cy (body := Bq a (T8 a n, b)) (fun i => (i : Int)) (T8 a n).length (.inr ()) (fun i hi => by
  have hr := (As2 h).1 (Bb hi)
  have hrl := K6 hr.1
  unfold Bq
  dsimp only
  rw [if_pos (by omega)]
  have inner : Am (Bv a (T8 a n, b) (i : Int)) 0 = some (.inr ()) := by
   have k := Cy (body := Bv a (T8 a n, b) (i : Int)) (fun j => (j : Int)) (nth (T8 a n) i).length (.inr ()) (fun j hj => by
    have hm := Bb hj
    have hin : Bc [nth (nth (T8 a n) i) j] n := fun v hv => by
     rw [List.mem_singleton.1 hv]; exact hr.1.1 _ hm
    have et : List.take (((j : Int) + 1).toNat - (j : Int).toNat) (List.drop (j : Int).toNat (nth (T8 a n) i)) = [nth (nth (T8 a n) i) j] := by
     have e1 : ((j : Int) + 1).toNat - (j : Int).toNat = 1 := by omega
     rw [e1, Int.toNat_natCast, Aia hj]; rfl
    unfold Bv
    dsimp only
    rw [Int.toNat_natCast, Ae (by omega), if_pos (by omega), Ae (by omega), Ae (by unfold InI; omega), Ae (by omega), et, Acl h hsm hin (by simp), Avy h hr hm]
    simp only [Option.bind_some, if_true]
    rw [Ae (by omega), Zs (by omega)]
    simp only [Option.bind_some, if_true]
    rw [Ae (by unfold InI; omega)]; rfl) (by
    unfold Bv
    dsimp only
    rw [Int.toNat_natCast, Ae (by omega), if_neg (by omega)])
   exact k
  rw [inner]
  simp only [Option.bind_some]
  rw [Ae (by unfold InI; omega)]; rfl) (by
  unfold Bq
  dsimp only
  rw [if_neg (by omega)])
 exact key
end
theorem Adr {code : List Int} (h : code.length ≤ BIG ∧ ∀ x ∈ code, 0 ≤ x ∧ x ≤ 255) : Fv code = some true := by
 unfold Fv Pj
 simp only [Option.bind_some]
 by_cases hbig : (code.length : Int) > 65536
 ·rw [if_pos (by simpa using hbig)]
 rw [if_neg (by simpa using hbig)]
 have hL := Av
 obtain ⟨a, ed, ha⟩ := X6 h.2 (by omega)
 have hsm := Alh ha
 rw [ed]
 simp only [Option.bind_some]
 by_cases hg : Zf a
 ·obtain ⟨n, hr⟩ : ∃ n, ReadyA a n := ⟨_, Awy hg⟩
  have h8 := hr.le
  have hnl : (Ahf a n).length ≤ n := Dk _ _
  have hrows : ∀ q : List Int → Bool, ((Ap a n).filter q).length ≤ 1048576 ∧ ∀ r ∈ (Ap a n).filter q, r.length ≤ 8 := fun q =>
   ⟨Nat.le_trans (List.length_filter_le _ _) (Nat.le_trans Lb hr.pow), fun r hrm => Ti hr (List.mem_filter.1 hrm).1⟩
  obtain ⟨m1, m2⟩ : (Sv a n).length ≤ 1048576 ∧ ∀ r ∈ Sv a n, r.length ≤ 8 := hrows _
  obtain ⟨l1, l2⟩ : (T8 a n).length ≤ 1048576 ∧ ∀ r ∈ T8 a n, r.length ≤ 8 := hrows _
  rw [Aqm hr hsm, Ary hr hsm]
  simp only [Option.bind_some, beq_self_eq_true, if_true]
  rw [Zs (by omega)]
  simp only [Option.bind_some, if_true]
  have e1 : Cp a = some (Sv a n, true) := by
   unfold Cp
   rw [Gk hsm, decide_eq_true hg]
   simp only [Option.bind_some, if_true]
   rw [Agy hr]; rfl
  have e2 : Cq a = some (Sv a n, true) := by
   unfold Cq
   rw [O0 hsm, decide_eq_true hg]
   simp only [Option.bind_some, if_true]
   rw [Ala hr]; rfl
  rw [e1, e2]
  simp only [Option.bind_some, beq_self_eq_true, if_true]
  rw [Adl (by omega) (fun r hrm => by have := m2 r hrm; omega)]
  simp only [Option.bind_some, if_true]
  obtain ⟨xs, k1, k2, hx⟩ := An5 hr hsm
  obtain ⟨x1, x2, x3⟩ := Nx.1 hx.1
  have x4 : xs.length ≤ n := by
   have := Afm x1 x2 (Zu xs) (N5 xs) (Nz (a := a) x1)
   have := Og (a := a) (n := n) xs
   omega
  rw [k1, k2]
  simp only [Option.bind_some, beq_self_eq_true, if_true]
  rw [Zs (by omega)]
  simp only [Option.bind_some, if_true]
  rw [Aq0 hr]
  simp only [Option.bind_some]
  rw [Aaq hr hsm x1 (by omega) x3, Yz hr hsm x1 (by omega) fun i hi => Aos hr hx hi]
  simp only [Option.bind_some, if_true]
  rw [Agp hr hsm, Zo hr hsm]
  simp only [Option.bind_some, beq_self_eq_true, if_true]
  rw [Adl (by omega) (fun r hrm => by have := l2 r hrm; omega)]
  simp only [Option.bind_some, if_true]
  rw [Aqp hr hsm]
  rfl
 ·have n1 : Ca a = some ([], false) := by
   unfold Ca
   rw [Gk hsm, decide_eq_false hg]; rfl
  have n2 : B9 a = some ([], false) := by
   unfold B9
   rw [O0 hsm, decide_eq_false hg]; rfl
  have n3 : Cp a = some ([], false) := by
   unfold Cp
   rw [Gk hsm, decide_eq_false hg]; rfl
  have n4 : Cq a = some ([], false) := by
   unfold Cq
   rw [O0 hsm, decide_eq_false hg]; rfl
  have n5 : Bf a = some ([], false) := by
   unfold Bf
   rw [Gk hsm, decide_eq_false hg]; rfl
  have n6 : Bh a = some ([], false) := by
   unfold Bh
   rw [O0 hsm, decide_eq_false hg]; rfl
  have r1 : Eb [] [] = some true := Zs (by simp)
  have r2 : Fr ([] : List (List Int)) [] = some true := Adl (by simp) (by simp)
  rw [n1, n2]
  simp only [Option.bind_some, beq_self_eq_true, if_true, r1]
  rw [n3, n4]
  simp only [Option.bind_some, beq_self_eq_true, if_true, r2]
  rw [n5, n6]
  simp only [Option.bind_some, beq_self_eq_true, if_true, r1, Bool.false_eq_true, if_false]
end Go.Proofs.Ytidaaijecmkndaa.Ax
