/-
 The law of equivalences, on plain functions.
-/
import Derived.Test.YtcpgnfohmeineaaPB
import Derived.Test.YtcpgnfohmeineaaLEquivalences
namespace Go.Proofs.Ytcpgnfohmeineaa.Ax
open Go Classical
theorem Auc {xss : List (List Int)} (h : xss.length ≤ LIM) (h1 : ∀ r ∈ xss, r.length ≤ LIM) : Kw xss xss = some true := by
 have hL := Bc
 unfold Kw
 rw [if_neg (by simp)]
 have this := Is (body := Ep xss xss) (fun i => (i : Int)) xss.length (fun _ => False) () () (fun i hi _ => by
  unfold Ep
  rw [if_pos (by omega), Ae (by omega), Ae (by omega), Int.toNat_natCast, Aii (h1 _ (As hi))]
  simp only [Option.bind_some, if_true]
  rw [Ae (by unfold InI; omega)]; rfl) (fun i _ hb => absurd hb id) (by
  unfold Ep
  rw [if_neg (by omega)]) 0 (by omega)
 have this' : Al (Ep xss xss) 0 = _ := this
 rw [this', if_neg (by rintro ⟨i, _, _, h⟩; exact h)]
 rfl
theorem Ass {r : SRelation} (h : r.Tuples.length ≤ 1048576) (h1 : ∀ t ∈ r.Tuples, t.length ≤ 1048576) : F0 r r = some true := by
 have hL := Bc
 unfold F0
 rw [if_pos rfl, Auc (by omega) (fun t ht => by have := h1 t ht; omega)]
 rfl
theorem X8 {α β : Type} {o : Option α} {a : α} {k : α → Option β} {r : Option β} (h : o = some a) (h2 : k a = r) : o.bind k = r := by rw [h]; exact h2
theorem Ao6 (n : Int) (p : List Int) : (Qc n p).1.Tuples.length ≤ 1048576 ∧ ∀ t ∈ (Qc n p).1.Tuples, t.length ≤ 1048576 := by
 unfold Qc
 by_cases h : 1 ≤ n ∧ n ≤ 8 ∧ Gu n.toNat p
 ·rw [if_pos h]
  have hp := h.2.2.1
  have ht := Ado (p := p) (by omega)
  exact ⟨Nat.le_trans ht.1 (by omega), fun t hh => Nat.le_trans (ht.2 t hh) (by omega)⟩
 ·rw [if_neg h]
  exact ⟨by simp, fun t ht => by simp at ht⟩
theorem Aev {code : List Int} (h : code.length ≤ BIG ∧ ∀ x ∈ code, 0 ≤ x ∧ x ≤ 255) : Gi code = some true := by
 unfold Gi Sp
 simp only [Option.bind_some]
 by_cases hbig : (code.length : Int) > 65536
 ·rw [if_pos (by simpa using hbig)]
 rw [if_neg (by simpa using hbig)]
 have hL := Bc
 obtain ⟨n, p, ed, hp⟩ := T5 h.2 (by omega)
 rw [ed]
 simp only [Option.bind_some]
 obtain ⟨c1, c2⟩ := G7 n (p := p) (by omega)
 obtain ⟨s1, s2⟩ := Ao6 n p
 rw [c1]
 simp only [Option.bind_some]
 refine X8 (a := .inl ()) ?_ ?_
 ·rw [c2]
  simp only [Option.bind_some, beq_self_eq_true, if_true]
  rw [Ass s1 s2]
  simp only [Option.bind_some, if_true]
 dsimp only
 refine X8 (a := .inl ()) ?_ ?_
 ·by_cases ht : (Qc n p).2 = true
  ·rw [if_pos ht, M6 s1 s2]
   have hc : 1 ≤ n ∧ n ≤ 8 ∧ Gu n.toNat p := Classical.byContradiction fun hc => by
    unfold Qc at ht
    rw [if_neg hc] at ht
    exact Bool.false_ne_true ht
   obtain ⟨m, rfl⟩ := Int.eq_ofNat_of_zero_le (show 0 ≤ n by omega)
   have hpm : Gu m p := by have := hc.2.2; rwa [Int.toNat_natCast] at this
   have he := Asb hpm
   have e1 : Qc (m : Int) p = ({ Arity := 2, Tuples := C8 p }, true) := by unfold Qc; rw [if_pos hc]
   have e2 : K1 (m : Int) { Arity := 2, Tuples := C8 p } = (p, true) := by
    unfold K1
    rw [if_pos ⟨⟨hc.1, hc.2.1, Ant (by omega) hpm, rfl⟩, by rw [Int.toNat_natCast]; exact he⟩, Int.toNat_natCast, Au3 hpm]
   rw [e1, e2]
   simp only [Option.bind_some, if_true]
   rw [Aii (by omega)]
   simp only [Option.bind_some, if_true]
  ·rw [if_neg ht]
 dsimp only
 obtain ⟨m, r, er, hr⟩ := Aa6 h.2 (by omega)
 have hr1 : r.Tuples.length ≤ 1048576 := Nat.le_trans hr.1 (by omega)
 have hr2 : ∀ t ∈ r.Tuples, t.length ≤ 1048576 := fun t ht => Nat.le_trans (hr.2 t ht) (by omega)
 rw [er]
 simp only [Option.bind_some]
 rw [Vp hr1 hr2]
 simp only [Option.bind_some]
 refine X8 (a := .inl ()) ?_ ?_
 ·rw [Aeo hr1 hr2]
  simp only [Option.bind_some, beq_self_eq_true, if_true]
 dsimp only
 rw [M6 hr1 hr2]
 simp only [Option.bind_some]
 have hpl : (K1 m r).1.length ≤ 8 := by
  unfold K1
  split
  ·rename_i hh; rw [Ly]; have := hh.1.2.1; omega
  ·simp [Av]
 refine X8 (a := .inl ()) ?_ ?_
 ·rw [Wf hr1 hr2]
  simp only [Option.bind_some, beq_self_eq_true, if_true]
  rw [Aii (by omega)]
  simp only [Option.bind_some, if_true]
  have hpe := Amg m r
  have hcase : Yt m r = (true, true) ∨ Yt m r = (false, true) ∨ Yt m r = (false, false) := by
   unfold Yt
   split
   ·by_cases he : Yv m.toNat r.Tuples
    ·rw [decide_eq_true he]; exact .inl rfl
    ·rw [decide_eq_false he]; exact .inr (.inl rfl)
   ·exact .inr (.inr rfl)
  rcases hcase with e | e | e
  ·rw [hpe.2 e, e]; simp
  ·have : (K1 m r).2 = false := by
    cases hb : (K1 m r).2 with
    | false => rfl
    | true => have := hpe.1 hb; rw [e] at this; simp at this
   rw [this, e]; simp
  ·have : (K1 m r).2 = false := by
    cases hb : (K1 m r).2 with
    | false => rfl
    | true => have := hpe.1 hb; rw [e] at this; simp at this
   rw [this, e]; simp
 dsimp only
 refine X8 (a := .inl ()) ?_ ?_
 ·by_cases ht : (K1 m r).2 = true
  ·have hc : (1 ≤ m ∧ m ≤ 8 ∧ Dk m r ∧ r.Arity = 2) ∧ Yv m.toNat r.Tuples := Classical.byContradiction fun hc => by
    unfold K1 at ht
    rw [if_neg hc] at ht
    exact Bool.false_ne_true ht
   obtain ⟨⟨h1, h8, hok, h2⟩, he⟩ := hc
   obtain ⟨N, rfl⟩ := Int.eq_ofNat_of_zero_le (show 0 ≤ m by omega)
   have e2 : K1 (N : Int) r = (Kc N r.Tuples, true) := by
    unfold K1
    rw [if_pos ⟨⟨h1, h8, hok, h2⟩, he⟩, Int.toNat_natCast]
   rw [Int.toNat_natCast] at he
   have hpo := Awb he
   have e3 : Qc (N : Int) (Kc N r.Tuples) = (r, true) := by
    unfold Qc
    rw [if_pos ⟨h1, h8, by rw [Int.toNat_natCast]; exact hpo⟩, Aws (by omega) hok h2 he]
    obtain ⟨rA, rT⟩ := r
    dsimp only at h2
    rw [h2]
   rw [if_pos ht, e2, (G7 (N : Int) (p := Kc N r.Tuples) (by rw [Ly]; omega)).1, e3]
   simp only [Option.bind_some, if_true]
   rw [Ass hr1 hr2]
   simp only [Option.bind_some, if_true]
  ·rw [if_neg ht]
 dsimp only
 obtain ⟨a, q, eq, ha, hq⟩ := Adh h.2 (by omega)
 have hs := Afk ha
 rw [eq]
 simp only [Option.bind_some]
 unfold Hh
 rw [Afa hs]
 simp only [Option.bind_some]
 have k1 := (G7 a.Size (p := q) (by omega)).1
 by_cases hg : Jv a
 ·have h1 := hg.1
  have h8 := hg.2.1
  obtain ⟨N, hn⟩ := Int.eq_ofNat_of_zero_le (show 0 ≤ a.Size by omega)
  rw [decide_eq_true hg, if_pos rfl, Aha hg hn (by omega)]
  simp only [Option.bind_some]
  rw [k1]
  simp only [Option.bind_some, if_true]
  by_cases hp : (Qc a.Size q).2 = true
  ·rw [if_pos hp]
   have hc : 1 ≤ a.Size ∧ a.Size ≤ 8 ∧ Gu a.Size.toNat q := Classical.byContradiction fun hc => by
    unfold Qc at hp
    rw [if_neg hc] at hp
    exact Bool.false_ne_true hp
   have hpq : Gu N q := by have := hc.2.2; rw [hn, Int.toNat_natCast] at this; exact this
   have e1 : Qc a.Size q = ({ Arity := 2, Tuples := C8 q }, true) := by unfold Qc; rw [if_pos hc]
   obtain ⟨v, ev, hv⟩ := Aim hs hn hg hpq
   rw [e1, ev]
   simp only [Option.bind_some]
   by_cases hv2 : v.2 = true
   ·rw [if_pos hv2, hv hv2]
    have : decide (Aet a N q) = decide (Avo a N q) := decide_eq_decide.2 ⟨fun hh => ⟨hpq, hh⟩, fun hh => hh.2⟩
    rw [this]; simp
   ·rw [if_neg hv2]
  ·rw [if_neg hp]
 ·rw [decide_eq_false hg]
  simp only [Bool.false_eq_true, if_false, Option.bind_some]
  rw [k1]
  simp
end Go.Proofs.Ytcpgnfohmeineaa.Ax
