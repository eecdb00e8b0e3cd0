/-
 The law FnTermFunctions: the list of term functions is closed, a function is one exactly if it is listed, and derivations that are told end with it.
-/
import Derived.Test.YtoaojijoefljaaaPB
import Derived.Test.YtoaojijoefljaaaLTermFunctions
namespace Go.Proofs.Ytoaojijoefljaaa.Ax
open Go Classical
theorem Zc {α β : Type} {o : Option α} {a : α} {k : α → Option β} {r : Option β} (h : o = some a) (h2 : k a = r) : o.bind k = r := by rw [h]; exact h2
theorem As8 {a : SAlgebra} {f : SOp} (h : (Tm a f).2 = true) : ∃ s, clA a f.Arity = some s ∧ I1 a.Size.toNat f ∧ Tm a f = (decide (f.Table ∈ s.1), true) := by
 unfold Tm at h ⊢
 cases h1 : clA a f.Arity with
 | none => rw [h1] at h; cases h
 | some s =>
   rw [h1] at h
   dsimp only at h ⊢
   by_cases ho : I1 a.Size.toNat f
   ·exact ⟨s, rfl, ho, if_pos ho⟩
   ·rw [if_neg ho] at h; cases h
theorem Arq {a : SAlgebra} {f : SOp} {r4 : Bool × Bool} {s : Clo} {b : Bool} (hl : s.1.length ≤ 1000) (hr : ∀ u ∈ s.1, u.length ≤ LIM) :
  At (Bt (a, f) r4 (Hg f.Arity s.1, b)) (0, false) = some (decide (f.Table ∈ s.1)) := by
 have hol : (Hg f.Arity s.1).length = s.1.length := by simp [Hg]
 have key := Bw (body := Bt (a, f) r4 (Hg f.Arity s.1, b)) (fun i => ((i : Int), decide (f.Table ∈ s.1.take i))) s.1.length (decide (f.Table ∈ s.1)) (fun i hi => by
  have hn : nth (Hg f.Arity s.1) i = { Arity := f.Arity, Table := nth s.1 i } := Ed _ hi
  have hd : decide (f.Table ∈ s.1.take (i + 1)) = (decide (f.Table ∈ s.1.take i) || decide (nth s.1 i = f.Table)) := by
   rw [Di hi]
   simp only [List.mem_append, List.mem_singleton, Bool.decide_or]
   congr 1
   rw [decide_eq_decide]
   exact ⟨Eq.symm, Eq.symm⟩
  unfold Bt
  dsimp only
  rw [if_pos (by omega), hd]
  by_cases hm : f.Table ∈ s.1.take i
  ·rw [decide_eq_true hm, if_pos rfl, Af (by unfold InI; omega)]
   rfl
  ·rw [decide_eq_false hm, if_neg (by simp), Af (by omega), Int.toNat_natCast, hn, Apz (by exact hr _ (A5 hi))]
   simp only [Option.bind_some]
   rw [Af (by unfold InI; omega)]
   have he : decide (({ Arity := f.Arity, Table := nth s.1 i } : SOp) = f) = decide (nth s.1 i = f.Table) := by
    rw [decide_eq_decide]
    constructor
    ·intro e; rw [← e]
    ·intro e; cases f; simp_all
   rw [he]; rfl) (by
  unfold Bt
  dsimp only
  rw [if_neg (by omega), List.take_length])
 have e0 : decide (f.Table ∈ s.1.take 0) = false := by simp
 rw [e0] at key
 exact key
theorem Zi {code : List Int} (h : code.length ≤ BIG ∧ ∀ x ∈ code, 0 ≤ x ∧ x ≤ 255) : E0 code = some true := by
 unfold E0 P4
 simp only [Option.bind_some]
 by_cases hbig : (code.length : Int) > 65536
 ·rw [if_pos (by simpa using hbig)]
 rw [if_neg (by simpa using hbig)]
 have hL := Bs
 obtain ⟨a, f, ed, hs, hf⟩ := V7 h.2 (by omega)
 rw [ed]
 simp only [Option.bind_some]
 obtain ⟨c1, c2⟩ := Wh hs (f := f) (by omega)
 rw [c1]
 simp only [Option.bind_some]
 refine Zc (a := .inl ()) ?_ ?_
 ·rw [c2]
  simp only [Option.bind_some, beq_self_eq_true, if_true]
 dsimp only
 obtain ⟨r, d1, d2, d3, d4, d5⟩ := Zb hs (f := f) (by omega)
 have d6 := Apv (st := r.1) (by omega) (fun st hst => by have := d4 st hst; omega)
 rw [d1]
 simp only [Option.bind_some]
 refine Zc (a := .inl ()) ?_ ?_
 ·rw [d2]
  simp only [Option.bind_some, beq_self_eq_true, if_true]
  rw [d6]
  simp only [Option.bind_some, if_true]
  rcases d5 with ⟨g1, g2⟩ | ⟨g1, g2, _⟩
  ·rw [g1]
   by_cases hk : (Tm a f).2 = true
   ·have : (Tm a f).1 = false := by
     cases h1 : (Tm a f).1 with
     | false => rfl
     | true => exact absurd (Prod.ext h1 hk) g2
    rw [if_pos hk, this]
    simp
   ·rw [if_neg hk]
    simp
  ·rw [g1, g2]
   simp
 dsimp only
 refine Zc (a := .inr ()) ?_ ?_
 ·rcases d5 with ⟨g1, g2⟩ | ⟨g1, g2, s, i, e1, e2, e3, e4, e5⟩
  ·rw [g1, if_neg (by simp)]
  ·obtain ⟨hc, hcl⟩ := G5 e1
   have hle := hcl.le
   rw [g1, if_pos rfl, e5, Ac1 hs e1 (m := i + 1) (by omega)]
   simp only [Option.bind_some]
   rw [Xq hs e1 (m := i + 1) (by omega)]
   simp only [Option.bind_some, if_true]
   have hl : (Hg f.Arity (s.1.take (i + 1))).length = i + 1 := by simp [Hg]; omega
   have hlast : nth (Hg f.Arity (s.1.take (i + 1))) ((((Hg f.Arity (s.1.take (i + 1))).length : Nat) : Int) - 1).toNat = f := by
    rw [hl, show ((((i + 1 : Nat) : Int)) - 1).toNat = i by omega]
    have : nth (Hg f.Arity (s.1.take (i + 1))) i = { Arity := f.Arity, Table := nth (s.1.take (i + 1)) i } := Ed _ (by rw [List.length_take]; omega)
    rw [this, Hk (by rw [List.length_take]; omega), List.getElem_take, ← Hk e3, e4]
   rw [if_neg (by omega), Af (by unfold InI; omega), Af (by omega), hlast, Apz (by omega)]
   simp
 dsimp only
 by_cases hk : (Tm a f).2 = true
 ·rw [if_pos hk]
  obtain ⟨s, e1, e2, e3⟩ := As8 hk
  obtain ⟨hc, hcl⟩ := G5 e1
  have hle := hcl.le
  have hrows := N2 hcl hc.2.2.2
  obtain ⟨t1, t2⟩ := W2 (k := f.Arity) hs
  have hR : tfR a f.Arity = (Hg f.Arity s.1, true) := by unfold tfR; rw [e1]
  have hol : (Hg f.Arity s.1).length = s.1.length := by simp [Hg]
  rw [hR] at t1 t2
  rw [t1]
  simp only [Option.bind_some]
  refine Zc (a := .inl ()) ?_ ?_
  ·rw [t2]
   simp only [Option.bind_some, beq_self_eq_true, if_true]
   rw [Auv (by omega) (fun g hg => by
    obtain ⟨u, hu, rfl⟩ := List.mem_map.1 hg
    exact hrows u hu)]
   simp only [Option.bind_some, if_true]
  dsimp only
  rw [Ac7 hs e1]
  simp only [Option.bind_some]
  rw [Ak3 hs e1]
  simp only [Option.bind_some, if_true]
  rw [if_neg (by rw [hol]; simp)]
  simp only [Option.bind_some]
  rw [Arq (by omega) hrows, e3]
  simp
 ·rw [if_neg hk]
end Go.Proofs.Ytoaojijoefljaaa.Ax
