/-
 The law FnCompositions: compositions of term functions are term functions, a minor depends only on places that it was given, and a projection on one place at most.
-/
import Derived.Test.YtoaojijoefljaaaPB
import Derived.Test.YtoaojijoefljaaaLCompositions
namespace Go.Proofs.Ytoaojijoefljaaa.Ax
open Go Classical
theorem Kk {α β : Type} {o : Option α} {a : α} {k : α → Option β} {r : Option β} (h : o = some a) (h2 : k a = r) : o.bind k = r := by rw [h]; exact h2
def L6 (S : List (List Int)) (l K : Nat) : List (List Int) := (List.range K).map fun j => nth S ((j * 7 + l) % S.length)
theorem Aqp {code : List Int} {a : SAlgebra} {f : SOp} {s : Clo} {K : Nat} (hfa : f.Arity = K) (hK : K ≤ 3) (hl : f.Table.length ≤ 1000) (h0 : 0 < s.1.length) (h60 : s.1.length ≤ 60) :
  Ar (Cb code (a, f) (H8 K s.1, true)) (0, Ao SOp) = some (H8 K (L6 s.1 f.Table.length K)) := by
 have hL := Bk
 have hol : (H8 (K : Int) s.1).length = s.1.length := by simp [H8]
 have hpl : (H8 (K : Int) (L6 s.1 f.Table.length K)).length = K := by simp [H8, L6]
 have key := Bs (body := Cb code (a, f) (H8 K s.1, true)) (fun i => ((i : Int), (H8 (K : Int) (L6 s.1 f.Table.length K)).take i)) K (H8 K (L6 s.1 f.Table.length K)) (fun i hi => by
  have c2 : ((i : Int) * 7 + (f.Table.length : Int)).tmod (s.1.length : Int) = (((i * 7 + f.Table.length) % s.1.length : Nat) : Int) := by
   rw [show (i : Int) * 7 + (f.Table.length : Int) = ((i * 7 + f.Table.length : Nat) : Int) by push_cast; rfl]; rfl
  have hm : (i * 7 + f.Table.length) % s.1.length < s.1.length := Nat.mod_lt _ h0
  have e : (H8 (K : Int) (L6 s.1 f.Table.length K)).take (i + 1) = (H8 (K : Int) (L6 s.1 f.Table.length K)).take i ++ [nth (H8 (K : Int) s.1) ((i * 7 + f.Table.length) % s.1.length)] := by
   have q1 : nth (H8 (K : Int) (L6 s.1 f.Table.length K)) i = { Arity := (K : Int), Table := nth (L6 s.1 f.Table.length K) i } := D1 _ (by simpa [L6] using hi)
   have q2 : nth (L6 s.1 f.Table.length K) i = nth s.1 ((i * 7 + f.Table.length) % s.1.length) := by
    unfold L6
    rw [D1 _ (by simpa using hi), Pb hi]
   have q3 : nth (H8 (K : Int) s.1) ((i * 7 + f.Table.length) % s.1.length) = { Arity := (K : Int), Table := nth s.1 ((i * 7 + f.Table.length) % s.1.length) } := D1 _ hm
   rw [D4 (by omega), q1, q2, q3]
  unfold Cb
  dsimp only
  rw [hol, c2, hfa]
  generalize (i * 7 + f.Table.length) % s.1.length = M at hm e
  rw [if_pos (by omega), Af (by unfold InI; omega), Af (by unfold InI; omega), Af (by omega), Af (by omega), Af (by simp only [List.length_take, List.length_cons, List.length_nil]; omega), Af (by unfold InI; omega), Int.toNat_natCast, ← e]
  rfl) (by
  unfold Cb
  dsimp only
  rw [if_neg (by omega), List.take_of_length_le (by omega)])
 exact key
theorem Ady {code : List Int} (h : code.length ≤ BIG ∧ ∀ x ∈ code, 0 ≤ x ∧ x ≤ 255) : F7 code = some true := by
 unfold F7 Ry
 simp only [Option.bind_some]
 by_cases hbig : (code.length : Int) > 65536
 ·rw [if_pos (by simpa using hbig)]
 rw [if_neg (by simpa using hbig)]
 have hL := Bk
 obtain ⟨a, f, ed, hs, hf⟩ := Yy h.2 (by omega)
 rw [ed]
 simp only [Option.bind_some]
 obtain ⟨c1, c2⟩ := Oq hs (f := f) (by omega)
 rw [c1]
 simp only [Option.bind_some]
 refine Kk (a := .inl ()) ?_ ?_
 ·rw [c2]
  simp only [Option.bind_some, beq_self_eq_true, if_true]
 dsimp only
 refine Kk (a := .inr ()) ?_ ?_
 ·refine Kk (a := (Adq a f).2 && (Adq a f).1) (by cases (Adq a f).2 <;> simp) ?_
  by_cases hk : ((Adq a f).2 && (Adq a f).1) = true
  ·rw [if_pos hk]
   simp only [Bool.and_eq_true] at hk
   obtain ⟨s, e1, e2, e3⟩ : ∃ s, clA a f.Arity = some s ∧ Ic a.Size.toNat f ∧ Adq a f = (decide (f.Table ∈ s.1), true) := by
    have hk2 := hk.1
    unfold Adq at hk2 ⊢
    cases h1 : clA a f.Arity with
    | none => rw [h1] at hk2; cases hk2
    | some s =>
      rw [h1] at hk2
      dsimp only at hk2 ⊢
      by_cases ho : Ic a.Size.toNat f
      ·exact ⟨s, rfl, ho, if_pos ho⟩
      ·rw [if_neg ho] at hk2; cases hk2
   have hmem : f.Table ∈ s.1 := by have := hk.2; rw [e3] at this; simpa using this
   obtain ⟨hc, hcl⟩ := Tv e1
   obtain ⟨n, K, g1, g2, b1, b2, b3, b4, b5, b6, b7⟩ := hc.size
   have hle := hcl.le
   have hrows := Aaw hcl hc.2.2.2
   obtain ⟨t1, t2⟩ := Aab (k := f.Arity) hs
   have hR : tfR a f.Arity = (H8 f.Arity s.1, true) := by unfold tfR; rw [e1]
   have hol : (H8 f.Arity s.1).length = s.1.length := by simp [H8]
   have h0 : 0 < s.1.length := List.length_pos_of_mem hmem
   rw [hR] at t1 t2
   rw [t1]
   simp only [Option.bind_some]
   refine Kk (a := .inr ()) ?_ ?_
   ·rw [t2]
    simp only [Option.bind_some, beq_self_eq_true, if_true]
    rw [Axf (by omega) (fun g hg => by
     obtain ⟨u, hu, rfl⟩ := List.mem_map.1 hg
     exact hrows u hu)]
    simp only [Option.bind_some, if_true]
    rw [if_neg (by omega)]
   dsimp only
   have hts : ∀ t ∈ L6 s.1 f.Table.length K, t ∈ s.1 := fun t ht => by
    obtain ⟨j, _, rfl⟩ := List.mem_map.1 ht
    exact A9 (Nat.mod_lt _ h0)
   rw [b6, b7] at hcl
   rw [b6] at e2
   rw [g2, Aqp g2 (by omega) (by omega) h0 hle]
   simp only [Option.bind_some]
   obtain ⟨m1, m2⟩ := V5 (n := n) (k := K) (f := f) (ts := L6 s.1 f.Table.length K) (by omega) (by omega) b3 b4 e2 g2 (by simp [L6]) (fun t ht => hcl.inv.tabs t (hts t ht))
   rw [g1, m1]
   simp only [Option.bind_some]
   have hpl := H5 (n := n) (k := K) (by omega) b4
   refine Kk (a := .inl ()) ?_ ?_
   ·rw [m2]
    simp only [Option.bind_some, beq_self_eq_true, if_true]
    rw [Atn (by show (J3 _ _ _ _).length ≤ LIM; rw [Hb]; omega)]
    simp
   dsimp only
   obtain ⟨i, hi, ei⟩ := Pa.1 hmem
   have hcomp := Aqk (by omega) hcl (qs := L6 s.1 f.Table.length K) (by simp [L6]) hts i hi
   have hff : ({ Arity := (K : Int), Table := nth s.1 i } : SOp) = f := by rw [ei, ← g2]
   rw [hff] at hcomp
   have hgo : Ic n { Arity := (K : Int), Table := J3 n (n ^ K) f (L6 s.1 f.Table.length K) } := Aqh b4 (hcl.inv.tabs _ hcomp)
   have hgi : Adq a { Arity := (K : Int), Table := J3 n (n ^ K) f (L6 s.1 f.Table.length K) } = (true, true) := by
    unfold Adq
    dsimp only
    rw [← g2, e1]
    dsimp only
    rw [b6, if_pos (by rw [g2]; exact hgo), decide_eq_true hcomp]
   rw [(Oq hs (by show (J3 _ _ _ _).length ≤ 1048576; rw [Hb]; omega)).1, hgi]
   simp
  ·rw [if_neg hk]
 dsimp only
 obtain ⟨n, g, ps, k, em, hg, hps⟩ := Alq h.2 (by omega)
 rw [em]
 simp only [Option.bind_some]
 obtain ⟨m1, m2⟩ := Alp (n := n) (f := g) (ps := ps) (k := k) (by omega) (by omega)
 rw [m1]
 simp only [Option.bind_some]
 have hml : (Aew n g ps k).1.Table.length ≤ 512 := by
  unfold Aew
  by_cases ho : Aq7 n g ps k
  ·rw [if_pos ho]
   show (N4 _ _ _ _).length ≤ 512
   unfold N4
   rw [Hb]
   exact H5 (by have := ho.1.2.1; omega) (by have := ho.2.2.1; omega)
  ·rw [if_neg ho]; simp
 refine Kk (a := .inl ()) ?_ ?_
 ·rw [m2]
  simp only [Option.bind_some, beq_self_eq_true, if_true]
  rw [Atn (by omega)]
  simp
 dsimp only
 refine Kk (a := .inr ()) ?_ ?_
 ·by_cases ho : Aq7 n g ps k
  ·have hR : Aew n g ps k = ({ Arity := k, Table := N4 n.toNat g ps k.toNat }, true) := if_pos ho
   rw [hR] at hml ⊢
   obtain ⟨⟨o1, o2, o3⟩, o4, o5, o6, o7⟩ := ho
   have hkk : ((k.toNat : Nat) : Int) = k := by omega
   have o7' : Ct ps ((k.toNat : Nat) : Int) := by rw [hkk]; exact o7
   have hmo := Ayp (n := n.toNat) (k := k.toNat) (f := g) (ps := ps) (by omega) o3 (by omega) o7' (by omega)
   rw [hkk] at hmo
   obtain ⟨q1, q2⟩ := Xe (n := n) (f := { Arity := k, Table := N4 n.toNat g ps k.toNat }) (by dsimp only at hml ⊢; omega)
   have hE : Aud n { Arity := k, Table := N4 n.toNat g ps k.toNat } = (S4 n.toNat k.toNat (N4 n.toNat g ps k.toNat) k.toNat, true) := if_pos ⟨o1, o2, hmo⟩
   rw [hE] at q1 q2
   have hel := Ah0 n.toNat k.toNat (N4 n.toNat g ps k.toNat) k.toNat
   rw [if_pos rfl, q1]
   simp only [Option.bind_some]
   refine Kk (a := .inl ()) ?_ ?_
   ·rw [q2]
    simp only [Option.bind_some, beq_self_eq_true, if_true]
    rw [Amo (by omega)]
    simp
   dsimp only
   have key := Bs (body := B9 code (n, g, ps, k) (S4 n.toNat k.toNat (N4 n.toNat g ps k.toNat) k.toNat, true)) (fun i => (i : Int)) (S4 n.toNat k.toNat (N4 n.toNat g ps k.toNat) k.toNat).length (.inr ()) (fun i hi => by
    obtain ⟨p, p1, p2, p3⟩ := An0.1 (A9 hi)
    have hin := Avx p1 o7' p2
    rw [← p3] at hin
    unfold B9
    dsimp only
    rw [if_pos (by omega), Af (by omega), Int.toNat_natCast, Ayn (by omega), decide_eq_true hin]
    simp only [Option.bind_some, if_true]
    rw [Af (by unfold InI; omega)]
    rfl) (by
    unfold B9
    dsimp only
    rw [if_neg (by omega)])
   have key' : Ar (B9 code (n, g, ps, k) (S4 n.toNat k.toNat (N4 n.toNat g ps k.toNat) k.toNat, true)) 0 = _ := key
   rw [key']
   rfl
  ·have hR : Aew n g ps k = ({ Arity := 0, Table := Ao Int }, false) := if_neg ho
   rw [hR, if_neg (by simp)]
 dsimp only
 obtain ⟨u, e, ep, he⟩ := Aap h.2 (by omega)
 rw [ep]
 simp only [Option.bind_some]
 obtain ⟨r1, r2⟩ := Aca (n := u) (f := e) (by omega)
 rw [r1]
 simp only [Option.bind_some]
 refine Kk (a := .inl ()) ?_ ?_
 ·rw [r2]
  simp only [Option.bind_some, beq_self_eq_true, if_true]
 dsimp only
 refine Kk (a := (Aij u e).2 && (Aij u e).1) (by cases (Aij u e).2 <;> simp) ?_
 by_cases hk : ((Aij u e).2 && (Aij u e).1) = true
 ·rw [if_pos hk]
  simp only [Bool.and_eq_true] at hk
  obtain ⟨l, hl1, hl2, hl3⟩ := Awt hk.2
  rw [(Xe (n := u) (f := e) (by omega)).1, hl1]
  simp only [Option.bind_some, if_true]
  rw [if_neg (by omega)]
  by_cases hu : u > 1
  ·rw [if_pos hu, if_neg (by have := hl3 hu; omega)]
  ·rw [if_neg hu]
 ·rw [if_neg hk]
end Go.Proofs.Ytoaojijoefljaaa.Ax
