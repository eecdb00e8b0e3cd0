/-
 The law of terms, on plain functions.
-/
import Derived.Test.YtjinhobffbppbaaPB
import Derived.Test.YtjinhobffbppbaaLTerms
namespace Go.Proofs.Ytjinhobffbppbaa.Ax
open Go Classical
theorem Ahz {α β : Type} {o : Option α} {a : α} {k : α → Option β} {r : Option β} (h : o = some a) (h2 : k a = r) : o.bind k = r := by rw [h]; exact h2
section
variable {a : SAlgebra}
theorem Amn (hg : Bu a) {t vs : List Int} (ht : isT a t) (hl : vs.length = 6) (hs : Cn vs a.Size.toNat) : 0 ≤ L7 a vs t ∧ L7 a vs t < (a.Size.toNat : Int) := by
 have h1 := Zi hg ht.2 (fun x hx _ => by have := J8 ht x hx; omega) hs
 have h2 : (stk a vs t).length = 1 := Md ht.2
 exact h1 _ (Be (show 0 < (stk a vs t).length by omega))
theorem Ago (hsm : Hw a) (hg : Bu a) {code t : List Int} {ts : List (List Int)} {r4 : List Int × Bool} {vs : List Int} (hts : ∀ r ∈ ts, isT a r) (hn : ts.length ≤ 1000) (hl : vs.length = 6) (hs : Cn vs a.Size.toNat) :
  Bb (Co code (a, t, ts) r4 vs) (0, true, Au Int) = some (true, ts.map (L7 a vs)) := by
 have hL := Bv
 have key := Ey (body := Co code (a, t, ts) r4 vs) (fun i => ((i : Int), true, (ts.take i).map (L7 a vs))) ts.length (true, ts.map (L7 a vs)) (fun i hi => by
  have hr := hts _ (Be hi)
  unfold Co
  dsimp only
  rw [if_pos (by omega), Af (by omega), Int.toNat_natCast, Fd hsm hg hr (by omega) hs (fun x hx => by have := J8 hr x hx; omega)]
  simp only [Option.bind_some, if_true]
  rw [Af (by simp; omega), Af (by unfold InI; omega), Fp hi, List.map_append]
  rfl) (by
  unfold Co
  dsimp only
  rw [if_neg (by omega), List.take_length])
 have e0 : ((0 : Int), true, Au Int) = (((0 : Nat) : Int), true, (ts.take 0).map (L7 a vs)) := rfl
 rw [e0]; exact key
end
theorem Akl {code : List Int} (h : code.length ≤ BIG ∧ ∀ x ∈ code, 0 ≤ x ∧ x ≤ 255) : Hf code = some true := by
 unfold Hf Lb
 simp only [Option.bind_some]
 by_cases hbig : (code.length : Int) > 65536
 ·rw [if_pos (by simpa using hbig)]
 rw [if_neg (by simpa using hbig)]
 have hL := Bv
 obtain ⟨a, t, ts, ed, ha, ht41, hts7, hts41⟩ := R4 h.2 (by omega)
 obtain ⟨b, u, at', by', ed2, hb, hu41, hby41⟩ := Yk h.2 (by omega)
 have hsa := Oy ha
 have hsb := Oy hb
 obtain ⟨s1, s2⟩ := V3 hsa (t := t) (ts := ts) (by omega)
 obtain ⟨vs, ev, hvl, hvs⟩ := Abf h.2 (by omega) a.Size
 obtain ⟨ws, ew, hwl, hws⟩ := Abf h.2 (by omega) b.Size
 have hsl : (Aff a t ts).1.length ≤ LIM := by
  unfold Aff
  split
  ·rename_i hh
   have := hh.2.2.2.2.2
   show (He ts t).length ≤ LIM
   omega
  ·simp
 rw [ed]
 simp only [Option.bind_some]
 rw [s1, s2]
 simp only [Option.bind_some, beq_self_eq_true, if_true]
 rw [P3 hsl]
 simp only [Option.bind_some, if_true]
 rw [ev]
 simp only [Option.bind_some]
 refine Ahz (a := .inr ()) ?_ ?_
 ·by_cases hok : Bu a ∧ isT a t ∧ ts.length ≤ 6 ∧ (∀ r ∈ ts, isT a r) ∧ N1 t ts
  ·have er : Aff a t ts = (He ts t, true) := if_pos hok
   obtain ⟨hg, ht, h6, hts, hsub⟩ := hok
   have hz : a.Size = ((a.Size.toNat : Nat) : Int) := by have := hg.1; omega
   have hin : Cn vs a.Size.toNat := by rw [← hz]; exact hvs hg.1 hg.2.1
   obtain ⟨v1, v2⟩ := Aj4 (vs := vs) ht.2 hts hsub.1
   have hsT : isT a (He ts t) := ⟨hsub.2, v1⟩
   have himg : Cn (ts.map (L7 a vs)) a.Size.toNat := fun z hz => by
    obtain ⟨r, hr, rfl⟩ := List.mem_map.1 hz
    exact Amn hg (hts r hr) hvl hin
   rw [er]
   simp only [if_true]
   rw [Ago hsa hg hts (by omega) hvl hin]
   simp only [Option.bind_some, if_true]
   rw [Fd hsa hg hsT (by omega) hin (fun x hx => by have := J8 hsT x hx; omega), Fd hsa hg ht (by simpa using h6) himg (fun x hx => by have := hsub.1 x hx; simpa using this), v2]
   simp
  ·have er : Aff a t ts = ([], false) := if_neg hok
   rw [er]
   simp
 dsimp only
 rw [ed2]
 simp only [Option.bind_some]
 obtain ⟨k1, k2⟩ := Agq hsb (t := u)
 obtain ⟨r, m1, m2, hr6⟩ := Aj8 hsb (t := u)
 have hend : (Bp r.1 r.1).bind (fun r68 => some r68) = some true := by rw [P3 (by omega)]; rfl
 have hnil : Bp [] [] = some true := P3 (by simp)
 have hdep : (if Bu b ∧ isT b u then (Of b u, true) else ((0 : Int), false)).2 = decide (Bu b ∧ isT b u) := by
  by_cases hh : Bu b ∧ isT b u
  ·rw [if_pos hh, decide_eq_true hh]
  ·rw [if_neg hh, decide_eq_false hh]
 have tail : ((E0 b u).bind fun r58 =>
              (((E3 b u).bind fun r59 =>
                      if r58.fst ≠ r59.fst then
                       some (.inl ())
                      else
                       if (r58.snd == r59.snd) = true then
                       (B0 b u).bind fun r62 =>
                       if (r58.snd == r62) = true then
                        some (.inr ())
                       else
                        some (.inl ())
                       else
                       some (.inl ()) : Option (Unit ⊕ Unit))).bind fun t => match t with
              | (.inl _) => (some false)
              | (.inr _) => ((Ft b u).bind fun r65 =>
                (Fq b u).bind fun r66 =>
                if (r65.snd == r66.snd) = true then
                 (Bp (r65.fst) (r66.fst)).bind fun r68 =>
                 some r68
                else
                 some false)) = some true := by
  rw [k1, k2, Hm hsb]
  simp only [Option.bind_some, ne_eq, not_true_eq_false, if_false, beq_self_eq_true, if_true, hdep]
  rw [m1, m2]
  simp only [Option.bind_some, beq_self_eq_true, if_true]
  exact hend
 by_cases hin : inT b u at'
 ·obtain ⟨hg, ht, h0, hlt⟩ := hin
  obtain ⟨i, rfl⟩ : ∃ i : Nat, at' = (i : Int) := ⟨at'.toNat, by omega⟩
  obtain ⟨p, q, k, hp⟩ := Alj ht.2 (i := i) (by omega)
  obtain ⟨n1, n2⟩ := Afb hsb hg ht hp
  have hz : b.Size = ((b.Size.toNat : Nat) : Int) := by have := hg.1; omega
  have hwin : Cn ws b.Size.toNat := by rw [← hz]; exact hws hg.1 hg.2.1
  obtain ⟨l1, l2⟩ := hp.len
  have hu60 := ht.1
  have hpT : isT b p := ⟨by omega, hp.one⟩
  obtain ⟨q1, q2⟩ := Vh hsb hg ht hpT hp
  rw [← hp.whole, if_pos hu60] at q1 q2
  have evp := Fd hsb hg hpT (vs := ws) (by omega) hwin (fun x hx => by have := J8 hpT x hx; omega)
  have evu := Fd hsb hg ht (vs := ws) (by omega) hwin (fun x hx => by have := J8 ht x hx; omega)
  have vp : Bp p p = some true := P3 (by omega)
  have vu : Bp u u = some true := P3 (by omega)
  by_cases hbT : isT b by'
  ·obtain ⟨c1, c2⟩ := Vh hsb hg ht hbT hp
   by_cases h60 : (u.take i ++ (by' ++ q)).length ≤ 60
   ·rw [if_pos h60] at c1 c2
    have hrT : isT b (u.take i ++ (by' ++ q)) := ⟨h60, hp.put ht.2 hbT.2⟩
    have evb := Fd hsb hg hbT (vs := ws) (by omega) hwin (fun x hx => by have := J8 hbT x hx; omega)
    have evr := Fd hsb hg hrT (vs := ws) (by omega) hwin (fun x hx => by have := J8 hrT x hx; omega)
    have vr : Bp (u.take i ++ (by' ++ q)) (u.take i ++ (by' ++ q)) = some true := P3 (by omega)
    simp only [c1, c2, n1, n2, q1, vr, vp, vu, ew, evp, evu, evb, evr, Option.bind_some, beq_self_eq_true, if_true]
    refine Ahz (a := (Sum.inr () : Unit ⊕ Unit)) ?_ tail
    by_cases hv : L7 b ws p = L7 b ws by'
    ·rw [if_pos hv, if_neg (fun hh => hh (hp.value hbT.2 hv))]
    ·rw [if_neg hv]
   ·rw [if_neg h60] at c1 c2
    simp only [c1, c2, n1, n2, q1, hnil, vp, vu, ew, Option.bind_some, beq_self_eq_true, if_true, Bool.false_eq_true, if_false]
    exact tail
  ·obtain ⟨c1, c2⟩ := X1 hsb (t := u) (by' := by') (at' := (i : Int)) (by omega) (fun hh => hbT hh.2)
   simp only [c1, c2, n1, n2, q1, hnil, vp, vu, ew, Option.bind_some, beq_self_eq_true, if_true, Bool.false_eq_true, if_false]
   exact tail
 ·obtain ⟨c1, c2⟩ := X1 hsb (t := u) (by' := by') (at' := at') (by omega) (fun hh => hin hh.1)
  obtain ⟨n1, n2⟩ := Agp hsb (t := u) (at' := at') (by omega) hin
  simp only [c1, c2, n1, n2, hnil, ew, Option.bind_some, beq_self_eq_true, if_true, Bool.false_eq_true, if_false]
  exact tail
end Go.Proofs.Ytjinhobffbppbaa.Ax
