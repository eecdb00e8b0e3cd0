/-
 The law of sublattices, on plain functions.
-/
import Derived.Test.YtoikbcagaanhgaaPB
import Derived.Test.YtoikbcagaanhgaaLSublattices
namespace Go.Proofs.Ytoikbcagaanhgaa.Ax
open Go Classical
section
variable {p : SPoset}
theorem A1v (hs : small p) (h : Bv p) {some_ : List Int} (hx : Gd p some_) {code : List Int} {r4 : Bool × Bool} {b : Bool} :
  Ai (B7 code (p, some_) r4 (B5 some_.length (Kn p some_), b)) 0 = some (.inr ()) := by
 have hL := Al
 obtain ⟨hlat, h10, hmeet⟩ := Alh h hx
 have hsq : small (B5 some_.length (Kn p some_)) := Alc (by omega)
 have hin : ∀ i, i < some_.length → ∃ k : Nat, k < p.Below.length ∧ nth some_ i = (k : Int) := fun i hi => by
  have := hx.2.1 _ (Ar hi)
  exact ⟨(nth some_ i).toNat, by omega, by omega⟩
 have inner : ∀ a, a < some_.length → Ai (B9 code (p, some_) r4 (B5 some_.length (Kn p some_), b) (a : Int)) 0 = some (.inr ()) := fun a ha => by
  have key := Az (body := B9 code (p, some_) r4 (B5 some_.length (Kn p some_), b) (a : Int)) (fun i => (i : Int)) some_.length (.inr ()) (fun c hc => by
   obtain ⟨x, hx1, ex⟩ := hin a ha
   obtain ⟨y, hy1, ey⟩ := hin c hc
   obtain ⟨u, hu, e1, e2⟩ := hmeet a c ha hc
   unfold B9
   dsimp only
   rw [if_pos (by omega), Anm hsq hlat (by rw [Dd]; exact ha) (by rw [Dd]; exact hc), e1]
   simp only [Option.bind_some, Int.toNat_natCast]
   rw [Aa (by omega), Aa (by omega), ex, ey, Anm hs h hx1 hy1]
   simp only [Option.bind_some, if_true]
   have e3 : nth some_ u = ((inf p.Below.length (below p.Below) x y : Nat) : Int) := by rw [e2, ex, ey]; rfl
   rw [if_neg (by omega), if_neg (by omega), Aa (by omega), if_neg (fun hh => hh e3), Aa (by unfold InI; omega)]
   rfl) (by
   unfold B9
   dsimp only
   rw [if_neg (by omega)])
  exact key
 have key := Az (body := B7 code (p, some_) r4 (B5 some_.length (Kn p some_), b)) (fun i => (i : Int)) some_.length (.inr ()) (fun a ha => by
  unfold B7
  dsimp only
  rw [if_pos (by omega), inner a ha]
  simp only [Option.bind_some]
  rw [Aa (by unfold InI; omega)]
  rfl) (by
  unfold B7
  dsimp only
  rw [if_neg (by omega)])
 exact key
end
theorem Am7 {α β : Type} {o : Option α} {a : α} {k : α → Option β} {r : Option β} (h : o = some a) (h2 : k a = r) : o.bind k = r := by rw [h]; exact h2
theorem Amu {code : List Int} (h : code.length ≤ BIG ∧ ∀ x ∈ code, 0 ≤ x ∧ x ≤ 255) : Hx code = some true := by
 unfold Hx Wa
 simp only [Option.bind_some]
 by_cases hbig : (code.length : Int) > 65536
 ·rw [if_pos (by simpa using hbig)]
 rw [if_neg (by simpa using hbig)]
 have hL := Al
 obtain ⟨p, xs, ed, hp, hx21⟩ := Ahe h.2 (by omega)
 obtain ⟨q, ys, ed2, hq, hy21⟩ := Yv h.2 (by omega)
 have sp := Aaf hp
 have sq := Aaf hq
 obtain ⟨i1, i2⟩ := Y0 (p := p) sp (xs := xs) (by omega)
 obtain ⟨s1, s2⟩ := Aer (p := p) sp (xs := xs) (by omega)
 rw [ed]
 simp only [Option.bind_some]
 rw [i1, i2]
 simp only [Option.bind_some, beq_self_eq_true, if_true]
 have last : ((Bs (code)).bind fun r58 =>
      (Cb (r58.fst) (r58.snd)).bind fun r59 =>
      (((Ca (r58.fst) (r58.snd)).bind fun r60 =>
            if (r59.snd == r60.snd) = true then
            (Ht (r59.fst) (r60.fst)).bind fun r62 =>
            if (r62) = true then
             some (.inl ())
            else
             some (.inr ())
            else
            some (.inr ()) : Option (Unit ⊕ Unit))).bind fun t => match t with
      | (.inl _) => (if (r59.snd) = true then
         (C4 (r58.fst) (r59.fst)).bind fun r66 =>
         if (r66.snd) = true then
          if (r66.fst) = true then
          (Iq (r58.snd) (r59.fst)).bind fun r69 =>
          if (r69) = true then
           some true
          else
           some false
          else
          some false
         else
          some false
       else
       some true)
      | (.inr _) => (some false)) = some true := by
  rw [ed2]
  simp only [Option.bind_some]
  obtain ⟨r, e1, e2, hl, hyes⟩ := Z5 (p := q) sq (xs := ys) (by omega)
  rw [e1, e2]
  simp only [Option.bind_some, beq_self_eq_true, if_true]
  rw [Aug hl]
  simp only [Option.bind_some, if_true]
  by_cases ok : r.2 = true
  ·obtain ⟨lq, hne, hin, er⟩ := hyes ok
   obtain ⟨g1, g2⟩ := A5f lq hne hin
   rw [if_pos ok, (Y0 (p := q) sq (xs := r.1) hl).1, er, decide_eq_true (show Bv q ∧ Gd q _ from ⟨lq, g1⟩), decide_eq_true lq]
   simp only [Option.bind_some, if_true]
   rw [A1n (by omega) (by rw [← er]; exact hl) g2]
   rfl
  ·rw [if_neg ok]
 have alg : (((C8 p).bind fun r40 =>
          ((if (decide (Bv p)) = true then
           some r40.snd
           else
           some false : Option Bool)).bind fun q42_161 =>
          if (q42_161) = true then
          (((C9 p).bind fun r44 =>
             if (r40.snd == r44.snd) = true then
             (Hi (r40.fst) (r44.fst)).bind fun r46 =>
             if (r46) = true then
              some (.inl ())
             else
              some (.inr ())
             else
             some (.inr ()) : Option (Unit ⊕ Unit))).bind fun t => match t with
          | (.inl _) => ((Dw (r40.fst) xs).bind fun r49 =>
            (Dy (r40.fst) xs).bind fun r50 =>
            if (r49.fst == r50.fst) = true then
             if (r49.snd == r50.snd) = true then
             if (r49.snd) = true then
              if (r49.fst) = true then
              if (decide (Bv p ∧ Gd p xs) == decide ((xs.length : Int) > 0)) = true then
               some (.inl ())
              else
               some (.inr ())
              else
              if (decide (Bv p ∧ Gd p xs) == false) = true then
               some (.inl ())
              else
               some (.inr ())
             else
              some (.inr ())
             else
             some (.inr ())
            else
             some (.inr ()))
          | (.inr _) => (some (.inr ()))
          else
          some (.inl ()) : Option (Unit ⊕ Unit))) = some (.inl ()) := by
  obtain ⟨r, e1, e2, hr, hyes⟩ := Agd sp
  rw [e1, e2]
  simp only [Option.bind_some, beq_self_eq_true, if_true]
  by_cases lp : Bv p
  ·rw [decide_eq_true lp]
   simp only [if_true, Option.bind_some]
   by_cases ok : r.2 = true
   ·rw [if_pos ok, Ay5 hr]
    simp only [Option.bind_some, if_true]
    obtain ⟨_, h8, er⟩ := hyes ok
    have hre : ReadyA (Gu p) p.Below.length := by
     have := A41 (Aws lp h8)
     rwa [show (Gu p).Size.toNat = p.Below.length by simp [Gu]] at this
    rw [er] at hr ⊢
    rw [Ahy hre hr (by omega), Ah0 hre hr (by omega)]
    simp only [Option.bind_some, beq_self_eq_true, if_true]
    have hb := A42 lp h8 (xs := xs)
    by_cases hsub : Agi (Gu p) p.Below.length xs
    ·rw [decide_eq_true hsub, if_pos rfl]
     by_cases h0 : xs = []
     ·rw [decide_eq_false (fun hh : Bv p ∧ Gd p xs => (hb.1 hh.2).1 h0), decide_eq_false (by subst h0; simp)]
      rfl
     ·rw [decide_eq_true (show Bv p ∧ Gd p xs from ⟨lp, hb.2 ⟨h0, hsub⟩⟩), decide_eq_true (by have := List.length_pos_iff.2 h0; omega)]
      rfl
    ·rw [decide_eq_false hsub, if_neg (by simp), decide_eq_false (fun hh : Bv p ∧ Gd p xs => hsub (hb.1 hh.2).2)]
     rfl
   ·rw [if_neg ok]
  ·rw [decide_eq_false lp]
   simp
 by_cases hy : Bv p ∧ Gd p xs
 ·obtain ⟨lp, hsub⟩ := hy
  obtain ⟨hlat, h10, _⟩ := Alh lp hsub
  have hsq : small (B5 xs.length (Kn p xs)) := Alc (by omega)
  rw [if_pos (show Bv p ∧ Gd p xs from ⟨lp, hsub⟩)] at s1 s2
  rw [s1, s2]
  simp only [Option.bind_some]
  rw [decide_eq_true (show Bv p ∧ Gd p xs from ⟨lp, hsub⟩), decide_eq_true lp] at *
  simp only [beq_self_eq_true, if_true]
  rw [Axj hsq.1 hsq.2]
  simp only [Option.bind_some, if_true]
  rw [Aqq hsq, decide_eq_true hlat]
  simp only [Option.bind_some, if_true]
  rw [A1v sp lp hsub]
  simp only [Option.bind_some]
  refine Am7 alg ?_
  exact last
 ·rw [if_neg hy] at s1 s2
  rw [s1, s2]
  simp only [Option.bind_some]
  rw [decide_eq_false hy] at *
  have rt : H5 ([] : List (List Int)) [] = some true := Axj (by simp) (by simp)
  rw [rt]
  refine Am7 (a := .inl ()) ?_ ?_
  ·cases decide (Bv p) <;> rfl
  ·refine Am7 (a := .inr ()) (by rw [if_neg (by simp)]) ?_
   refine Am7 alg ?_
   exact last
end Go.Proofs.Ytoikbcagaanhgaa.Ax
