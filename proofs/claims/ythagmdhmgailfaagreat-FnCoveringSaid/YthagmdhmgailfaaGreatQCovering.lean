/-
 The law of covering congruences, on plain functions.
-/
import Derived.Test.YthagmdhmgailfaaGreatPB
import Derived.Test.YthagmdhmgailfaaGreatLCovering
namespace Go.Proofs.YthagmdhmgailfaaGreat.Ax
open Go Classical
theorem Ux {α β : Type} {o : Option α} {a : α} {k : α → Option β} {r : Option β} (h : o = some a) (h2 : k a = r) : o.bind k = r := by rw [h]; exact h2
theorem Y0 {xs ys : List Int} (h : xs.length ≤ LIM) : Dj xs ys = some (decide (xs = ys)) := by
 have hL := A9
 by_cases hl : xs.length = ys.length
 ·unfold Dj
  rw [if_neg (by simp [hl])]
  have this := Gt (body := B4 xs ys) (fun i => (i : Int)) xs.length (fun i => ¬ nth xs i = nth ys i) () () (fun i hi hb => by
   unfold B4
   rw [if_pos (by omega)]
   repeat rw [Ae (by first | omega | (unfold InI; omega))]
   rw [tna0, if_neg (by simpa using hb)]
   repeat rw [Ae (by first | omega | (unfold InI; omega))]
   rfl) (fun i hi hb => by
   unfold B4
   rw [if_pos (by omega)]
   repeat rw [Ae (by first | omega | (unfold InI; omega))]
   rw [tna0, if_pos (by simpa using hb)]) (by
   unfold B4
   rw [if_neg (by omega)]) 0 (by omega)
  have this' : Al (B4 xs ys) 0 = _ := this
  rw [this']
  by_cases he : xs = ys
  ·rw [if_neg (In.2 fun i hi => by rw [he]), dtr0 he]; rfl
  ·rw [if_pos (Classical.byContradiction fun hh => he (Ih hl (In.1 hh))), dfa0 he]; rfl
 ·unfold Dj
  rw [if_pos (by omega), dfa0 (fun hh => hl (by rw [hh]))]
theorem Awf {T : List (List Int)} {t : List Int} (hT : T.length ≤ 1000) (h : ∀ r ∈ T, r.length ≤ 1000) : ∃ k : Int, Kx T t = some k ∧ (k ≥ 0 ↔ t ∈ T) := by
 have hL := A9
 unfold Kx
 rcases Aez (body := Cy T t) (fun i => (i : Int)) T.length (fun i => nth T i = t) (fun i => .inl (i : Int)) (.inr ()) (fun i hi hh => by
  have := h _ (Ak hi)
  unfold Cy
  rw [if_pos (by omega), Ae (by omega), tna0, Y0 (by omega), dfa0 hh]
  simp only [obs0]
  rw [if_neg Bool.false_ne_true, Ae (by unfold InI; omega)]; rfl) (fun i hi hh => by
  have := h _ (Ak hi)
  unfold Cy
  rw [if_pos (by omega), Ae (by omega), tna0, Y0 (by omega), dtr0 hh]
  rfl) (by
  unfold Cy
  rw [if_neg (by omega)]) with ⟨i, hi, hh, _, e⟩ | ⟨hno, e⟩
 ·have e' : Al (Cy T t) 0 = _ := e
  rw [e']
  exact ⟨_, rfl, fun _ => hh ▸ Ak hi, fun _ => by omega⟩
 ·have e' : Al (Cy T t) 0 = _ := e
  rw [e']
  refine ⟨_, rfl, fun hk => by omega, fun hm => ?_⟩
  obtain ⟨i, hi, e3⟩ := Gi.1 hm
  exact absurd e3 (hno i hi)
structure FewC (a : SAlgebra) (n : Nat) (O : List (List Int)) : Prop where
 cl : Vk a n O
 le : O.length ≤ 200
 im : B2 a = some (O, true)
 s2 : Bk a 200 = some O
 s5 : Bk a 5000 = some O
section
variable {a : SAlgebra} {n : Nat} {O : List (List Int)}
theorem FewC.impl (h : FewC a n O) (hs : Ni a) (hg : Bs a) : Bn a = some (O, true) := by
 unfold Bn
 rw [Oe hs, dtr0 hg]
 simp only [obs0, if_true]
 rw [h.im]; rfl
theorem FewC.few (h : FewC a n O) (hs : Ni a) (hg : Bs a) : D5 a = some true := by
 have := h.le
 unfold D5
 rw [Zu hs, dtr0 hg]
 simp only [obs0, if_true]
 rw [h.s2]
 simp only [obs0]
 rw [dtr0 (by omega)]
theorem FewC.all (h : FewC a n O) : G3 a = some O := by
 unfold G3
 rw [h.s5]; rfl
theorem Axo (hs : Ni a) (hg : Bs a) (hn : a.Size = n) : (∃ O, FewC a n O) ∨ (Bn a = some (Aq (List Int), false) ∧ D5 a = some false) := by
 rcases At7 hg hn with ⟨O, h1, h2, h3, h4, h5⟩ | ⟨h1, O, h2, h3⟩
 ·exact .inl ⟨O, h1, h2, h3, h4, h5⟩
 ·refine .inr ⟨?_, ?_⟩
  ·unfold Bn
   rw [Oe hs, dtr0 hg]
   simp only [obs0, if_true]
   rw [h1]; rfl
  ·unfold D5
   rw [Zu hs, dtr0 hg]
   simp only [obs0, if_true]
   rw [h2]
   simp only [obs0]
   rw [dfa0 (by omega)]
theorem FewC.covI (h : FewC a n O) (hs : Ni a) (hg : Bs a) (hn : a.Size = n) {p : List Int} (hp : E6 a n p) : A4 a p = some (Ka n O p, true) := by
 have h8 := hg.2.1
 have hle := h.le
 have hpl := hp.1.1
 unfold A4
 rw [h.impl hs hg]
 simp only [obs0, if_true]
 rw [Zz hg hn (by omega), dtr0 hp]
 simp only [obs0, if_true]
 rw [Aqn h.cl.ok (by omega) ⟨hp.1.1, hp.1.inS⟩ (by omega) h.cl.1.nodup]
 rfl
theorem Aqa (h : FewC a n O) (h8 : n ≤ 8) (p : List Int) : (Ka n O p).length ≤ 200 ∧ ∀ r ∈ Ka n O p, r.length ≤ 8 := by
 have hle := h.le
 refine ⟨Nat.le_trans (List.length_filter_le _ _) hle, fun r hr => ?_⟩
 have := (h.cl.ok r (List.mem_filter.1 hr).1).1
 omega
theorem Aks (hs : Ni a) (hn : Bs a → a.Size = n) {p : List Int} (hl : p.length ≤ 1000) : ∃ r, A4 a p = some r ∧ Bi a p = some r ∧ (r.1.length ≤ 200 ∧ ∀ t ∈ r.1, t.length ≤ 8) ∧ (r.2 = true → Bs a ∧ E6 a n p ∧ ∃ O, FewC a n O ∧ r.1 = Ka n O p) := by
 have bad : Bn a = some (Aq (List Int), false) → D5 a = some false → ∃ r, A4 a p = some r ∧ Bi a p = some r ∧ (r.1.length ≤ 200 ∧ ∀ t ∈ r.1, t.length ≤ 8) ∧ (r.2 = true → Bs a ∧ E6 a n p ∧ ∃ O, FewC a n O ∧ r.1 = Ka n O p) := fun h1 h2 => by
  unfold A4 Bi
  rw [h1, h2]
  exact ⟨(Aq (List Int), false), rfl, rfl, ⟨by simp [Aq], fun t ht => by simp [Aq] at ht⟩, fun hh => by cases hh⟩
 by_cases hg : Bs a
 ·have hn := hn hg
  have h8 := hg.2.1
  rcases Axo hs hg hn with ⟨O, hO⟩ | ⟨h1, h2⟩
  ·have hle := hO.le
   by_cases hp : E6 a n p
   ·refine ⟨(Ka n O p, true), hO.covI hs hg hn hp, ?_, Aqa hO (by omega) p, fun _ => ⟨hg, hp, O, hO, rfl⟩⟩
    unfold Bi
    rw [hO.few hs hg]
    simp only [obs0, if_true]
    rw [Ayy hg hn (by omega), dtr0 hp]
    simp only [obs0, if_true]
    rw [hO.all]
    simp only [obs0]
    rw [Yt hO.cl.ok (by omega) ⟨hp.1.1, hp.1.inS⟩ (by omega)]
    rfl
   ·refine ⟨(Aq (List Int), false), ?_, ?_, ⟨by simp [Aq], fun t ht => by simp [Aq] at ht⟩, fun hh => by cases hh⟩
    ·unfold A4
     rw [hO.impl hs hg]
     simp only [obs0, if_true]
     rw [Zz hg hn (by omega), dfa0 hp]
     rfl
    ·unfold Bi
     rw [hO.few hs hg]
     simp only [obs0, if_true]
     rw [Ayy hg hn (by omega), dfa0 hp]
     rfl
  ·exact bad h1 h2
 ·refine bad ?_ ?_
  ·unfold Bn
   rw [Oe hs, dfa0 hg]; rfl
  ·unfold D5
   rw [Zu hs, dfa0 hg]; rfl
theorem FewC.minI (h : FewC a n O) (hs : Ni a) (hg : Bs a) (hn : a.Size = n) : C5 a = some (Ka n O (Ek n), true) ∧ C2 a = some (Ka n O (Ek n), true) := by
 have h8 := hg.2.1
 have hle := h.le
 have hpos : 1 ≤ O.length := by
  obtain ⟨tl, e⟩ := Au0 hg hn h.cl
  rw [e]; simp
 constructor
 ·unfold C5
  rw [h.impl hs hg]
  simp only [obs0, if_true]
  rw [Ae (by omega)]
  have e : List.take ((O.length : Int).toNat - Int.toNat 1) (List.drop (Int.toNat 1) O) = O.drop 1 := List.take_of_length_le (by simp)
  rw [e, A20 hg hn h.cl hle]
  rfl
 ·unfold C2
  rw [h.few hs hg]
  simp only [obs0, if_true]
  rw [h.all, hn, Ll (by omega)]
  simp only [obs0]
  rw [Yt h.cl.ok (by omega) (Qd n) (by omega)]
  rfl
theorem FewC.maxI (h : FewC a n O) (hs : Ni a) (hg : Bs a) (hn : a.Size = n) : C4 a = some (Ad3 n O, true) ∧ C3 a = some (Ad3 n O, true) := by
 have hle := h.le
 constructor
 ·unfold C4
  rw [h.impl hs hg]
  simp only [obs0, if_true]
  rw [A24 hg hn h.cl hle]
  rfl
 ·unfold C3
  rw [h.few hs hg]
  simp only [obs0, if_true]
  rw [Aox hg hn h.cl hle h.s5]
  rfl
end
theorem Aoh {code : List Int} (h : code.length ≤ BIG ∧ ∀ x ∈ code, 0 ≤ x ∧ x ≤ 255) : I2 code = some true := by
 unfold I2 Sq
 simp only [obs0]
 by_cases hbig : (code.length : Int) > 65536
 ·rw [if_pos (by simpa using hbig)]
 rw [if_neg (by simpa using hbig)]
 have hL := A9
 obtain ⟨a, p, ed, ha, hp⟩ := Ac2 h.2 (by omega)
 have hs := Zc ha
 have ed' : B5 code = some (a, p) := by
  unfold B5
  rw [ed]; rfl
 rw [ed']
 simp only [obs0]
 obtain ⟨r, c1, c2, ⟨c3, c4⟩, c5⟩ := Aks (n := a.Size.toNat) hs (fun hg => by have := hg.1; omega) (p := p) (by omega)
 rw [c1]
 simp only [obs0]
 refine Ux (a := .inl ()) ?_ ?_
 ·rw [c2]
  simp only [obs0, beq_self_eq_true, if_true]
  rw [Ado (by omega) (fun t ht => by have := c4 t ht; omega)]
  simp only [obs0, if_true]
 dsimp only
 refine Ux (a := .inl ()) ?_ ?_
 ·by_cases ht : r.2 = true
  ·rw [if_pos ht]
   obtain ⟨hg, hpc, O, hO, er⟩ := c5 ht
   have hn : a.Size = (a.Size.toNat : Nat) := by have := hg.1; omega
   generalize a.Size.toNat = n at hn hpc hO er
   have h1 := hg.1
   have h8 := hg.2.1
   have hle := hO.le
   have hpl := hpc.1.1
   have hpO := (hO.cl.2 p).2 hpc
   have e1 : Al (Dy code (a, p) r) (0, true) = some (decide (p = Ij n)) := by
    obtain ⟨t, e, ht⟩ := Bv (body := Dy code (a, p) r) (fun s => ∃ i : Nat, s.1 = (i : Int) ∧ i ≤ p.length ∧ s.2 = decide (∀ j, j < i → nth p j = 0)) (fun s => p.length - s.1.toNat) (fun t => t = decide (p = Ij n)) (by
     rintro ⟨x, b⟩ ⟨i, rfl, g1, g2⟩
     dsimp only at g2
     unfold Dy
     dsimp only
     by_cases hi : i < p.length
     ·rw [if_pos (by omega)]
      by_cases hb : b = true
      ·rw [if_pos hb, Ae (by omega), Ae (by unfold InI; omega), tna0]
       refine .inl ⟨_, rfl, ⟨i + 1, rfl, hi, ?_⟩, by dsimp only; omega⟩
       dsimp only
       rw [g2] at hb
       have hb := of_decide_eq_true hb
       by_cases hz : nth p i = 0
       ·rw [hz, dtr0 (fun j hj => by
         rcases Nat.lt_or_ge j i with h | h
         ·exact hb j h
         ·have : j = i := by omega
          rw [this]; exact hz)]; rfl
       ·rw [dfa0 (fun hh => hz (hh i (by omega)))]
        exact beq_eq_false_iff_ne.2 hz
      ·rw [if_neg hb, Ae (by unfold InI; omega)]
       refine .inl ⟨_, rfl, ⟨i + 1, rfl, hi, ?_⟩, by dsimp only; omega⟩
       dsimp only
       rw [g2] at hb
       exact (dfa0 fun hh => hb (dtr0 fun j hj => hh j (by omega))).symm
     ·rw [if_neg (by omega)]
      refine .inr ⟨_, rfl, ?_⟩
      rw [g2, decide_eq_decide]
      constructor
      ·intro hh
       refine Ih (by rw [List.length_replicate]; exact hpl) fun j hj => ?_
       rw [hh j (by omega), Oi (by omega)]
      ·intro hh j hj
       rw [hh, Oi (by omega)]) (s := ((0 : Int), true)) ⟨0, rfl, Nat.zero_le _, (dtr0 fun j hj => by omega).symm⟩
    rw [e, ht]
   rw [e1]
   simp only [obs0]
   have e2 : (decide (p = Ij n) == ((r.1.length : Int) == 0)) = true := by
    have hc := A1x hg hn hO.cl hpc
    rw [← er] at hc
    by_cases hf : p = Ij n
    ·rw [dtr0 hf, hc.2 hf]; rfl
    ·rw [dfa0 hf]
     have : r.1 ≠ [] := fun hh => hf (hc.1 hh)
     have : r.1.length ≠ 0 := fun hh => this (List.length_eq_zero_iff.1 hh)
     rw [show (((r.1.length : Int) == 0) : Bool) = false from beq_eq_false_iff_ne.2 (by omega)]; rfl
   rw [if_pos e2]
   obtain ⟨m1, m2⟩ := hO.minI hs hg hn
   obtain ⟨x1, x2⟩ := hO.maxI hs hg hn
   have hmr := Aqa hO (by omega) (Ek n)
   rw [m1]
   simp only [obs0]
   refine Ux (a := .inl ()) ?_ ?_
   ·rw [m2]
    simp only [obs0, beq_self_eq_true, if_true]
    rw [Ado (by omega) (fun t ht => by have := hmr.2 t ht; omega)]
    simp only [obs0, if_true]
   dsimp only
   rw [Ae (by omega)]
   have e3 : Al (Ct code (a, p) r (Ka n O (Ek n), true)) (0, List.replicate n 0) = some (Ek n) := by
    obtain ⟨t, e, g1, g2⟩ := Gs (body := Ct code (a, p) r (Ka n O (Ek n), true)) n (fun i q => q.length = n ∧ ∀ j, j < i → nth q j = (j : Int)) (fun i q hi hq => by
     unfold Ct
     dsimp only
     have := hq.1
     rw [if_pos (by omega), Ae (by omega), Ae (by unfold InI; omega), tna0]
     refine ⟨_, rfl, by rw [List.length_set]; exact hq.1, fun j hj => ?_⟩
     rw [W1 _ _ _ _ (by omega)]
     by_cases hij : i = j
     ·rw [if_pos hij, hij]
     ·rw [if_neg hij]; exact hq.2 j (by omega)) (fun q _ => by
     unfold Ct
     dsimp only
     rw [if_neg (by omega)]) (List.replicate n 0) ⟨by simp, fun j hj => by omega⟩
    rw [e]
    congr 1
    refine Ih (by rw [g1, (Qd n).1]) fun i hi => ?_
    rw [g2 i (by omega), L5 (by omega)]
   rw [e3]
   simp only [obs0]
   rw [hO.covI hs hg hn (Wc hg hn)]
   simp only [obs0]
   refine Ux (a := .inl ()) ?_ ?_
   ·simp only [if_true]
    rw [Ado (by omega) (fun t ht => by have := hmr.2 t ht; omega)]
    simp only [obs0, if_true]
   dsimp only
   rw [x1]
   simp only [obs0]
   have hxl : (Ad3 n O).length ≤ 200 := Nat.le_trans (List.length_filter_le _ _) hle
   have hxr : ∀ t ∈ Ad3 n O, t.length ≤ 8 := fun t ht => by
    have := (hO.cl.ok t (List.mem_filter.1 ht).1).1
    omega
   refine Ux (a := .inl ()) ?_ ?_
   ·rw [x2]
    simp only [obs0, beq_self_eq_true, if_true]
    rw [Ado (by omega) (fun t ht => by have := hxr t ht; omega)]
    simp only [obs0, if_true]
   dsimp only
   obtain ⟨k, ek, hk⟩ := Awf (T := Ad3 n O) (t := p) (by omega) (fun t ht => by have := hxr t ht; omega)
   rw [ek]
   simp only [obs0]
   have hmx : p ∈ Ad3 n O ↔ r.1 = [Ij n] := by
    rw [er]
    constructor
    ·intro hh; exact of_decide_eq_true (List.mem_filter.1 hh).2
    ·intro hh; exact List.mem_filter.2 ⟨hpO, dtr0 hh⟩
   by_cases h1l : (r.1.length : Int) = 1
   ·rw [if_pos h1l, Ae (by omega), Ae (by omega)]
    obtain ⟨c, ec⟩ : ∃ c, r.1 = [c] := by
     generalize r.1 = C at h1l
     match C, h1l with
     | [c], _ => exact ⟨c, rfl⟩
     | [], h1l => simp at h1l
     | _ :: _ :: _, h1l => simp at h1l; omega
    have hcl := c4 c (by rw [ec]; simp)
    rw [ec, show nth [c] (Int.toNat 0) = c from rfl, Y0 (by omega)]
    simp only [obs0]
    have : decide (k ≥ 0) = decide (c = Ij n) := by
     rw [decide_eq_decide, hk, hmx, ec]
     exact ⟨fun hh => by simpa using hh, fun hh => by rw [hh]⟩
    rw [this, if_pos (by simp)]
   ·rw [if_neg h1l]
    have : ¬ k ≥ 0 := fun hh => h1l (by rw [hmx.1 (hk.1 hh)]; rfl)
    rw [dfa0 this]
    rfl
  ·rw [if_neg ht]
 dsimp only
 obtain ⟨b, ps, eb, hb, hps⟩ := W7 h.2 (by omega)
 have hs2 := Zc hb
 rw [eb]
 simp only [obs0]
 obtain ⟨w, w1, w2, w3, w4⟩ := Wq (n := b.Size.toNat) hs2 (fun hg => by have := hg.1; omega) (ps := ps) (by omega)
 rw [w1]
 simp only [obs0]
 refine Ux (a := .inl ()) ?_ ?_
 ·rw [w2]
  simp only [obs0, beq_self_eq_true, if_true]
  rw [Y0 (by omega), dtr0 rfl]
  simp only [obs0, if_true]
 dsimp only
 by_cases ht : w.2 = true
 ·rw [if_pos ht]
  obtain ⟨⟨hg, h20, hpi⟩, hgen⟩ := w4 ht
  have hn : b.Size = (b.Size.toNat : Nat) := by have := hg.1; omega
  have h1 := hg.1
  have h8 := hg.2.1
  rw [Ae (by omega)]
  have e0 : (List.replicate b.Size.toNat 0 : List Int) = List.replicate b.Size.toNat 0 := rfl
  obtain ⟨n, hnn⟩ : ∃ n, n = b.Size.toNat := ⟨_, rfl⟩
  rw [← hnn] at hn hpi hgen ⊢
  have e3 : Al (Cq (b, ps) w) (0, List.replicate n 0) = some (Ek n) := by
   obtain ⟨t, e, g1, g2⟩ := Gs (body := Cq (b, ps) w) n (fun i q => q.length = n ∧ ∀ j, j < i → nth q j = (j : Int)) (fun i q hi hq => by
    unfold Cq
    dsimp only
    have := hq.1
    rw [if_pos (by omega), Ae (by omega), Ae (by unfold InI; omega), tna0]
    refine ⟨_, rfl, by rw [List.length_set]; exact hq.1, fun j hj => ?_⟩
    rw [W1 _ _ _ _ (by omega)]
    by_cases hij : i = j
    ·rw [if_pos hij, hij]
    ·rw [if_neg hij]; exact hq.2 j (by omega)) (fun q _ => by
    unfold Cq
    dsimp only
    rw [if_neg (by omega)]) (List.replicate n 0) ⟨by simp, fun j hj => by omega⟩
   rw [e]
   congr 1
   refine Ih (by rw [g1, (Qd n).1]) fun i hi => ?_
   rw [g2 i (by omega), L5 (by omega)]
  rw [e3]
  simp only [obs0]
  obtain ⟨t, e4, ht4⟩ := Bv (body := E8 (b, ps) w) (fun s => ∃ i : Nat, s.1 = (i : Int) ∧ i ≤ ps.length ∧ Arn b n ps i s.2) (fun s => ps.length - s.1.toNat) (fun t => ∃ q, t = .inr q ∧ Arn b n ps ps.length q) (by
   rintro ⟨x, q⟩ ⟨i, rfl, g1, g2⟩
   dsimp only at g2
   unfold E8
   dsimp only
   by_cases hi : i < ps.length
   ·have hall : ∀ j, j ≤ i → J7 n (nth ps j) := fun j hj => hpi _ (Ak (by omega))
    obtain ⟨c, ec, hc⟩ := Aaf hs2 hg hn (x := (nth ps i).1) (y := (nth ps i).2) (hall i (Nat.le_refl _))
    obtain ⟨q', eq, hq⟩ := Acz (n := n) (by omega) (by omega) g2.1.1 hc.1.1
    rw [if_pos (by omega), Ae (by omega), Ae (by omega), tna0, ec]
    simp only [obs0]
    rw [hn, eq]
    simp only [obs0, if_true]
    rw [Ae (by unfold InI; omega)]
    exact .inl ⟨_, rfl, ⟨i + 1, rfl, hi, Atl hg hn g2 hall hc hq⟩, by dsimp only; omega⟩
   ·rw [if_neg (by omega)]
    have : i = ps.length := by omega
    subst this
    exact .inr ⟨_, rfl, q, rfl, g2⟩) (s := ((0 : Int), Ek n)) ⟨0, rfl, Nat.zero_le _, Wc hg hn, fun j hj => by omega, fun s _ _ => Ob s⟩
  obtain ⟨q, rfl, hq⟩ := ht4
  rw [e4]
  simp only [obs0]
  have hqe := (Axp hq).uniq hgen
  have hql := hq.1.1.1
  rw [hqe, Y0 (by omega), dtr0 rfl]
  rfl
 ·rw [if_neg ht]
end Go.Proofs.YthagmdhmgailfaaGreat.Ax
