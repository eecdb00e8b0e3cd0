/-
 The law of commuting operations, on plain functions.
-/
import Derived.Test.YtcpgnfohmeineaaPB
import Derived.Test.YtcpgnfohmeineaaLCommuting
namespace Go.Proofs.Ytcpgnfohmeineaa.Ax
open Go Classical
theorem Anl (n : Nat) (y : Nat → Int) : hT n 1 y = y 0 := by
 rw [Alm]; simp [hT, M2]
section
variable {n s : Nat} {f g : SOp}
theorem Ag5 (h1 : 1 ≤ n) {K : Nat} (hK : K < n ^ s) {x : Nat → Nat → Int} (hx : ∀ j, j < s → x 0 j = nth (Bz n s K) j) :
  Rv n f g 1 s x = nth f.Table (nth g.Table K).toNat ∧ Rv n g f s 1 (fun k i => x i k) = nth g.Table (Uj n n f.Table s K).toNat := by
 have e1 : hT n s (fun k => x 0 k) = (K : Int) := by
  rw [Mb hx]
  unfold hT
  rw [Q4 (B4 _ _ _), Pv (by omega) s K hK]
 have e2 : hT n s (fun k => nth f.Table (x 0 k).toNat) = Uj n n f.Table s K := by
  rw [← Aaj, Mb (z := fun k => nth f.Table (nth (Bz n s K) k).toNat) (fun j hj => by rw [hx j hj])]
  unfold hT
  congr 1
  conv => rhs; rw [← Q4 (B4 n s K)]
  rw [List.map_map]; rfl
 unfold Rv
 constructor
 ·rw [Anl, e1, Int.toNat_natCast]
 ·rw [← e2]
  congr 2
  exact Mb fun k _ => by rw [Anl]
theorem Aqr (h1 : 1 ≤ n) (hg : OpR n s g) : ¬ faulty { Size := (n : Int), Ops := [g] } { Size := (n : Int), Ops := [g] } f.Table n n ↔ Yf n f g 1 s := by
 have hs : g.Arity.toNat = s := by have := hg.ar; omega
 have hl := hg.len
 constructor
 ·intro hno x hx
  have hin : Dh ((List.range s).map (x 0)) n := Aic fun j hj => hx 0 (by omega) j hj
  have hK := Ow (by omega) s ((List.range s).map (x 0)) (by simp) hin
  obtain ⟨c, c1, c2⟩ := Ul s ((List.range s).map (x 0)) (by simp) hin
  rw [c1, Int.toNat_natCast] at hK
  have hxx : ∀ j, j < s → x 0 j = nth (Bz n s c) j := fun j hj => by
   rw [hK, Eg (by simpa using hj)]; simp
  obtain ⟨a1, a2⟩ := Ag5 (f := f) (g := g) h1 c2 hxx
  rw [a1, a2]
  refine Classical.byContradiction fun hne => hno ⟨0, by simp, c, ?_, ?_⟩
  ·show c < g.Table.length
   omega
  ·show nth f.Table (nth g.Table c).toNat ≠ nth g.Table (Uj n n f.Table g.Arity.toNat c).toNat
   rw [hs]; exact hne
 ·rintro hc ⟨i, hi, k, hk, hF⟩
  have hi0 : i = 0 := by simpa using hi
  subst hi0
  have hk' : k < g.Table.length := hk
  have hF' : nth f.Table (nth g.Table k).toNat ≠ nth g.Table (Uj n n f.Table g.Arity.toNat k).toNat := hF
  rw [hs] at hF'
  obtain ⟨a1, a2⟩ := Ag5 (f := f) (g := g) (x := fun _ j => nth (Bz n s k) j) h1 (by omega) fun _ _ => rfl
  have := hc (fun _ j => nth (Bz n s k) j) fun _ _ j hj => Pq (by omega) _ _ _ (Bh (by rw [B4]; exact hj))
  rw [a1, a2] at this
  exact hF' this
end
theorem Aky {f : SOp} (h : f.Table.length ≤ LIM) : Fn f = some f := by
 unfold Fn
 rw [Asd h]; rfl
theorem Ap2 {n r : Nat} (h1 : 1 ≤ n) (hn : n ≤ 4) (hr : r ≤ 3) {p : Int} (hp : 0 ≤ p ∧ p < r) : ∃ l, Dj n r p = some l ∧ l.length ≤ 64 := by
 have hL := Bq
 have hpw : n ^ r ≤ 64 := Nat.le_trans (Nat.pow_le_pow_left hn r) (Nat.le_trans (Nat.pow_le_pow_right (by omega) hr) (by decide))
 unfold Dj
 have key := Cf (body := Bk n r p) (fun i => ((i : Int), (List.range i).map fun k => nth (Bz n r k) p.toNat)) (n ^ r) ((List.range (n ^ r)).map fun k => nth (Bz n r k) p.toNat) (fun i hi => by
  unfold Bk
  dsimp only
  rw [Uq (by omega) hr]
  simp only [Option.bind_some]
  rw [if_pos (by omega), Si (by omega) (by omega) (by omega) (by omega)]
  simp only [Option.bind_some]
  rw [Ae (by rw [B4]; omega), Ae (by simp; omega), Ae (by unfold InI; omega), List.range_succ, List.map_append]
  rfl) (by
  unfold Bk
  dsimp only
  rw [Uq (by omega) hr]
  simp only [Option.bind_some]
  rw [if_neg (by omega)])
 have key' : Ap (Bk n r p) (0, Bl Int) = _ := key
 rw [key']
 exact ⟨_, rfl, by simpa using hpw⟩
theorem Aa0 {c : Sl1Cur} {k : Nat} (h : Cur k c) (hk : k ≤ 600000000) (n : Int) : ∃ f d, Bf c n = some (f, d) ∧ Cur (k + 200) d ∧ f.Table.length ≤ 65 := by
 have hL := Bq
 have e1 : ∀ a b : Int, Gh a b = some (if a < b then a else b) := fun a b => by
  unfold Gh; split <;> rfl
 have e0 : ∀ a b : Int, Hf a b = some (if a > b then a else b) := fun a b => by
  unfold Hf; split <;> rfl
 unfold Bf
 rw [e0]
 simp only [Option.bind_some]
 rw [e1]
 simp only [Option.bind_some]
 obtain ⟨m, hm, m1, m4⟩ : ∃ m : Nat, (if (if n > 1 then n else 1) < 4 then (if n > 1 then n else 1) else 4) = (m : Int) ∧ 1 ≤ m ∧ m ≤ 4 :=
  ⟨(if (if n > 1 then n else 1) < 4 then (if n > 1 then n else 1) else 4).toNat, by split <;> split <;> omega, by split <;> split <;> omega, by split <;> split <;> omega⟩
 rw [hm]
 obtain ⟨r, d, e, hd, hr⟩ := E7 h (by omega) [1, 1, 2, 2, 2, 3, 0] (by simp)
 rw [e]
 simp only [Option.bind_some]
 obtain ⟨R, rfl, hR⟩ : ∃ R : Nat, r = (R : Int) ∧ R ≤ 3 := ⟨r.toNat, by simp at hr; omega, by simp at hr; omega⟩
 have hpw : m ^ R ≤ 64 := Nat.le_trans (Nat.pow_le_pow_left m4 R) (Nat.le_trans (Nat.pow_le_pow_right (by omega) hR) (by decide))
 have hp1 : 1 ≤ m ^ R := Nat.pow_pos (by omega)
 rw [Uq (by omega) hR]
 simp only [Option.bind_some]
 obtain ⟨⟨f, d2⟩, e2, ⟨hf1, hf2⟩, hd2⟩ := Iu (body := B2 m) (fun s => ∃ i : Nat, s.1 = (i : Int) ∧ i ≤ m ^ R ∧ s.2.1.Arity = (R : Int) ∧ s.2.1.Table.length = m ^ R - i ∧ Cur (k + 2 + 2 * (m ^ R - i)) s.2.2) (fun s => s.1.toNat) (fun t => (t.1.Arity = (R : Int) ∧ t.1.Table.length = m ^ R) ∧ Cur (k + 140) t.2) (by
  rintro ⟨x, f, c⟩ ⟨i, rfl, g1, g2, g3, g4⟩
  dsimp only at g2 g3 g4
  unfold B2
  dsimp only
  by_cases hi : i > 0
  ·rw [if_pos (by omega)]
   obtain ⟨v, d3, e3, hd3, _⟩ := Do g4 (by omega) (m : Int)
   rw [e3]
   simp only [Option.bind_some]
   rw [Ae (by simp; omega), Ae (by unfold InI; omega)]
   exact .inl ⟨_, rfl, ⟨i - 1, by dsimp only; omega, by omega, g2, by simp; omega, hd3.mono (by omega)⟩, by dsimp only; omega⟩
  ·rw [if_neg (by omega)]
   exact .inr ⟨_, rfl, ⟨g2, by dsimp only; omega⟩, g4.mono (by omega)⟩) (s := (((m ^ R : Nat) : Int), { Arity := (R : Int), Table := Bl Int }, d)) ⟨m ^ R, rfl, Nat.le_refl _, rfl, by simp [Bl], hd.mono (by omega)⟩
 rw [e2]
 simp only [Option.bind_some]
 dsimp only at hf1 hf2 hd2
 obtain ⟨w, d3, e3, hd3, w0, _⟩ := Do hd2 (by omega) 12
 rw [e3]
 simp only [Option.bind_some]
 by_cases c0 : w = 0
 ·rw [if_pos c0, hf1]
  by_cases h0 : (R : Int) > 0
  ·rw [if_pos h0]
   obtain ⟨p, d4, e4, hd4, p0, p1⟩ := Do hd3 (by omega) (R : Int)
   rw [e4]
   simp only [Option.bind_some]
   obtain ⟨l, e5, hl⟩ := Ap2 m1 m4 hR (p := p) (by omega)
   rw [e5]
   exact ⟨_, _, rfl, hd4.mono (by omega), by dsimp only; omega⟩
  ·rw [if_neg h0]
   exact ⟨_, _, rfl, hd3.mono (by omega), by omega⟩
 rw [if_neg c0]
 by_cases c1 : w = 1
 ·rw [if_pos c1]
  obtain ⟨p, d4, e4, hd4, p0, p1⟩ := Do hd3 (by omega) (f.Table.length : Int)
  rw [e4]
  simp only [Option.bind_some]
  obtain ⟨v, d5, e5, hd5, _⟩ := E7 hd4 (by omega) [-1, (m : Int), 0] (by simp)
  rw [e5]
  simp only [Option.bind_some]
  rw [Ae (by omega)]
  exact ⟨_, _, rfl, hd5.mono (by omega), by simp only [List.length_set]; omega⟩
 rw [if_neg c1]
 by_cases c2 : w = 2
 ·rw [if_pos c2, Ae (by simp; omega)]
  exact ⟨_, _, rfl, hd3.mono (by omega), by simp; omega⟩
 rw [if_neg c2]
 exact ⟨_, _, rfl, hd3.mono (by omega), by omega⟩
theorem Zg {code : List Int} (hc : ∀ x ∈ code, 0 ≤ x ∧ x ≤ 255) (hl : code.length ≤ 65536) : ∃ n f g, Di code = some (n, f, g) ∧ f.Table.length ≤ 101 ∧ g.Table.length ≤ 101 := by
 have hL := Bq
 unfold Di
 obtain ⟨a, d, e, hd, ha⟩ := Aeq (Ap1 hc hl) (by omega)
 have hs := Ahx ha
 rw [e]
 simp only [Option.bind_some]
 rw [Aac hs]
 simp only [Option.bind_some]
 have fin : ∀ c : Sl1Cur, Cur 2000 c → ∃ n f g, ((Ao c 24).bind fun (r20, u21) =>
   ask ((11 : Int) ≠ 0 ∧ InI (r20.tdiv 11)) <| ask (InI (5 + r20.tdiv 11)) <|
   ask ((0 : Int) ≤ 0 ∧ 0 ≤ 5 + r20.tdiv 11 ∧ 5 + r20.tdiv 11 ≤ (([1, 2, 2, 3, 4, 0, 5].length : Nat) : Int)) <|
   (Au u21 (List.take ((5 + r20.tdiv 11).toNat - Int.toNat 0) (List.drop (Int.toNat 0) [1, 2, 2, 3, 4, 0, 5]))).bind fun (r24, u25) =>
   (Bf u25 r24).bind fun (r26, u27) =>
   (Bf u27 r24).bind fun (r28, _) => some (r24, r26, r28)) = some (n, f, g) ∧ f.Table.length ≤ 101 ∧ g.Table.length ≤ 101 := by
  intro c hcu
  obtain ⟨w, d2, e2, hd2, w0, w1⟩ := Do hcu (by omega) 24
  rw [e2]
  simp only [Option.bind_some]
  have et : w.tdiv 11 = w / 11 := Int.tdiv_eq_ediv_of_nonneg w0
  rw [et, Ae ⟨by decide, by unfold InI; omega⟩, Ae (by unfold InI; omega), Ae (by simp only [List.length_cons, List.length_nil]; omega)]
  obtain ⟨n, d3, e3, hd3, _⟩ := E7 hd2 (by omega) (List.take ((5 + w / 11).toNat - Int.toNat 0) (List.drop (Int.toNat 0) [1, 2, 2, 3, 4, 0, 5])) (by simp; omega)
  rw [e3]
  simp only [Option.bind_some]
  obtain ⟨f, d4, e4, hd4, hf⟩ := Aa0 hd3 (by omega) n
  rw [e4]
  simp only [Option.bind_some]
  obtain ⟨g, d5, e5, _, hg⟩ := Aa0 hd4 (by omega) n
  rw [e5]
  exact ⟨_, f, g, rfl, by omega, by omega⟩
 by_cases hg : Ed a
 ·rw [decide_eq_true hg]
  simp only [if_true]
  by_cases h4 : a.Size ≤ 4
  ·rw [if_pos h4]
   by_cases h0 : (a.Ops.length : Int) > 0
   ·rw [if_pos h0]
    obtain ⟨w, d2, e2, hd2⟩ := Ahl hd (by omega) 2
    rw [e2]
    simp only [Option.bind_some]
    by_cases hw : w = true
    ·rw [if_pos hw]
     obtain ⟨p, d3, e3, hd3, p0, p1⟩ := Do hd2 (by omega) (a.Ops.length : Int)
     have hp := ha.2 _ (Bh (show p.toNat < a.Ops.length by omega))
     rw [e3]
     simp only [Option.bind_some]
     rw [Ae (by omega), Aky (by omega)]
     simp only [Option.bind_some]
     obtain ⟨q, d4, e4, _, q0, q1⟩ := Do hd3 (by omega) (a.Ops.length : Int)
     have hq := ha.2 _ (Bh (show q.toNat < a.Ops.length by omega))
     rw [e4]
     simp only [Option.bind_some]
     rw [Ae (by omega), Aky (by omega)]
     exact ⟨_, nth a.Ops p.toNat, nth a.Ops q.toNat, rfl, by omega, by omega⟩
    ·rw [if_neg hw]
     exact fin _ (hd2.mono (by omega))
   ·rw [if_neg h0]
    exact fin _ (hd.mono (by omega))
  ·rw [if_neg h4]
   exact fin _ (hd.mono (by omega))
 ·rw [decide_eq_false hg]
  exact fin _ (hd.mono (by omega))
theorem V7 {α β : Type} {o : Option α} {a : α} {k : α → Option β} {r : Option β} (h : o = some a) (h2 : k a = r) : o.bind k = r := by rw [h]; exact h2
theorem Aci {code : List Int} (h : code.length ≤ BIG ∧ ∀ x ∈ code, 0 ≤ x ∧ x ≤ 255) : E9 code = some true := by
 unfold E9 N3
 simp only [Option.bind_some]
 by_cases hbig : (code.length : Int) > 65536
 ·rw [if_pos (by simpa using hbig)]
 rw [if_neg (by simpa using hbig)]
 have hL := Bq
 obtain ⟨n, f, g, ed, hf, hg⟩ := Zg h.2 (by omega)
 rw [ed]
 simp only [Option.bind_some]
 obtain ⟨c1, c2⟩ := Rq n (f := f) (g := g) (by omega) (by omega)
 have c3 := (Rq n (f := g) (g := f) (by omega) (by omega)).1
 rw [Alv] at c3
 rw [c1]
 simp only [Option.bind_some]
 refine V7 (a := .inl ()) ?_ ?_
 ·rw [c2]
  simp only [Option.bind_some, beq_self_eq_true, if_true]
 dsimp only
 refine V7 (a := .inl ()) ?_ ?_
 ·rw [c3]
  simp only [Option.bind_some, beq_self_eq_true, if_true]
 dsimp only
 unfold Ajx
 by_cases ok : Mt n f g
 ·rw [if_pos ok]
  obtain ⟨of, og⟩ := ok.ops
  obtain ⟨k1, k2, k3, k4, k5, k6⟩ := ok
  obtain ⟨m, hm⟩ := Int.eq_ofNat_of_zero_le (show 0 ≤ n by omega)
  subst hm
  rw [Int.toNat_natCast] at of og k3 k4 ⊢
  refine V7 (a := .inl ()) ?_ ?_
  ·simp only [if_true, Option.bind_some]
   by_cases ha : f.Arity = 1
   ·rw [if_pos (by simpa using ha)]
    have a1 : f.Arity.toNat = 1 := by omega
    have gA : Ed { Size := (m : Int), Ops := [g] } := ⟨by show 1 ≤ (m : Int); omega, by show (m : Int) ≤ 8; omega, by simp, fun q hq => by
     rw [List.mem_singleton.1 hq]
     show Y1 (Int.toNat (m : Int)) g
     rw [Int.toNat_natCast]; exact k4⟩
    have sA : Je { Size := (m : Int), Ops := [g] } := ⟨by simp, fun q hq => by rw [List.mem_singleton.1 hq]; omega⟩
    obtain ⟨i1, i2⟩ := Akg sA sA (f := f.Table) (by omega)
    have hk : Zy { Size := (m : Int), Ops := [g] } { Size := (m : Int), Ops := [g] } f.Table = (decide (Yf m f g f.Arity.toNat g.Arity.toNat), true) := by
     unfold Zy
     rw [if_pos (show Ud _ _ from ⟨gA, gA, rfl⟩), a1]
     congr 1
     rw [decide_eq_decide, ← Aqr (by omega) og]
     have hlen := of.len
     rw [a1, Nat.pow_one] at hlen
     constructor
     ·intro hh; exact hh.2.2
     ·intro hh
      exact ⟨⟨gA, gA, rfl⟩, ⟨by show (f.Table.length : Int) = (m : Int); omega, of.fin⟩, hh⟩
    rw [i1]
    simp only [Option.bind_some]
    rw [i2, hk]
    simp only [Option.bind_some, beq_self_eq_true, if_true]
   ·rw [if_neg (by simpa using ha)]
  dsimp only
  simp only [if_true]
  by_cases ha : f.Arity ≥ 1
  ·rw [if_pos ha]
   simp only [Option.bind_some]
   by_cases h3 : (m : Int) ≤ 3
   ·rw [decide_eq_true h3, if_pos rfl]
    obtain ⟨g1, g2⟩ := Amh (by omega) (by omega) og k4
    rw [g1]
    simp only [Option.bind_some]
    have hgl := Jd m g.Arity.toNat g
    have hp9 := Aoo (n := m) (by omega) og.le
    refine V7 (a := .inr ()) ?_ ?_
    ·rw [g2]
     simp only [Option.bind_some, beq_self_eq_true, if_true, ne_eq, not_true_eq_false, if_false]
     rw [Aot (by omega) (fun t ht => by rw [Tl ht]; have := og.le; omega)]
     simp only [Option.bind_some, if_true]
    dsimp only
    obtain ⟨q, e, hq⟩ := Aj5 (by omega) (by omega) of k3 og
    simp only [if_true]
    rw [e]
    simp only [Option.bind_some]
    by_cases hq2 : q.2 = true
    ·rw [if_pos hq2, hq hq2, if_pos (by simp)]
    ·rw [if_neg hq2]
   ·rw [decide_eq_false h3, if_neg (by simp)]
  ·rw [if_neg ha]
   simp only [Option.bind_some]
   rw [if_neg (by simp)]
 ·rw [if_neg ok]
  simp
end Go.Proofs.Ytcpgnfohmeineaa.Ax
