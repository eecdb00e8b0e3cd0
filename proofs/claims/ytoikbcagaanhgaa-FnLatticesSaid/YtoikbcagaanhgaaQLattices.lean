/-
  The law of lattices, on plain functions.
-/
import Derived.Test.YtoikbcagaanhgaaPB
import Derived.Test.YtoikbcagaanhgaaLLattices
namespace Go.Proofs.Ytoikbcagaanhgaa.Ax
open Go Classical

section
variable {p : SPoset}
/-- what is gathered below x -/
theorem lat_under (hs : small p) (h : isLat p) {low : List Int × Bool} (hl : low.1 = irr p.Below.length (below p.Below)) {r28 : List Int × Bool} {r35 : SPoset × Bool} {x : Nat} (hx : x < p.Below.length) :
    loopO (F_laws_FnLattices_l1 p low r28 r35 (x : Int)) (0, nilL Int) = some (.inr ((irr p.Below.length (below p.Below)).filter fun j => below p.Below j.toNat x)) := by
  have h10 : p.Below.length ≤ 10 := h.1.1
  have hL := lim_def
  have hin : ∀ z ∈ irr p.Below.length (below p.Below), ∃ i : Nat, i < p.Below.length ∧ z = (i : Int) := fun z hz => by
    obtain ⟨i, hi, _, rfl⟩ := mem_sieve.1 hz
    exact ⟨i, hi, rfl⟩
  have hlen := irr_len p.Below.length (below p.Below)
  generalize irr p.Below.length (below p.Below) = js at hl hin hlen
  have key := loop_seq (body := F_laws_FnLattices_l1 p low r28 r35 (x : Int)) (fun i => ((i : Int), (js.take i).filter fun j => below p.Below j.toNat x)) js.length (.inr (js.filter fun j => below p.Below j.toNat x)) (fun i hi => by
    obtain ⟨a, ha, e⟩ := hin _ (nth_mem hi)
    have htl : ((js.take i).filter fun j => below p.Below j.toNat x).length ≤ i := Nat.le_trans (List.length_filter_le _ _) (by simp; omega)
    unfold F_laws_FnLattices_l1
    dsimp only
    rw [hl, if_pos (by omega), ask_pos (by omega), Int.toNat_natCast, e, val_IsAtMost hs h.1 ha hx]
    simp only [Option.bind_some, if_true]
    rw [take_nth hi, List.filter_append, e]
    cases hb : below p.Below a x with
    | true =>
      rw [if_pos rfl, ask_pos (by omega), ask_pos (by simp; omega), ask_pos (by unfold InI; omega)]
      simp [hb]
    | false =>
      rw [if_neg (by simp), ask_pos (by unfold InI; omega)]
      simp [hb]) (by
    unfold F_laws_FnLattices_l1
    dsimp only
    rw [hl, if_neg (by omega), List.take_length])
  have e0 : ((0 : Int), nilL Int) = (((0 : Nat) : Int), (js.take 0).filter fun j => below p.Below j.toNat x) := rfl
  rw [e0, key]
theorem lat_over (hs : small p) (h : isLat p) {r21 : List Int × Bool} {high : List Int × Bool} (hl : high.1 = irr p.Below.length (opp (below p.Below))) {r35 : SPoset × Bool} {q : List Int} {x : Nat} (hx : x < p.Below.length) :
    loopO (F_laws_FnLattices_l2 p r21 high r35 (x : Int) q) (0, nilL Int) = some (.inr ((irr p.Below.length (opp (below p.Below))).filter fun j => opp (below p.Below) j.toNat x)) := by
  have h10 : p.Below.length ≤ 10 := h.1.1
  have hL := lim_def
  have hin : ∀ z ∈ irr p.Below.length (opp (below p.Below)), ∃ i : Nat, i < p.Below.length ∧ z = (i : Int) := fun z hz => by
    obtain ⟨i, hi, _, rfl⟩ := mem_sieve.1 hz
    exact ⟨i, hi, rfl⟩
  have hlen := irr_len p.Below.length (opp (below p.Below))
  generalize irr p.Below.length (opp (below p.Below)) = js at hl hin hlen
  have key := loop_seq (body := F_laws_FnLattices_l2 p r21 high r35 (x : Int) q) (fun i => ((i : Int), (js.take i).filter fun j => opp (below p.Below) j.toNat x)) js.length (.inr (js.filter fun j => opp (below p.Below) j.toNat x)) (fun i hi => by
    obtain ⟨a, ha, e⟩ := hin _ (nth_mem hi)
    have htl : ((js.take i).filter fun j => opp (below p.Below) j.toNat x).length ≤ i := Nat.le_trans (List.length_filter_le _ _) (by simp; omega)
    unfold F_laws_FnLattices_l2
    dsimp only
    rw [hl, if_pos (by omega), ask_pos (by omega), Int.toNat_natCast, e, val_IsAtMost hs h.1 hx ha]
    simp only [Option.bind_some, if_true]
    rw [take_nth hi, List.filter_append, e]
    cases hb : below p.Below x a with
    | true =>
      rw [if_pos rfl, ask_pos (by omega), ask_pos (by simp; omega), ask_pos (by unfold InI; omega)]
      simp [hb, opp]
    | false =>
      rw [if_neg (by simp), ask_pos (by unfold InI; omega)]
      simp [hb, opp]) (by
    unfold F_laws_FnLattices_l2
    dsimp only
    rw [hl, if_neg (by omega), List.take_length])
  have e0 : ((0 : Int), nilL Int) = (((0 : Nat) : Int), (js.take 0).filter fun j => opp (below p.Below) j.toNat x) := rfl
  rw [e0, key]
theorem filter_sieve {n : Nat} {a b : Nat → Bool} : ((sieve n a).filter fun j => b j.toNat) = sieve n fun i => a i && b i := by
  induction n with
  | zero => rfl
  | succ n ih =>
    rw [sieve_succ, sieve_succ]
    by_cases ha : a n = true
    · by_cases hb : b n = true
      · rw [if_pos ha, if_pos (by simp [ha, hb]), List.filter_append, ih]; simp [hb]
      · rw [if_pos ha, if_neg (by simp [hb]), List.filter_append, ih]; simp [hb]
    · rw [if_neg ha, if_neg (by simp [ha]), ih]
theorem lat_pairs (hs : small p) (h : isLat p) {r21 r28 : List Int × Bool} {r35 : SPoset × Bool} (hd : r35.1 = dualP p) {x : Nat} (hx : x < p.Below.length) : loopO (F_laws_FnLattices_l3 p r21 r28 r35 (x : Int)) 0 = some (.inr ()) := by
  have h10 : p.Below.length ≤ 10 := h.1.1
  have hL := lim_def
  have hdl := dual_lat h
  have hds : small (dualP p) := tiny_small ⟨by rw [dual_len]; omega, fun r hr => by
    obtain ⟨i, hi, rfl⟩ := mem_nth.1 hr
    rw [dual_len] at hi
    rw [dual_row hi]
    exact Nat.le_trans (sieve_len _ _) (by omega)⟩
  have key := loop_seq (body := F_laws_FnLattices_l3 p r21 r28 r35 (x : Int)) (fun i => (i : Int)) p.Below.length (.inr ()) (fun w hw => by
    have hj := inf_lt h.2.2.2 hx hw
    have em : inf (dualP p).Below.length (below (dualP p).Below) x w = inf p.Below.length (opp (below p.Below)) x w := by
      have hm := hdl.2.2.1
      have hdo := good_ord hdl.1
      rw [dual_len] at hm ⊢
      exact inf_congr (good_ord h.1).opp hm (fun a b ha hb => dual_below a b ha hb) hx hw
    unfold F_laws_FnLattices_l3
    rw [if_pos (by omega), val_JoinOf hs h hx hw, hd, val_MeetOf hds hdl (by rw [dual_len]; exact hx) (by rw [dual_len]; exact hw)]
    simp only [Option.bind_some]
    rw [val_MeetOf hs h hx hj, em, inf_absorb (good_ord h.1) h.2.2.1 h.2.2.2 hx hw]
    simp only [Option.bind_some, if_true]
    rw [if_neg (by simp), if_neg (by simp), ask_pos (by unfold InI; omega)]
    rfl) (by
    unfold F_laws_FnLattices_l3
    rw [if_neg (by omega)])
  exact key
theorem lat_each (hs : small p) (h : isLat p) {low high : List Int × Bool} (hl : low.1 = irr p.Below.length (below p.Below)) (hh : high.1 = irr p.Below.length (opp (below p.Below))) {r35 : SPoset × Bool} (hd : r35.1 = dualP p) :
    loopO (F_laws_FnLattices_l4 p low high r35) 0 = some (.inr ()) := by
  have h10 : p.Below.length ≤ 10 := h.1.1
  have ho := good_ord h.1
  have key := loop_seq (body := F_laws_FnLattices_l4 p low high r35) (fun i => (i : Int)) p.Below.length (.inr ()) (fun x hx => by
    unfold F_laws_FnLattices_l4
    rw [if_pos (by omega), lat_under hs h hl hx]
    simp only [Option.bind_some]
    rw [lat_over hs h hh hx]
    simp only [Option.bind_some]
    have eu : ((irr p.Below.length (below p.Below)).filter fun j => below p.Below j.toNat x) = sieve p.Below.length fun j => isJ p.Below.length (below p.Below) j && below p.Below j x := filter_sieve (a := isJ p.Below.length (below p.Below)) (b := fun j => below p.Below j x)
    have ev : ((irr p.Below.length (opp (below p.Below))).filter fun j => opp (below p.Below) j.toNat x) = sieve p.Below.length fun j => isJ p.Below.length (opp (below p.Below)) j && opp (below p.Below) j x := filter_sieve (a := isJ p.Below.length (opp (below p.Below))) (b := fun j => opp (below p.Below) j x)
    rw [eu, ev, val_JoinAll hs h (sieve_in _ _) (Nat.le_trans (sieve_len _ _) (by omega)), val_MeetAll hs h (sieve_in _ _) (Nat.le_trans (sieve_len _ _) (by omega)), join_under ho h.2.2.1 h.2.1 hx]
    have e2 := join_under (f := opp (below p.Below)) ho.opp h.2.2.2 h.2.1 hx
    have e3 : bnd p.Below.length (below p.Below) (loA (below p.Below) (sieve p.Below.length fun j => isJ p.Below.length (opp (below p.Below)) j && opp (below p.Below) j x)) = (x : Int) := e2
    rw [e3]
    simp only [Option.bind_some, if_true]
    rw [if_neg (by simp), if_neg (by simp)]
    simp only [Option.bind_some]
    rw [lat_pairs hs h hd hx]
    simp only [Option.bind_some]
    rw [ask_pos (by unfold InI; omega)]
    rfl) (by
    unfold F_laws_FnLattices_l4
    rw [if_neg (by omega)])
  exact key
end

theorem F_FnLattices {code : List Int} (h : code.length ≤ BIG ∧ ∀ x ∈ code, 0 ≤ x ∧ x ≤ 255) : F_laws_FnLattices code = some true := by
  unfold F_laws_FnLattices F_laws_rBig
  simp only [Option.bind_some]
  by_cases hbig : (code.length : Int) > 65536
  · rw [if_pos (by simpa using hbig)]
  rw [if_neg (by simpa using hbig)]
  obtain ⟨p, ed, hp⟩ := draw_LatticeAlgebra h.2 (by omega)
  have hL := lim_def
  rw [ed]
  simp only [Option.bind_some]
  have sp := tiny_small hp
  obtain ⟨r, e1, e2, hr, hyes⟩ := val_LatticeAlgebra sp
  rw [e1, e2]
  simp only [Option.bind_some, beq_self_eq_true, if_true]
  rw [F_rAlgebra hr]
  simp only [Option.bind_some, if_true]
  have back : ((if r.2 = true then
            (F_impl_LatticeOf r.1).bind fun r11 =>
            if (r11.snd) = true then
             (F_laws_rTable (r11.fst.Below) (p.Below)).bind fun r13 =>
             if (r13) = true then
              some (.inl ())
             else
              some (.inr ())
            else
             some (.inr ())
           else
            some (.inl ()) : Option (Unit ⊕ Unit))) = some (.inl ()) := by
    by_cases ok : r.2 = true
    · obtain ⟨lp, h8, er⟩ := hyes ok
      rw [if_pos ok, er, val_LatticeOf sp lp h8]
      simp only [Option.bind_some, if_true]
      rw [F_rTable sp.1 sp.2]
      simp
    · rw [if_neg ok]
  rw [back]
  simp only [Option.bind_some]
  rw [val_IsLattice sp, spc_IsLattice sp]
  simp only [Option.bind_some, beq_self_eq_true, if_true]
  by_cases lp : isLat p
  · rw [decide_eq_true lp]
    simp only [if_true]
    have hd := dual_lat lp
    have h10 : p.Below.length ≤ 10 := lp.1.1
    have hds : small (dualP p) := tiny_small ⟨by rw [dual_len]; omega, fun r hr => by
      obtain ⟨i, hi, rfl⟩ := mem_nth.1 hr
      rw [dual_len] at hi
      rw [dual_row hi]
      exact Nat.le_trans (sieve_len _ _) (by omega)⟩
    have ho := good_ord lp.1
    have bb := botN_bnd ho lp.2.2.1 lp.2.1
    have bt := botN_bnd (f := opp (below p.Below)) ho.opp lp.2.2.2 lp.2.1
    have hbt : below p.Below (botN p.Below.length (below p.Below) p.Below.length) (botN p.Below.length (opp (below p.Below)) p.Below.length) = true := bb.2.2 _ bt.1 rfl
    have i1 := irr_len p.Below.length (below p.Below)
    have i2 := irr_len p.Below.length (opp (below p.Below))
    rw [val_JoinIrreducibles sp lp, spc_JoinIrreducibles sp lp, val_MeetIrreducibles sp lp, spc_MeetIrreducibles sp lp, val_DualPoset sp lp.1]
    simp only [Option.bind_some, beq_self_eq_true, if_true]
    rw [F_rInts (by omega)]
    simp only [Option.bind_some, if_true]
    rw [F_rInts (by omega)]
    simp only [Option.bind_some, if_true]
    rw [val_IsLattice hds, decide_eq_true hd]
    simp only [Option.bind_some, if_true]
    rw [lat_each sp lp rfl rfl rfl]
    simp only [Option.bind_some]
    rw [val_EndsOf sp lp]
    simp only [Option.bind_some]
    rw [val_IntervalOf sp lp bb.1 bt.1 hbt]
    simp only [Option.bind_some, if_true]
    have ea : (sieve p.Below.length fun z => below p.Below (botN p.Below.length (below p.Below) p.Below.length) z && below p.Below z (botN p.Below.length (opp (below p.Below)) p.Below.length)) = sieve p.Below.length fun _ => true := sieve_congr fun z hz => by
      have a1 : below p.Below (botN p.Below.length (below p.Below) p.Below.length) z = true := bb.2.2 z hz rfl
      have a2 : below p.Below z (botN p.Below.length (opp (below p.Below)) p.Below.length) = true := bt.2.2 z hz rfl
      rw [a1, a2]; rfl
    have el : ∀ n : Nat, (sieve n fun _ => true).length = n := by
      intro n
      induction n with
      | zero => rfl
      | succ n ih => rw [sieve_succ, if_pos rfl, List.length_append, ih]; rfl
    rw [ea, el]
    simp
  · rw [decide_eq_false lp]
    simp

end Go.Proofs.Ytoikbcagaanhgaa.Ax
