/-
  The law of products and stacks, on plain functions.
-/
import Derived.Test.YtoikbcagaanhgaaP34
import Derived.Test.YtoikbcagaanhgaaP36
import Derived.Test.YtoikbcagaanhgaaLLatticeProducts
namespace Go.Proofs.Ytoikbcagaanhgaa.Ax
open Go Classical

theorem F_FnLatticeProducts {code : List Int} (h : code.length ≤ BIG ∧ ∀ x ∈ code, 0 ≤ x ∧ x ≤ 255) : F_laws_FnLatticeProducts code = some true := by
  unfold F_laws_FnLatticeProducts F_laws_rBig
  simp only [Option.bind_some]
  by_cases hbig : (code.length : Int) > 65536
  · rw [if_pos (by simpa using hbig)]
  rw [if_neg (by simpa using hbig)]
  obtain ⟨p, q, ed, hp, hq⟩ := draw_ProductLattice h.2 (by omega)
  rw [ed]
  simp only [Option.bind_some]
  have sp := tiny_small hp
  have sq := tiny_small hq
  have hL := lim_def
  have stack : (F_spec_DrawStackLattice code) = some (p, q) := by
    unfold F_spec_DrawStackLattice
    rw [ed]; rfl
  obtain ⟨r, e1, e2, ⟨hr, hr1⟩, hyes⟩ := val_ProductLattice sp sq
  obtain ⟨s, e3, e4, ⟨hs, hs1⟩, hyes2⟩ := val_StackLattice sp sq
  rw [e1, e2]
  simp only [Option.bind_some, beq_self_eq_true, if_true]
  rw [F_rTable hr.1 hr.2]
  simp only [Option.bind_some, if_true]
  -- the second half
  have last : ((F_spec_DrawStackLattice code).bind fun r36 =>
       (F_impl_StackLattice (r36.fst) (r36.snd)).bind fun r37 =>
       (((F_spec_StackLattice (r36.fst) (r36.snd)).bind fun r38 =>
               if (r37.snd == r38.snd) = true then
                (F_laws_rTable (r37.fst.Below) (r38.fst.Below)).bind fun r40 =>
                if (r40) = true then
                 some (.inl ())
                else
                 some (.inr ())
               else
                some (.inr ()) : Option (Unit ⊕ Unit))).bind fun t => match t with
       | (.inl _) => (if (r37.snd) = true then
          (F_impl_EndsOf (r36.fst)).bind fun r44 =>
          (F_impl_EndsOf (r36.snd)).bind fun r45 =>
          (F_impl_EndsOf (r37.fst)).bind fun r46 =>
          (F_impl_IsLattice (r37.fst)).bind fun r47 =>
          if (r47) = true then
           if (r44.snd.snd) = true then
            if (r45.snd.snd) = true then
             if (r46.snd.snd) = true then
              if r46.fst ≠ r44.fst then
               some false
              else
               ask (InI (r45.snd.fst + ↑r36.fst.Below.length)) <|
               if r46.snd.fst ≠ r45.snd.fst + ↑r36.fst.Below.length then
                some false
               else
                some true
             else
              some false
            else
             some false
           else
            some false
          else
           some false
         else
          some true)
       | (.inr _) => (some false)) = some true := by
    rw [stack]
    simp only [Option.bind_some]
    rw [e3, e4]
    simp only [Option.bind_some, beq_self_eq_true, if_true]
    rw [F_rTable hs.1 hs.2]
    simp only [Option.bind_some, if_true]
    by_cases ok : s.2 = true
    · rw [if_pos ok]
      obtain ⟨lp, lq, hN, es⟩ := hyes2 ok
      have of := good_ord lp.1
      have og := good_ord lq.1
      have m1 := meets_stack of og lp.2.2.1 lq.2.2.1
      have m2 := meets_stackO of og lp.2.2.2 lq.2.2.2
      have n0 := lp.2.1
      have m0 := lq.2.1
      have ho := ord_stack of og
      have ls : isLat s.1 := by rw [es]; exact lat_pos hN (by omega) ho m1 m2
      have bf := botN_lt lp.2.2.1 n0 _ (Nat.le_refl _)
      have bq := botN_lt lq.2.2.2 m0 _ (Nat.le_refl _)
      have bt := botN_lt lp.2.2.2 n0 _ (Nat.le_refl _)
      rw [val_EndsOf sp lp, val_EndsOf sq lq, val_EndsOf hs ls, val_IsLattice hs, decide_eq_true ls]
      simp only [Option.bind_some, if_true]
      have hlen : s.1.Below.length = p.Below.length + q.Below.length := by rw [es, posOf_len]
      have hbel : ∀ x y, x < s.1.Below.length → y < s.1.Below.length → below s.1.Below x y = stackF (below p.Below) (below q.Below) p.Below.length x y := by
        intro x y hx hy
        rw [hlen] at hx hy
        rw [es]
        exact posOf_below hy hx
      have os := good_ord ls.1
      have low : botN s.1.Below.length (below s.1.Below) s.1.Below.length = botN p.Below.length (below p.Below) p.Below.length := by
        refine bot_uniq os ls.2.2.1 ls.2.1 (by rw [hlen]; omega) fun z hz => ?_
        rw [hbel _ _ (by rw [hlen]; omega) hz]
        by_cases hzn : z < p.Below.length
        · rw [stack_ll bf hzn]; exact botN_le of lp.2.2.1 n0 _ (Nat.le_refl _) z hzn
        · exact stack_lh bf hzn
      have high : botN s.1.Below.length (opp (below s.1.Below)) s.1.Below.length = p.Below.length + botN q.Below.length (opp (below q.Below)) q.Below.length := by
        refine bot_uniq os.opp ls.2.2.2 ls.2.1 (by rw [hlen]; omega) fun z hz => ?_
        show below s.1.Below z _ = true
        rw [hbel _ _ hz (by rw [hlen]; omega)]
        by_cases hzn : z < p.Below.length
        · exact stack_lh hzn (by omega)
        · rw [stack_hh hzn (by omega), Nat.add_sub_cancel_left]
          rw [hlen] at hz
          exact botN_le (f := opp (below q.Below)) og.opp lq.2.2.2 m0 _ (Nat.le_refl _) (z - p.Below.length) (by omega)
      have h10 := hN
      rw [if_neg (by rw [low]; simp), ask_pos (by unfold InI; omega), if_neg (by rw [high]; simp; omega)]
    · rw [if_neg ok]
  by_cases ok : r.2 = true
  · obtain ⟨lp, lq, hN, er⟩ := hyes ok
    have of := good_ord lp.1
    have og := good_ord lq.1
    have m1 := meets_prod of og lp.2.2.1 lq.2.2.1
    have m2 : meets (p.Below.length * q.Below.length) (opp (prodF (below p.Below) (below q.Below) q.Below.length)) := by
      rw [opp_prod]; exact meets_prod of.opp og.opp lp.2.2.2 lq.2.2.2
    have n0 := lp.2.1
    have m0 := lq.2.1
    have ho := ord_prod of og
    have lr : isLat r.1 := by rw [er]; exact lat_pos hN (Nat.mul_ne_zero n0 m0) ho m1 m2
    have hlen : r.1.Below.length = p.Below.length * q.Below.length := by rw [er, posOf_len]
    have hbel : ∀ x y, x < r.1.Below.length → y < r.1.Below.length → below r.1.Below x y = prodF (below p.Below) (below q.Below) q.Below.length x y := by
      intro x y hx hy
      rw [hlen] at hx hy
      rw [er]
      exact posOf_below hy hx
    have ea : (atoms r.1.Below.length (below r.1.Below)).length = (atoms p.Below.length (below p.Below)).length + (atoms q.Below.length (below q.Below)).length := by
      rw [atoms_congr (G := prodF (below p.Below) (below q.Below) q.Below.length) (by rw [hlen]; exact ho) lr.2.2.1 lr.2.1 hbel, hlen]
      exact atoms_prod of og lp.2.2.1 lq.2.2.1 n0 m0
    have ei : (irr r.1.Below.length (below r.1.Below)).length = (irr p.Below.length (below p.Below)).length + (irr q.Below.length (below q.Below)).length := by
      rw [irr_congr hbel, hlen]
      exact irr_len_prod of og lp.2.2.1 lq.2.2.1 n0 m0
    have a1 : (atoms p.Below.length (below p.Below)).length ≤ p.Below.length := sieve_len _ _
    have a2 : (atoms q.Below.length (below q.Below)).length ≤ q.Below.length := sieve_len _ _
    have a3 : (atoms r.1.Below.length (below r.1.Below)).length ≤ r.1.Below.length := sieve_len _ _
    have i1 := irr_len p.Below.length (below p.Below)
    have i2 := irr_len q.Below.length (below q.Below)
    have t1 := hp.1
    have t2 := hq.1
    rw [if_pos ok, (val_AtomsOf sp lp).2, (val_AtomsOf sq lq).2, (val_AtomsOf hr lr).2, (val_AtomsOf hr lr).1, val_IsLattice hr, decide_eq_true lr, val_JoinIrreducibles sp lp, val_JoinIrreducibles sq lq, val_JoinIrreducibles hr lr]
    simp only [Option.bind_some, beq_self_eq_true, if_true]
    rw [F_rInts (by omega)]
    simp only [Option.bind_some, if_true]
    rw [ask_pos (by unfold InI; omega), if_neg (by rw [ea]; simp)]
    simp only [Option.bind_some]
    rw [ask_pos (by unfold InI; omega), if_neg (by rw [ei]; simp)]
    simp only [Option.bind_some]
    exact last
  · rw [if_neg ok]
    simp only [Option.bind_some]
    exact last

end Go.Proofs.Ytoikbcagaanhgaa.Ax
