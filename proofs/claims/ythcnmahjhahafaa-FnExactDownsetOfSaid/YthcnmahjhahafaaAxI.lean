/-
  The operations that write memory, or make some.
-/
import Derived.Test.YthcnmahjhahafaaAxH
namespace Go.Proofs.Ythcnmahjhahafaa.Ax
open Go

theorem rd_cell {w O x v fp} (h : RdL w O [x] [v] fp) (hc : x.isCell = true) : v.oneCell' = true ∧ v.cells = #[v] := by
  cases h with
  | leaf hl _ => cases hl <;> first | exact ⟨rfl, rfl⟩ | simp [V.isCell] at hc
  | grp hg _ _ => cases hg <;> first | exact ⟨rfl, rfl⟩ | simp [V.isCell] at hc
  | fblk hh _ _ _ _ => cases hh <;> exact ⟨rfl, rfl⟩
  | oblk hh _ _ _ _ _ => cases hh <;> exact ⟨rfl, rfl⟩

theorem rd_oneCell {w O} : ∀ {xs vs fp}, RdL w O xs vs fp → allCell xs = true → ∀ v ∈ vs, v.oneCell' = true := by
  intro xs
  induction xs with
  | nil => intro vs fp h _ v hv; cases h; simp at hv
  | cons x r ih =>
    intro vs fp h hc v hv
    simp [allCell] at hc
    obtain ⟨u, us, f1, f2, rfl, rfl, h1, h2⟩ := h.cons_split
    rcases List.mem_cons.1 hv with rfl | hv
    · exact (rd_cell h1 hc.1).1
    · exact ih h2 (by simpa [allCell] using hc.2) v hv

/-- a value that lies in cells -/
theorem rd_cells {w O x v fp} (h : RdL w O [x] [v] fp) (hc : allCell x.cells = true) : ∃ us, v.cells = us.toArray ∧ RdL w O x.cells us fp := by
  cases hx : x.isAgg with
  | true =>
    cases x <;> simp [V.isAgg] at hx
    obtain ⟨vs, rfl, hr⟩ := rd_agg h
    exact ⟨vs, rfl, hr⟩
  | false =>
    have e : x.cells = [x] := by cases x <;> simp [V.isAgg] at hx <;> rfl
    rw [e] at hc ⊢
    simp [allCell] at hc
    exact ⟨[v], (rd_cell h hc).2, h⟩

theorem setRow_same (w : World) (g b : Nat) (cs : Array Value) (h : b ≠ g) : (w.setRow g cs).heap[b]? = w.heap[b]? := setRow_other w g b cs h

theorem store_ok {P : Program} {o : Oper} {σ σ' a w O gv N vals fp} {t n x x' v v'} {fi : TypeInfo} (h : Ok σ a w O gv N vals fp) (ho : o.op = .store t x' v') (hd : o.dst = none)
    (hx : fitsX N x x' = true) (hv : fitsX N v v' = true) (hi : P.info? t = some fi) (hsz : fi.size = n) (hs : storeA σ n x v = some σ') : StepOk P o σ' a w O gv N fp := by
  simp only [storeA] at hs
  split at hs
  case h_2 => cases hs
  rename_i U σ1 hU
  split at hs
  case h_2 => cases hs
  rename_i r p c hl
  split at hs
  case h_2 => cases hs
  rename_i T hT
  split at hs
  case h_2 => cases hs
  rename_i nd hnd
  split at hs
  case isFalse => cases hs
  rename_i hcond
  simp only [Bool.and_eq_true, decide_eq_true_eq] at hcond
  obtain ⟨⟨hnode, hlen⟩, hcell⟩ := hcond
  split at hs
  case h_2 => cases hs
  rename_i nd' hnd'
  split at hs
  case h_2 => cases hs
  rename_i T' hT'
  cases hs
  obtain ⟨fp1, fpV, o1, rV, nV, dV, s1⟩ := takeX_ok h (evalX_rel h hv) hU
  obtain ⟨us, hcells, rus⟩ := rd_cells rV hcell
  have hlus : us.length = n := by rw [rus.length, hlen]
  have hrel := locOf_rel o1 (evalX_rel o1 hx) hl
  obtain ⟨T2, nd2, hdr, b, hT2, hnd2, _, hval, hblk, haddr⟩ := hrel
  rw [hT] at hT2; cases hT2
  rw [hnd] at hnd2; cases hnd2
  have hR := o1.sim.own r T hT
  obtain ⟨x0, f1, fu, f2, efp, hx0, hru, hset⟩ := ctx p hR hnd
  rw [hval] at hx0; cases hx0
  obtain ⟨b', k, arr, e, fpk, hh, hb, hO, hk, hkids, efu⟩ := (rd_node hru hnode).resolve_left (by rintro ⟨m, _, c, _⟩; rw [c] at hblk; cases hblk)
  have hbb : b' = b := by have := hh.block; rw [hblk] at this; cases this; rfl
  subst hbb
  obtain ⟨ch', hh', hch', hlch', hcn⟩ := hh.set hnd'
  have hkl : nd.kids.length ≤ arr.size := by
    have := hkids.length
    simp at this
    omega
  have hnodup := o1.sim.nd r
  rw [efp] at hnodup
  have nd1 := List.nodup_append.1 hnodup
  have nd2' := List.nodup_append.1 nd1.2.1
  have ndu : (b' :: fpk).Nodup := by rw [← efu]; exact nd2'.1
  have hbk : b' ∉ fpk := (List.nodup_cons.1 ndu).1
  have hbr : b' ∈ fp1 r := by rw [efp, efu]; simp
  have hbV : b' ∉ fpV := fun hb' => (dV b' hb').2 ⟨r, hbr⟩
  -- the world behind
  let arr' : Array Value := (arr.toList.take c ++ us ++ arr.toList.drop (c + us.length)).toArray
  have hw' : w.setRow b' arr' = w.setRow b' arr' := rfl
  have hfit : c + 0 + us.length ≤ arr.size := by rw [hlen] at hcn; omega
  have hst := run_storeCells_at P b' c e us 0 arr w hb hfit (rd_oneCell rus hcell)
  simp only [Nat.add_zero] at hst
  have hheap : (w.setRow b' arr').heap[b']? = some (.cells arr' e (0, 0)) := setRow_heap w b' arr arr' e (0, 0) hb
  have hother : ∀ q, q ≠ b' → (w.setRow b' arr').heap[q]? = w.heap[q]? := fun q hq => setRow_other w b' q arr' hq
  have hstill : Still w O (w.setRow b' arr') O := fun q hq _ => ⟨hother q (fun e => hq (e ▸ hO)), hq⟩
  -- the node behind
  have hsz' : arr'.size = arr.size := by simp [arr']; omega
  obtain ⟨m, hm⟩ : ∃ m, nd.kids = nd.kids.take c ++ (m ++ nd.kids.drop (c + n)) ∧ m.length = n := by
    refine ⟨(nd.kids.drop c).take n, ?_, by simp; omega⟩
    rw [← List.drop_drop, List.take_append_drop, List.take_append_drop]
  have hkids' := hkids
  rw [hm.1] at hkids'
  obtain ⟨vl, v2, fl, f2', ev1, ef1, rl, rest⟩ := RdL.split _ hkids'
  obtain ⟨vm, vr, fm, fr, ev2, ef2, rm, rr⟩ := RdL.split _ rest
  subst ev2; subst ef2
  have hvl : vl.length = c := by rw [rl.length]; simp; omega
  have hvm : vm.length = n := by rw [rm.length, hm.2]
  have eqarr : arr.toList.take nd.kids.length = vl ++ (vm ++ vr) := by
    rw [← hm.1] at ev1; exact ev1
  have earr' : arr'.toList.take ch'.length = vl ++ (us ++ vr) := by
    have hdrop : arr.toList = vl ++ (vm ++ vr) ++ arr.toList.drop nd.kids.length := by rw [← eqarr, List.take_append_drop]
    have htk : arr.toList.take c = vl := by
      rw [hdrop, List.append_assoc, List.take_left' hvl]
    have hdr2 : arr.toList.drop (c + us.length) = vr ++ arr.toList.drop nd.kids.length := by
      rw [hlus]
      conv => lhs; rw [hdrop]
      rw [List.append_assoc, List.append_assoc, ← List.append_assoc vl vm]
      rw [List.drop_left' (by simp [hvl, hvm])]
    have hl1 : (vl ++ (us ++ vr)).length = ch'.length := by
      rw [hlch']
      have := congrArg List.length eqarr
      simp at this ⊢
      omega
    simp only [arr', htk, hdr2]
    rw [show vl ++ us ++ (vr ++ arr.toList.drop nd.kids.length) = (vl ++ (us ++ vr)) ++ arr.toList.drop nd.kids.length by simp]
    rw [← hl1, List.take_left]
  have frm : ∀ {xs vs f}, RdL w O xs vs f → b' ∉ f → RdL (w.setRow b' arr') O xs vs f := fun hr hnb =>
    hr.frame (fun q hq => ⟨hother q (fun e => hnb (e ▸ hq)), (hr.fpO q hq).1⟩) hstill
  have sub1 : ∀ q, q ∈ fl ∨ q ∈ fm ∨ q ∈ fr → q ∈ fpk := by
    intro q hq; rw [ef1]; simp; rcases hq with h | h | h <;> simp [h]
  have rl' := frm rl fun hq => hbk (sub1 _ (.inl hq))
  have rr' := frm rr fun hq => hbk (sub1 _ (.inr (.inr hq)))
  have ru' := frm rus hbV
  have hch : ch' = nd.kids.take c ++ (U.cells ++ nd.kids.drop (c + n)) := by rw [hch', splice, hlen]
  have hnode' : RdL (w.setRow b' arr') O [nd'] [hdr] (b' :: ((fl ++ (fpV ++ fr)) ++ [])) := by
    refine RdL.oblk hh' hheap hO (by omega) ?_ .nil
    rw [earr', hch]
    exact rl'.append (ru'.append rr')
  simp only [List.append_nil] at hnode'
  have hrest : ∀ q ∈ f1 ++ f2, (w.setRow b' arr').heap[q]? = w.heap[q]? ∧ O q := by
    intro q hq
    have hqr : q ∈ fp1 r := by rw [efp]; simp at hq ⊢; rcases hq with h | h <;> simp [h]
    refine ⟨hother q ?_, (o1.sim.fpO r q hqr).1⟩
    rintro rfl
    rcases List.mem_append.1 hq with h | h
    · exact nd1.2.2 q h q (by simp [efu]) rfl
    · exact nd2'.2.2 q (by simp [efu]) q h rfl
  have hRT := hset (w.setRow b' arr') O T' nd' _ hT' hrest hstill hnode'
  have hbu : b' ∈ fu := by rw [efu]; simp
  have hknode := (setKids_step hnd').2.1
  have hsim := o1.sim.turn r (p.length + 1) T T' _ hT hstill (fun s hs q hq => ⟨hother q (by rintro rfl; exact hs (o1.sim.dj s r q hq hbr)), (o1.sim.fpO s q hq).1⟩) hRT
    (by
      have hV : ∀ q ∈ fpV, q ∉ fp1 r := fun q hq hq' => (dV q hq).2 ⟨r, hq'⟩
      have n1 : ∀ q, q ∈ f1 → q ∈ fp1 r := fun q hq => by rw [efp]; simp [hq]
      have n2 : ∀ q, q ∈ f2 → q ∈ fp1 r := fun q hq => by rw [efp]; simp [hq]
      have n3 : ∀ q, q ∈ fpk → q ∈ fp1 r := fun q hq => by rw [efp, efu]; simp [hq]
      have ndk : fpk.Nodup := (List.nodup_cons.1 ndu).2
      rw [ef1] at ndk
      have k1 := List.nodup_append.1 ndk
      have k2 := List.nodup_append.1 k1.2.1
      have inner : (b' :: (fl ++ (fpV ++ fr))).Nodup := by
        refine List.nodup_cons.2 ⟨?_, ?_⟩
        · simp only [List.mem_append, not_or]
          exact ⟨fun hq => hbk (sub1 _ (.inl hq)), hbV, fun hq => hbk (sub1 _ (.inr (.inr hq)))⟩
        · refine List.nodup_append.2 ⟨k1.1, List.nodup_append.2 ⟨nV, k2.2.1, ?_⟩, ?_⟩
          · rintro q hq q' hq' rfl; exact hV q hq (n3 q (sub1 q (.inr (.inr hq'))))
          · rintro q hq q' hq' rfl
            rcases List.mem_append.1 hq' with h | h
            · exact hV q h (n3 q (sub1 q (.inl hq)))
            · exact k1.2.2 q hq q (by simp [h]) rfl
      have mem : ∀ q, q ∈ b' :: (fl ++ (fpV ++ fr)) → q ∈ fu ∨ q ∈ fpV := by
        intro q hq
        simp only [List.mem_cons, List.mem_append] at hq
        rcases hq with h | h | h | h
        · exact .inl (by rw [h]; exact hbu)
        · exact .inl (by rw [efu]; simp [sub1 q (.inl h)])
        · exact .inr h
        · exact .inl (by rw [efu]; simp [sub1 q (.inr (.inr h))])
      refine List.nodup_append.2 ⟨nd1.1, List.nodup_append.2 ⟨inner, nd2'.2.1, ?_⟩, ?_⟩
      · rintro q hq q' hq' rfl
        rcases mem q hq with h | h
        · exact nd2'.2.2 q h q hq' rfl
        · exact hV q h (n2 q hq')
      · rintro q hq q' hq' rfl
        rcases List.mem_append.1 hq' with h | h
        · rcases mem q h with h | h
          · exact nd1.2.2 q hq q (by simp [h]) rfl
          · exact hV q h (n1 q hq)
        · exact nd1.2.2 q hq q (by simp [h]) rfl)
    (by
      intro q hq s hs hqs
      simp only [List.mem_append, List.mem_cons] at hq
      rcases hq with h | (h | h | h | h) | h
      · exact hs (o1.sim.dj s r q hqs (by rw [efp]; simp [h]))
      · exact hs (o1.sim.dj s r q hqs (by rw [h]; exact hbr))
      · exact hs (o1.sim.dj s r q hqs (by rw [efp, efu]; simp [sub1 q (.inl h)]))
      · exact (dV q h).2 ⟨s, hqs⟩
      · exact hs (o1.sim.dj s r q hqs (by rw [efp, efu]; simp [sub1 q (.inr (.inr h))]))
      · exact hs (o1.sim.dj s r q hqs (by rw [efp]; simp [h])))
    (by
      intro q u v hlt hq hvq
      obtain ⟨u2, h2, h3⟩ := sub_upd p q hq hnd hT' (by omega) (fun _ _ => by rw [hknode]; exact hnode)
      refine ⟨u2, h2, h3, ?_⟩
      rw [valAt_node p q hR (o1.sim.nd r) hnd hq (by omega) hval hru (fun z hz hzn => hother z (by rintro rfl; exact hzn hbu))]
      exact hvq)
  rw [← look_turnS hT] at hsim
  refine ⟨undef, w.setRow b' arr', O, vals, upF fp1 r (f1 ++ ((b' :: (fl ++ (fpV ++ fr))) ++ f2)), .inr ⟨?_, rfl⟩, ?_, ?_⟩
  · have hcs : (a.eval v').cells.size = fi.size := by rw [hcells]; simp; omega
    simp [execOp, ho, haddr, Instr.storeAt, Instr.sureAddr, storeVar, run_sizeOf' hi, hcells, hlus, hsz, hst]
    simp [arr', hlus]
  · rw [hd]
    exact ⟨hsim, o1.lo, o1.hi, o1.sz, o1.df⟩
  · refine ⟨rfl, rfl, rfl, by simp [World.setRow], ?_, ?_⟩
    · intro q _ hq
      exact ⟨hother q (by rintro rfl; exact hq (s1 _ ⟨r, hbr⟩)), .rfl⟩
    · rintro q ⟨s, hs⟩
      left
      simp only [upF] at hs
      split at hs
      · simp only [List.mem_append, List.mem_cons] at hs
        rcases hs with h | (h | h | h | h) | h
        · exact s1 q ⟨r, by rw [efp]; simp [h]⟩
        · exact s1 q ⟨r, by rw [h]; exact hbr⟩
        · exact s1 q ⟨r, by rw [efp, efu]; simp [sub1 q (.inl h)]⟩
        · exact (dV q h).1
        · exact s1 q ⟨r, by rw [efp, efu]; simp [sub1 q (.inr (.inr h))]⟩
        · exact s1 q ⟨r, by rw [efp]; simp [h]⟩
      · exact s1 q ⟨s, hs⟩

end Go.Proofs.Ythcnmahjhahafaa.Ax
