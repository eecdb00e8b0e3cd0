/-
  append.
-/
import Derived.Test.YthcnmahjhahafaaAxK
namespace Go.Proofs.Ythcnmahjhahafaa.Ax
open Go

/-- within the capacity, in a block of whatever type -/
theorem run_append_in {P : Program} (w : World) (t ty e e' : TypeId) (i : TypeInfo) (ht : P.underlying t = some (.slice e)) (hi : P.info? e = some i)
    (g sLen sCap : Nat) (cur : Array Value) (hg : w.heap[g]? = some (.cells cur e' (0, 0)))
    (b : Value) (m : Nat) (news : List Value) (_hf : ∀ w, (Builtin.firstCells i.size m b).run P w = .ok news.toArray w → True)
    (hlen : (Builtin.lenOf b).run P w = .ok m w) (hfirst : (Builtin.firstCells i.size m b).run P w = .ok news.toArray w) (h1 : ∀ u ∈ news, u.oneCell' = true)
    (hroom : sLen + m ≤ sCap) (hfit : sLen * i.size + news.length ≤ cur.size) :
    (Builtin.append_ #[t, t] ty #[.slice (some ⟨g, 0, none⟩) sLen sCap, b]).run P w =
      .ok (.slice (some ⟨g, 0, none⟩) (sLen + m) sCap) (w.setRow g (cur.toList.take (sLen * i.size) ++ news ++ cur.toList.drop (sLen * i.size + news.length)).toArray) := by
  have hst := run_storeCells_at P g (sLen * i.size) e' news 0 cur w hg (by simpa using hfit) h1
  simp only [Nat.add_zero] at hst
  simp [Builtin.append_, run_underlying ht, Go.sizeOf, typeInfo, hi, hlen, hroom, hfirst, Addr.add_lit, hst]

/-- what is appended: its elements, without or with what they own -/
def yS (σ : St) (m : Nat) : A → Option (List V × St)
  | .val (.sl _ m' ys) => if m' = m then some (ys, σ) else none
  | .val (.nilsl _) => some ([], σ)
  | .ref r p => match nodeAt σ r p with
    | some (.sl o m' ys) => if o = true ∧ m' = m then (if anyOwn (flat ys) then (match takeA σ (.ref r p) with | some (_, σ1) => some (ys, σ1) | none => none) else some (ys, σ)) else none
    | _ => none
  | _ => none

theorem takeA_node {σ r p U σ1 u} (h : takeA σ (.ref r p) = some (U, σ1)) (hn : nodeAt σ r p = some u) : U = u := by
  unfold nodeAt at hn
  split at hn
  case h_2 => cases hn
  rename_i V hV
  cases p with
  | nil => simp [takeA, hV] at h; simp [sub] at hn; rw [← h.1, hn]
  | cons c p =>
    simp only [takeA, hV, hn] at h
    split at h
    · cases h; rfl
    · cases h

/-- the parts of a slice's elements -/
theorem rd_osl {w O m ys v fp} (h : RdL w O [.sl true m ys] [v] fp) : (ys = [] ∧ v = .slice none 0 0 ∧ fp = []) ∨ ∃ b cap arr e fpk, v = .slice (some ⟨b, 0, none⟩) ys.length cap ∧ w.heap[b]? = some (.cells arr e (0, 0)) ∧ ys.length ≤ cap ∧ cap * m ≤ arr.size ∧
    (∀ y ∈ ys, y.cells.length = m) ∧ RdL w O (flat ys) (arr.toList.take (flat ys).length) fpk ∧ fp = b :: fpk ∧ O b := by
  rcases rd_node h rfl with ⟨m', e1, e2, e3⟩ | ⟨b, k, arr, e, f1, hh, hb, hO, hk, hr, rfl⟩
  · cases e1; exact .inl ⟨rfl, e2, e3⟩
  cases hh with
  | sl _ _ _ _ _ cap hm hcap => exact .inr ⟨b, cap, arr, e, f1, rfl, hb, hcap, hk, hm, hr, rfl, hO⟩

theorem flat_length {m : Nat} : ∀ {ys : List V}, (∀ y ∈ ys, y.cells.length = m) → (flat ys).length = ys.length * m := by
  intro ys
  induction ys with
  | nil => intro _; simp [flat]
  | cons y r ih =>
    intro h
    simp only [flat, List.length_append, List.length_cons]
    rw [h y (by simp), ih fun z hz => h z (by simp [hz]), Nat.succ_mul]; omega

theorem anyOwn_flat {xs : List V} (h : anyOwn xs = false) : anyOwn (flat xs) = false := by
  induction xs with
  | nil => rfl
  | cons x r ih =>
    simp [anyOwn] at h
    simp only [flat, anyOwn_append, ih h.2, Bool.or_false]
    cases x <;> simp [V.cells, anyOwn] <;> first | exact h.1 | (simpa [V.hasOwn] using h.1)

theorem rd_fsl_all {w O o m ys v fp} (h : RdL w O [.sl o m ys] [v] fp) (ho : o = false) :
    ∃ q c us, v = .slice q ys.length c ∧ RdL w O (flat ys) us [] ∧ (∀ z ∈ ys, z.cells.length = m) ∧
      ((ys = [] ∧ us = []) ∨ ∃ b, q = some b ∧ ∀ j u, us[j]? = some u → w.cell? (b.add j) = some u) := by
  subst ho
  cases h with
  | leaf hl _ => cases hl <;> exact ⟨_, _, [], rfl, .nil, by simp, .inl ⟨rfl, rfl⟩⟩
  | grp hg _ _ => cases hg
  | oblk hh _ _ _ _ _ => cases hh
  | fblk hh hc hO s t =>
    cases hh with
    | sl _ _ _ b off cap hm hcap =>
      refine ⟨_, _, _, rfl, s, hm, .inr ⟨_, rfl, ?_⟩⟩
      intro j u hj
      rw [add_none, hc j (List.getElem?_eq_some_iff.1 hj).1]; exact hj

theorem osl_cells {w : World} {b : Nat} {arr : Array Value} {e : TypeId} {n : Nat} (hb : w.heap[b]? = some (.cells arr e (0, 0))) :
    ∀ j u, (arr.toList.take n)[j]? = some u → w.cell? ((⟨b, 0, none⟩ : Addr).add j) = some u := by
  intro j u hj
  rw [List.getElem?_take] at hj
  split at hj
  · rw [add_none, Nat.zero_add]; simp only [World.cell?, hb]; simpa using hj
  · cases hj

theorem yS_ok {σ a w O gv N vals fp m y v ys σ'} (h : Ok σ a w O gv N vals fp) (hr : RelL w O (look σ) vals [y] [v]) (hy : yS σ m y = some (ys, σ')) :
    ∃ fp' fpY us, Ok σ' a w O gv N vals fp' ∧ RdL w O (flat ys) us fpY ∧ fpY.Nodup ∧ (∀ b ∈ fpY, Sof fp b ∧ ¬ Sof fp' b) ∧ (∀ b, Sof fp' b → Sof fp b) ∧
      (∀ z ∈ ys, z.cells.length = m) ∧ ∃ q c, v = .slice q ys.length c ∧ ((ys = [] ∧ us = []) ∨ ∃ b, q = some b ∧ ∀ j u, us[j]? = some u → w.cell? (b.add j) = some u) := by
  unfold yS at hy
  split at hy
  · rename_i o m' ys'
    split at hy
    case isFalse => cases hy
    rename_i hm
    cases hy
    subst hm
    cases hr with
    | val hn hr _ =>
      obtain ⟨q, c, us, hv, h1, h2, h3⟩ := rd_fsl_all hr (by simpa [V.hasOwn] using hn)
      exact ⟨fp, [], us, h, h1, by simp, by simp, fun _ => id, h2, q, c, hv, h3⟩
  · cases hy
    cases hr with
    | val hn hr _ => exact ⟨fp, [], [], h, .nil, by simp, by simp, fun _ => id, by simp, none, 0, by rw [rd_nilsl hr]; rfl, .inl ⟨rfl, rfl⟩⟩
  · rename_i r p
    split at hy
    case h_2 => cases hy
    rename_i o m' ys' hnode
    split at hy
    case isFalse => cases hy
    rename_i hc
    obtain ⟨rfl, rfl⟩ := hc
    split at hy
    · rename_i hown
      split at hy
      case h_2 => cases hy
      rename_i U σ1 ht
      cases hy
      have hU := takeA_node ht hnode
      subst hU
      obtain ⟨fp', fpV, o1, rV, nV, dV, s1⟩ := takeA_ok h (rel_pre hr rfl).1 ht
      rcases rd_osl rV with ⟨rfl, hv, rfl⟩ | ⟨b, cap, arr, e, fpk, hv, hb, hcap, hk, hm, hf, rfl, hO⟩
      · simp [flat, anyOwn] at hown
      exact ⟨fp', fpk, _, o1, hf, (List.nodup_cons.1 nV).2, fun q hq => dV q (by simp [hq]), s1, hm, _, _, hv, .inr ⟨_, rfl, osl_cells hb⟩⟩
    · rename_i hown
      cases hy
      cases hr with
      | @ref _ _ V u _ _ _ hL hs hv _ =>
        simp only [nodeAt, hL, hs, Option.some.injEq] at hnode
        subst hnode
        obtain ⟨z, f1, fu, f2, _, hz, hru, _⟩ := ctx p (h.sim.own r V hL) hs
        rw [hv] at hz; cases hz
        rcases rd_osl hru with ⟨rfl, hv', rfl⟩ | ⟨b, cap, arr, e, fpk, hv', hb, hcap, hk, hm, hf, rfl, hO⟩
        · exact ⟨fp, [], [], h, .nil, by simp, by simp, fun _ => id, by simp, none, 0, hv', .inl ⟨rfl, rfl⟩⟩
        have : fpk = [] := hf.noOwn (by simpa using hown)
        subst this
        exact ⟨fp, [], _, h, hf, by simp, by simp, fun _ => id, hm, _, _, hv', .inr ⟨_, rfl, osl_cells hb⟩⟩
  · cases hy

def appS (d m : Nat) (x y : X) (σ : St) : Option St := match yS σ m (evalX σ y) with
  | some (ys, σ1) => match takeX σ1 (evalX σ1 x) with
    | some (.sl o m' xs, σ2) => if o = true ∧ m' = m ∧ allCell (flat ys) = true ∧ xs.length + ys.length ≤ LIM then some (puts d (.val (.sl true m (xs ++ ys))) σ2) else none
    | _ => none
  | none => none

theorem firstCells_of {P : Program} {w : World} {size n : Nat} {q : Option Addr} {c : Nat} {us : List Value} {ys : List V} (hl : us.length = n * size) (hn : ys.length = n)
    (h : (ys = [] ∧ us = []) ∨ ∃ b, q = some b ∧ ∀ j u, us[j]? = some u → w.cell? (b.add j) = some u) :
    (Builtin.firstCells size n (.slice q n c)).run P w = .ok us.toArray w := by
  rcases h with ⟨rfl, rfl⟩ | ⟨b, rfl, hc⟩
  · simp at hn; subst hn
    cases q with
    | none => simp [Builtin.firstCells]
    | some b => simp [Builtin.firstCells, loadCells, loadCellsFrom]
  · exact run_firstCells_some (P := P) w size n b n c us hl hc

theorem app_ok {P : Program} {o : Oper} {σ σ' a w O gv N vals fp} {d m : Nat} {t e x x' y y'} {fi : TypeInfo} {z : Value} (h : Ok σ a w O gv N vals fp)
    (ho : o.op = .call { callee := .builtin .append, args := #[x', y'], argTypes := #[t, t] }) (hd : o.dst = some d) (hN : d < N) (hx : fitsX N x x' = true) (hy : fitsX N y y' = true)
    (hu : P.underlying t = some (.slice e)) (hi : P.info? e = some fi) (hsz : fi.size = m) (hz : fi.zero = some z) (hzs : z.cells.size = m) (hby : fi.bytes ≤ 1024)
    (hs : appS d m x y σ = some σ') : StepOk P o σ' a w O gv N fp := by
  simp only [appS] at hs
  split at hs
  case h_2 => cases hs
  rename_i ys σ1 hY
  obtain ⟨fp1, fpY, us, o1, rY, nY, dY, s1, hmY, q, cy, hvy, hcy⟩ := yS_ok h (evalX_rel h hy) hY
  have hul : us.length = ys.length * m := by rw [rY.length, flat_length hmY]
  have hfirst : ∀ n, n = ys.length → (Builtin.firstCells fi.size n (.slice q n cy)).run P w = .ok us.toArray w := by
    rintro n rfl; rw [hsz]; exact firstCells_of hul rfl hcy
  have hlenof : (Builtin.lenOf (.slice q ys.length cy)).run P w = .ok ys.length w := by simp [Builtin.lenOf]
  have hexec : ∀ r w', (Builtin.append_ #[t, t] o.type #[a.eval x', a.eval y']).run P w = .ok r w' → (execOp a.eval o).run P w = .ok (.value r) w' := by
    intro r w' hrun
    simp [execOp, ho, resolve, invoke, builtin, hrun]
  split at hs
  · -- onto a slice of one's own
    rename_i oo m' xs σ2 hX
    split at hs
    case isFalse => cases hs
    rename_i hcond
    obtain ⟨rfl, rfl, hcell, hlim⟩ := hcond
    cases hs
    simp only [LIM] at hlim
    obtain ⟨fp2, fpX, o2, rX, nX, dX, s2⟩ := takeX_ok o1 (evalX_rel o1 hx) hX
    rcases rd_osl rX with ⟨rfl, hvx, efx⟩ | ⟨b, cap, arr, e', fpk, hvx, hb, hcap, hk, hmX, hf, efx, hO⟩
    · -- onto nil
      simp only [List.nil_append]
      by_cases he : ys = []
      · subst he
        have hus : us = [] := by simpa using hul
        subst hus
        obtain ⟨fp3, o3, s3⟩ := o2.put_own hN (x := .sl true m' []) (v := .slice none 0 0) (fpn := []) (.leaf (.nils1 m') .nil) (by simp) (by simp)
        have hf := hfirst 0 (by simp)
        simp only [List.length_nil] at hvy hlenof
        refine ⟨_, w, O, _, fp3, .inl (hexec (.slice none 0 0) w ?_), by rw [hd]; exact o3, (Mv.refl w O _).shrink fun q hq => s1 q (s2 q ((s3 q hq).resolve_right (by simp)))⟩
        rw [hvx, hvy]
        simp [Builtin.append_, run_underlying hu, Go.sizeOf, typeInfo, hi, hlenof, hf]
      · obtain ⟨ab, rfl, hcy'⟩ := hcy.resolve_left (fun h => he h.1)
        have hpos : 0 < ys.length := List.length_pos_iff.2 he
        have hlim' : ys.length ≤ 4294967296 := by simpa using hlim
        have hrun := run_append_nil (P := P) w t o.type e fi z hu hi hz ab ys.length cy us (by rw [hul, hsz]) hcy' hpos (by omega) (by
          calc ys.length * fi.bytes ≤ 4294967296 * 1024 := Nat.mul_le_mul hlim' hby
            _ ≤ 281474976710656 := by omega)
        rw [← hvx, ← hvy] at hrun
        have hcapge := grownCap_ge w ys.length 0 e
        have hh := Hdr.sl true m' ys w.heap.size 0 (grownCap w ys.length 0 e) hmY hcapge
        refine newblk (w' := w.drew.alloc (.cells (us.toArray ++ Builtin.zeroCells z.cells (grownCap w ys.length 0 e - ys.length)) e)) (fpV := fpY) o2 hd hN (fun q hq => s1 q (s2 q hq)) (fun q hq => ⟨(dY q hq).1, fun h2 => (dY q hq).2 (s2 q h2)⟩) nY rfl rfl rfl rfl hh ?_ ?_ (hexec _ _ hrun)
        · simp only [Array.size_append, List.size_toArray, hul, size_zeroCells, hzs, ← Nat.add_mul]
          exact Nat.mul_le_mul_right _ (by omega)
        · have hl1 : us.length = (flat ys).length := by rw [hul, flat_length hmY]
          simp only [Array.toList_append]
          rw [← hl1, List.take_left]
          exact rY
    subst efx
    have hbk := (List.nodup_cons.1 nX).1
    have ndk := (List.nodup_cons.1 nX).2
    have hxl : (flat xs).length = xs.length * m' := flat_length hmX
    have h1 := rd_oneCell rY hcell
    have hflat : (flat (xs ++ ys)).length = (xs.length + ys.length) * m' := by rw [flat_append, List.length_append, hxl, flat_length hmY, Nat.add_mul]
    have hmXY : ∀ z ∈ xs ++ ys, z.cells.length = m' := fun z hz => (List.mem_append.1 hz).elim (hmX z) (hmY z)
    have hXYd : ∀ q ∈ fpk, q ∉ fpY := fun q hq hq' => (dY q hq').2 (dX q (by simp [hq])).1
    have hbY : b ∉ fpY := fun hq => (dY b hq).2 (dX b (by simp)).1
    have hYfp2 : ∀ q ∈ fpY, ¬ Sof fp2 q := fun q hq h2 => (dY q hq).2 (s2 q h2)
    by_cases hroom : xs.length + ys.length ≤ cap
    · -- in place
      have hfit : xs.length * fi.size + us.length ≤ arr.size := by
        rw [hsz, hul, ← Nat.add_mul]
        exact Nat.le_trans (Nat.mul_le_mul_right _ hroom) hk
      have hrun := run_append_in (P := P) w t o.type e e' fi hu hi b xs.length cap arr hb (.slice q ys.length cy) ys.length us (fun _ _ => trivial) hlenof (hfirst _ rfl) h1 hroom hfit
      rw [← hvx, ← hvy] at hrun
      let arr' : Array Value := (arr.toList.take (xs.length * fi.size) ++ us ++ arr.toList.drop (xs.length * fi.size + us.length)).toArray
      have hheap : (w.setRow b arr').heap[b]? = some (.cells arr' e' (0, 0)) := setRow_heap w b arr arr' e' (0, 0) hb
      have hother : ∀ q, q ≠ b → (w.setRow b arr').heap[q]? = w.heap[q]? := fun q hq => setRow_other w b q arr' hq
      have hstill : Still w O (w.setRow b arr') O := fun q hq _ => ⟨hother q (fun e => hq (e ▸ hO)), hq⟩
      have hsz' : arr'.size = arr.size := by simp [arr']; omega
      have frm : ∀ {xs vs f}, RdL w O xs vs f → b ∉ f → RdL (w.setRow b arr') O xs vs f := fun hr hnb =>
        hr.frame (fun q hq => ⟨hother q (fun e => hnb (e ▸ hq)), (hr.fpO q hq).1⟩) hstill
      have htake : arr'.toList.take (flat (xs ++ ys)).length = arr.toList.take (flat xs).length ++ us := by
        have hl1 : (arr.toList.take (xs.length * m') ++ us).length = (flat (xs ++ ys)).length := by
          rw [hflat, List.length_append, List.length_take, hul, Nat.add_mul]
          simp; rw [hsz, hul] at hfit; omega
        simp only [arr', hsz, hxl]
        rw [← hl1, List.take_left]
      have hread : RdL (w.setRow b arr') O [.sl true m' (xs ++ ys)] [.slice (some ⟨b, 0, none⟩) (xs.length + ys.length) cap] (b :: ((fpk ++ fpY) ++ [])) := by
        have hh := Hdr.sl true m' (xs ++ ys) b 0 cap hmXY (by simpa using hroom)
        simp only [List.length_append] at hh
        refine .oblk hh hheap hO (by omega) ?_ .nil
        rw [htake, flat_append]
        exact (frm hf hbk).append (frm rY hbY)
      simp only [List.append_nil] at hread
      have o3 : Ok σ2 a (w.setRow b arr') O gv N vals fp2 := o2.world hstill fun q hq => by
        have hqb : q ≠ b := by rintro rfl; exact (dX _ (by simp)).2 hq
        obtain ⟨s, hs⟩ := hq
        exact ⟨hother q hqb, (o2.sim.fpO s q hs).1⟩
      obtain ⟨fp3, o4, s4⟩ := o3.put_own hN hread (by
        refine List.nodup_cons.2 ⟨by simp [hbk, hbY], List.nodup_append.2 ⟨ndk, nY, ?_⟩⟩
        rintro q hq q' hq' rfl; exact hXYd q hq hq') (by
        intro q hq
        simp only [List.mem_cons, List.mem_append] at hq
        rcases hq with rfl | hq | hq
        · exact (dX _ (by simp)).2
        · exact (dX q (by simp [hq])).2
        · exact hYfp2 q hq)
      refine ⟨_, _, O, _, fp3, .inl (hexec _ _ hrun), by rw [hd]; exact o4, ⟨rfl, rfl, rfl, by simp [World.setRow], ?_, ?_⟩⟩
      · intro q _ hq
        exact ⟨hother q (by rintro rfl; exact hq (s1 _ (dX _ (by simp)).1)), .rfl⟩
      · intro q hq
        left
        rcases s4 q hq with h | h
        · exact s1 q (s2 q h)
        · simp only [List.mem_cons, List.mem_append] at h
          rcases h with rfl | h | h
          · exact s1 _ (dX _ (by simp)).1
          · exact s1 _ (dX q (by simp [h])).1
          · exact (dY q h).1
    · -- a new block
      have holds : ∀ j u, (arr.toList.take (flat xs).length)[j]? = some u → w.cell? ((⟨b, 0, none⟩ : Addr).add j) = some u := osl_cells hb
      have hne : ys ≠ [] := by rintro rfl; simp at hroom; omega
      obtain ⟨ab, rfl, hcy'⟩ := hcy.resolve_left (fun h => hne h.1)
      have hlt : (arr.toList.take (flat xs).length).length = xs.length * fi.size := by
        rw [hf.length, hxl, hsz]
      have hrun := run_append_grow (P := P) w t o.type e fi z hu hi hz ⟨b, 0, none⟩ xs.length cap _ hlt holds ab ys.length cy us (by rw [hul, hsz]) hcy' (by omega) (by omega)
        (growslice_fits (by omega) (by
          calc (xs.length + ys.length) * fi.bytes ≤ 4294967296 * 1024 := Nat.mul_le_mul hlim hby
            _ ≤ 140737488355328 := by omega))
      rw [← hvx, ← hvy] at hrun
      have hcapge := grownCap_ge w (xs.length + ys.length) cap e
      have hh := Hdr.sl true m' (xs ++ ys) w.heap.size 0 (grownCap w (xs.length + ys.length) cap e) hmXY (by simpa using hcapge)
      simp only [List.length_append] at hh
      have hlist : ∀ zs : Array Value, ((arr.toList.take (flat xs).length).toArray ++ us.toArray ++ zs).toList.take (flat (xs ++ ys)).length = arr.toList.take (flat xs).length ++ us := by
        intro zs
        have hl1 : (arr.toList.take (flat xs).length ++ us).length = (flat (xs ++ ys)).length := by
          rw [List.length_append, hlt, hul, hflat, hsz, Nat.add_mul]
        simp only [Array.toList_append, List.append_assoc]
        rw [← List.append_assoc, ← hl1, List.take_left]
      refine newblk (w' := w.drew.alloc (.cells ((arr.toList.take (flat xs).length).toArray ++ us.toArray ++ Builtin.zeroCells z.cells (grownCap w (xs.length + ys.length) cap e - (xs.length + ys.length))) e)) (fpV := fpk ++ fpY) o2 hd hN (fun q hq => s1 q (s2 q hq)) ?_ (List.nodup_append.2 ⟨ndk, nY, ?_⟩) rfl rfl rfl rfl hh ?_ ?_ (hexec _ _ hrun)
      · intro q hq
        rcases List.mem_append.1 hq with hq | hq
        · exact ⟨s1 _ (dX q (by simp [hq])).1, (dX q (by simp [hq])).2⟩
        · exact ⟨(dY q hq).1, hYfp2 q hq⟩
      · rintro q hq q' hq' rfl; exact hXYd q hq hq'
      · simp only [Array.size_append, List.size_toArray, hlt, hul, hsz, size_zeroCells, hzs, ← Nat.add_mul]
        exact Nat.mul_le_mul_right _ (by omega)
      · rw [hlist, flat_append]
        exact hf.append rY
  · cases hs

end Go.Proofs.Ythcnmahjhahafaa.Ax
