/-
  New memory: variables, slices, literals.
-/
import Derived.Test.YthcnmahjhahafaaAxI
import Derived.IntWalk
namespace Go.Proofs.Ythcnmahjhahafaa.Ax
open Go

/-- a new block, and a slot that owns it -/
theorem newblk {P : Program} {o : Oper} {σ1 a w w' O gv N vals} {fp fp1 : Nat → List Nat} {d : Nat} {U' : V} {hv : Value} {k : Nat} {ch : List V} {arr : Array Value} {e : TypeId} {fpV : List Nat}
    (h : Ok σ1 a w O gv N vals fp1) (hd : o.dst = some d) (hN : d < N) (hs : ∀ b, Sof fp1 b → Sof fp b) (hV : ∀ b ∈ fpV, Sof fp b ∧ ¬ Sof fp1 b) (hnd : fpV.Nodup)
    (hw : w'.heap = w.heap.push (.cells arr e)) (hos : w'.os = w.os) (htape : w'.tape = w.tape) (hout : w'.output = w.output)
    (hh : Hdr U' hv true w.heap.size 0 k ch) (hk : k ≤ arr.size) (hr : RdL w O ch (arr.toList.take ch.length) fpV)
    (hrun : (execOp a.eval o).run P w = .ok (.value hv) w') : StepOk P o (puts d (.val U') σ1) a w O gv N fp := by
  let O' : Nat → Prop := fun b => O b ∨ b = w.heap.size
  have hold : ∀ b, b < w.heap.size → w'.heap[b]? = w.heap[b]? := fun b hb => by rw [hw]; exact heap_push w _ b hb
  have hstill : Still w O w' O' := fun b hb hlt => ⟨hold b hlt, by simp [O']; exact ⟨hb, by omega⟩⟩
  have hlt1 : ∀ b, Sof fp1 b → O b ∧ b < w.heap.size := fun b ⟨s, hs⟩ => h.sim.fpO s b hs
  have o1 : Ok σ1 a w' O' gv N vals fp1 := h.world hstill fun b hb => ⟨hold b (hlt1 b hb).2, .inl (hlt1 b hb).1⟩
  have hVlt : ∀ b ∈ fpV, O b ∧ b < w.heap.size := hr.fpO
  have hr' : RdL w' O' ch (arr.toList.take ch.length) fpV := hr.frame (fun b hb => ⟨hold b (hVlt b hb).2, .inl (hVlt b hb).1⟩) hstill
  have hblk : w'.heap[w.heap.size]? = some (.cells arr e (0, 0)) := by rw [hw]; simp
  have hread : RdL w' O' [U'] [hv] (w.heap.size :: (fpV ++ [])) := .oblk hh hblk (.inr rfl) hk hr' .nil
  simp only [List.append_nil] at hread
  obtain ⟨fp', o2, s2⟩ := o1.put_own hN hread (List.nodup_cons.2 ⟨fun hb => by have := (hVlt _ hb).2; omega, hnd⟩) (by
    intro b hb hb1
    rcases List.mem_cons.1 hb with rfl | hb
    · have := (hlt1 _ hb1).2; omega
    · exact (hV b hb).2 hb1)
  refine ⟨hv, w', O', _, fp', .inl hrun, by rw [hd]; exact o2, ⟨hos, htape, hout, by rw [hw]; simp, ?_, ?_⟩⟩
  · intro b hb _
    exact ⟨hold b hb, by simp [O']; omega⟩
  · intro b hb
    rcases s2 b hb with h | h
    · exact .inl (hs b h)
    · rcases List.mem_cons.1 h with rfl | h
      · exact .inr (Nat.le_refl _)
      · exact .inl (hV b h).1

def boxS (d : Nat) (x : A) (σ : St) : Option St := match takeX σ x with
  | some (U, σ1) => if allCell U.cells then some (puts d (.val (.ptr true U)) σ1) else none
  | none => none

theorem box_ok {P : Program} {o : Oper} {σ σ' a w O gv N vals fp} {d : Nat} {t x x'} (h : Ok σ a w O gv N vals fp) (ho : o.op = .box t x') (hd : o.dst = some d) (hN : d < N)
    (hx : fitsX N x x' = true) (hs : boxS d (evalX σ x) σ = some σ') : StepOk P o σ' a w O gv N fp := by
  simp only [boxS] at hs
  split at hs
  case h_2 => cases hs
  rename_i U σ1 hU
  split at hs
  case isFalse => cases hs
  rename_i hc
  cases hs
  obtain ⟨fp1, fpV, o1, rV, nV, dV, s1⟩ := takeX_ok h (evalX_rel h hx) hU
  obtain ⟨us, hcells, rus⟩ := rd_cells rV hc
  have hl := rus.length
  exact newblk (w' := w.alloc (.cells us.toArray t)) (arr := us.toArray) (e := t) o1 hd hN s1 dV nV rfl rfl rfl rfl (.ptr true U w.heap.size 0) (by simp [hl]) (by simpa [hl] using (by rw [← hl]; simpa using rus))
    (by simp [execOp, ho, Instr.box, newVar, newRow, hcells])

def alcS (d : Nat) (z : V) (σ : St) : Option St := if allCell z.cells then some (puts d (.val (.ptr true z.up)) σ) else none

theorem alc_ok {P : Program} {o : Oper} {σ σ' a w O gv N vals fp} {d : Nat} {t z zv} {fi : TypeInfo} (h : Ok σ a w O gv N vals fp) (ho : o.op = .alloc t) (hd : o.dst = some d) (hN : d < N)
    (hi : P.info? t = some fi) (hz : fi.zero = some zv) (hc : cRd z zv = true) (hs : alcS d z σ = some σ') : StepOk P o σ' a w O gv N fp := by
  simp only [alcS] at hs
  split at hs
  case isFalse => cases hs
  rename_i hcell
  cases hs
  obtain ⟨rV, _⟩ := cRd_rd w O z zv hc
  obtain ⟨us, hcells, rus⟩ := rd_cells rV.up1 (by rw [up_cells]; unfold allCell at hcell ⊢; rw [upL_cellAll]; exact hcell)
  have hl := rus.length
  exact newblk (w' := w.alloc (.cells us.toArray t)) (arr := us.toArray) (e := t) (fpV := []) h hd hN (fun _ => id) (by simp) (by simp) rfl rfl rfl rfl (.ptr true z.up w.heap.size 0) (by simp [hl])
    (by simpa [hl] using (by rw [← hl]; simpa using rus)) (by simp [execOp, ho, Instr.alloc, zeroValue, typeInfo, hi, hz, newVar, newRow, hcells])

/-- how long a slice may become here -/
def LIM : Nat := 4294967296

theorem wrap_in {n : Int} (h0 : -9223372036854775808 ≤ n) (h1 : n ≤ 9223372036854775807) : IntKind.i64.wrap n = n := by
  exact IntWalk.i64_in n ⟨h0, h1⟩

def mkS (d m : Nat) (z : V) (x : A) (σ : St) : Option St := match x with
  | .val (.int _ n) => if 0 ≤ n ∧ n ≤ (LIM : Int) then some (puts d (.val (.sl true m (List.replicate n.toNat z.up))) σ) else none
  | _ => none

theorem flat_replicate (n : Nat) (z : V) : flat (List.replicate n z) = (List.replicate n z.cells).flatten := by
  induction n with
  | zero => rfl
  | succ n ih => simp [List.replicate_succ, flat, ih]

theorem rd_replicate {w O z zs} (h : RdL w O z zs []) (n : Nat) : RdL w O (List.replicate n z).flatten (List.replicate n zs).flatten [] := by
  induction n with
  | zero => exact .nil
  | succ n ih => simpa [List.replicate_succ] using h.append ih

theorem made_eq (zs : List Value) : ∀ n, (madeCells zs.toArray (n * zs.length)).toList = (List.replicate n zs).flatten := by
  intro n
  apply List.ext_getElem?
  intro i
  rcases Nat.eq_zero_or_pos zs.length with h0 | hpos
  · have : zs = [] := List.eq_nil_of_length_eq_zero h0
    subst this; simp [madeCells]
  · have hR : ∀ n i, (List.replicate n zs).flatten[i]? = if i < n * zs.length then zs[i % zs.length]? else none := by
      intro n
      induction n with
      | zero => intro i; simp
      | succ n ih =>
        intro i
        rw [List.replicate_succ, List.flatten_cons]
        rcases Nat.lt_or_ge i zs.length with h | h
        · rw [List.getElem?_append_left h, if_pos (by rw [Nat.succ_mul]; omega), Nat.mod_eq_of_lt h]
        · rw [List.getElem?_append_right h, ih]
          have e : i % zs.length = (i - zs.length) % zs.length := by rw [Nat.mod_eq_sub_mod h]
          rw [e]
          by_cases hlt : i - zs.length < n * zs.length
          · rw [if_pos hlt, if_pos (by rw [Nat.succ_mul]; omega)]
          · rw [if_neg hlt, if_neg (by rw [Nat.succ_mul]; omega)]
    rw [hR]
    simp only [madeCells, Array.toList_map, Array.toList_range, List.getElem?_map]
    by_cases hlt : i < n * zs.length
    · rw [if_pos hlt, List.getElem?_range hlt]
      have hm : i % zs.length < zs.length := Nat.mod_lt _ hpos
      simp [hm]
    · rw [if_neg hlt, List.getElem?_eq_none (by simpa using hlt)]; rfl

theorem mk_ok {P : Program} {o : Oper} {σ σ' a w O gv N vals fp} {d m : Nat} {t x x' e z zv} {fi : TypeInfo} (h : Ok σ a w O gv N vals fp) (ho : o.op = .makeSlice t x' x') (hd : o.dst = some d) (hN : d < N)
    (hx : fitsX N x x' = true) (hu : P.underlying t = some (.slice e)) (hi : P.info? e = some fi) (hsz : fi.size = m) (hz : fi.zero = some zv) (hc : cRd z zv = true) (hzc : allCell z.cells = true)
    (hzm : z.cells.length = m) (hby : fi.bytes ≤ 1024) (hs : mkS d m z (evalX σ x) σ = some σ') : StepOk P o σ' a w O gv N fp := by
  cases hcc : evalX σ x with
  | val v =>
    cases v with
    | int k n =>
      rw [hcc] at hs
      have hr := evalX_rel h hx
      rw [hcc] at hr
      have hv : a.eval x' = .int k n := by cases hr with | val _ hr _ => exact rd_leaf_int hr
      simp only [mkS] at hs
      split at hs
      case isFalse => cases hs
      rename_i hb
      cases hs
      simp only [LIM] at hb
      obtain ⟨rV, _⟩ := cRd_rd w O z zv hc
      replace rV := rV.up1
      replace hzc : allCell z.up.cells = true := by rw [up_cells]; unfold allCell at hzc ⊢; rw [upL_cellAll]; exact hzc
      replace hzm : z.up.cells.length = m := by rw [up_cells, upL_length]; exact hzm
      generalize z.up = z at rV hzc hzm ⊢
      obtain ⟨zs, hcells, rzs⟩ := rd_cells rV hzc
      have hzl : zs.length = m := by rw [rzs.length, hzm]
      have hbytes : (fi.bytes : Int) * n ≤ 281474976710656 := by
        have h1 : (fi.bytes : Int) ≤ 1024 := by omega
        calc (fi.bytes : Int) * n ≤ 1024 * n := Int.mul_le_mul_of_nonneg_right h1 hb.1
          _ ≤ 281474976710656 := by omega
      have hrun := run_make (P := P) w t e fi zv hu hi hz k k n n hb.1 (Int.le_refl _) hbytes (by omega)
      have hfl : (flat (List.replicate n.toNat z)).length = n.toNat * m := by
        rw [flat_replicate]; simp [hzm]
      have harr : (madeCells zv.cells (n.toNat * fi.size)).toList = (List.replicate n.toNat zs).flatten := by
        rw [hcells, hsz, ← hzl]; exact made_eq zs n.toNat
      have hsize : (madeCells zv.cells (n.toNat * fi.size)).size = n.toNat * m := by simp [madeCells, hsz]
      have hhdr := Hdr.sl true m (List.replicate n.toNat z) w.heap.size 0 n.toNat (by intro y hy; rw [(List.mem_replicate.1 hy).2]; exact hzm) (by simp)
      simp only [List.length_replicate] at hhdr
      refine newblk (w' := w.alloc (.cells (madeCells zv.cells (n.toNat * fi.size)) e)) (fpV := []) h hd hN (fun _ => id) (by simp) (by simp) rfl rfl rfl rfl hhdr (by rw [hsize]; omega) ?_
        (by simp [execOp, ho, hv, hrun])
      rw [harr, List.take_of_length_le (by rw [hfl, ← harr, Array.length_toList, hsize]; omega), flat_replicate]
      exact rd_replicate rzs n.toNat
    | _ => rw [hcc] at hs; simp [mkS] at hs
  | _ => rw [hcc] at hs; simp [mkS] at hs

end Go.Proofs.Ythcnmahjhahafaa.Ax
