/-
  Literals, append, fields, function values.
-/
import Derived.Test.YthcnmahjhahafaaAxJ
import Derived.Great.BuildSlice
namespace Go.Proofs.Ythcnmahjhahafaa.Ax
open Go

theorem fold_splice : ∀ (us : List Value) (k off : Nat) (cells : Array Value), off + k + us.length ≤ cells.size →
    ((us.zipIdx k).foldl (fun (cs : Array Value) (x : Value × Nat) => cs.setIfInBounds (off + x.2) x.1) cells).toList = splice cells.toList (off + k) us := by
  intro us
  induction us with
  | nil => intro k off cells _; simp [splice]
  | cons u r ih =>
    intro k off cells h
    simp only [List.zipIdx_cons, List.foldl_cons]
    simp at h
    rw [ih (k + 1) off _ (by simp; omega)]
    simp only [splice, Array.toList_setIfInBounds, List.length_cons]
    have hlt : off + k < cells.toList.length := by simp; omega
    rw [List.set_eq_take_append_cons_drop, if_pos hlt]
    have e1 : off + (k + 1) = off + k + 1 := by omega
    rw [e1]
    have hl : (cells.toList.take (off + k)).length = off + k := by simp; omega
    rw [List.take_append, List.drop_append, hl]
    rw [List.take_of_length_le (l := cells.toList.take (off + k)) (by omega), List.drop_eq_nil_of_le (as := cells.toList.take (off + k)) (by omega)]
    simp only [Nat.add_sub_cancel_left]
    rw [show off + k + 1 + r.length - (off + k) = r.length + 1 by omega]
    simp only [List.take_succ_cons, List.take_zero, List.drop_succ_cons, List.drop_drop, List.nil_append, List.append_assoc, List.cons_append]
    congr 4; omega

theorem fill_cons {place : Nat → Option (Nat × Nat)} {cells : Array Value} {i off size : Nat} {v : Value} {rest : List (Nat × Value)} (hp : place i = some (off, size)) (hs : v.cells.size = size)
    (hl : off + size ≤ cells.size) : ∃ cells', Instr.fill place cells ((i, v) :: rest) = Instr.fill place cells' rest ∧ cells'.toList = splice cells.toList off v.cells.toList ∧ cells'.size = cells.size := by
  refine ⟨v.cells.zipIdx.foldl (fun cs (c, j) => cs.setIfInBounds (off + j) c) cells, ?_, ?_, ?_⟩
  · simp only [Instr.fill, hp]
    rw [if_neg (by simp [hs]; omega)]
  · rw [← Array.foldl_toList, Array.toList_zipIdx]
    have := fold_splice v.cells.toList 0 off cells (by simp [hs]; omega)
    simpa using this
  · have := fold_splice v.cells.toList 0 off cells (by simp [hs]; omega)
    rw [← Array.foldl_toList, Array.toList_zipIdx]
    rw [← Array.length_toList]
    have h2 := congrArg List.length this
    rw [splice_length (by simp [hs]; omega)] at h2
    simpa using h2

theorem fill_seq (size : Nat) : ∀ (vs : List Value) (k : Nat) (cells : Array Value), (∀ v ∈ vs, v.cells.size = size) → (k + vs.length) * size ≤ cells.size →
    ∃ cells', Instr.fill (fun i => some (i * size, size)) cells ((List.range' k vs.length).zip vs) = some cells' ∧
      cells'.toList = splice cells.toList (k * size) (vs.map (·.cells.toList)).flatten := by
  intro vs
  induction vs with
  | nil => intro k cells _ _; exact ⟨cells, rfl, by simp [splice]⟩
  | cons v r ih =>
    intro k cells hv hl
    simp only [List.length_cons] at hl
    have hk : k * size + size ≤ cells.size := by
      have : (k + 1) * size ≤ (k + (r.length + 1)) * size := Nat.mul_le_mul_right _ (by omega)
      rw [Nat.succ_mul] at this; omega
    obtain ⟨c1, h1, h2, h3⟩ := fill_cons (place := fun i => some (i * size, size)) (cells := cells) (i := k) (v := v) (rest := (List.range' (k + 1) r.length).zip r) rfl (hv v (by simp)) hk
    obtain ⟨c2, h4, h5⟩ := ih (k + 1) c1 (fun u hu => hv u (by simp [hu])) (by rw [h3]; rw [show k + 1 + r.length = k + (r.length + 1) by omega]; exact hl)
    refine ⟨c2, ?_, ?_⟩
    · rw [List.length_cons, List.range'_succ, List.zip_cons_cons, h1, h4]
    · rw [h5, h2]
      have hvl : v.cells.toList.length = size := by simp [hv v (by simp)]
      simp only [splice, List.map_cons, List.flatten_cons, List.length_append, hvl]
      have hl1 : (cells.toList.take (k * size)).length = k * size := by simp; omega
      rw [List.take_append, List.drop_append, hl1, List.take_of_length_le (l := cells.toList.take (k * size)) (by rw [hl1, Nat.succ_mul]; omega),
        List.drop_eq_nil_of_le (as := cells.toList.take (k * size)) (by rw [hl1, Nat.succ_mul]; omega)]
      rw [show (k + 1) * size - k * size = size by rw [Nat.succ_mul]; omega]
      rw [List.take_append, hvl, List.take_of_length_le (l := v.cells.toList) (by omega), Nat.sub_self, List.take_zero, List.append_nil]
      rw [show ∀ q, (k + 1) * size + q - k * size = size + q from fun q => by rw [Nat.succ_mul]; omega]
      rw [List.drop_append, hvl, List.drop_eq_nil_of_le (as := v.cells.toList) (by omega), Nat.add_sub_cancel_left]
      simp only [List.nil_append, List.drop_drop, List.append_assoc]
      have e : ∀ q, k * size + size + q = k * size + (size + q) := fun q => by omega
      rw [e]

/-- values taken one behind the other -/
def takeXs (σ : St) : List A → Option (List V × St)
  | [] => some ([], σ)
  | a :: r => match takeX σ a with
    | some (v, σ1) => match takeXs σ1 r with
      | some (vs, σ2) => some (v :: vs, σ2)
      | none => none
    | none => none

theorem takeXs_ok {a w O gv N vals L} : ∀ {as : List A} {σ vs fp Us σ'}, Ok σ a w O gv N vals fp → RelL w O L vals as vs → takeXs σ as = some (Us, σ') →
    ∃ fp' fpV, Ok σ' a w O gv N vals fp' ∧ RdL w O Us vs fpV ∧ fpV.Nodup ∧ (∀ b ∈ fpV, Sof fp b ∧ ¬ Sof fp' b) ∧ (∀ b, Sof fp' b → Sof fp b) := by
  intro as
  induction as with
  | nil =>
    intro σ vs fp Us σ' h hr ht
    simp [takeXs] at ht; obtain ⟨rfl, rfl⟩ := ht
    cases hr
    exact ⟨fp, [], h, .nil, by simp, by simp, fun _ => id⟩
  | cons x r ih =>
    intro σ vs fp Us σ' h hr ht
    simp only [takeXs] at ht
    split at ht
    case h_2 => cases ht
    rename_i U σ1 h1
    split at ht
    case h_2 => cases ht
    rename_i Us' σ2 h2
    cases ht
    have hlen := hr.length
    match vs, hlen with
    | v :: vs, _ =>
      have hr1 : RelL w O L vals [x] [v] ∧ RelL w O L vals r vs := by
        cases hr with
        | top t => exact ⟨.top .nil, t⟩
        | val a b t => exact ⟨.val a b .nil, t⟩
        | ref a b c t => exact ⟨.ref a b c .nil, t⟩
        | addr a b c d e t => exact ⟨.addr a b c d e .nil, t⟩
        | fad a b c t => exact ⟨.fad a b c .nil, t⟩
        | agg s t => exact ⟨.agg s .nil, t⟩
        | clo s t => exact ⟨.clo s .nil, t⟩
      obtain ⟨fp1, f1, o1, r1, n1, d1, s1⟩ := takeX_ok h hr1.1 h1
      obtain ⟨fp2, f2, o2, r2, n2, d2, s2⟩ := ih o1 hr1.2 h2
      refine ⟨fp2, f1 ++ f2, o2, r1.append r2, ?_, ?_, fun b hb => s1 b (s2 b hb)⟩
      · refine List.nodup_append.2 ⟨n1, n2, ?_⟩
        rintro b hb c hc rfl
        exact (d1 b hb).2 (d2 b hc).1
      · intro b hb
        rcases List.mem_append.1 hb with hb | hb
        · exact ⟨(d1 b hb).1, fun hh => (d1 b hb).2 (s2 b hh)⟩
        · exact ⟨s1 b (d2 b hb).1, (d2 b hb).2⟩

/-- all are values of m cells -/
def allLen (m : Nat) : List V → Bool
  | [] => true
  | u :: r => decide (u.cells.length = m) && allCell u.cells && allLen m r

theorem rd_flat {w O m} : ∀ {Us vs fp}, RdL w O Us vs fp → allLen m Us = true → ∃ us, (vs.map (·.cells.toList)).flatten = us ∧ RdL w O (flat Us) us fp ∧ (∀ v ∈ vs, v.cells.size = m) ∧
    us.length = Us.length * m ∧ (∀ u ∈ Us, u.cells.length = m) := by
  intro Us
  induction Us with
  | nil => intro vs fp h _; cases h; exact ⟨[], rfl, .nil, by simp, by simp, by simp⟩
  | cons x r ih =>
    intro vs fp h ha
    simp only [allLen, Bool.and_eq_true, decide_eq_true_eq] at ha
    obtain ⟨v, vs2, f1, f2, rfl, rfl, h1, h2⟩ := h.cons_split
    obtain ⟨us, hc, hr⟩ := rd_cells h1 ha.1.2
    obtain ⟨us2, e2, r2, m2, l2, c2⟩ := ih h2 ha.2
    have hul : us.length = m := by rw [hr.length, ha.1.1]
    refine ⟨us ++ us2, by simp [hc, e2], hr.append r2, ?_, ?_, ?_⟩
    · intro u hu
      rcases List.mem_cons.1 hu with rfl | hu
      · simp [hc, hul]
      · exact m2 u hu
    · rw [List.length_append, hul, l2, List.length_cons, Nat.succ_mul]; omega
    · intro u hu
      rcases List.mem_cons.1 hu with rfl | hu
      · exact ha.1.1
      · exact c2 u hu

def bslS (d m : Nat) (xs : List A) (σ : St) : Option St := match takeXs σ xs with
  | some (Us, σ1) => if allLen m Us then some (puts d (.val (.sl true m Us)) σ1) else none
  | none => none

def fitsXs (N : Nat) : List X → List Operand → Bool
  | [], [] => true
  | x :: xs, o :: os => fitsX N x o && fitsXs N xs os
  | _, _ => false

theorem evalXs_rel {σ a w O gv N vals fp} (h : Ok σ a w O gv N vals fp) : ∀ {xs : List X} {os : List Operand}, fitsXs N xs os = true → RelL w O (look σ) vals (xs.map (evalX σ)) (os.map a.eval) := by
  intro xs
  induction xs with
  | nil => intro os hf; cases os <;> simp [fitsXs] at hf; exact .nil
  | cons x r ih =>
    intro os hf
    cases os with
    | nil => simp [fitsXs] at hf
    | cons o os =>
      simp only [fitsXs, Bool.and_eq_true] at hf
      exact (evalX_rel h hf.1).cons_join (ih hf.2)

theorem bsl_ok {P : Program} {o : Oper} {σ σ' a w O gv N vals fp} {d m : Nat} {t e} {n : Nat} {xs : List X} {parts : Array (Nat × Operand)} {fi : TypeInfo} {z : Value} (h : Ok σ a w O gv N vals fp)
    (ho : o.op = .buildSlice t n parts) (hd : o.dst = some d) (hN : d < N) (hp1 : parts.toList.map (·.1) = List.range n) (hp2 : fitsXs N xs (parts.toList.map (·.2)) = true)
    (hu : P.underlying t = some (.slice e)) (hi : P.info? e = some fi) (hsz : fi.size = m) (hz : fi.zero = some z) (hm : 0 < m) (hsmall : n * m ≤ 16777216)
    (hs : bslS d m (xs.map (evalX σ)) σ = some σ') : StepOk P o σ' a w O gv N fp := by
  simp only [bslS] at hs
  split at hs
  case h_2 => cases hs
  rename_i Us σ1 hU
  split at hs
  case isFalse => cases hs
  rename_i hall
  cases hs
  obtain ⟨fp1, fpV, o1, rV, nV, dV, s1⟩ := takeXs_ok h (evalXs_rel h hp2) hU
  obtain ⟨us, eus, rus, hsize, hlen, hUc⟩ := rd_flat rV hall
  have hn : (parts.toList.map (·.2)).length = n := by
    have := congrArg List.length hp1; simpa using this
  have hUn : Us.length = n := by have := rV.length; simp at this; simp at hn; omega
  have hparts : (parts.map fun (x : Nat × Operand) => (x.1, a.eval x.2)).toList = (List.range' 0 n).zip ((parts.toList.map (·.2)).map a.eval) := by
    simp only [Array.toList_map]
    rw [← List.range_eq_range', ← hp1]
    generalize parts.toList = l
    induction l with
    | nil => rfl
    | cons x r ih => simp [ih]
  have hhdr := Hdr.sl true m Us w.heap.size 0 n hUc (by omega)
  rw [hUn] at hhdr
  by_cases h0 : n = 0
  · subst h0
    have hUe : Us = [] := List.eq_nil_of_length_eq_zero hUn
    subst hUe
    refine newblk (w' := w.alloc (.cells #[] e)) (arr := #[]) (e := e) o1 hd hN s1 dV nV rfl rfl rfl rfl hhdr (by simp) ?_ ?_
    · have : us = [] := by simpa using hlen
      subst this; simpa [flat] using rus
    · have : parts.toList = [] := by simpa using hp1
      have : parts = #[] := by simpa using this
      subst this
      simp [execOp, ho, Instr.buildSlice, run_underlying hu, run_sizeOf' hi, Instr.fill, newRow]
      congr 2; apply Array.ext <;> simp
  · obtain ⟨cells, hf, hc⟩ := fill_seq m ((parts.toList.map (·.2)).map a.eval) 0 ((Array.range (n * m)).map (z.cells[· % z.cells.size]!)) hsize (by simp at hn ⊢; rw [hn]; exact Nat.le_refl _)
    have hcells : cells.toList = us := by
      rw [hc, eus]
      have : us.length = n * m := by rw [hlen, hUn]
      simp [splice, this]
    refine newblk (w' := w.alloc (.cells cells e)) (arr := cells) (e := e) o1 hd hN s1 dV nV rfl rfl rfl rfl hhdr (by rw [← Array.length_toList, hcells, hlen, hUn]; omega) ?_ ?_
    · rw [hcells, List.take_of_length_le (by rw [← rus.length]; omega)]; exact rus
    · have hpos : ¬ n * fi.size = 0 := by rw [hsz]; exact Nat.ne_of_gt (Nat.mul_pos (by omega) hm)
      have hbs := run_buildSlice (P := P) w t e n (parts.map fun (x : Nat × Operand) => (x.1, a.eval x.2)) cells fi z hu hi hz (by rw [hsz]; omega) hpos (by
        rw [hparts, hsz]
        simp only [List.length_map] at hf hn
        rw [hn] at hf
        exact hf)
      simp [execOp, ho, hbs]

end Go.Proofs.Ythcnmahjhahafaa.Ax
