/-
  Structs and arrays as values, their parts; nil checks, the greater of two, function values.
-/
import Derived.Test.YthcnmahjhahafaaAxL
import Derived.Laws.Tables
namespace Go.Proofs.Ythcnmahjhahafaa.Ax
open Go

theorem RelL.append {w O L vals as vs bs us} (h : RelL w O L vals as vs) (k : RelL w O L vals bs us) : RelL w O L vals (as ++ bs) (vs ++ us) := by
  induction h with
  | nil => exact k
  | top _ ih => exact .top ih
  | val a b _ ih => exact .val a b ih
  | ref a b c _ ih => exact .ref a b c ih
  | addr a b c d e _ ih => exact .addr a b c d e ih
  | fad a b c _ ih => exact .fad a b c ih
  | agg s _ _ ih => exact .agg s ih
  | clo s _ _ ih => exact .clo s ih

theorem RelL.uncons {w O L vals x as v vs} (h : RelL w O L vals (x :: as) (v :: vs)) : RelL w O L vals [x] [v] ∧ RelL w O L vals as vs := by
  cases h with
  | top t => exact ⟨.top .nil, t⟩
  | val a b t => exact ⟨.val a b .nil, t⟩
  | ref a b c t => exact ⟨.ref a b c .nil, t⟩
  | addr a b c d e t => exact ⟨.addr a b c d e .nil, t⟩
  | fad a b c t => exact ⟨.fad a b c .nil, t⟩
  | agg s t => exact ⟨.agg s .nil, t⟩
  | clo s t => exact ⟨.clo s .nil, t⟩

theorem RelL.takeDrop {w O L vals} : ∀ (n : Nat) {as vs}, RelL w O L vals as vs → RelL w O L vals (as.take n) (vs.take n) ∧ RelL w O L vals (as.drop n) (vs.drop n) := by
  intro n
  induction n with
  | zero => intro as vs h; exact ⟨by simpa using .nil, by simpa using h⟩
  | succ n ih =>
    intro as vs h
    have hl := h.length
    cases as with
    | nil => cases vs with
      | nil => exact ⟨by simpa using .nil, by simpa using .nil⟩
      | cons _ _ => simp at hl
    | cons x r => cases vs with
      | nil => simp at hl
      | cons v vs =>
        obtain ⟨h1, h2⟩ := h.uncons
        obtain ⟨a, b⟩ := ih h2
        exact ⟨by simpa using h1.cons_join a, by simpa using b⟩

theorem RelL.splice {w O L vals as vs bs us} (h : RelL w O L vals as vs) (k : RelL w O L vals bs us) (c : Nat) : RelL w O L vals (Ax.splice as c bs) (Ax.splice vs c us) := by
  unfold Ax.splice
  rw [k.length]
  exact (h.takeDrop c).1.append (k.append (h.takeDrop (c + bs.length)).2)

/-- the cells of a value, looked at where they lie -/
def cellsA (σ : St) : A → Option (List A)
  | .agg as => some as
  | .val (.agg cs) => some (cs.map .val)
  | .val v => if v.isCell then some [.val v] else none
  | .ref r p => match nodeAt σ r p with
    | some (.agg cs) => some (celAs r p 0 cs)
    | some u => if u.isCell then some [.ref r p] else none
    | none => none
  | .clo f as => some [.clo f as]
  | .addr r p c => some [.addr r p c]
  | .fad cs => some [.fad cs]
  | .top => none

theorem vals_relL {w O L vals} : ∀ {cs us}, RdL w O cs us [] → anyOwn cs = false → RelL w O L vals (cs.map .val) us := by
  intro cs
  induction cs with
  | nil => intro us h _; cases h; exact .nil
  | cons c r ih =>
    intro us h hn
    simp [anyOwn] at hn
    obtain ⟨u, us2, f1, f2, rfl, hf, h1, h2⟩ := h.cons_split
    obtain ⟨rfl, rfl⟩ := List.append_eq_nil_iff.1 hf.symm
    exact .val hn.1 h1 (ih h2 hn.2)

theorem cellsA_rel {σ a w O gv N vals fp} (h : Ok σ a w O gv N vals fp) {x v as} (hr : RelL w O (look σ) vals [x] [v]) (hc : cellsA σ x = some as) :
    ∃ us, v.cells = us.toArray ∧ RelL w O (look σ) vals as us := by
  cases hr with
  | top _ => simp [cellsA] at hc
  | agg s t => cases t; simp [cellsA] at hc; subst hc; exact ⟨_, rfl, s⟩
  | clo s t => cases t; simp [cellsA] at hc; subst hc; exact ⟨[_], rfl, .clo s .nil⟩
  | addr a b c d e t => simp [cellsA] at hc; subst hc; exact ⟨[_], rfl, .addr a b c d e .nil⟩
  | fad a b c t => simp [cellsA] at hc; subst hc; exact ⟨[_], rfl, .fad a b c .nil⟩
  | @val y v _ _ hn hr t =>
    by_cases ha : ∃ cs, y = .agg cs
    · obtain ⟨cs, rfl⟩ := ha
      simp [cellsA] at hc; subst hc
      obtain ⟨us, rfl, hus⟩ := rd_agg hr
      exact ⟨us, rfl, vals_relL hus (by simpa [V.hasOwn] using hn)⟩
    · have : y.isCell = true ∧ as = [.val y] := by
        cases y <;> simp_all [cellsA]
      obtain ⟨h1, rfl⟩ := this
      exact ⟨[v], (rd_cell hr h1).2, .val hn hr .nil⟩
  | @ref r p T u v _ _ hL hs hv t =>
    simp only [cellsA, nodeAt, hL, hs] at hc
    obtain ⟨z, f1, fu, f2, _, hz, hru, _⟩ := ctx p (h.sim.own r T hL) hs
    rw [hv] at hz; cases hz
    by_cases ha : ∃ cs, u = .agg cs
    · obtain ⟨cs, rfl⟩ := ha
      simp at hc; subst hc
      obtain ⟨us, e, hus⟩ := rd_agg hru
      obtain ⟨us', h1, h2, h3⟩ := celAs_rel h hL hs rfl hv cs 0 (by intro j hj; simp [V.kids])
      have : us' = us := by
        apply List.ext_getElem?
        intro j
        by_cases hj : j < us'.length
        · rw [← h2 j hj, e]; simp [kidVal]
        · rw [List.getElem?_eq_none (by omega), List.getElem?_eq_none (by rw [hus.length, ← h1]; omega)]
      subst this
      exact ⟨us', by rw [e]; rfl, h3⟩
    · have : u.isCell = true ∧ as = [.ref r p] := by
        cases u <;> simp_all
      obtain ⟨h1, rfl⟩ := this
      exact ⟨[_], (rd_cell hru h1).2, .ref hL hs hv .nil⟩

def bldGo (σ : St) : List A → List (Nat × Nat × X) → Option (List A)
  | cells, [] => some cells
  | cells, (off, size, x) :: r => match cellsA σ (evalX σ x) with
    | some as => if as.length = size ∧ off + size ≤ cells.length then bldGo σ (splice cells off as) r else none
    | none => none

def bldS (d : Nat) (z : List V) (ps : List (Nat × Nat × X)) (σ : St) : Option St := match bldGo σ (z.map .val) ps with
  | some as => some (puts d (upA (mkA true as)) σ)
  | none => none

/-- the places and operands of a composite value -/
def fitsPs (N : Nat) (place : Nat → Option (Nat × Nat)) : List (Nat × Nat × X) → List (Nat × Operand) → Bool
  | [], [] => true
  | (off, size, x) :: r, (i, o) :: s => place i == some (off, size) && fitsX N x o && fitsPs N place r s
  | _, _ => false

theorem bldGo_ok {σ a w O gv N vals fp} (h : Ok σ a w O gv N vals fp) {place : Nat → Option (Nat × Nat)} : ∀ {ps : List (Nat × Nat × X)} {os : List (Nat × Operand)} {cells as : List A} {arr : Array Value},
    RelL w O (look σ) vals cells arr.toList → fitsPs N place ps os = true → bldGo σ cells ps = some as →
    ∃ arr', Instr.fill place arr (os.map fun x => (x.1, a.eval x.2)) = some arr' ∧ RelL w O (look σ) vals as arr'.toList := by
  intro ps
  induction ps with
  | nil => intro os cells as arr hr hf hg; cases os <;> simp [fitsPs] at hf; simp [bldGo] at hg; subst hg; exact ⟨arr, rfl, hr⟩
  | cons p r ih =>
    intro os cells as arr hr hf hg
    obtain ⟨off, size, x⟩ := p
    cases os with
    | nil => simp [fitsPs] at hf
    | cons q s =>
      obtain ⟨i, o⟩ := q
      simp only [fitsPs, Bool.and_eq_true, beq_iff_eq] at hf
      simp only [bldGo] at hg
      split at hg
      case h_2 => cases hg
      rename_i bs hbs
      split at hg
      case isFalse => cases hg
      rename_i hb
      obtain ⟨us, hus, rus⟩ := cellsA_rel h (evalX_rel h hf.1.2) hbs
      have hl := hr.length
      have hul := rus.length
      simp at hl
      obtain ⟨arr1, h1, h2, h3⟩ := fill_cons (place := place) (cells := arr) (i := i) (v := a.eval o) (rest := s.map fun x => (x.1, a.eval x.2)) hf.1.1 (by rw [hus]; simp; omega) (by omega)
      obtain ⟨arr', h4, h5⟩ := ih (arr := arr1) (by rw [h2, hus]; simpa using hr.splice rus off) hf.2 hg
      exact ⟨arr', by rw [List.map_cons, h1, h4], h5⟩

def placesOf (P : Program) (t : TypeId) : Option (Nat → Option (Nat × Nat)) := match P.underlying t with
  | some (.array _ e) => match P.info? e with
    | some ie => some fun i => some (i * ie.size, ie.size)
    | none => none
  | some (.struct fields) => match fields.toList.mapM (fun f => (P.info? f.type).map fun i => (f.offset, i.size)) with
    | some places => some (places.toArray[·]?)
    | none => none
  | _ => none

theorem bld_ok {P : Program} {o : Oper} {σ σ' a w O gv N vals fp} {d : Nat} {t z ps} {parts : Array (Nat × Operand)} {place} {fi : TypeInfo} {zv : Value} (h : Ok σ a w O gv N vals fp)
    (ho : o.op = .build t parts) (hd : o.dst = some d) (hN : d < N) (hp : placesOf P t = some place) (hf : fitsPs N place ps parts.toList = true) (hi : P.info? t = some fi) (hz : fi.zero = some zv)
    (hc : cRdL z zv.cells.toList = true) (hs : bldS d z ps σ = some σ') : StepOk P o σ' a w O gv N fp := by
  simp only [bldS] at hs
  split at hs
  case h_2 => cases hs
  rename_i as has
  cases hs
  obtain ⟨rz, nz⟩ := cRdL_rd w O z zv.cells.toList hc
  obtain ⟨arr, h1, h2⟩ := bldGo_ok h (arr := zv.cells) (vals_relL rz nz) hf has
  have hb : P.built t (parts.map fun (x : Nat × Operand) => (x.1, a.eval x.2)).toList = some arr := by
    rw [Array.toList_map]
    unfold Program.built
    unfold placesOf at hp
    rw [hi]
    split at hp
    · rename_i e hu
      rw [hu]
      split at hp
      · rename_i ie hie; cases hp; simp only [hz, hie]; exact h1
      · cases hp
    · rename_i fields hu
      rw [hu]
      split at hp
      · rename_i places hpl; cases hp; simp only [hz, hpl]; exact h1
      · cases hp
    · cases hp
  have hrun := run_build (P := P) w t _ arr hb
  have := mkA_rel (ag := true) h2 (by simp)
  simp at this
  exact .up h hd hN this (by simp [execOp, ho, hrun])

/-- a part of a struct's or an array's value -/
def fldS (d off n : Nat) (ag : Bool) (x : A) (σ : St) : Option St := match cellsA σ x with
  | some as => if off + n ≤ as.length then some (puts d (mkA ag ((as.drop off).take n)) σ) else none
  | none => none

theorem run_part {P : Program} {t n ag} (hf : fitsTy P t n ag = true) (w : World) (us : List Value) (off : Nat) (hl : off + n ≤ us.length) :
    (part t us.toArray off).run P w = .ok (if ag then .agg ((us.drop off).take n).toArray else ((us.drop off).take n).headD undef) w := by
  obtain ⟨⟨i, hi, hn⟩, hag, h1⟩ := fitsTy_spec hf
  cases ag with
  | true =>
    have : us.toArray.extract off (off + n) = ((us.drop off).take n).toArray := by
      simp [List.extract_eq_take_drop]
    simp [part, hag, run_sizeOf' hi, hn]
  | false =>
    have hn1 := h1 rfl
    subst hn1
    have hlt : off < us.length := by omega
    have : us[off]? = some us[off] := by simp [hlt]
    have e : (us.drop off).take 1 = [us[off]] := by
      rw [List.drop_eq_getElem_cons hlt]; rfl
    simp only [part, hag, Sem.run_bind, Result.andThen_ok, e]
    simp [hlt]

theorem part_rel {w O L vals as us n ag off} (hr : RelL w O L vals as us) (hl : off + n ≤ as.length) (h1 : ag = false → n = 1) :
    RelL w O L vals [mkA ag ((as.drop off).take n)] [if ag then .agg ((us.drop off).take n).toArray else ((us.drop off).take n).headD undef] :=
  mkA_rel (((hr.takeDrop off).2.takeDrop n).1) (fun e => by have := hr.length; have := h1 e; simp; omega)

/-- the value is a group -/
def aggA (σ : St) : A → Bool
  | .agg _ => true
  | .val (.agg _) => true
  | .ref r p => match nodeAt σ r p with
    | some (.agg _) => true
    | _ => false
  | _ => false

theorem cellsA_agg {σ a w O gv N vals fp} (h : Ok σ a w O gv N vals fp) {x v as} (hr : RelL w O (look σ) vals [x] [v]) (hc : cellsA σ x = some as) (hg : aggA σ x = true) :
    ∃ us, v = .agg us.toArray ∧ RelL w O (look σ) vals as us := by
  obtain ⟨us, h1, h2⟩ := cellsA_rel h hr hc
  refine ⟨us, ?_, h2⟩
  cases hr with
  | agg s t => cases t; simp [Value.cells] at h1; rw [h1]
  | @val y v _ _ hn hr t =>
    cases y <;> simp [aggA] at hg
    obtain ⟨us', rfl, _⟩ := rd_agg hr
    simp [Value.cells] at h1; rw [h1]
  | @ref r p T u v _ _ hL hs hv t =>
    simp only [aggA, nodeAt, hL, hs] at hg
    obtain ⟨z, f1, fu, f2, _, hz, hru, _⟩ := ctx p (h.sim.own r T hL) hs
    rw [hv] at hz; cases hz
    cases u <;> simp at hg
    obtain ⟨us', e, _⟩ := rd_agg hru
    rw [e] at h1 ⊢
    simp [Value.cells] at h1; rw [h1]
  | _ => simp [aggA] at hg

theorem fld_ok {P : Program} {o : Oper} {σ σ' a w O gv N vals fp} {d off n : Nat} {ag : Bool} {t i x x' fs} {f : Field} (h : Ok σ a w O gv N vals fp) (ho : o.op = .field t x' i) (hd : o.dst = some d) (hN : d < N)
    (hx : fitsX N x x' = true) (hu : P.underlying t = some (.struct fs)) (hfi : fs[i]? = some f) (hoff : f.offset = off) (hf : fitsTy P f.type n ag = true) (hg : aggA σ (evalX σ x) = true)
    (hs : fldS d off n ag (evalX σ x) σ = some σ') : StepOk P o σ' a w O gv N fp := by
  simp only [fldS] at hs
  split at hs
  case h_2 => cases hs
  rename_i as has
  split at hs
  case isFalse => cases hs
  rename_i hle
  cases hs
  obtain ⟨us, hv, hr⟩ := cellsA_agg h (evalX_rel h hx) has hg
  have hl := hr.length
  obtain ⟨_, _, h1⟩ := fitsTy_spec hf
  refine .rel h hd hN (part_rel (ag := ag) hr hle h1) ?_
  have hp := run_part (P := P) hf w us off (by omega)
  simp [execOp, ho, hv, Instr.field, run_underlying hu, hfi, asAgg, hoff, hp]

def idxS (d m n : Nat) (ag : Bool) (x i : A) (σ : St) : Option St := match cellsA σ x, i with
  | some as, .val (.int _ j) => if 0 ≤ j ∧ j < n ∧ j.toNat * m + m ≤ as.length then some (puts d (mkA ag ((as.drop (j.toNat * m)).take m)) σ) else none
  | _, _ => none

theorem idx_ok {P : Program} {o : Oper} {σ σ' a w O gv N vals fp} {d m n : Nat} {ag : Bool} {t e i i' x x'} (h : Ok σ a w O gv N vals fp) (ho : o.op = .index t x' i') (hd : o.dst = some d) (hN : d < N)
    (hx : fitsX N x x' = true) (hii : fitsX N i i' = true) (hu : P.underlying t = some (.array n e)) (hf : fitsTy P e m ag = true) (hg : aggA σ (evalX σ x) = true)
    (hs : idxS d m n ag (evalX σ x) (evalX σ i) σ = some σ') : StepOk P o σ' a w O gv N fp := by
  simp only [idxS] at hs
  split at hs
  case h_2 => cases hs
  rename_i as k j has hj
  split at hs
  case isFalse => cases hs
  rename_i hb
  cases hs
  have hri := evalX_rel h hii
  rw [hj] at hri
  have hiv : a.eval i' = .int k j := by cases hri with | val _ hr _ => exact rd_leaf_int hr
  obtain ⟨us, hv, hr⟩ := cellsA_agg h (evalX_rel h hx) has hg
  have hl := hr.length
  obtain ⟨⟨fi, hfi, hn⟩, _, h1⟩ := fitsTy_spec hf
  refine .rel h hd hN (part_rel (ag := ag) hr hb.2.2 h1) ?_
  have hp := run_part (P := P) hf w us (j.toNat * m) (by omega)
  simp [execOp, ho, hv, hiv, Instr.index, asIntOf, run_underlying hu, hb.1, hb.2.1, run_sizeOf' hfi, hn, hp]

def nckS (d : Nat) (x : A) (σ : St) : Option St := match locOf σ x with
  | some _ => some (puts d x σ)
  | none => none

theorem nck_ok {P : Program} {o : Oper} {σ σ' a w O gv N vals fp} {d : Nat} {x x'} (h : Ok σ a w O gv N vals fp) (ho : o.op = .nilCheck x') (hd : o.dst = some d) (hN : d < N)
    (hx : fitsX N x x' = true) (hs : nckS d (evalX σ x) σ = some σ') : StepOk P o σ' a w O gv N fp := by
  simp only [nckS] at hs
  split at hs
  case h_2 => cases hs
  rename_i l hl
  cases hs
  have hr := evalX_rel h hx
  obtain ⟨b, c, hv, _⟩ := shiftL_rel 0 (locOf_rel h hr hl)
  exact .rel h hd hN hr (by simp [execOp, ho, hv])

def maxS (d : Nat) (x y : A) (σ : St) : Option St := match x, y with
  | .val (.int k a), .val (.int _ b) => some (puts d (.val (.int k (if b > a then b else a))) σ)
  | _, _ => none

theorem max_ok {P : Program} {o : Oper} {σ σ' a w O gv N vals fp} {d : Nat} {x x' y y' ts} (h : Ok σ a w O gv N vals fp) (ho : o.op = .call { callee := .builtin .max, args := #[x', y'], argTypes := ts }) (hd : o.dst = some d) (hN : d < N)
    (hx : fitsX N x x' = true) (hy : fitsX N y y' = true) (hs : maxS d (evalX σ x) (evalX σ y) σ = some σ') : StepOk P o σ' a w O gv N fp := by
  have hrx := evalX_rel h hx
  have hry := evalX_rel h hy
  unfold maxS at hs
  split at hs
  case h_2 => cases hs
  rename_i k p k' q hex hey
  cases hs
  rw [hex] at hrx; rw [hey] at hry
  have hvx : a.eval x' = .int k p := by cases hrx with | val _ hr _ => exact rd_leaf_int hr
  have hvy : a.eval y' = .int k' q := by cases hry with | val _ hr _ => exact rd_leaf_int hr
  exact .rel h hd hN (.val rfl (.leaf (.int _ _) .nil) .nil) (by simp [execOp, ho, resolve, invoke, builtin, hvx, hvy, Builtin.max_, Builtin.max2])

def cloA (f : Nat) (as : List A) : A := match allVal as with
  | some vs => .val (.clo f vs)
  | none => .clo f as

theorem mkf_ok {P : Program} {o : Oper} {σ a w O gv N vals fp} {d f : Nat} {cs : List X} {cs' : Array Operand} (h : Ok σ a w O gv N vals fp) (ho : o.op = .makeFunc (.func f) #[] cs') (hd : o.dst = some d) (hN : d < N)
    (hx : fitsXs N cs cs'.toList = true) : StepOk P o (puts d (cloA f (cs.map (evalX σ))) σ) a w O gv N fp := by
  have hr := evalXs_rel h hx
  have hrun : (execOp a.eval o).run P w = .ok (.value (.func (.func f) #[] (cs'.toList.map a.eval).toArray)) w := by
    simp [execOp, ho, Instr.makeFunc]
    rw [← Array.toList_map]
  refine .rel h hd hN ?_ hrun
  unfold cloA
  split
  · rename_i vs hv
    obtain ⟨h2, h3⟩ := allVal_rd hr hv
    exact .val (by simpa [V.hasOwn] using h3) (by simpa using RdL.grp (.clo f vs _) h2 .nil) .nil
  · exact .clo hr .nil

end Go.Proofs.Ythcnmahjhahafaa.Ax
