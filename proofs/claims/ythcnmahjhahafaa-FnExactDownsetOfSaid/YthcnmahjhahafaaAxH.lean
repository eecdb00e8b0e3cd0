/-
  Addresses and loads.
-/
import Derived.Test.YthcnmahjhahafaaAxG
namespace Go.Proofs.Ythcnmahjhahafaa.Ax
open Go

theorem add_none (b o k : Nat) : (⟨b, o, none⟩ : Addr).add k = ⟨b, o + k, none⟩ := by
  unfold Addr.add; split <;> simp_all

def aggTy (P : Program) (t : TypeId) : Option Bool := match P.underlying t with
  | some (.struct _) => some true
  | some (.array _ _) => some true
  | some _ => some false
  | none => none

/-- the type's size, and whether its values are groups of cells -/
def fitsTy (P : Program) (t : TypeId) (n : Nat) (ag : Bool) : Bool := match P.info? t with
  | some i => i.size == n && aggTy P t == some ag && (ag || n == 1)
  | none => false

theorem fitsTy_spec {P t n ag} (h : fitsTy P t n ag = true) : (∃ i, P.info? t = some i ∧ i.size = n) ∧ (∀ w, (isAgg t).run P w = .ok ag w) ∧ (ag = false → n = 1) := by
  unfold fitsTy at h
  split at h
  case h_2 => cases h
  rename_i i hi
  simp only [Bool.and_eq_true, beq_iff_eq, Bool.or_eq_true] at h
  refine ⟨⟨i, hi, h.1.1⟩, ?_, fun e => by simpa [e] using h.2⟩
  intro w
  have h2 := h.1.2
  unfold aggTy at h2
  split at h2
  · rename_i hu; cases h2; simp [isAgg, run_underlying hu]
  · rename_i hu; cases h2; simp [isAgg, run_underlying hu]
  · rename_i d hn1 hn2 hu
    cases h2
    simp only [isAgg, Sem.run_bind, run_underlying hu, Result.andThen_ok]
    cases d <;> first | rfl | (exact absurd hu (hn1 _)) | (exact absurd hu (hn2 _ _))
  · cases h2

theorem run_sizeOf' {P : Program} {t : TypeId} {i : TypeInfo} (h : P.info? t = some i) (w : World) : (Go.sizeOf t).run P w = .ok i.size w := by
  simp [Go.sizeOf, typeInfo, h]

theorem run_loadVar' {P : Program} {t : TypeId} {n : Nat} {ag : Bool} (h : fitsTy P t n ag = true) {w : World} {b o : Nat} {us : List Value} (hl : us.length = n)
    (hc : ∀ j, j < us.length → w.cell? ⟨b, o + j, none⟩ = us[j]?) : (loadVar t ⟨b, o, none⟩).run P w = .ok (if ag then .agg us.toArray else us.headD undef) w := by
  obtain ⟨⟨i, hi, hn⟩, hag, h1⟩ := fitsTy_spec h
  cases ag with
  | true =>
    have := run_loadCells_list (P := P) (w := w) ⟨b, o, none⟩ us (fun j v hj => by
      rw [add_none, hc j (List.getElem?_eq_some_iff.1 hj).1]; exact hj)
    subst hn
    rw [hl] at this
    simp [loadVar, hag, run_sizeOf' hi, this]
  | false =>
    have hn1 := h1 rfl
    match us, hl with
    | [u], _ =>
      have := hc 0 (by simp)
      simp at this
      simp [loadVar, hag, this]
    | [], hl => simp at hl; omega
    | _ :: _ :: _, hl => simp at hl; omega

theorem RelL.cons_join {w O L vals x v as vs} (hr : RelL w O L vals [x] [v]) (h3 : RelL w O L vals as vs) : RelL w O L vals (x :: as) (v :: vs) := by
  cases hr with
  | top t => exact .top h3
  | val a b t => exact .val a b h3
  | ref a b c t => exact .ref a b c h3
  | addr a b c d e t => exact .addr a b c d e h3
  | fad a b c t => exact .fad a b c h3
  | agg s t => cases t; exact .agg s h3
  | clo s t => cases t; exact .clo s h3

theorem celAs_rel {σ a w O gv N vals fp} (h : Ok σ a w O gv N vals fp) {r : Nat} {p : List Nat} {U u : V} {v : Value} (hL : look σ r = .val U) (hs : sub p U = some u)
    (hok : u.stepOk = true) (hv : valAt w p (vals r) = some v) : ∀ (ks : List V) (c : Nat), (∀ j, j < ks.length → u.kids[c + j]? = ks[j]?) →
    ∃ us, us.length = ks.length ∧ (∀ j, j < us.length → kidVal w v (c + j) = us[j]?) ∧ RelL w O (look σ) vals (celAs r p c ks) us := by
  intro ks
  induction ks with
  | nil => intro c _; exact ⟨[], rfl, by simp, .nil⟩
  | cons k ks ih =>
    intro c hk
    obtain ⟨y, hy, hr⟩ := celA_rel h hL hs hok (k := k) (c := c) (by simpa using hk 0 (by simp)) hv
    obtain ⟨us, h1, h2, h3⟩ := ih (c + 1) fun j hj => by
      have := hk (j + 1) (by simp; omega)
      rw [show c + 1 + j = c + (j + 1) by omega, this]; simp
    refine ⟨y :: us, by simp [h1], ?_, ?_⟩
    · intro j hj
      cases j with
      | zero => simpa using hy
      | succ j => rw [show c + (j + 1) = c + 1 + j by omega, h2 j (by simpa using hj)]; simp
    · simp only [celAs]
      exact hr.cons_join h3

theorem allVal_rd {w O L vals} : ∀ {as : List A} {us vs}, RelL w O L vals as us → allVal as = some vs → RdL w O vs us [] ∧ anyOwn vs = false := by
  intro as
  induction as with
  | nil => intro us vs h hv; simp [allVal] at hv; subst hv; cases h; exact ⟨.nil, rfl⟩
  | cons x r ih =>
    intro us vs h hv
    cases x with
    | val y =>
      simp only [allVal] at hv
      obtain ⟨vs', h1, rfl⟩ := Option.map_eq_some_iff.1 hv
      cases h with
      | val hn hr t =>
        obtain ⟨h2, h3⟩ := ih t h1
        exact ⟨by simpa using hr.append h2, by simp [anyOwn, hn, h3]⟩
    | _ => simp [allVal] at hv

theorem mkA_rel {w O L vals} {as : List A} {us} {ag : Bool} (h : RelL w O L vals as us) (h1 : ag = false → us.length = 1) :
    RelL w O L vals [mkA ag as] [if ag then .agg us.toArray else us.headD undef] := by
  cases ag with
  | true =>
    simp only [mkA, if_true]
    split
    · rename_i vs hv
      obtain ⟨h2, h3⟩ := allVal_rd h hv
      exact .val (by simpa [V.hasOwn] using h3) (by simpa using RdL.grp (.agg vs us) h2 .nil) .nil
    · exact .agg h .nil
  | false =>
    have hl := h1 rfl
    match us, hl with
    | [u], _ =>
      have := h.length
      match as, this with
      | [x], _ => simpa [mkA] using h

theorem loadA_ok {P : Program} {σ a w O gv N vals fp} (h : Ok σ a w O gv N vals fp) {t n ag l y v} (hf : fitsTy P t n ag = true) (hl : LocRel w O (look σ) vals l v) (hy : loadA σ n ag l = some y) :
    ∃ u, (Instr.loadAt t v).run P w = .ok u w ∧ RelL w O (look σ) vals [y] [u] := by
  obtain ⟨_, _, h1⟩ := fitsTy_spec hf
  cases l with
  | own r p c =>
    obtain ⟨U, u, hdr, b, hL, hs, hn, hv, hb, rfl⟩ := hl
    simp only [loadA, nodeAt, hL, hs] at hy
    split at hy
    case isFalse => cases hy
    rename_i hle
    cases hy
    have hok : u.stepOk = true := by cases u <;> simp [V.node] at hn <;> simpa [V.stepOk] using hn
    obtain ⟨us, e1, e2, e3⟩ := celAs_rel h hL hs hok hv ((u.kids.drop c).take n) c (by
      intro j hj
      simp at hj
      rw [List.getElem?_take, if_pos (by omega), List.getElem?_drop])
    have hlen : us.length = n := by rw [e1]; simp; omega
    have hk : ∀ j, kidVal w hdr j = w.cell? ⟨b, j, none⟩ := by
      intro j
      unfold hdrBlock at hb
      split at hb <;> cases hb <;> simp [kidVal]
    refine ⟨_, ?_, mkA_rel e3 (fun e => by rw [hlen]; exact h1 e)⟩
    simp only [Instr.loadAt, Instr.sureAddr, Sem.run_bind, Sem.run_pure, Result.andThen_ok]
    exact run_loadVar' hf hlen fun j hj => by rw [← hk]; exact e2 j hj
  | fro cs =>
    obtain ⟨us, b, o, rfl, hc, hO, hr⟩ := hl
    simp only [loadA] at hy
    split at hy
    case isFalse => cases hy
    rename_i hle
    cases hy
    have hlen := hr.length
    obtain ⟨v1, v2, f1, f2, rfl, hf12, r1, r2⟩ := RdL.split (cs.take n) (by rw [List.take_append_drop]; exact hr)
    have hf' := List.append_eq_nil_iff.1 hf12.symm
    obtain ⟨rfl, rfl⟩ := hf'
    have hl1 : v1.length = n := by rw [r1.length]; simp; omega
    have hno := anyOwn_take cs n hO.2
    refine ⟨if ag then .agg v1.toArray else v1.headD undef, ?_, ?_⟩
    · simp only [Instr.loadAt, Instr.sureAddr, Sem.run_bind, Sem.run_pure, Result.andThen_ok]
      exact run_loadVar' hf hl1 fun j hj => by
        rw [hc j (by simp; omega), List.getElem?_append_left hj]
    · cases ag with
      | true => simp only [if_true]; exact .val (by simpa [V.hasOwn] using hno) (by simpa using RdL.grp (.agg _ v1) r1 .nil) .nil
      | false =>
        have hn1 := h1 rfl
        subst hn1
        match v1, hl1 with
        | [u], _ =>
          match hcs : cs.take 1, r1.length with
          | [k], _ =>
            rw [hcs] at r1 hno
            simp [anyOwn] at hno
            exact .val hno r1 .nil

def ldS (d n : Nat) (ag : Bool) (x : A) (σ : St) : Option St := match locOf σ x with
  | some l => match loadA σ n ag l with
    | some y => some (puts d y σ)
    | none => none
  | none => none

theorem ld_ok {P : Program} {o : Oper} {σ σ' a w O gv N vals fp} {d : Nat} {t n ag x x'} (h : Ok σ a w O gv N vals fp) (ho : o.op = .load t x') (hd : o.dst = some d) (hN : d < N)
    (hx : fitsX N x x' = true) (hf : fitsTy P t n ag = true) (hs : ldS d n ag (evalX σ x) σ = some σ') : StepOk P o σ' a w O gv N fp := by
  simp only [ldS] at hs
  split at hs
  case h_2 => cases hs
  rename_i l hl
  split at hs
  case h_2 => cases hs
  rename_i y hy
  cases hs
  obtain ⟨u, h1, h2⟩ := loadA_ok h hf (locOf_rel h (evalX_rel h hx) hl) hy
  exact .rel h hd hN h2 (by simp [execOp, ho, h1])

/-- an address k cells further on -/
def shiftL (k : Nat) : Loc → A
  | .own r p c => .addr r p (c + k)
  | .fro cs => .fad (cs.drop k)

theorem shiftL_rel {w O L vals l v} (k : Nat) (h : LocRel w O L vals l v) : ∃ b o, v = .pointer (some ⟨b, o, none⟩) ∧ RelL w O L vals [shiftL k l] [.pointer (some ⟨b, o + k, none⟩)] := by
  cases l with
  | own r p c =>
    obtain ⟨U, u, hdr, b, hL, hs, hn, hv, hb, rfl⟩ := h
    exact ⟨b, c, rfl, .addr hL hs hn hv hb .nil⟩
  | fro cs =>
    obtain ⟨us, b, o, rfl, hc, hO, hr⟩ := h
    obtain ⟨v1, v2, f1, f2, rfl, hf12, r1, r2⟩ := RdL.split (cs.take k) (by rw [List.take_append_drop]; exact hr)
    obtain ⟨rfl, rfl⟩ := List.append_eq_nil_iff.1 hf12.symm
    refine ⟨b, o, rfl, .fad (us := v2) ?_ ?_ r2 .nil⟩
    · intro i hi
      have hl1 := r1.length
      have hl2 := r2.length
      simp at hl1 hl2
      have hk : v1.length = k := by omega
      rw [Nat.add_assoc, hc (k + i) (by simp; omega), List.getElem?_append_right (by omega), hk]
      congr 1; omega
    · refine ⟨?_, anyOwn_drop cs k hO.2⟩
      rcases hO.1 with rfl | hO
      · simp
      · exact .inr hO

def fadrS (d off : Nat) (x : A) (σ : St) : Option St := match locOf σ x with
  | some l => some (puts d (shiftL off l) σ)
  | none => none

theorem fadr_ok {P : Program} {o : Oper} {σ σ' a w O gv N vals fp} {d off : Nat} {t i x x' fs} {f : Field} {fi : TypeInfo} (h : Ok σ a w O gv N vals fp) (ho : o.op = .fieldAddr t x' i) (hd : o.dst = some d) (hN : d < N)
    (hx : fitsX N x x' = true) (hu : P.underlying t = some (.struct fs)) (hfi : fs[i]? = some f) (hoff : f.offset = off) (hi : P.info? f.type = some fi) (hsz : fi.size ≠ 0)
    (hs : fadrS d off (evalX σ x) σ = some σ') : StepOk P o σ' a w O gv N fp := by
  simp only [fadrS] at hs
  split at hs
  case h_2 => cases hs
  rename_i l hl
  cases hs
  obtain ⟨b, c, hv, hr⟩ := shiftL_rel off (locOf_rel h (evalX_rel h hx) hl)
  refine .rel h hd hN hr ?_
  simp [execOp, ho, hv, Instr.fieldAt, run_underlying hu, hfi, Instr.sureAddr, fieldPlace, run_sizeOf' hi, hsz, add_none, hoff]

def aadS (d m n : Nat) (x i : A) (σ : St) : Option St := match locOf σ x, i with
  | some l, .val (.int _ j) => if 0 ≤ j ∧ j < n then some (puts d (shiftL (j.toNat * m) l) σ) else none
  | _, _ => none

theorem aad_ok {P : Program} {o : Oper} {σ σ' a w O gv N vals fp} {d m n : Nat} {t x x' i i' e} {fi : TypeInfo} (h : Ok σ a w O gv N vals fp) (ho : o.op = .indexAddr t x' i') (hd : o.dst = some d) (hN : d < N)
    (hx : fitsX N x x' = true) (hii : fitsX N i i' = true) (hu : P.underlying t = some (.array n e)) (hi : P.info? e = some fi) (hsz : fi.size = m)
    (hs : aadS d m n (evalX σ x) (evalX σ i) σ = some σ') : StepOk P o σ' a w O gv N fp := by
  simp only [aadS] at hs
  split at hs
  case h_2 => cases hs
  rename_i l k j hl hj
  split at hs
  case isFalse => cases hs
  rename_i hb
  cases hs
  have hri := evalX_rel h hii
  rw [hj] at hri
  have hiv : a.eval i' = .int k j := by cases hri with | val _ hr _ => exact rd_leaf_int hr
  obtain ⟨b, c, hv, hr⟩ := shiftL_rel (j.toNat * m) (locOf_rel h (evalX_rel h hx) hl)
  refine .rel h hd hN hr ?_
  simp [execOp, ho, hv, hiv, Instr.indexAt, asIntOf, run_underlying hu, Instr.sureAddr, hb, run_sizeOf' hi, hsz, add_none]

def iadS (d m : Nat) (x i : A) (σ : St) : Option St := match x, i with
  | .val (.sl _ m' xs), .val (.int _ j) => if m' = m ∧ 0 ≤ j ∧ j < xs.length then some (puts d (.fad (xs.getD j.toNat .dead).cells) σ) else none
  | .ref r p, .val (.int _ j) => match nodeAt σ r p with
    | some (.sl o m' xs) => if o = true ∧ m' = m ∧ 0 ≤ j ∧ j < xs.length then some (puts d (.addr r p (j.toNat * m)) σ) else none
    | _ => none
  | _, _ => none

theorem flat_at : ∀ {xs : List V} {m i : Nat}, (∀ x ∈ xs, x.cells.length = m) → i < xs.length →
    ∃ l r, flat xs = l ++ ((xs.getD i .dead).cells ++ r) ∧ l.length = i * m := by
  intro xs
  induction xs with
  | nil => intro m i _ hi; simp at hi
  | cons x r ih =>
    intro m i hm hi
    cases i with
    | zero => exact ⟨[], flat r, by simp [flat], by simp⟩
    | succ i =>
      obtain ⟨l, r', e, hl⟩ := ih (fun y hy => hm y (by simp [hy])) (by simpa using hi)
      refine ⟨x.cells ++ l, r', by simp [flat, e], ?_⟩
      rw [List.length_append, hm x (by simp), hl, Nat.succ_mul]; omega

theorem rd_fsl {w O o m xs v fp i} (h : RdL w O [.sl o m xs] [v] fp) (ho : o = false) (hi : i < xs.length) :
    ∃ b off cap us, v = .slice (some ⟨b, off, none⟩) xs.length cap ∧ (∀ q, q < us.length → w.cell? ⟨b, off + i * m + q, none⟩ = us[q]?) ∧ (((xs.getD i .dead).cells = [] ∨ ¬ O b) ∧ anyOwn (xs.getD i .dead).cells = false) ∧ RdL w O (xs.getD i .dead).cells us [] := by
  subst ho
  cases h with
  | leaf hl _ => cases hl <;> simp at hi
  | grp hg _ _ => cases hg
  | oblk hh _ _ _ _ _ => cases hh
  | fblk hh hc hO s t =>
    cases hh with
    | sl _ _ _ b off cap hm hcap =>
      obtain ⟨l, r, e1, e2⟩ := flat_at hm hi
      rw [e1] at s hO
      obtain ⟨v1, v2, f1, f2, e3, hf12, r1, r2⟩ := RdL.split l s
      obtain ⟨rfl, rfl⟩ := List.append_eq_nil_iff.1 hf12.symm
      obtain ⟨v3, v4, f3, f4, e4, hf34, r3, r4⟩ := RdL.split _ r2
      obtain ⟨rfl, rfl⟩ := List.append_eq_nil_iff.1 hf34.symm
      subst e4; subst e3
      refine ⟨_, _, cap, v3, rfl, ?_, ?_, r3⟩
      · intro q hq
        have hl1 := r1.length
        rw [Nat.add_assoc, hc (i * m + q) (by simp; omega), List.getElem?_append_right (by omega), hl1, e2]
        rw [List.getElem?_append_left (by omega)]
        congr 1; omega
      · have hn2 := hO.2
        rw [anyOwn_append, anyOwn_append, Bool.or_eq_false_iff, Bool.or_eq_false_iff] at hn2
        refine ⟨?_, hn2.2.1⟩
        rcases hO.1 with hO | hO
        · simp at hO; exact .inl hO.2.1
        · exact .inr hO

theorem iad_ok {P : Program} {o : Oper} {σ σ' a w O gv N vals fp} {d m : Nat} {t x x' i i' e} {fi : TypeInfo} (h : Ok σ a w O gv N vals fp) (ho : o.op = .indexAddr t x' i') (hd : o.dst = some d) (hN : d < N)
    (hx : fitsX N x x' = true) (hii : fitsX N i i' = true) (hu : P.underlying t = some (.slice e)) (hi : P.info? e = some fi) (hsz : fi.size = m)
    (hs : iadS d m (evalX σ x) (evalX σ i) σ = some σ') : StepOk P o σ' a w O gv N fp := by
  have hrx := evalX_rel h hx
  have hri := evalX_rel h hii
  simp only [iadS] at hs
  split at hs
  · rename_i o' m' xs k j hex hej
    rw [hex] at hrx; rw [hej] at hri
    split at hs
    case isFalse => cases hs
    rename_i hb
    obtain ⟨rfl, hb0, hb1⟩ := hb
    cases hs
    have hiv : a.eval i' = .int k j := by cases hri with | val _ hr _ => exact rd_leaf_int hr
    cases hrx with
    | val hn hr _ =>
      obtain ⟨b, off, cap, v3, hval, hc, hO, r3⟩ := rd_fsl hr (by simpa [V.hasOwn] using hn) (i := j.toNat) (by omega)
      refine .rel h hd hN (v := .pointer (some ⟨b, off + j.toNat * m', none⟩)) (.fad (us := v3) hc hO r3 .nil) ?_
      simp [execOp, ho, hval, hiv, Instr.indexAt, asIntOf, run_underlying hu, hb0, hb1, run_sizeOf' hi, hsz, add_none]
  · rename_i r p k j hex hej
    rw [hex] at hrx; rw [hej] at hri
    have hiv : a.eval i' = .int k j := by cases hri with | val _ hr _ => exact rd_leaf_int hr
    split at hs
    case h_2 => cases hs
    rename_i o' m' xs hnode
    split at hs
    case isFalse => cases hs
    rename_i hb
    obtain ⟨rfl, rfl, hb0, hb1⟩ := hb
    cases hs
    cases hrx with
    | @ref _ _ U u v _ _ hL hsu hv _ =>
      simp only [nodeAt, hL, hsu, Option.some.injEq] at hnode
      subst hnode
      obtain ⟨z, f1, f2, f3, _, hz, hru, _⟩ := ctx p (h.sim.own r U hL) hsu
      rw [hv] at hz; cases hz
      obtain ⟨b, kk, arr, e', f1', hh, _⟩ := (rd_node hru rfl).resolve_left (by rintro ⟨m, c, _⟩; cases c; simp at hb1; omega)
      refine .rel h hd hN (v := .pointer (some ⟨b, j.toNat * m', none⟩)) (.addr hL hsu rfl hv hh.block .nil) ?_
      obtain ⟨cap, hval⟩ : ∃ cap, a.eval x' = .slice (some ⟨b, 0, none⟩) xs.length cap := by
        generalize a.eval x' = q at hh
        cases hh; exact ⟨_, rfl⟩
      simp [execOp, ho, hval, hiv, Instr.indexAt, asIntOf, run_underlying hu, hb0, hb1, run_sizeOf' hi, hsz, add_none]
  · cases hs

end Go.Proofs.Ythcnmahjhahafaa.Ax
