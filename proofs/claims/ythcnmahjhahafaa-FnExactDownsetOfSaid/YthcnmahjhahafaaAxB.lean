/-
  Paths into trees: what lies at a path, what the tree is when that part is exchanged, and the same in memory.
-/
import Derived.Test.YthcnmahjhahafaaAxA
namespace Go.Proofs.Ythcnmahjhahafaa.Ax
open Go

def V.kids : V → List V
  | .sl _ _ xs => flat xs
  | .ptr _ x => x.cells
  | .agg cs => cs
  | .tup cs => cs
  | _ => []

def V.stepOk : V → Bool
  | .sl o _ _ => o
  | .ptr o _ => o
  | .agg _ => true
  | .tup _ => true
  | _ => false

/-- is it a node with a block of its own? -/
def V.node : V → Bool
  | .sl o _ _ => o
  | .ptr o _ => o
  | _ => false

def sub : List Nat → V → Option V
  | [], v => some v
  | c :: p, v => if v.stepOk then (match v.kids[c]? with | some u => sub p u | none => none) else none

def splice {α : Type} (xs : List α) (c : Nat) (us : List α) : List α := xs.take c ++ (us ++ xs.drop (c + us.length))

def setOne : Nat → List V → Option V
  | 0, [u] => if u.isAgg then none else some u
  | _, _ => none

def V.setCells : V → Nat → List V → Option V
  | .agg cs, c, us => if c + us.length ≤ cs.length then some (.agg (splice cs c us)) else none
  | _, c, us => setOne c us

def setIn : List V → Nat → List V → Option (List V)
  | [], _, _ => none
  | x :: r, c, us => if c < x.cells.length then (x.setCells c us).map (· :: r) else (setIn r (c - x.cells.length) us).map (x :: ·)

def V.setKids : V → Nat → List V → Option V
  | .sl o m xs, c, us => (setIn xs c us).map (.sl o m)
  | .ptr o x, c, us => (x.setCells c us).map (.ptr o)
  | .agg cs, c, us => if c + us.length ≤ cs.length then some (.agg (splice cs c us)) else none
  | .tup cs, c, us => if c + us.length ≤ cs.length then some (.tup (splice cs c us)) else none
  | _, _, _ => none

def upd : List Nat → V → V → Option V
  | [], _, u => some u
  | c :: p, v, u => match v.kids[c]? with
    | some k => match upd p k u with
      | some k' => v.setKids c [k']
      | none => none
    | none => none

theorem splice_length {α : Type} {xs : List α} {c : Nat} {us : List α} (h : c + us.length ≤ xs.length) : (splice xs c us).length = xs.length := by
  simp [splice]; omega

theorem splice_mid {α : Type} (l m r us : List α) (h : us.length = m.length) : splice (l ++ (m ++ r)) l.length us = l ++ (us ++ r) := by
  unfold splice
  rw [List.take_left' rfl, h]
  congr 2
  rw [List.drop_append, List.drop_append]
  simp

theorem setCells_spec {x : V} {c us x'} (h : x.setCells c us = some x') : x'.cells = splice x.cells c us ∧ x'.cells.length = x.cells.length ∧ c + us.length ≤ x.cells.length := by
  have single : ∀ y : V, y.cells = [y] → setOne c us = some x' →
      x'.cells = splice y.cells c us ∧ x'.cells.length = y.cells.length ∧ c + us.length ≤ y.cells.length := by
    intro y hy h
    unfold setOne at h
    split at h
    · rename_i u
      split at h
      · cases h
      · rename_i hu
        cases h
        have : x'.cells = [x'] := by cases x' <;> simp [V.isAgg] at hu <;> rfl
        rw [hy, this]; simp [splice]
    · cases h
  cases x with
  | agg cs =>
    simp only [V.setCells] at h
    split at h
    · rename_i hle; cases h; exact ⟨rfl, splice_length hle, hle⟩
    · cases h
  | _ => exact single _ rfl h

theorem setIn_spec : ∀ {xs : List V} {c us xs'}, setIn xs c us = some xs' → flat xs' = splice (flat xs) c us ∧ xs'.length = xs.length ∧
    c + us.length ≤ (flat xs).length ∧ ∀ m, (∀ x ∈ xs, x.cells.length = m) → ∀ x ∈ xs', x.cells.length = m := by
  intro xs
  induction xs with
  | nil => intro c us xs' h; simp [setIn] at h
  | cons x r ih =>
    intro c us xs' h
    simp only [setIn] at h
    split at h
    · rename_i hlt
      obtain ⟨x', hx', rfl⟩ := Option.map_eq_some_iff.1 h
      obtain ⟨h1, h2, h3⟩ := setCells_spec hx'
      refine ⟨?_, by simp, by simp [flat]; omega, ?_⟩
      · simp only [flat, h1, splice, List.append_assoc]
        rw [List.take_append_of_le_length (by omega), List.drop_append_of_le_length (by omega)]
      · intro m hm y hy
        rcases List.mem_cons.1 hy with rfl | hy
        · rw [h2]; exact hm x (by simp)
        · exact hm y (by simp [hy])
    · rename_i hge
      obtain ⟨r', hr', rfl⟩ := Option.map_eq_some_iff.1 h
      obtain ⟨h1, h2, h3, h4⟩ := ih hr'
      refine ⟨?_, by simp [h2], by simp [flat]; omega, ?_⟩
      · simp only [flat, h1, splice]
        have hc : x.cells.length ≤ c := by omega
        rw [List.take_append, List.drop_append, List.take_of_length_le (l := x.cells) (i := c) hc, List.drop_eq_nil_of_le (as := x.cells) (i := c + us.length) (by omega)]
        have e : c + us.length - x.cells.length = c - x.cells.length + us.length := by omega
        simp [e]
      · intro m hm y hy
        rcases List.mem_cons.1 hy with rfl | hy
        · exact hm y (by simp)
        · exact h4 m (fun z hz => hm z (by simp [hz])) y hy

/-- the value of a child -/
def kidVal (w : World) : Value → Nat → Option Value
  | .slice (some a) _ _, c => w.cell? ⟨a.block, a.off + c, none⟩
  | .pointer (some a), c => w.cell? ⟨a.block, a.off + c, none⟩
  | .agg vs, c => vs[c]?
  | .tuple vs, c => vs[c]?
  | _, _ => none

def valAt (w : World) : List Nat → Value → Option Value
  | [], v => some v
  | c :: p, v => match kidVal w v c with | some u => valAt w p u | none => none

theorem Hdr.kids {x v o b off k ch} (h : Hdr x v o b off k ch) : x.kids = ch := by cases h <;> rfl

theorem Hdr.set {x v o b off k ch} (h : Hdr x v o b off k ch) {c us x'} (hs : x.setKids c us = some x') :
    ∃ ch', Hdr x' v o b off k ch' ∧ ch' = splice ch c us ∧ ch'.length = ch.length ∧ c + us.length ≤ ch.length := by
  cases h with
  | sl o m xs b off cap hm hcap =>
    simp only [V.setKids] at hs
    obtain ⟨xs', hx, rfl⟩ := Option.map_eq_some_iff.1 hs
    obtain ⟨h1, h2, h3, h4⟩ := setIn_spec hx
    refine ⟨flat xs', ?_, h1, by rw [h1, splice_length h3], h3⟩
    rw [← h2]; exact .sl o m xs' b off cap (h4 m hm) (by rw [h2]; exact hcap)
  | ptr o x b off =>
    simp only [V.setKids] at hs
    obtain ⟨y, hy, rfl⟩ := Option.map_eq_some_iff.1 hs
    obtain ⟨h1, h2, h3⟩ := setCells_spec hy
    refine ⟨y.cells, ?_, h1, h2, h3⟩
    rw [← h2]; exact .ptr o y b off

theorem step_inv {w O V v fp c k} (h : RdL w O [V] [v] fp) (hs : V.stepOk = true) (hk : V.kids[c]? = some k) :
    ∃ x fp1 fpk fp2, fp = fp1 ++ (fpk ++ fp2) ∧ RdL w O [k] [x] fpk ∧ (∀ w', (∀ b ∈ fp1, w'.heap[b]? = w.heap[b]?) → kidVal w' v c = some x) ∧
      (∀ w' O' V' k' fpn, V.setKids c [k'] = some V' → (∀ b ∈ fp1 ++ fp2, w'.heap[b]? = w.heap[b]? ∧ O' b) →
        (∀ b, ¬ O b → b < w.heap.size → w'.heap[b]? = w.heap[b]? ∧ ¬ O' b) → RdL w' O' [k'] [x] fpn → RdL w' O' [V'] [v] (fp1 ++ (fpn ++ fp2))) := by
  cases h with
  | leaf hl t => cases hl <;> first | (simp [V.stepOk] at hs; done) | (simp [V.kids, flat] at hk; done)
  | @grp _ _ ch vch fp1 _ _ fp2 hg s t =>
    cases t
    have e : V.kids = ch := by cases hg <;> first | rfl | simp [V.stepOk] at hs
    rw [e] at hk
    obtain ⟨l, r, vl, x, vr, fl, fu, fr, rfl, rfl, rfl, hl, hvl, a, b, d⟩ := s.at hk
    refine ⟨x, fl, fu, fr, by simp, b, ?_, ?_⟩
    · intro w' _
      cases hg with
      | clo => simp [V.stepOk] at hs
      | fclo => simp [V.stepOk] at hs
      | _ => subst hvl; simp [kidVal]
    · intro w' O' V' k' fpn hset h1 h2 hn
      have a' := a.frame (w' := w') (O' := O') (fun b hb => h1 b (by simp [hb])) h2
      have d' := d.frame (w' := w') (O' := O') (fun b hb => h1 b (by simp [hb])) h2
      have := a'.append (hn.cons_join d')
      have e2 : splice (l ++ k :: r) c [k'] = l ++ k' :: r := by subst hl; exact splice_mid l [k] r [k'] rfl
      cases hg with
      | clo => simp [V.stepOk] at hs
      | fclo => simp [V.stepOk] at hs
      | agg =>
        simp only [V.setKids] at hset
        split at hset
        · cases hset; rw [e2]; simpa using RdL.grp (.agg _ _) this .nil
        · cases hset
      | tup =>
        simp only [V.setKids] at hset
        split at hset
        · cases hset; rw [e2]; simpa using RdL.grp (.tup _ _) this .nil
        · cases hset
  | fblk h => cases h <;> simp [V.stepOk] at hs
  | @oblk _ _ b kk ch arr e fp1 _ _ fp2 h hb hO hkk s t =>
    cases t
    rw [h.kids] at hk
    obtain ⟨l, r, vl, x, vr, fl, fu, fr, e1, e2, rfl, hl, hvl, a, b', d⟩ := s.at hk
    refine ⟨x, b :: fl, fu, fr, by simp, b', ?_, ?_⟩
    · intro w' hw
      have hw' := hw b (by simp)
      have hc : (arr.toList.take ch.length)[c]? = some x := by rw [e2]; subst hvl; simp
      have hc' : arr[c]? = some x := by
        rw [List.getElem?_take] at hc
        split at hc
        · rw [← Array.getElem?_toList]; exact hc
        · cases hc
      cases h <;> simp [kidVal, World.cell?, hw', hb, hc']
    · intro w' O' V' k' fpn hset h1 h2 hn
      have a' := a.frame (w' := w') (O' := O') (fun b hb => h1 b (by simp [hb])) h2
      have d' := d.frame (w' := w') (O' := O') (fun b hb => h1 b (by simp [hb])) h2
      have this := a'.append (hn.cons_join d')
      obtain ⟨ch', hh, hch, hlen, _⟩ := h.set hset
      have e3 : ch' = l ++ k' :: r := by rw [hch, e1]; subst hl; exact splice_mid l [k] r [k'] rfl
      have hb' := h1 b (by simp)
      rw [← e3, ← e2, ← hlen] at this
      simpa using RdL.oblk hh (by rw [hb'.1]; exact hb) hb'.2 hkk this .nil

theorem ctx {w O} : ∀ (p : List Nat) {V v fp u}, RdL w O [V] [v] fp → sub p V = some u →
    ∃ x fp1 fpu fp2, fp = fp1 ++ (fpu ++ fp2) ∧ valAt w p v = some x ∧ RdL w O [u] [x] fpu ∧
      (∀ w' O' V' u' fpn, upd p V u' = some V' → (∀ b ∈ fp1 ++ fp2, w'.heap[b]? = w.heap[b]? ∧ O' b) →
        (∀ b, ¬ O b → b < w.heap.size → w'.heap[b]? = w.heap[b]? ∧ ¬ O' b) → RdL w' O' [u'] [x] fpn → RdL w' O' [V'] [v] (fp1 ++ (fpn ++ fp2))) := by
  intro p
  induction p with
  | nil =>
    intro V v fp u h hs
    cases hs
    exact ⟨v, [], fp, [], by simp, rfl, h, fun w' O' V' u' fpn hu _ _ hn => by cases hu; simpa using hn⟩
  | cons c p ih =>
    intro V v fp u h hs
    simp only [sub] at hs
    split at hs
    case isFalse => cases hs
    rename_i hok
    split at hs
    case h_2 => cases hs
    rename_i k hk
    obtain ⟨x, fp1, fpk, fp2, rfl, hx, hval, hset⟩ := step_inv h hok hk
    obtain ⟨y, gp1, fpu, gp2, rfl, hy, hru, hset2⟩ := ih hx hs
    refine ⟨y, fp1 ++ gp1, fpu, gp2 ++ fp2, by simp, ?_, hru, ?_⟩
    · simp only [valAt, hval w (fun _ _ => rfl), hy]
    · intro w' O' V' u' fpn hu h1 h2 hn
      simp only [upd, hk] at hu
      split at hu
      case h_2 => cases hu
      rename_i k' hk'
      have := hset2 w' O' k' u' fpn hk' (fun b hb => h1 b (by simp at hb ⊢; rcases hb with h | h <;> simp [h])) h2 hn
      have := hset w' O' V' k' _ hu (fun b hb => h1 b (by simp at hb ⊢; rcases hb with h | h <;> simp [h])) h2 this
      simpa using this

theorem valAt_frame {w w' : World} {O} : ∀ (p : List Nat) {V v fp u}, RdL w O [V] [v] fp → sub p V = some u → (∀ b ∈ fp, w'.heap[b]? = w.heap[b]?) →
    valAt w' p v = valAt w p v := by
  intro p
  induction p with
  | nil => intros; rfl
  | cons c p ih =>
    intro V v fp u h hs hw
    simp only [sub] at hs
    split at hs
    case isFalse => cases hs
    rename_i hok
    split at hs
    case h_2 => cases hs
    rename_i k hk
    obtain ⟨x, fp1, fpk, fp2, rfl, hx, hval, _⟩ := step_inv h hok hk
    simp only [valAt, hval w (fun _ _ => rfl), hval w' (fun b hb => hw b (by simp [hb]))]
    exact ih hx hs fun b hb => hw b (by simp [hb])

theorem RdL.at2 {w O ch vch fp} (h : RdL w O ch vch fp) {c d : Nat} {k k2 : V} (hc : ch[c]? = some k) (hd : ch[d]? = some k2) (hne : c ≠ d) :
    ∃ y y2 fk fk2, vch[c]? = some y ∧ vch[d]? = some y2 ∧ RdL w O [k] [y] fk ∧ RdL w O [k2] [y2] fk2 ∧ (∀ b, b ∈ fk ∨ b ∈ fk2 → b ∈ fp) ∧ (fp.Nodup → ∀ b, b ∈ fk → b ∈ fk2 → False) := by
  rcases Nat.lt_or_gt_of_ne hne with hlt | hlt
  · obtain ⟨l, r, vl, x, vr, fl, fu, fr, rfl, rfl, rfl, hl, hvl, a, b, e⟩ := h.at hc
    have hd' : r[d - c - 1]? = some k2 := by
      rw [List.getElem?_append_right (by omega), hl] at hd
      rw [show d - c = (d - c - 1) + 1 by omega, List.getElem?_cons_succ] at hd
      exact hd
    obtain ⟨l2, r2, vl2, x2, vr2, fl2, fu2, fr2, rfl, rfl, rfl, hl2, hvl2, a2, b2, e2⟩ := e.at hd'
    refine ⟨x, x2, fu, fu2, by subst hvl; simp, ?_, b, b2, ?_, ?_⟩
    · rw [List.getElem?_append_right (by omega), hvl, show d - c = (d - c - 1) + 1 by omega, List.getElem?_cons_succ, ← hvl2]; simp
    · intro b hb; rcases hb with h | h <;> simp [h]
    · intro hnd b h1 h2
      have h3 := (List.nodup_append.1 (List.nodup_append.1 hnd).2.1).2.2 b h1 b (by simp [h2])
      exact h3 rfl
  · obtain ⟨l, r, vl, x, vr, fl, fu, fr, rfl, rfl, rfl, hl, hvl, a, b, e⟩ := h.at hd
    have hd' : r[c - d - 1]? = some k := by
      rw [List.getElem?_append_right (by omega), hl] at hc
      rw [show c - d = (c - d - 1) + 1 by omega, List.getElem?_cons_succ] at hc
      exact hc
    obtain ⟨l2, r2, vl2, x2, vr2, fl2, fu2, fr2, rfl, rfl, rfl, hl2, hvl2, a2, b2, e2⟩ := e.at hd'
    refine ⟨x2, x, fu2, fu, ?_, by subst hvl; simp, b2, b, ?_, ?_⟩
    · rw [List.getElem?_append_right (by omega), hvl, show c - d = (c - d - 1) + 1 by omega, List.getElem?_cons_succ, ← hvl2]; simp
    · intro b hb; rcases hb with h | h <;> simp [h]
    · intro hnd b h1 h2
      have h3 := (List.nodup_append.1 (List.nodup_append.1 hnd).2.1).2.2 b h2 b (by simp [h1])
      exact h3 rfl

theorem step_inv2 {w O V v fp c d k k2} (h : RdL w O [V] [v] fp) (hs : V.stepOk = true) (hk : V.kids[c]? = some k) (hk2 : V.kids[d]? = some k2) (hne : c ≠ d) :
    ∃ (y y2 : Value) (fn fk fk2 : List Nat), (∀ w', (∀ b ∈ fn, w'.heap[b]? = w.heap[b]?) → kidVal w' v c = some y ∧ kidVal w' v d = some y2) ∧ RdL w O [k] [y] fk ∧ RdL w O [k2] [y2] fk2 ∧
      (∀ b, b ∈ fn ∨ b ∈ fk ∨ b ∈ fk2 → b ∈ fp) ∧ (fp.Nodup → (∀ b, b ∈ fn → b ∈ fk → False) ∧ (∀ b, b ∈ fk → b ∈ fk2 → False)) := by
  cases h with
  | leaf hl t => cases hl <;> first | (simp [V.stepOk] at hs; done) | (simp [V.kids, flat] at hk; done)
  | @grp _ _ ch vch fp1 _ _ fp2 hg s t =>
    cases t
    have e : V.kids = ch := by cases hg <;> first | rfl | simp [V.stepOk] at hs
    rw [e] at hk hk2
    obtain ⟨y, y2, fk, fk2, hy, hy2, r1, r2, hm, hnd⟩ := s.at2 hk hk2 hne
    refine ⟨y, y2, [], fk, fk2, ?_, r1, r2, ?_, ?_⟩
    · intro w' _
      cases hg with
      | clo => simp [V.stepOk] at hs
      | fclo => simp [V.stepOk] at hs
      | _ => simp [kidVal, hy, hy2]
    · intro b hb; simp at hb; simpa using hm b hb
    · intro hn; simp at hn; exact ⟨by simp, hnd hn⟩
  | fblk h => cases h <;> simp [V.stepOk] at hs
  | @oblk _ _ b kk ch arr e fp1 _ _ fp2 h hb hO hkk s t =>
    cases t
    rw [h.kids] at hk hk2
    obtain ⟨y, y2, fk, fk2, hy, hy2, r1, r2, hm, hnd⟩ := s.at2 hk hk2 hne
    have look : ∀ {i : Nat} {z : Value}, (arr.toList.take ch.length)[i]? = some z → arr[i]? = some z := by
      intro i z hz
      rw [List.getElem?_take] at hz
      split at hz
      · rw [← Array.getElem?_toList]; exact hz
      · cases hz
    refine ⟨y, y2, [b], fk, fk2, ?_, r1, r2, ?_, ?_⟩
    · intro w' hw
      have hw' := hw b (by simp)
      cases h <;> simp [kidVal, World.cell?, hw', hb, look hy, look hy2]
    · intro b' hb'
      rcases hb' with h | h
      · simp at h; simp [h]
      · have := hm b' h; simp [this]
    · intro hn
      simp at hn
      refine ⟨?_, hnd hn.2⟩
      intro b' h1 h2
      simp at h1; subst h1
      exact hn.1 (hm _ (.inl h2))

theorem RdL.uniq {w O xs vs fp} (h : RdL w O xs vs fp) : ∀ {fp'}, RdL w O xs vs fp' → fp = fp' := by
  induction h with
  | nil => intro fp' h'; cases h'; rfl
  | leaf h _ ih =>
    intro fp' h'
    cases h' with
    | leaf _ t => exact ih t
    | grp g s t => cases g <;> cases h <;> (cases s; simpa using ih t)
    | fblk _ _ _ _ t => exact ih t
    | oblk g _ _ _ _ _ => cases g <;> cases h
  | grp g s t ih1 ih2 =>
    intro fp' h'
    cases h' with
    | leaf l t' =>
      cases g <;> cases l
    | grp g' s' t' =>
      cases g <;> cases g' <;> first | (rw [ih1 s', ih2 t']) | (rename_i e1 _ e2; subst e1; subst e2; rw [ih1 s', ih2 t']) | (subst_vars; rw [ih1 s', ih2 t'])
    | fblk g' _ _ _ _ => cases g <;> cases g'
    | oblk g' _ _ _ _ _ => cases g <;> cases g'
  | fblk g _ _ s t ih1 ih2 =>
    intro fp' h'
    cases h' with
    | leaf _ t' => exact ih2 t'
    | grp g' s' t' => cases g <;> cases g'
    | fblk _ _ _ _ t' => exact ih2 t'
    | oblk g' _ _ _ _ _ => cases g <;> cases g'
  | oblk g hb hO hk s t ih1 ih2 =>
    intro fp' h'
    cases h' with
    | leaf l t' => cases g <;> cases l
    | grp g' s' t' => cases g <;> cases g'
    | fblk g' _ _ _ _ => cases g <;> cases g'
    | oblk g' hb' hO' hk' s' t' =>
      have e : ∀ {b b' k k' ch ch'} {x v}, Hdr x v true b 0 k ch → Hdr x v true b' 0 k' ch' → b = b' ∧ ch = ch' := by
        intro b b' k k' ch ch' x v h1 h2
        cases h1 <;> cases h2 <;> exact ⟨rfl, rfl⟩
      obtain ⟨rfl, rfl⟩ := e g g'
      rw [hb] at hb'; cases hb'
      rw [ih1 s', ih2 t']

/-- a way that is no longer than the one to a node is not turned when what lies below that node is -/
theorem valAt_node {w w' : World} {O} : ∀ (q p : List Nat) {V v fp n u x fpn}, RdL w O [V] [v] fp → fp.Nodup → sub q V = some n → sub p V = some u → p.length ≤ q.length →
    valAt w q v = some x → RdL w O [n] [x] fpn → (∀ b' ∈ fp, b' ∉ fpn → w'.heap[b']? = w.heap[b']?) → valAt w' p v = valAt w p v := by
  intro q
  induction q with
  | nil =>
    intro p V v fp n u x fpn h _ _ _ hl _ _ _
    match p, hl with
    | [], _ => rfl
  | cons c q ih =>
    intro p V v fp n u x fpn h hnd hq hp hl hx hn hw
    match p with
    | [] => rfl
    | d :: p =>
      simp only [sub] at hq hp
      split at hq
      case isFalse => cases hq
      rename_i hok
      split at hq
      case h_2 => cases hq
      rename_i k hk
      rw [if_pos hok] at hp
      split at hp
      case h_2 => cases hp
      rename_i k2 hk2
      obtain ⟨y, fp1, fpk, fp2, e1, hy, hval, _⟩ := step_inv h hok hk
      have hxq : valAt w q y = some x := by simpa [valAt, hval w (fun _ _ => rfl)] using hx
      have hin : ∀ {y' fk}, RdL w O [k] [y'] fk → valAt w q y' = some x → ∀ b ∈ fpn, b ∈ fk := by
        intro y' fk hr hxx b hb
        obtain ⟨z, a1, a2, a3, e3, hz, hrz, _⟩ := ctx q hr hq
        rw [hxx] at hz; cases hz
        rw [e3, ← hn.uniq hrz]; simp [hb]
      by_cases hcd : c = d
      · subst hcd
        rw [hk] at hk2; cases hk2
        have hv' : kidVal w' v c = some y := hval w' fun b' hb' => hw b' (by rw [e1]; simp [hb']) (fun e => by
          have := hin hy hxq b' e
          rw [e1] at hnd
          exact (List.nodup_append.1 hnd).2.2 b' hb' b' (by simp [this]) rfl)
        simp only [valAt, hval w (fun _ _ => rfl), hv']
        refine ih p hy ?_ hq hp (by simpa using hl) hxq hn fun b' hb' hne => hw b' (by rw [e1]; simp [hb']) hne
        rw [e1] at hnd
        exact (List.nodup_append.1 (List.nodup_append.1 hnd).2.1).1
      · obtain ⟨z, z2, f0, fk, fk2, hzz, r1, r2, hm, hdj⟩ := step_inv2 h hok hk hk2 hcd
        have hz := (hzz w (fun _ _ => rfl))
        have : z = y := by have := hval w (fun _ _ => rfl); rw [hz.1] at this; cases this; rfl
        subst this
        have hd := hdj hnd
        have hsame : ∀ b', b' ∈ f0 ∨ b' ∈ fk2 → w'.heap[b']? = w.heap[b']? := by
          intro b' hb'
          refine hw b' (hm b' (hb'.imp id .inr)) fun hbn => ?_
          have hbk' := hin r1 hxq b' hbn
          rcases hb' with h | h
          · exact hd.1 _ h hbk'
          · exact hd.2 _ hbk' h
        simp only [valAt, hz.2, (hzz w' fun b hb => hsame b (.inl hb)).2]
        exact valAt_frame p r2 hp fun b hb => hsame b (.inr hb)

theorem setKids_step {x : V} {c us x'} (h : x.setKids c us = some x') : x'.stepOk = x.stepOk ∧ x'.node = x.node ∧ x'.kids = splice x.kids c us := by
  cases x with
  | sl o m xs =>
    simp only [V.setKids] at h
    obtain ⟨xs', hx, rfl⟩ := Option.map_eq_some_iff.1 h
    exact ⟨rfl, rfl, (setIn_spec hx).1⟩
  | ptr o x =>
    simp only [V.setKids] at h
    obtain ⟨y, hy, rfl⟩ := Option.map_eq_some_iff.1 h
    exact ⟨rfl, rfl, (setCells_spec hy).1⟩
  | agg cs => simp only [V.setKids] at h; split at h <;> cases h; exact ⟨rfl, rfl, rfl⟩
  | tup cs => simp only [V.setKids] at h; split at h <;> cases h; exact ⟨rfl, rfl, rfl⟩
  | _ => simp [V.setKids] at h

theorem splice_one {α : Type} {xs : List α} {c d : Nat} {u k : α} (hc : xs[c]? = some k) : (splice xs c [u])[d]? = if c = d then some u else xs[d]? := by
  have hlt : c < xs.length := (List.getElem?_eq_some_iff.1 hc).1
  have e : splice xs c [u] = xs.set c u := by
    unfold splice
    rw [List.set_eq_take_append_cons_drop, if_pos hlt]; simp
  rw [e, List.getElem?_set]
  by_cases h : c = d
  · subst h; simp [hlt]
  · simp [h]

theorem sub_upd : ∀ (q p : List Nat) {V V' u n n'}, sub p V = some u → sub q V = some n → upd q V n' = some V' → p.length ≤ q.length → (p.length = q.length → n.node = true → n'.node = true) →
    ∃ u', sub p V' = some u' ∧ (u.node = true → u'.node = true) := by
  intro q
  induction q with
  | nil =>
    intro p V V' u n n' hp hq hu hl hn
    match p, hl with
    | [], _ => cases hp; cases hq; cases hu; exact ⟨_, rfl, hn rfl⟩
  | cons c q ih =>
    intro p V V' u n n' hp hq hu hl hn
    simp only [sub] at hq
    split at hq
    case isFalse => cases hq
    rename_i hok
    split at hq
    case h_2 => cases hq
    rename_i k hk
    simp only [upd, hk] at hu
    split at hu
    case h_2 => cases hu
    rename_i k' hk'
    obtain ⟨e1, e2, e3⟩ := setKids_step hu
    match p with
    | [] => cases hp; exact ⟨V', rfl, by rw [e2]; exact id⟩
    | d :: p =>
      simp only [sub] at hp ⊢
      rw [if_pos hok] at hp
      rw [e1, if_pos hok, e3, splice_one hk]
      by_cases hcd : c = d
      · subst hcd
        rw [hk] at hp
        rw [if_pos rfl]
        exact ih p hp hq hk' (by simpa using hl) (by simpa using hn)
      · rw [if_neg hcd]
        exact ⟨u, hp, id⟩

theorem sub_snoc : ∀ (p : List Nat) {V u k c}, sub p V = some u → u.stepOk = true → u.kids[c]? = some k → sub (p ++ [c]) V = some k := by
  intro p
  induction p with
  | nil => intro V u k c h hs hk; cases h; simp [sub, hs, hk]
  | cons d p ih =>
    intro V u k c h hs hk
    rw [List.cons_append]
    simp only [sub] at h ⊢
    split at h
    case isFalse => cases h
    rename_i hok
    rw [if_pos hok]
    split at h
    case h_2 => cases h
    rename_i k' hk'
    try simp only [hk']
    exact ih h hs hk

theorem valAt_snoc (w : World) : ∀ (p : List Nat) {v x y : Value} {c}, valAt w p v = some x → kidVal w x c = some y → valAt w (p ++ [c]) v = some y := by
  intro p
  induction p with
  | nil => intro v x y c h hk; cases h; simp [valAt, hk]
  | cons d p ih =>
    intro v x y c h hk
    rw [List.cons_append]
    simp only [valAt] at h ⊢
    split at h
    case h_2 => cases h
    rename_i u hu
    try simp only [hu]
    exact ih h hk

theorem sub_upd_self : ∀ (q : List Nat) {V V' n n'}, sub q V = some n → upd q V n' = some V' → sub q V' = some n' := by
  intro q
  induction q with
  | nil => intro V V' n n' _ hu; cases hu; rfl
  | cons c q ih =>
    intro V V' n n' hq hu
    simp only [sub] at hq ⊢
    split at hq
    case isFalse => cases hq
    rename_i hok
    split at hq
    case h_2 => cases hq
    rename_i k hk
    simp only [upd, hk] at hu
    split at hu
    case h_2 => cases hu
    rename_i k' hk'
    obtain ⟨e1, e2, e3⟩ := setKids_step hu
    rw [e1, if_pos hok, e3, splice_one hk]
    rw [if_pos rfl]
    exact ih hq hk'

end Go.Proofs.Ythcnmahjhahafaa.Ax
