/-
  States: what the slots of a frame hold, as trees, references into trees, and addresses; what it means that a frame and a memory are in such a state.
-/
import Derived.Test.YthcnmahjhahafaaAxB
namespace Go.Proofs.Ythcnmahjhahafaa.Ax
open Go

inductive A where
  | top
  | val (v : V)
  | ref (r : Nat) (p : List Nat)
  | addr (r : Nat) (p : List Nat) (c : Nat)
  | fad (cs : List V)
  | agg (as : List A)
  | clo (f : Nat) (as : List A)

instance : Inhabited A := ⟨.top⟩

mutual
/-- references go elsewhere, or are forgotten -/
def A.mapR (g : Nat → Nat → Option Nat) : A → A
  | .top => .top
  | .val v => .val v
  | .ref r p => match g r p.length with | some r' => .ref r' p | none => .top
  | .addr r p c => match g r p.length with | some r' => .addr r' p c | none => .top
  | .fad cs => .fad cs
  | .agg as => .agg (mapRL g as)
  | .clo f as => .clo f (mapRL g as)
def mapRL (g : Nat → Nat → Option Nat) : List A → List A
  | [] => []
  | a :: r => a.mapR g :: mapRL g r
end

def killG (d n : Nat) (r l : Nat) : Option Nat := if r = d ∧ n ≤ l then none else some r
def renG (s d : Nat) (r _l : Nat) : Option Nat := some (if r = s then d else r)

def hdrBlock : Value → Option Nat
  | .slice (some ⟨b, 0, none⟩) _ _ => some b
  | .pointer (some ⟨b, 0, none⟩) => some b
  | _ => none

theorem Hdr.block {x v o b k ch} (h : Hdr x v o b 0 k ch) : hdrBlock v = some b := by cases h <;> rfl

inductive RelL (w : World) (O : Nat → Prop) (L : Nat → A) (vals : Nat → Value) : List A → List Value → Prop
  | nil : RelL w O L vals [] []
  | top {v as vs} (t : RelL w O L vals as vs) : RelL w O L vals (.top :: as) (v :: vs)
  | val {x v as vs} (h : x.hasOwn = false) (hr : RdL w O [x] [v] []) (t : RelL w O L vals as vs) : RelL w O L vals (.val x :: as) (v :: vs)
  | ref {r p V u v as vs} (hL : L r = .val V) (hs : sub p V = some u) (hv : valAt w p (vals r) = some v) (t : RelL w O L vals as vs) :
      RelL w O L vals (.ref r p :: as) (v :: vs)
  | addr {r p c V u hdr b as vs} (hL : L r = .val V) (hs : sub p V = some u) (hn : u.node = true) (hv : valAt w p (vals r) = some hdr) (hb : hdrBlock hdr = some b)
      (t : RelL w O L vals as vs) : RelL w O L vals (.addr r p c :: as) (.pointer (some ⟨b, c, none⟩) :: vs)
  | fad {cs us b o as vs} (hc : ∀ i, i < us.length → w.cell? ⟨b, o + i, none⟩ = us[i]?) (hO : (cs = [] ∨ ¬ O b) ∧ anyOwn cs = false) (hr : RdL w O cs us []) (t : RelL w O L vals as vs) :
      RelL w O L vals (.fad cs :: as) (.pointer (some ⟨b, o, none⟩) :: vs)
  | agg {bs us as vs} (s : RelL w O L vals bs us) (t : RelL w O L vals as vs) : RelL w O L vals (.agg bs :: as) (.agg us.toArray :: vs)
  | clo {f bs us as vs} (s : RelL w O L vals bs us) (t : RelL w O L vals as vs) : RelL w O L vals (.clo f bs :: as) (.func (.func f) #[] us.toArray :: vs)

theorem RelL.length {w O L vals as vs} (h : RelL w O L vals as vs) : vs.length = as.length := by
  induction h <;> simp_all

/-- frozen memory stays -/
def Still (w : World) (O : Nat → Prop) (w' : World) (O' : Nat → Prop) : Prop := ∀ b, ¬ O b → b < w.heap.size → w'.heap[b]? = w.heap[b]? ∧ ¬ O' b

theorem fad_frame {w w' : World} {O O' : Nat → Prop} {cs : List V} {us : List Value} {b o : Nat} (hst : Still w O w' O') (hc : ∀ i, i < us.length → w.cell? ⟨b, o + i, none⟩ = us[i]?) (hO : (cs = [] ∨ ¬ O b) ∧ anyOwn cs = false)
    (hl : us.length = cs.length) : (∀ i, i < us.length → w'.cell? ⟨b, o + i, none⟩ = us[i]?) ∧ (cs = [] ∨ ¬ O' b) ∧ anyOwn cs = false := by
  by_cases he : cs = []
  · subst he; simp at hl; subst hl; exact ⟨by simp, .inl rfl, rfl⟩
  · have hpos : 0 < us.length := by rw [hl]; exact List.length_pos_iff.2 he
    have hlt : b < w.heap.size := cell_lt (u := us[0]) (by rw [hc 0 hpos]; simp [hpos])
    obtain ⟨e, hO'⟩ := hst b (hO.1.resolve_left he) hlt
    exact ⟨fun i hi => by rw [cell_same e]; exact hc i hi, .inr hO', hO.2⟩

theorem RelL.move {w w' : World} {O O' : Nat → Prop} {L L' : Nat → A} {vals vals' : Nat → Value} {as vs} (g : Nat → Nat → Option Nat) (h : RelL w O L vals as vs)
    (hst : Still w O w' O')
    (href : ∀ r p V u v r', g r p.length = some r' → L r = .val V → sub p V = some u → valAt w p (vals r) = some v →
      ∃ V' u', L' r' = .val V' ∧ sub p V' = some u' ∧ valAt w' p (vals' r') = some v ∧ (u.node = true → u'.node = true)) :
    RelL w' O' L' vals' (mapRL g as) vs := by
  induction h with
  | nil => exact .nil
  | top _ ih => exact .top ih
  | val h hr _ ih => exact .val h (hr.frame (by simp) hst) ih
  | @ref r p V u v as vs hL hs hv t ih =>
    simp only [mapRL, A.mapR]
    cases hg : g r p.length with
    | none => exact .top ih
    | some r' => obtain ⟨V', u', a, b, c, _⟩ := href r p V u v r' hg hL hs hv; exact .ref a b c ih
  | @addr r p c V u hdr b as vs hL hs hn hv hb t ih =>
    simp only [mapRL, A.mapR]
    cases hg : g r p.length with
    | none => exact .top ih
    | some r' => obtain ⟨V', u', a, b', c', d⟩ := href r p V u hdr r' hg hL hs hv; exact .addr a b' (d hn) c' hb ih
  | fad hc hO hr t ih =>
    obtain ⟨a, b⟩ := fad_frame hst hc hO hr.length
    exact .fad a b (hr.frame (by simp) hst) ih
  | agg s t ih1 ih2 => exact .agg ih1 ih2
  | clo s t ih1 ih2 => exact .clo ih1 ih2

mutual
theorem mapR_id : (a : A) → a.mapR (fun r _ => some r) = a
  | .top => rfl
  | .val _ => rfl
  | .ref _ _ => rfl
  | .addr _ _ _ => rfl
  | .fad _ => rfl
  | .agg as => by simp only [A.mapR]; rw [mapRL_id as]
  | .clo f as => by simp only [A.mapR]; rw [mapRL_id as]
theorem mapRL_id : (as : List A) → mapRL (fun r _ => some r) as = as
  | [] => rfl
  | a :: r => by simp only [mapRL]; rw [mapR_id a, mapRL_id r]
end

mutual
theorem mapR_idemG (g : Nat → Nat → Option Nat) (hg : ∀ r l, g r l = none ∨ g r l = some r) : (a : A) → (a.mapR g).mapR g = a.mapR g
  | .top => rfl
  | .val _ => rfl
  | .ref r p => by rcases hg r p.length with h | h <;> simp [A.mapR, h]
  | .addr r p c => by rcases hg r p.length with h | h <;> simp [A.mapR, h]
  | .fad _ => rfl
  | .agg as => by simp only [A.mapR]; rw [mapRL_idemG g hg as]
  | .clo f as => by simp only [A.mapR]; rw [mapRL_idemG g hg as]
theorem mapRL_idemG (g : Nat → Nat → Option Nat) (hg : ∀ r l, g r l = none ∨ g r l = some r) : (as : List A) → mapRL g (mapRL g as) = mapRL g as
  | [] => rfl
  | a :: r => by simp only [mapRL]; rw [mapR_idemG g hg a, mapRL_idemG g hg r]
end

structure Sim (w : World) (O : Nat → Prop) (L : Nat → A) (vals : Nat → Value) (fp : Nat → List Nat) : Prop where
  own : ∀ s V, L s = .val V → RdL w O [V] [vals s] (fp s)
  non : ∀ s, (∀ V, L s ≠ .val V) → fp s = []
  rel : ∀ s, (∀ V, L s ≠ .val V) → RelL w O L vals [L s] [vals s]
  nd : ∀ s, (fp s).Nodup
  dj : ∀ s t b, b ∈ fp s → b ∈ fp t → s = t

theorem Sim.fpO {w O L vals fp} (h : Sim w O L vals fp) (s b) (hb : b ∈ fp s) : O b ∧ b < w.heap.size := by
  cases hL : L s with
  | val V => exact (h.own s V hL).fpO b hb
  | _ => rw [h.non s (by simp [hL])] at hb; simp at hb

/-- memory grows: what was there stays -/
theorem Sim.world {w w' : World} {O O' : Nat → Prop} {L vals fp} (h : Sim w O L vals fp) (hst : Still w O w' O') (hown : ∀ s, ∀ b ∈ fp s, w'.heap[b]? = w.heap[b]? ∧ O' b) :
    Sim w' O' L vals fp where
  own s V hL := (h.own s V hL).frame (hown s) hst
  non := h.non
  rel s hL := by
    have := (h.rel s hL).move (w' := w') (O' := O') (L' := L) (vals' := vals) (fun r _ => some r) hst (by
      intro r p V u v r' hr hLr hs hv
      cases hr
      refine ⟨V, u, hLr, hs, ?_, id⟩
      rw [valAt_frame p (h.own r V hLr) hs fun b hb => (hown r b hb).1]; exact hv)
    rwa [mapRL_id] at this
  nd := h.nd
  dj := h.dj

def upF {α : Type} (f : Nat → α) (d : Nat) (a : α) : Nat → α := fun s => if s = d then a else f s

theorem mapR_val {g a V} (h : A.mapR g a = .val V) : a = .val V := by
  cases a <;> simp only [A.mapR] at h <;> first | exact h | cases h | (split at h <;> cases h)

/-- slot d takes a new value; what referred to it is forgotten -/
def setF (L : Nat → A) (d : Nat) (a : A) : Nat → A := fun s => if s = d then a else (L s).mapR (killG d 0)

theorem Sim.put_top {w O L vals fp} (h : Sim w O L vals fp) (d : Nat) (v : Value) : Sim w O (setF L d .top) (upF vals d v) (upF fp d []) where
  own s V hL := by
    by_cases hs : s = d
    · simp [setF, hs] at hL
    · simp only [setF, if_neg hs] at hL
      simp only [upF, if_neg hs]
      exact h.own s V (mapR_val hL)
  non s hL := by
    by_cases hs : s = d
    · simp [upF, hs]
    · simp only [upF, if_neg hs]
      refine h.non s fun V hV => hL V ?_
      simp [setF, hs, hV, A.mapR]
  rel s hL := by
    by_cases hs : s = d
    · simp only [setF, if_pos hs]; exact .top .nil
    · have hn : ∀ V, L s ≠ .val V := fun V hV => hL V (by simp [setF, hs, hV, A.mapR])
      have := (h.rel s hn).move (w' := w) (O' := O) (L' := setF L d .top) (vals' := upF vals d v) (killG d 0) (fun b hb _ => ⟨rfl, hb⟩) (by
        intro r p V u x r' hr hLr hsu hv
        simp only [killG, Nat.zero_le, and_true] at hr
        split at hr
        · cases hr
        · rename_i hrd
          cases hr
          exact ⟨V, u, by simp [setF, hrd, hLr, A.mapR], hsu, by simpa [upF, hrd] using hv, id⟩)
      simpa [setF, hs, upF, mapRL] using this
  nd s := by
    by_cases hs : s = d
    · simp [upF, hs]
    · simp only [upF, if_neg hs]; exact h.nd s
  dj s t b h1 h2 := by
    simp only [upF] at h1 h2
    split at h1
    · simp at h1
    · split at h2
      · simp at h2
      · exact h.dj s t b h1 h2

/-- an empty slot takes a value that owns what nobody else does -/
theorem Sim.put_own {w O L vals fp} (h : Sim w O L vals fp) (d : Nat) (V : V) (fpn : List Nat) (hd : L d = .top) (hr : RdL w O [V] [vals d] fpn) (hnd : fpn.Nodup)
    (hdj : ∀ b ∈ fpn, ∀ s, b ∉ fp s) : Sim w O (upF L d (.val V)) vals (upF fp d fpn) where
  own s V' hL := by
    by_cases hs : s = d
    · subst hs; simp [upF] at hL; subst hL; simpa [upF] using hr
    · simp only [upF, if_neg hs] at hL ⊢
      exact h.own s V' hL
  non s hL := by
    by_cases hs : s = d
    · simp [upF, hs] at hL
    · simp only [upF, if_neg hs] at hL ⊢
      exact h.non s hL
  rel s hL := by
    by_cases hs : s = d
    · simp [upF, hs] at hL
    · simp only [upF, if_neg hs] at hL ⊢
      have hm := (h.rel s hL)
      have key : ∀ {as vs}, RelL w O L vals as vs → RelL w O (upF L d (.val V)) vals as vs := by
        intro as vs hh
        have hLd : ∀ {r : Nat} {U : Ax.V}, L r = .val U → upF L d (.val V) r = .val U := by
          intro r U hU
          by_cases hrd : r = d
          · subst hrd; rw [hd] at hU; cases hU
          · simp [upF, hrd, hU]
        induction hh with
        | nil => exact .nil
        | top _ ih => exact .top ih
        | val h hr _ ih => exact .val h hr ih
        | ref hL hs hv _ ih => exact .ref (hLd hL) hs hv ih
        | addr hL hs hn hv hb _ ih => exact .addr (hLd hL) hs hn hv hb ih
        | fad hc hO hr _ ih => exact .fad hc hO hr ih
        | agg _ _ ih1 ih2 => exact .agg ih1 ih2
        | clo _ _ ih1 ih2 => exact .clo ih1 ih2
      exact key hm
  nd s := by
    by_cases hs : s = d
    · simp [upF, hs, hnd]
    · simp only [upF, if_neg hs]; exact h.nd s
  dj s t b h1 h2 := by
    simp only [upF] at h1 h2
    split at h1
    · split at h2
      · simp [*]
      · exact absurd h2 (hdj b h1 t)
    · split at h2
      · exact absurd h1 (hdj b h2 s)
      · exact h.dj s t b h1 h2

/-- an empty slot takes a value that owns nothing -/
theorem Sim.put_rel {w O L vals fp} (h : Sim w O L vals fp) (d : Nat) (a : A) (hd : L d = .top) (hr : RelL w O L vals [a] [vals d]) :
    Sim w O (upF L d a) vals fp := by
  have hfd : fp d = [] := h.non d (by simp [hd])
  have key : ∀ {as vs}, RelL w O L vals as vs → RelL w O (upF L d a) vals as vs := by
    intro as vs hh
    have hLd : ∀ {r : Nat} {U : Ax.V}, L r = .val U → upF L d a r = .val U := by
      intro r U hU
      by_cases hrd : r = d
      · subst hrd; rw [hd] at hU; cases hU
      · simp [upF, hrd, hU]
    induction hh with
    | nil => exact .nil
    | top _ ih => exact .top ih
    | val h hr _ ih => exact .val h hr ih
    | ref hL hs hv _ ih => exact .ref (hLd hL) hs hv ih
    | addr hL hs hn hv hb _ ih => exact .addr (hLd hL) hs hn hv hb ih
    | fad hc hO hr _ ih => exact .fad hc hO hr ih
    | agg _ _ ih1 ih2 => exact .agg ih1 ih2
    | clo _ _ ih1 ih2 => exact .clo ih1 ih2
  refine ⟨?_, ?_, ?_, h.nd, h.dj⟩
  · intro s V' hL
    by_cases hs : s = d
    · subst hs; simp [upF] at hL; subst hL
      rw [hfd]
      cases hr with
      | val _ hr t => cases t; exact hr
    · simp only [upF, if_neg hs] at hL
      exact h.own s V' hL
  · intro s hL
    by_cases hs : s = d
    · subst hs; exact hfd
    · simp only [upF, if_neg hs] at hL
      exact h.non s hL
  · intro s hL
    by_cases hs : s = d
    · subst hs; simp only [upF, if_true]; exact key hr
    · simp only [upF, if_neg hs] at hL ⊢
      exact key (h.rel s hL)

/-- the tree of one owner changes, in memory or not; references that go n steps or more into it are forgotten -/
theorem Sim.turn {w w' : World} {O O' : Nat → Prop} {L vals fp} (h : Sim w O L vals fp) (r n : Nat) (Vr V' : V) (fpn : List Nat) (hr : L r = .val Vr) (hst : Still w O w' O')
    (hown : ∀ s, s ≠ r → ∀ b ∈ fp s, w'.heap[b]? = w.heap[b]? ∧ O' b) (hR : RdL w' O' [V'] [vals r] fpn) (hnd : fpn.Nodup) (hdj : ∀ b ∈ fpn, ∀ s, s ≠ r → b ∉ fp s)
    (hv : ∀ p u v, p.length < n → sub p Vr = some u → valAt w p (vals r) = some v → ∃ u', sub p V' = some u' ∧ (u.node = true → u'.node = true) ∧ valAt w' p (vals r) = some v) :
    Sim w' O' (fun s => if s = r then .val V' else (L s).mapR (killG r n)) vals (upF fp r fpn) := by
  refine ⟨?_, ?_, ?_, ?_, ?_⟩
  · intro s V'' hL
    by_cases hs : s = r
    · subst hs; simp at hL; subst hL; simpa [upF] using hR
    · simp only [if_neg hs] at hL
      simp only [upF, if_neg hs]
      exact (h.own s V'' (mapR_val hL)).frame (hown s hs) hst
  · intro s hL
    by_cases hs : s = r
    · subst hs; simp at hL
    · simp only [if_neg hs] at hL
      simp only [upF, if_neg hs]
      exact h.non s fun V hV => hL V (by simp [hV, A.mapR])
  · intro s hL
    by_cases hs : s = r
    · subst hs; simp at hL
    · simp only [if_neg hs] at hL ⊢
      have hn : ∀ V, L s ≠ .val V := fun V hV => hL V (by simp [hV, A.mapR])
      have := (h.rel s hn).move (w' := w') (O' := O') (L' := fun s => if s = r then .val V' else (L s).mapR (killG r n)) (vals' := vals) (killG r n) hst (by
        intro r1 p V u x r' hg hLr hsu hva
        simp only [killG] at hg
        split at hg
        · cases hg
        · rename_i hcond
          cases hg
          by_cases hrr : r1 = r
          · subst hrr
            rw [hr] at hLr; cases hLr
            have hlt : p.length < n := by
              rcases Nat.lt_or_ge p.length n with h | h
              · exact h
              · exact absurd ⟨rfl, h⟩ hcond
            obtain ⟨u', a, b, c⟩ := hv p u x hlt hsu hva
            exact ⟨V', u', by simp, a, c, b⟩
          · refine ⟨V, u, by simp [hrr, hLr, A.mapR], hsu, ?_, id⟩
            rw [valAt_frame p (h.own r1 V hLr) hsu fun b hb => (hown r1 hrr b hb).1]; exact hva)
      simpa [mapRL] using this
  · intro s
    by_cases hs : s = r
    · subst hs; simpa [upF] using hnd
    · simp only [upF, if_neg hs]; exact h.nd s
  · intro s t b h1 h2
    simp only [upF] at h1 h2
    split at h1
    · split at h2
      · simp [*]
      · rename_i ht; exact absurd h2 (hdj b h1 t ht)
    · split at h2
      · rename_i hs _; exact absurd h1 (hdj b h2 s hs)
      · exact h.dj s t b h1 h2

/-- what slot s owns is handed to slot d (which is empty); s refers to it from then on -/
theorem Sim.hand {w O L vals fp} (h : Sim w O L vals fp) (s d : Nat) (V : V) (hsd : s ≠ d) (hs : L s = .val V) (hd : L d = .top) (hv : vals d = vals s) :
    Sim w O (fun t => if t = d then .val V else if t = s then .ref d [] else (L t).mapR (renG s d)) vals (upF (upF fp s []) d (fp s)) := by
  have hfd : fp d = [] := h.non d (by simp [hd])
  have hmove : ∀ {as vs}, RelL w O L vals as vs → RelL w O (fun t => if t = d then .val V else if t = s then .ref d [] else (L t).mapR (renG s d)) vals (mapRL (renG s d) as) vs := by
    intro as vs hh
    refine hh.move (renG s d) (fun b hb _ => ⟨rfl, hb⟩) ?_
    intro r p U u x r' hg hLr hsu hva
    simp only [renG, Option.some.injEq] at hg
    by_cases hrs : r = s
    · subst hrs
      simp at hg; subst hg
      rw [hs] at hLr; cases hLr
      exact ⟨V, u, by simp, hsu, by rw [hv]; exact hva, id⟩
    · simp [hrs] at hg; subst hg
      have hrd : r ≠ d := by rintro rfl; rw [hd] at hLr; cases hLr
      exact ⟨U, u, by simp [hrd, hrs, hLr, A.mapR], hsu, hva, id⟩
  refine ⟨?_, ?_, ?_, ?_, ?_⟩
  · intro t U hL
    by_cases htd : t = d
    · subst htd; simp at hL; subst hL
      simp only [upF, if_true]
      rw [hv]; exact h.own s V hs
    · simp only [if_neg htd] at hL
      by_cases hts : t = s
      · simp [hts] at hL
      · simp only [if_neg hts] at hL
        simp only [upF, if_neg htd, if_neg hts]
        exact h.own t U (mapR_val hL)
  · intro t hL
    by_cases htd : t = d
    · subst htd; simp at hL
    · by_cases hts : t = s
      · simp [upF, hts, hsd]
      · simp only [if_neg htd, if_neg hts] at hL
        simp only [upF, if_neg htd, if_neg hts]
        exact h.non t fun U hU => hL U (by simp [hU, A.mapR])
  · intro t hL
    by_cases htd : t = d
    · subst htd; simp at hL
    · by_cases hts : t = s
      · subst hts
        simp only [if_neg htd, if_true]
        refine .ref (V := V) (u := V) (by simp) rfl ?_ .nil
        simp [valAt, hv]
      · simp only [if_neg htd, if_neg hts] at hL ⊢
        have hn : ∀ U, L t ≠ .val U := fun U hU => hL U (by simp [hU, A.mapR])
        simpa [mapRL] using hmove (h.rel t hn)
  · intro t
    by_cases htd : t = d
    · subst htd; simpa [upF] using h.nd s
    · by_cases hts : t = s
      · simp [upF, hts, hsd]
      · simp only [upF, if_neg htd, if_neg hts]; exact h.nd t
  · intro t t' b h1 h2
    simp only [upF] at h1 h2
    split at h1
    · split at h2
      · simp [*]
      · split at h2
        · simp at h2
        · rename_i hne; exact absurd (h.dj _ _ b h1 h2).symm hne
    · split at h1
      · simp at h1
      · split at h2
        · rename_i hne _; exact absurd (h.dj _ _ b h1 h2) hne
        · split at h2
          · simp at h2
          · exact h.dj t t' b h1 h2

end Go.Proofs.Ythcnmahjhahafaa.Ax
