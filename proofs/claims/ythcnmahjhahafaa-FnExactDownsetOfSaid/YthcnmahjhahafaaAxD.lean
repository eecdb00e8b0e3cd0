/-
  States as lists, what is done with them, and that memory follows.
-/
import Derived.Test.YthcnmahjhahafaaAxC
namespace Go.Proofs.Ythcnmahjhahafaa.Ax
open Go

abbrev St := List (Nat × A)

def look : St → Nat → A
  | [], _ => .top
  | (k, a) :: r, s => if k = s then a else look r s

def mapS (g : Nat → Nat → Option Nat) : St → St
  | [] => []
  | (k, a) :: r => (k, a.mapR g) :: mapS g r

def erase (d : Nat) : St → St
  | [] => []
  | (k, a) :: r => if k = d then erase d r else (k, a) :: erase d r

def puts (d : Nat) (a : A) (σ : St) : St := (d, a.mapR (killG d 0)) :: erase d (mapS (killG d 0) σ)

theorem mapR_top (g) : A.mapR g .top = .top := rfl

theorem look_mapS (g) (σ : St) (s : Nat) : look (mapS g σ) s = (look σ s).mapR g := by
  induction σ with
  | nil => rfl
  | cons e r ih =>
    obtain ⟨k, a⟩ := e
    simp only [mapS, look]
    split <;> first | rfl | exact ih

theorem look_erase (d : Nat) (σ : St) (s : Nat) : look (erase d σ) s = if s = d then .top else look σ s := by
  induction σ with
  | nil => simp [erase, look]
  | cons e r ih =>
    obtain ⟨k, a⟩ := e
    simp only [erase]
    split
    · rename_i hk
      rw [ih]
      split
      · rfl
      · rename_i hs; simp only [look]; rw [if_neg (by omega)]
    · rename_i hk
      simp only [look]
      split
      · rename_i hks; rw [if_neg (by omega)]
      · exact ih

theorem look_puts (d : Nat) (a : A) (σ : St) : look (puts d a σ) = upF (setF (look σ) d .top) d (a.mapR (killG d 0)) := by
  funext s
  simp only [puts, look, upF, setF]
  by_cases h : s = d
  · simp [h]
  · rw [if_neg (by omega), if_neg h, look_erase, if_neg h, look_mapS, if_neg h]

/-- only some slots are kept -/
def keepG (ks : List Nat) (r _l : Nat) : Option Nat := if ks.contains r then some r else none
def restrict (ks : List Nat) (σ : St) : St := ks.map fun k => (k, (look σ k).mapR (keepG ks))
def dropG (ds : List Nat) (r _l : Nat) : Option Nat := if ds.contains r then none else some r
def dropS (ds : List Nat) : St → St
  | [] => []
  | (k, a) :: r => if ds.contains k then dropS ds r else (k, a.mapR (dropG ds)) :: dropS ds r

theorem look_restrict (ks : List Nat) (σ : St) (s : Nat) : look (restrict ks σ) s = if ks.contains s then (look σ s).mapR (keepG ks) else .top := by
  have key : ∀ l : List Nat, look (l.map fun k => (k, (look σ k).mapR (keepG ks))) s = if l.contains s then (look σ s).mapR (keepG ks) else .top := by
    intro l
    induction l with
    | nil => rfl
    | cons k r ih =>
      simp only [List.map_cons, look, List.contains_cons]
      by_cases h : k = s
      · subst h; simp
      · rw [if_neg h, ih]
        have : (s == k) = false := by simp; omega
        simp [this]
  exact key ks

theorem look_dropS (ds : List Nat) (σ : St) (s : Nat) : look (dropS ds σ) s = if ds.contains s then .top else (look σ s).mapR (dropG ds) := by
  induction σ with
  | nil => simp [dropS, look, A.mapR]
  | cons e r ih =>
    obtain ⟨k, a⟩ := e
    simp only [dropS]
    split
    · rename_i hk
      rw [ih]
      split
      · rfl
      · rename_i hs; simp only [look]; rw [if_neg (by rintro rfl; exact hs hk)]
    · rename_i hk
      simp only [look]
      split
      · rename_i hks; subst hks; rw [if_neg hk]
      · exact ih

theorem Sim.filter {w O L vals fp} (h : Sim w O L vals fp) (kp : Nat → Bool) :
    Sim w O (fun s => if kp s then (L s).mapR (fun r _ => if kp r then some r else none) else .top) vals (fun s => if kp s then fp s else []) := by
  refine ⟨?_, ?_, ?_, ?_, ?_⟩
  · intro s V hL
    by_cases hs : kp s
    · simp only [hs, if_true] at hL ⊢
      exact h.own s V (mapR_val hL)
    · simp [hs] at hL
  · intro s hL
    by_cases hs : kp s
    · simp only [hs, if_true] at hL ⊢
      exact h.non s fun V hV => hL V (by simp [hV, A.mapR])
    · simp [hs]
  · intro s hL
    by_cases hs : kp s
    · simp only [hs, if_true] at hL ⊢
      have hn : ∀ V, L s ≠ .val V := fun V hV => hL V (by simp [hV, A.mapR])
      have := (h.rel s hn).move (w' := w) (O' := O) (L' := fun s => if kp s then (L s).mapR (fun r _ => if kp r then some r else none) else .top) (vals' := vals)
        (fun r _ => if kp r then some r else none) (fun b hb _ => ⟨rfl, hb⟩) (by
        intro r p V u x r' hg hLr hsu hv
        split at hg
        · rename_i hk
          cases hg
          exact ⟨V, u, by simp [hk, hLr, A.mapR], hsu, hv, id⟩
        · cases hg)
      simpa [mapRL] using this
    · simp only [hs]; exact .top .nil
  · intro s
    by_cases hs : kp s
    · simp only [hs, if_true]; exact h.nd s
    · simp [hs]
  · intro s t b h1 h2
    by_cases hs : kp s
    · by_cases ht : kp t
      · simp only [hs, ht, if_true] at h1 h2; exact h.dj s t b h1 h2
      · simp [ht] at h2
    · simp [hs] at h1

structure Ok (σ : St) (a : Act) (w : World) (O : Nat → Prop) (gv : Nat → Value) (N : Nat) (vals : Nat → Value) (fp : Nat → List Nat) : Prop where
  sim : Sim w O (look σ) vals fp
  lo : ∀ s, s < N → vals s = a.tmps.getD s undef
  hi : ∀ s, N ≤ s → vals s = gv s
  sz : a.tmps.size = N
  df : a.defers = []

abbrev Sof (fp : Nat → List Nat) : Nat → Prop := fun b => ∃ s, b ∈ fp s

/-- what a run may have done to memory: what was there and was not one's own is as it was -/
structure Mv (w : World) (O S : Nat → Prop) (w' : World) (O' S' : Nat → Prop) : Prop where
  os : w'.os = w.os
  tape : w'.tape = w.tape
  output : w'.output = w.output
  size : w.heap.size ≤ w'.heap.size
  same : ∀ b, b < w.heap.size → ¬ S b → w'.heap[b]? = w.heap[b]? ∧ (O' b ↔ O b)
  new : ∀ b, S' b → S b ∨ w.heap.size ≤ b

theorem Mv.refl (w O S) : Mv w O S w O S := ⟨rfl, rfl, rfl, Nat.le_refl _, fun _ _ _ => ⟨rfl, .rfl⟩, fun _ h => .inl h⟩

theorem Mv.trans {w O S w1 O1 S1 w2 O2 S2} (h : Mv w O S w1 O1 S1) (k : Mv w1 O1 S1 w2 O2 S2) : Mv w O S w2 O2 S2 where
  os := k.os.trans h.os
  tape := k.tape.trans h.tape
  output := k.output.trans h.output
  size := Nat.le_trans h.size k.size
  same b hb hS := by
    obtain ⟨e, o⟩ := h.same b hb hS
    have hS1 : ¬ S1 b := fun h1 => (h.new b h1).elim hS (by omega)
    obtain ⟨e2, o2⟩ := k.same b (Nat.lt_of_lt_of_le hb h.size) hS1
    exact ⟨e2.trans e, o2.trans o⟩
  new b h2 := by
    rcases k.new b h2 with h1 | h1
    · exact h.new b h1
    · exact .inr (Nat.le_trans h.size h1)

theorem Mv.shrink {w O S w' O' S' S''} (h : Mv w O S w' O' S') (hs : ∀ b, S'' b → S' b) : Mv w O S w' O' S'' :=
  ⟨h.os, h.tape, h.output, h.size, h.same, fun b hb => h.new b (hs b hb)⟩

theorem Ok.drop {σ a w O gv N vals fp} (h : Ok σ a w O gv N vals fp) (ds : List Nat) :
    ∃ fp', Ok (dropS ds σ) a w O gv N vals fp' ∧ (∀ b, Sof fp' b → Sof fp b) := by
  refine ⟨fun s => if (!ds.contains s) then fp s else [], ⟨?_, h.lo, h.hi, h.sz, h.df⟩, ?_⟩
  · have := h.sim.filter (fun s => !ds.contains s)
    have e : look (dropS ds σ) = fun s => if (!ds.contains s) then (look σ s).mapR (fun r _ => if (!ds.contains r) then some r else none) else .top := by
      funext s
      rw [look_dropS]
      have : dropG ds = fun r _ => if (!ds.contains r) = true then some r else none := by
        funext r l; simp only [dropG]; cases ds.contains r <;> simp
      rw [this]; cases ds.contains s <;> simp
    rw [e]; exact this
  · rintro b ⟨s, hs⟩
    dsimp only at hs
    split at hs
    · exact ⟨s, hs⟩
    · simp at hs

theorem Ok.restrict {σ a w O gv N vals fp} (h : Ok σ a w O gv N vals fp) (ks : List Nat) :
    ∃ fp', Ok (restrict ks σ) a w O gv N vals fp' ∧ (∀ b, Sof fp' b → Sof fp b) := by
  refine ⟨fun s => if ks.contains s then fp s else [], ⟨?_, h.lo, h.hi, h.sz, h.df⟩, ?_⟩
  · have := h.sim.filter (fun s => ks.contains s)
    have e : look (Ax.restrict ks σ) = fun s => if ks.contains s then (look σ s).mapR (fun r _ => if ks.contains r then some r else none) else .top := by
      funext s
      rw [look_restrict]
      have : keepG ks = fun r _ => if ks.contains r = true then some r else none := by funext r l; rfl
      rw [this]
    rw [e]; exact this
  · rintro b ⟨s, hs⟩
    dsimp only at hs
    split at hs
    · exact ⟨s, hs⟩
    · simp at hs

theorem Act.put_some (a : Act) (d : Nat) (v : Value) : a.put (some d) v = { a with tmps := a.tmps.setIfInBounds d v } := rfl

theorem getD_set {a : Array Value} {d s : Nat} {v : Value} (hd : d < a.size) : (a.setIfInBounds d v).getD s undef = if s = d then v else a.getD s undef := by
  by_cases h : s = d
  · subst h; simp [hd]
  · simp [h, Array.getElem?_setIfInBounds_ne (Ne.symm h)]

theorem vals_put {vals : Nat → Value} {a : Act} {N : Nat} {d : Nat} {v : Value} (hd : d < N) (hsz : a.tmps.size = N) (lo : ∀ s, s < N → vals s = a.tmps.getD s undef) :
    ∀ s, s < N → upF vals d v s = (a.put (some d) v).tmps.getD s undef := by
  intro s hs
  rw [Act.put_some]
  simp only
  rw [getD_set (by omega)]
  simp only [upF]
  split
  · rfl
  · exact lo s hs

/-- a slot takes a value that owns nothing -/
theorem Ok.put_rel {σ a w O gv N vals fp} (h : Ok σ a w O gv N vals fp) {d : Nat} (hd : d < N) {x : A} {v : Value} (hr : RelL w O (look σ) vals [x] [v]) :
    ∃ fp', Ok (puts d x σ) (a.put (some d) v) w O gv N (upF vals d v) fp' ∧ (∀ b, Sof fp' b → Sof fp b) := by
  have h1 := h.sim.put_top d v
  have hr' : RelL w O (setF (look σ) d .top) (upF vals d v) [x.mapR (killG d 0)] [v] := by
    have := hr.move (w' := w) (O' := O) (L' := setF (look σ) d .top) (vals' := upF vals d v) (killG d 0) (fun b hb _ => ⟨rfl, hb⟩) (by
      intro r p V u y r' hg hLr hsu hv
      simp only [killG, Nat.zero_le, and_true] at hg
      split at hg
      · cases hg
      · rename_i hrd
        cases hg
        exact ⟨V, u, by simp [setF, hrd, hLr, A.mapR], hsu, by simpa [upF, hrd] using hv, id⟩)
    simpa [mapRL] using this
  have hv : upF vals d v d = v := by simp [upF]
  have h2 := h1.put_rel d (x.mapR (killG d 0)) (by simp [setF]) (by rw [hv]; exact hr')
  rw [← look_puts] at h2
  refine ⟨_, ⟨h2, vals_put hd h.sz h.lo, ?_, by simp [Act.put_some, h.sz], h.df⟩, ?_⟩
  · intro s hs; simp only [upF]; rw [if_neg (by omega)]; exact h.hi s hs
  · rintro b ⟨s, hs⟩
    simp only [upF] at hs
    split at hs
    · simp at hs
    · exact ⟨s, hs⟩

/-- a slot takes a value that owns what nobody else does -/
theorem Ok.put_own {σ a w O gv N vals fp} (h : Ok σ a w O gv N vals fp) {d : Nat} (hd : d < N) {x : V} {v : Value} {fpn : List Nat} (hr : RdL w O [x] [v] fpn) (hnd : fpn.Nodup)
    (hdj : ∀ b ∈ fpn, ¬ Sof fp b) :
    ∃ fp', Ok (puts d (.val x) σ) (a.put (some d) v) w O gv N (upF vals d v) fp' ∧ (∀ b, Sof fp' b → Sof fp b ∨ b ∈ fpn) := by
  have h1 := h.sim.put_top d v
  have hv : upF vals d v d = v := by simp [upF]
  have h2 := h1.put_own d x fpn (by simp [setF]) (by rw [hv]; exact hr) hnd (by
    intro b hb s hs
    simp only [upF] at hs
    split at hs
    · simp at hs
    · exact hdj b hb ⟨s, hs⟩)
  have e : look (puts d (.val x) σ) = upF (setF (look σ) d .top) d (.val x) := look_puts d (.val x) σ
  rw [← e] at h2
  refine ⟨_, ⟨h2, vals_put hd h.sz h.lo, ?_, by simp [Act.put_some, h.sz], h.df⟩, ?_⟩
  · intro s hs; simp only [upF]; rw [if_neg (by omega)]; exact h.hi s hs
  · rintro b ⟨s, hs⟩
    simp only [upF] at hs
    split at hs
    · exact .inr hs
    · exact .inl ⟨s, hs⟩

theorem Ok.world {σ a w w' O O' gv N vals fp} (h : Ok σ a w O gv N vals fp) (hst : Still w O w' O') (hown : ∀ b, Sof fp b → w'.heap[b]? = w.heap[b]? ∧ O' b) :
    Ok σ a w' O' gv N vals fp :=
  ⟨h.sim.world hst fun s b hb => hown b ⟨s, hb⟩, h.lo, h.hi, h.sz, h.df⟩

theorem heap_push (w : World) (o : Obj) (b : Nat) (hb : b < w.heap.size) : (w.heap.push o)[b]? = w.heap[b]? := by
  rw [Array.getElem?_push, if_neg (by omega)]

/-- a new block -/
theorem Ok.alloc {σ a w O gv N vals fp} (h : Ok σ a w O gv N vals fp) (o : Obj) :
    Ok σ a { w with heap := w.heap.push o } (fun b => O b ∨ b = w.heap.size) gv N vals fp :=
  h.world (fun b hb hlt => ⟨heap_push w o b hlt, by simp; exact ⟨hb, by omega⟩⟩) fun b hb => by
    obtain ⟨s, hs⟩ := hb
    obtain ⟨h1, h2⟩ := h.sim.fpO s b hs
    exact ⟨heap_push w o b h2, .inl h1⟩

theorem Mv.alloc (w : World) (O S : Nat → Prop) (o : Obj) (S' : Nat → Prop) (hS : ∀ b, S' b → S b ∨ b = w.heap.size) :
    Mv w O S { w with heap := w.heap.push o } (fun b => O b ∨ b = w.heap.size) S' :=
  ⟨rfl, rfl, rfl, by simp, fun b hb _ => ⟨heap_push w o b hb, by constructor; rintro (h | h); exact h; omega; exact .inl⟩, fun b hb => (hS b hb).imp id (by omega)⟩

end Go.Proofs.Ythcnmahjhahafaa.Ax
