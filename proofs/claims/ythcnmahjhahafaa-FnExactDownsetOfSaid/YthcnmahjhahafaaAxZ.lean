/-
  What the walk stops at, against partial functions on plain data: where such a function gives a value, the program gives it.
-/
import Derived.Test.YthcnmahjhahafaaAxW
namespace Go.Proofs.Ythcnmahjhahafaa.Ax
open Go

/-- a value if something holds -/
noncomputable def ask {α : Type} (p : Prop) (x : Option α) : Option α := @ite _ p (Classical.propDecidable p) x none
/-- an element -/
def nth {α : Type} [Inhabited α] (xs : List α) (i : Nat) : α := xs.getD i default

theorem ask_some {α : Type} {p : Prop} {x : Option α} {v : α} : ask p x = some v ↔ p ∧ x = some v := by
  unfold ask; split <;> simp_all
theorem ask_pos {α : Type} {p : Prop} {x : Option α} (h : p) : ask p x = x := by unfold ask; rw [if_pos h]

/-- rounds -/
def iter {σ τ : Type} (body : σ → Option (σ ⊕ τ)) : Nat → σ → Option τ
  | 0, _ => none
  | n + 1, s => match body s with
    | none => none
    | some (.inl s') => iter body n s'
    | some (.inr t) => some t
theorem iter_up {σ τ : Type} {body : σ → Option (σ ⊕ τ)} : ∀ {n m : Nat} {s : σ} {t : τ}, n ≤ m → iter body n s = some t → iter body m s = some t := by
  intro n
  induction n with
  | zero => intro m s t _ h; cases h
  | succ n ih =>
    intro m s t hm h
    match m, hm with
    | m + 1, hm =>
      simp only [iter] at h ⊢
      split at h
      · cases h
      · exact ih (by omega) h
      · exact h
open Classical in
/-- a loop's end, if it has one -/
noncomputable def loopO {σ τ : Type} (body : σ → Option (σ ⊕ τ)) (s : σ) : Option τ := if h : ∃ t n, iter body n s = some t then some (Classical.choose h) else none
theorem loopO_some {σ τ : Type} {body : σ → Option (σ ⊕ τ)} {s : σ} {t : τ} : loopO body s = some t ↔ ∃ n, iter body n s = some t := by
  unfold loopO
  constructor
  · intro h
    split at h
    · rename_i hx
      cases h
      exact Classical.choose_spec hx
    · cases h
  · rintro ⟨n, hn⟩
    rw [dif_pos ⟨t, n, hn⟩]
    obtain ⟨m, hm⟩ := Classical.choose_spec (⟨t, n, hn⟩ : ∃ t n, iter body n s = some t)
    have h1 := iter_up (Nat.le_max_left n m) hn
    have h2 := iter_up (Nat.le_max_right n m) hm
    rw [h1] at h2
    exact h2.symm
theorem loopO_eq {σ τ : Type} (body : σ → Option (σ ⊕ τ)) (s : σ) : loopO body s = (match body s with
    | none => none
    | some (.inl s') => loopO body s'
    | some (.inr t) => some t) := by
  apply Option.ext
  intro t
  rw [loopO_some]
  constructor
  · rintro ⟨n, hn⟩
    cases n with
    | zero => cases hn
    | succ n =>
      simp only [iter] at hn
      split at hn
      · cases hn
      · exact loopO_some.2 ⟨n, hn⟩
      · exact hn
  · intro h
    split at h
    · cases h
    · rename_i s' e
      obtain ⟨n, hn⟩ := loopO_some.1 h
      exact ⟨n + 1, by simp only [iter, e]; exact hn⟩
    · rename_i t' e
      exact ⟨1, by simp only [iter, e]; exact h⟩
/-- a function that calls itself, by a bound on the depth -/
def upO {α : Type} (f : Nat → Option α) : Prop := ∀ n m v, n ≤ m → f n = some v → f m = some v
open Classical in
noncomputable def limO {α : Type} (f : Nat → Option α) : Option α := if h : ∃ v n, f n = some v then some (Classical.choose h) else none
theorem limO_some {α : Type} {f : Nat → Option α} {v : α} (h : limO f = some v) : ∃ n, f n = some v := by
  unfold limO at h
  split at h
  · rename_i hx
    cases h
    exact Classical.choose_spec hx
  · cases h
theorem limO_of {α : Type} {f : Nat → Option α} (hu : upO f) {v : α} {n : Nat} (h : f n = some v) : limO f = some v := by
  unfold limO
  rw [dif_pos ⟨v, n, h⟩]
  obtain ⟨m, hm⟩ := Classical.choose_spec (⟨v, n, h⟩ : ∃ v n, f n = some v)
  have h1 := hu _ _ _ (Nat.le_max_left n m) h
  have h2 := hu _ _ _ (Nat.le_max_right n m) hm
  rw [h1] at h2
  exact h2.symm

abbrev nilL (α : Type) : List α := []
/-- slices of data of one kind -/
abbrev slr {α : Type} (o : Bool) (m : Nat) (f : α → V) (xs : List α) : V := .sl o m (xs.map f)

/-- as it is handed on for reading -/
class Fz {α : Type} (f : α → V) (g : outParam (α → V)) : Prop where
  eq : ∀ x, (f x).fz = g x
instance : Fz vint vint := ⟨fun _ => rfl⟩
instance : Fz V.bool V.bool := ⟨fun _ => rfl⟩
instance : Fz V.str V.str := ⟨fun _ => rfl⟩
theorem fzL_map {α : Type} (f : α → V) {g : α → V} [Fz f g] (xs : List α) : fzL (xs.map f) = xs.map g := by
  induction xs with
  | nil => rfl
  | cons x r ih => simp [fzL, Fz.eq, ih]
instance {α : Type} (m : Nat) (f g : α → V) [Fz f g] : Fz (slr true m f) (slr false m g) := ⟨fun x => by simp [slr, V.fz, fzL_map]⟩
instance {α : Type} (m : Nat) (f : α → V) : Fz (slr false m f) (slr false m f) := ⟨fun x => by simp [slr, V.fz]⟩
theorem fz_slr {α : Type} (m : Nat) (f : α → V) {g : α → V} [Fz f g] (xs : List α) : V.fz (.sl true m (xs.map f)) = .sl false m (xs.map g) := by simp [V.fz, fzL_map]
theorem fz_at {α : Type} (f : α → V) {g : α → V} [Fz f g] (x : α) : V.fz (f x) = g x := Fz.eq x

abbrev rA2 {α : Type} (f : α → V) (p : α × α) : V := .agg [f p.1, f p.2]
abbrev rA3 {α : Type} (f : α → V) (p : α × α × α) : V := .agg [f p.1, f p.2.1, f p.2.2]
abbrev rP {α : Type} (o : Bool) (f : α → V) (x : α) : V := .ptr o (f x)
instance {α : Type} (f g : α → V) [Fz f g] : Fz (rA2 f) (rA2 g) := ⟨fun x => by simp [V.fz, fzL, Fz.eq]⟩
instance {α : Type} (f g : α → V) [Fz f g] : Fz (rA3 f) (rA3 g) := ⟨fun x => by simp [V.fz, fzL, Fz.eq]⟩

/-- one cell each -/
def One {α : Type} (f : α → V) : Prop := ∀ x, (f x).cells = [f x] ∧ (f x).isAgg = false
/-- some cells each -/
def Wide {α : Type} (m : Nat) (f : α → V) : Prop := ∀ x, (f x).cells.length = m ∧ allCell (f x).cells = true

section
variable {α ρ : Type} {v : ρ} {x y : Option ρ} {X Y : Prop}
theorem Br.od {p : Prop} [Decidable p] (h : (if p then x else y) = some v) (h1 : p → x = some v → X) (h2 : ¬ p → y = some v → Y) : Br (decide p) X Y := by
  by_cases hp : p
  · rw [if_pos hp] at h; exact ⟨fun _ => h1 hp h, fun e => absurd hp (of_decide_eq_false e)⟩
  · rw [if_neg hp] at h; exact ⟨fun e => absurd (of_decide_eq_true e) hp, fun _ => h2 hp h⟩
theorem Br.oe {a b : Int} (h : (if a = b then x else y) = some v) (h1 : a = b → x = some v → X) (h2 : ¬ a = b → y = some v → Y) : Br (a == b) X Y := by
  have : (a == b) = decide (a = b) := by rw [Bool.eq_iff_iff]; simp
  rw [this]; exact Br.od h h1 h2
theorem Br.on {a b : Int} (h : (if a ≠ b then x else y) = some v) (h1 : a ≠ b → x = some v → X) (h2 : ¬ a ≠ b → y = some v → Y) : Br (a != b) X Y := by
  have : (a != b) = decide (a ≠ b) := by rw [Bool.eq_iff_iff]; simp
  rw [this]; exact Br.od h h1 h2
theorem Br.ob {b : Bool} (h : (if b = true then x else y) = some v) (h1 : b = true → x = some v → X) (h2 : ¬ b = true → y = some v → Y) : Br b X Y := by
  cases b
  · exact ⟨fun e => Bool.noConfusion e, fun _ => h2 (by simp) (by simpa using h)⟩
  · exact ⟨fun _ => h1 rfl (by simpa using h), fun e => Bool.noConfusion e⟩
theorem Br.flip {b : Bool} (h : Br b Y X) : Br (!b) X Y := by
  cases b
  · exact ⟨fun _ => h.f rfl, fun e => Bool.noConfusion e⟩
  · exact ⟨fun e => Bool.noConfusion e, fun _ => h.t rfl⟩
theorem Ask.o {p : Prop} (h : ask p x = some v) (hk : p → x = some v → X) : Ask p X := by
  obtain ⟨h1, h2⟩ := ask_some.1 h
  exact ⟨h1, hk h1 h2⟩
theorem Idx.o {j : Int} {lo n : Nat} {K : Int → Prop} (h : (if j = lo then x else y) = some v) (h1 : x = some v → K lo) (h2 : y = some v → Idx j (lo + 1) n K) : Idx j lo n K := by
  refine ⟨fun a b => ?_⟩
  by_cases hj : j = lo
  · rw [if_pos hj] at h; rw [hj]; exact h1 h
  · rw [if_neg hj] at h; exact (h2 h).h (by omega) b
theorem Idx.last {j : Int} {lo n : Nat} {K : Int → Prop} (e : lo + 1 = n) (h1 : K lo) : Idx j lo n K := by
  refine ⟨fun a b => ?_⟩
  have : j = lo := by omega
  rw [this]; exact h1
theorem Idx.lit {j : Int} {lo n : Nat} {K : Int → Prop} (h : K j) : Idx j lo n K := ⟨fun _ _ => h⟩
theorem Len.mrep {f : α → V} {w : α} {n : Nat} {K : Nat → Prop} (h : K n) : Len ((List.replicate n w).map f) K := ⟨by rw [List.length_map, List.length_replicate]; exact h⟩
theorem Len.nil {K : Nat → Prop} (h : K 0) : Len [] K := ⟨h⟩
theorem Len.cons {u : V} {us : List V} {K : Nat → Prop} (h : Len us fun n => K (n + 1)) : Len (u :: us) K := ⟨h.h⟩

variable {f : α → V}
theorem nth_map [Inhabited α] (f : α → V) {xs : List α} {j : Nat} (hj : j < xs.length) : (xs.map f).getD j .dead = f (nth xs j) := by
  simp [List.getD_eq_getElem?_getD, nth, hj]
theorem Elem.o [Inhabited α] {xs : List α} {j : Nat} {K : V → Prop} (hj : j < xs.length) (hk : K (f (nth xs j))) : Elem (xs.map f) j K := ⟨by rw [nth_map f hj]; exact hk⟩

theorem flat_one (hf : One f) (xs : List α) : flat (xs.map f) = xs.map f := by
  induction xs with
  | nil => rfl
  | cons x r ih => simp only [List.map_cons, flat, (hf x).1, ih]; rfl
theorem drop_nth [Inhabited α] (f : α → V) {xs : List α} {c : Nat} (hc : c < xs.length) : (xs.map f).drop c = f (nth xs c) :: (xs.map f).drop (c + 1) := by
  rw [List.drop_eq_getElem_cons (by simpa using hc)]
  simp [nth, List.getD_eq_getElem?_getD, hc]
theorem Cells.one [Inhabited α] (hf : One f) {xs : List α} {c : Nat} {K : List V → Prop} (hc : c < xs.length) (hk : K [f (nth xs c)]) : Cells (flat (xs.map f)) c 1 K := by
  refine ⟨_, ?_, ?_, hk⟩
  · rw [flat_one hf, List.length_map]; exact hc
  · rw [flat_one hf, drop_nth f hc]; rfl
theorem flat_wide [Inhabited α] {m : Nat} (hf : Wide m f) : ∀ {xs : List α} {i : Nat}, i < xs.length → ∃ l r, flat (xs.map f) = l ++ ((f (nth xs i)).cells ++ r) ∧ l.length = i * m := by
  intro xs
  induction xs with
  | nil => intro i h; simp at h
  | cons x t ih =>
    intro i h
    cases i with
    | zero => exact ⟨[], flat (t.map f), rfl, by simp⟩
    | succ i =>
      obtain ⟨l, r, e, hl⟩ := ih (i := i) (by simpa using h)
      refine ⟨(f x).cells ++ l, r, by simp only [List.map_cons, flat, e, List.append_assoc]; rfl, ?_⟩
      rw [List.length_append, (hf x).1, hl, Nat.succ_mul]; omega
theorem Cells.wide [Inhabited α] {m : Nat} (hf : Wide m f) {xs : List α} {i off n : Nat} {K : List V → Prop} (hi : i < xs.length) (hn : off + n ≤ m) (hk : K (((f (nth xs i)).cells.drop off).take n)) :
    Cells (flat (xs.map f)) (mulN i m + off) n K := by
  obtain ⟨l, r, e, hl⟩ := flat_wide hf hi
  have hw := (hf (nth xs i)).1
  refine ⟨_, ?_, ?_, hk⟩
  · rw [e, mulN_eq, List.length_append, List.length_append, hl, hw]; omega
  · rw [e, mulN_eq, ← hl, ← List.drop_drop, List.drop_left, List.drop_append_of_le_length (by omega), List.take_append_of_le_length (by simp; omega)]
theorem Cells.wide0 [Inhabited α] {m : Nat} (hf : Wide m f) {xs : List α} {i n : Nat} {K : List V → Prop} (hi : i < xs.length) (hn : n ≤ m) (hk : K ((f (nth xs i)).cells.take n)) :
    Cells (flat (xs.map f)) (mulN i m) n K := Cells.wide (off := 0) hf hi (by omega) hk
theorem Cells.lit {xs us : List V} {c n : Nat} {K : List V → Prop} (h : Nat.ble (c + n) xs.length = true) (e : (xs.drop c).take n = us) (hk : K us) : Cells xs c n K := ⟨us, Nat.le_of_ble_eq_true h, e, hk⟩

theorem Kid.one [Inhabited α] (hf : One f) {m : Nat} {xs : List α} {c : Nat} {K : V → Prop} (hc : c < xs.length) (hk : K (f (nth xs c))) : Kid (.sl true m (xs.map f)) c K :=
  ⟨_, rfl, by simp only [V.kids, flat_one hf]; simp [nth, List.getD_eq_getElem?_getD, hc], hk⟩
theorem Kid.wide [Inhabited α] {m : Nat} (hf : Wide m f) {xs : List α} {i off : Nat} {u : V} {K : V → Prop} (hi : i < xs.length) (hu : (f (nth xs i)).cells[off]? = some u) (hk : K u) : Kid (.sl true m (xs.map f)) (mulN i m + off) K := by
  obtain ⟨l, r, e, hl⟩ := flat_wide hf hi
  refine ⟨u, rfl, ?_, hk⟩
  have ho : off < (f (nth xs i)).cells.length := (List.getElem?_eq_some_iff.1 hu).1
  simp only [V.kids, e]
  rw [mulN_eq, List.getElem?_append_right (by omega), hl, Nat.add_sub_cancel_left, List.getElem?_append_left ho, hu]
theorem Kid.lit {T k : V} {c : Nat} {K : V → Prop} (h1 : T.stepOk = true) (h2 : T.kids[c]? = some k) (hk : K k) : Kid T c K := ⟨k, h1, h2, hk⟩

theorem setIn_one (hf : One f) : ∀ {xs : List α} {c : Nat} (w : α), c < xs.length → setIn (xs.map f) c [f w] = some ((xs.set c w).map f) := by
  intro xs
  induction xs with
  | nil => intro c w h; simp at h
  | cons x r ih =>
    intro c w h
    have hlen : (f x).cells.length = 1 := by rw [(hf x).1]; rfl
    simp only [List.map_cons, setIn, hlen]
    cases c with
    | zero =>
      have : (f x).setCells 0 [f w] = some (f w) := by
        have hx := (hf x).2
        have hv := (hf w).2
        unfold V.setCells
        split
        · simp_all [V.isAgg]
        · simp [setOne, hv]
      simp [this]
    | succ c =>
      have := ih (c := c) w (by simpa using h)
      simp [this]
theorem SetKids.one (hf : One f) {o : Bool} {m : Nat} {xs : List α} {c : Nat} {us : List V} {K : V → Prop} (w : α) (e : us = [f w]) (hc : c < xs.length) (hk : K (.sl o m ((xs.set c w).map f))) : SetKids (.sl o m (xs.map f)) c us K := by
  subst e
  exact ⟨_, by simp only [V.setKids, setIn_one hf w hc, Option.map_some], hk⟩
theorem setIn_wide [Inhabited α] {m : Nat} (hf : Wide m f) : ∀ {xs : List α} {i off : Nat} {us : List V} (w : α), i < xs.length → (f (nth xs i)).setCells off us = some (f w) → off < m → setIn (xs.map f) (i * m + off) us = some ((xs.set i w).map f) := by
  intro xs
  induction xs with
  | nil => intro i off us w h; simp at h
  | cons x r ih =>
    intro i off us w h hs ho
    simp only [List.map_cons, setIn, (hf x).1]
    cases i with
    | zero =>
      have hs' : (f x).setCells off us = some (f w) := hs
      simp [ho, hs']
    | succ i =>
      have := ih (i := i) (off := off) (us := us) w (by simpa using h) hs ho
      rw [if_neg (by rw [Nat.succ_mul]; omega), show (i + 1) * m + off - m = i * m + off by rw [Nat.succ_mul]; omega, this]
      simp
theorem SetKids.wide [Inhabited α] {m : Nat} (hf : Wide m f) {o : Bool} {xs : List α} {i off : Nat} {us : List V} {K : V → Prop} (w : α) (hi : i < xs.length) (hs : (f (nth xs i)).setCells off us = some (f w)) (ho : off < m) (hk : K (.sl o m ((xs.set i w).map f))) :
    SetKids (.sl o m (xs.map f)) (mulN i m + off) us K :=
  ⟨_, by simp only [V.setKids, mulN_eq, setIn_wide hf w hi hs ho, Option.map_some], hk⟩
theorem SetKids.wide0 [Inhabited α] {m : Nat} (hf : Wide m f) {o : Bool} {xs : List α} {i : Nat} {us : List V} {K : V → Prop} (w : α) (hi : i < xs.length) (hs : (f (nth xs i)).setCells 0 us = some (f w)) (ho : 0 < m) (hk : K (.sl o m ((xs.set i w).map f))) :
    SetKids (.sl o m (xs.map f)) (mulN i m) us K := SetKids.wide (off := 0) hf w hi hs ho hk
theorem SetKids.lit {T T' : V} {c : Nat} {us : List V} {K : V → Prop} (h : T.setKids c us = some T') (hk : K T') : SetKids T c us K := ⟨T', h, hk⟩

theorem MkQ.o {d n : Nat} {z : V} {K : List V → Prop} (f : α → V) (w : α) (e : z = f w) (hk : K ((List.replicate n w).map f)) : MkQ d n z K := ⟨by rw [e, ← List.map_replicate]; exact hk⟩
theorem allLen_map {m : Nat} (hf : Wide m f) (ws : List α) : allLen m (ws.map f) = true := by
  induction ws with
  | nil => rfl
  | cons w r ih => simp [allLen, (hf w).1, (hf w).2, ih]
theorem BslQ.o {d m : Nat} {us : List V} {K : List V → Prop} (f : α → V) (ws : List α) (hf : Wide m f) (e : us = ws.map f) (hk : K (ws.map f)) : BslQ d m us K := by
  subst e; exact ⟨allLen_map hf ws, hk⟩
theorem BslQ.lit {d m : Nat} {us : List V} {K : List V → Prop} (e : allLen m us = true) (hk : K us) : BslQ d m us K := ⟨e, hk⟩
theorem allCell_flat {m : Nat} (hf : Wide m f) (ws : List α) : allCell (flat (ws.map f)) = true := by
  induction ws with
  | nil => rfl
  | cons w r ih =>
    have := (hf w).2
    simp only [allCell, List.map_cons, flat, List.all_append, Bool.and_eq_true] at this ih ⊢
    exact ⟨this, ih⟩
theorem AppQ.o {m d : Nat} {us vs : List V} {K : List V → Prop} (f : α → V) (hf : Wide m f) (xs ys : List α) (ex : us = xs.map f) (ey : vs = ys.map f) (h : ask (xs.length + ys.length ≤ LIM) x = some v) (hk : x = some v → K ((xs ++ ys).map f)) : AppQ d us vs K := by
  subst ex; subst ey
  obtain ⟨h1, h2⟩ := ask_some.1 h
  exact ⟨allCell_flat hf ys, by simpa using h1, by rw [← List.map_append]; exact hk h2⟩
theorem anyOwn_flat_map (hf : ∀ x, anyOwn (f x).cells = false) (ws : List α) : anyOwn (flat (ws.map f)) = false := by
  induction ws with
  | nil => rfl
  | cons w r ih => simp only [List.map_cons, flat, anyOwn_append, hf w, ih]; rfl
theorem NoOwn.o (hf : ∀ x, anyOwn (f x).cells = false) {ws : List α} (h : X) : NoOwn (ws.map f) X Y := ⟨.inl ⟨anyOwn_flat_map hf ws, h⟩⟩
theorem NoOwn.lit {us : List V} (e : anyOwn (flat us) = false) (h : X) : NoOwn us X Y := ⟨.inl ⟨e, h⟩⟩
theorem NoOwn.own {us : List V} (e : anyOwn (flat us) = true) (h : Y) : NoOwn us X Y := ⟨.inr ⟨e, h⟩⟩
end

/-- .. and changes what one of its arguments points to -/
def RetO (P : Program) (f : Nat) (vs : List V) (v : V) (k : Nat) (u : V) : Prop := Tri P f vs (fun r o => r = v ∧ o[k]? = some u)
theorem reto_vc {P : Program} {f N : Nat} {ac : ACode} {rs : List RS} {args : List V} {v u : V} {k : Nat} (hf : fitsF P f N ac rs = true) (hn : args.length ≤ N)
    (h : vc P ac (retQ N rs args fun r o => r = v ∧ o[k]? = some u) (entry N 0 args)) : RetO P f args v k u := tri_vc hf hn h

theorem Ret.cast {P : Program} {f : Nat} {vs vs' : List V} {v : V} (e : vs = vs') (h : Ret P f vs v) : Ret P f vs' v := e ▸ h
/-- all its own -/
class NoFz {α : Type} (f : α → V) : Prop where
  eq : ∀ x, (f x).noFz = true
instance : NoFz vint := ⟨fun _ => rfl⟩
instance : NoFz V.bool := ⟨fun _ => rfl⟩
instance : NoFz V.str := ⟨fun _ => rfl⟩
theorem noFzL_map {α : Type} {f : α → V} [NoFz f] (xs : List α) : noFzL (xs.map f) = true := by
  induction xs with
  | nil => rfl
  | cons x r ih => simp [noFzL, NoFz.eq, ih]
instance {α : Type} (m : Nat) (f : α → V) [NoFz f] : NoFz (slr true m f) := ⟨fun x => by simp [V.noFz, noFzL_map]⟩
instance {α : Type} (f : α → V) [NoFz f] : NoFz (rA2 f) := ⟨fun x => by simp [V.noFz, noFzL, NoFz.eq]⟩
instance {α : Type} (f : α → V) [NoFz f] : NoFz (rA3 f) := ⟨fun x => by simp [V.noFz, noFzL, NoFz.eq]⟩

section
variable {P : Program} {K : St → Prop} {σ : St} {β ρ : Type} {v : ρ} {oo : Option β} {k : β → Option ρ}
theorem CallQ.o (rep : β → V) {vs vs' : List V} {f d : Nat} (e : vs = vs') (h : oo.bind k = some v) (hr : ∀ r, oo = some r → Ret P f vs' (rep r)) (hk : ∀ r, k r = some v → forceS (puts d (.val (rep r)) σ) K) : CallQ P f d vs [] [] K σ := by
  subst e
  obtain ⟨r, h1, h2⟩ := Option.bind_eq_some_iff.1 h
  have h3 := hk r h2
  rw [forceS_eq] at h3
  refine ⟨rfl, Tri.mono (hr r h1) ?_⟩
  rintro r o rfl
  exact ⟨rfl, h3⟩
theorem CallQ.rd (rep : β → V) {vs vs' : List V} {rs : List Nat} {f d : Nat} (e : vs = vs') (hn : ∀ r, (rep r).noFz = true) (h : oo.bind k = some v) (hr : ∀ r, oo = some r → Ret P f vs' (rep r)) (hk : ∀ r, k r = some v → forceS (puts d (.val (rep r)) σ) K) : CallQ P f d vs [] rs K σ := by
  subst e
  obtain ⟨r, h1, h2⟩ := Option.bind_eq_some_iff.1 h
  have h3 := hk r h2
  rw [forceS_eq] at h3
  refine ⟨rfl, Tri.mono (hr r h1) ?_⟩
  rintro r' o rfl
  exact ⟨by simp [resOk, hn r], h3⟩
theorem CloQ.o (rep : β → V) {vs vs' cs : List V} {rs : List Nat} {f d : Nat} (e : vs ++ fzL cs = vs') (hn : ∀ r, resOk rs (rep r) = true) (h : oo.bind k = some v) (hr : ∀ r, oo = some r → Ret P f vs' (rep r)) (hk : ∀ r, k r = some v → forceS (puts d (.val (rep r)) σ) K) : CloQ P f d cs vs rs K σ := by
  subst e
  obtain ⟨r, h1, h2⟩ := Option.bind_eq_some_iff.1 h
  have h3 := hk r h2
  rw [forceS_eq] at h3
  refine ⟨Tri.mono (hr r h1) ?_⟩
  rintro r' o rfl
  exact ⟨hn r, h3⟩
theorem CallP.o (rep : β → V) {vs vs' : List V} {f d : Nat} {K : V → Prop} (e : vs = vs') (h : oo.bind k = some v) (hr : ∀ r, oo = some r → Ret P f vs' (rep r)) (hk : ∀ r, k r = some v → K (rep r)) : CallP P f d vs [] K := by
  subst e
  obtain ⟨r, h1, h2⟩ := Option.bind_eq_some_iff.1 h
  exact ⟨_, Tri.mono (hr r h1) (by rintro r' _ rfl; exact ⟨rfl, rfl⟩), hk r h2⟩
theorem CallP.rd (rep : β → V) {vs vs' : List V} {rs : List Nat} {f d : Nat} {K : V → Prop} (e : vs = vs') (hn : ∀ r, (rep r).noFz = true) (h : oo.bind k = some v) (hr : ∀ r, oo = some r → Ret P f vs' (rep r)) (hk : ∀ r, k r = some v → K (rep r)) : CallP P f d vs rs K := by
  subst e
  obtain ⟨r, h1, h2⟩ := Option.bind_eq_some_iff.1 h
  exact ⟨_, Tri.mono (hr r h1) (by rintro r' _ rfl; exact ⟨rfl, by simp [resOk, hn r]⟩), hk r h2⟩
theorem GiveQ.o (rep : β → V) {vs vs' : List V} {f d : Nat} (e : vs = vs') (h : oo.bind k = some v) (hr : ∀ r, oo = some r → Ret P f vs' (rep r)) (hk : ∀ r, k r = some v → forceS (puts d (.val (rep r)) σ) K) : GiveQ P f d vs K σ := by
  subst e
  obtain ⟨r, h1, h2⟩ := Option.bind_eq_some_iff.1 h
  have h3 := hk r h2
  rw [forceS_eq] at h3
  refine ⟨Tri.mono (hr r h1) ?_⟩
  rintro r' o rfl
  exact h3
/-- a call that changes what was lent -/
theorem CallQ.io {γ : Type} {o : Option (β × γ)} {k : β × γ → Option ρ} (rep : β → V) (rep2 : γ → V) {vs vs' : List V} {rs : List Nat} {f d j r : Nat} {p : List Nat} {T : V} (e : vs = vs') (hroots : rs.contains r = false)
    (hn : ∀ b, resOk rs (rep b) = true) (hn2 : ∀ b, resOk rs (rep2 b) = true ∧ (rep2 b).node = true) (hT : look σ r = .val T) (h : o.bind k = some v) (hr : ∀ x, o = some x → RetO P f vs' (rep x.1) j (rep2 x.2))
    (hk : ∀ b c, k (b, c) = some v → changeK p T (rep2 c) fun T' => forceS (puts d (.val (rep b)) (turnS r T' (p.length + 1) σ)) K) : CallQ P f d vs [(j, r, p)] rs K σ := by
  subst e
  obtain ⟨⟨b, c⟩, h1, h2⟩ := Option.bind_eq_some_iff.1 h
  obtain ⟨T', h3, h4⟩ := changeK_spec (hk b c h2)
  rw [forceS_eq] at h4
  refine ⟨by simp only [okRoots, hroots]; rfl, Tri.mono (hr _ h1) ?_⟩
  rintro res outs ⟨rfl, ho⟩
  refine ⟨hn b, ?_⟩
  rw [ho, hT]
  exact ⟨(hn2 c).1, (hn2 c).2, by rw [h3]; exact h4⟩
end

abbrev Tgt := Ex × List Nat × St
def atQ (t : Tgt) : Ex → St → Prop := fun ex σ => ex = t.1 ∧ restrict t.2.1 σ = t.2.2
def outQ {σ' τ : Type} (ks : List Nat) (st : σ' → St) (tg : τ → Tgt) : σ' ⊕ τ → Ex → St → Prop
  | .inl s => atQ (.normal, ks, st s)
  | .inr t => atQ (tg t)
def Ex.isNormal : Ex → Bool
  | .normal => true
  | .exit _ => false
  | .ret => false

theorem LoopQ.o {σ' τ ρ : Type} {body : σ' → Option (σ' ⊕ τ)} {k : τ → Option ρ} {v : ρ} {s0 : σ'} {P : Program} {c : ACode} {Q : Ex → St → Prop} {σ : St} (ks : List Nat) (st : σ' → St) (tg : τ → Tgt)
    (h : (loopO body s0).bind k = some v) (hb : ∀ s o, body s = some o → vc P c (outQ ks st tg o) (st s)) (h0 : restrict ks σ = st s0) (hn : ∀ t, (tg t).1.isNormal = false) (ha : ∀ t, k t = some v → Q (tg t).1 (tg t).2.2) :
    LoopQ P c Q σ := by
  obtain ⟨t, h1, h2⟩ := Option.bind_eq_some_iff.1 h
  obtain ⟨n, hit⟩ := loopO_some.1 h1
  refine ⟨ks, n, ?_⟩
  rw [h0]
  clear h0 h h1
  induction n generalizing s0 with
  | zero => cases hit
  | succ n ih =>
    simp only [iter] at hit
    split at hit
    · cases hit
    · rename_i s' e
      refine awp_mono ?_ (vc_sound (hb _ _ e))
      rintro ex τ' ⟨h3, h4⟩
      subst h3
      show loopN (awp P c) ks (less Q) n (restrict ks τ')
      rw [h4]
      exact ih hit
    · rename_i t' e
      cases hit
      refine awp_mono ?_ (vc_sound (hb _ _ e))
      rintro ex τ' ⟨h3, h4⟩
      have hne := hn t
      rw [← h3] at hne
      have hq := ha t h2
      rw [← h4, ← h3] at hq
      cases ex with
      | normal => cases hne
      | exit i => exact .inr ⟨_, hq⟩
      | ret => exact .inr ⟨_, hq⟩

theorem CutQ.o {τ ρ : Type} {e : Option τ} {k : τ → Option ρ} {v : ρ} {P : Program} {c : ACode} {Q : Ex → St → Prop} {σ : St} (tg : τ → Tgt)
    (h : e.bind k = some v) (hb : ∀ t, e = some t → vc P c (atQ (tg t)) σ) (ha : ∀ t, k t = some v → Q (tg t).1 (tg t).2.2) : CutQ P c Q σ := by
  obtain ⟨t, h1, h2⟩ := Option.bind_eq_some_iff.1 h
  refine ⟨?_⟩
  show awp P c (less Q) σ
  refine awp_mono ?_ (vc_sound (hb t h1))
  rintro ex τ' ⟨h3, h4⟩
  have hq := ha t h2
  rw [← h4, ← h3] at hq
  exact .inr ⟨_, hq⟩

end Go.Proofs.Ythcnmahjhahafaa.Ax
