/-
  Lists of data of one kind: their parts and their changes.
-/
import Derived.Test.YtnpdibedhdlclaaAxW
namespace Go.Proofs.Ytnpdibedhdlclaa.Ax
open Go

/-- one cell each -/
def One {α : Type} (f : α → V) : Prop := ∀ x, (f x).cells = [f x] ∧ (f x).isAgg = false

theorem one_vint : One vint := fun _ => ⟨rfl, rfl⟩
theorem one_bool : One V.bool := fun _ => ⟨rfl, rfl⟩
theorem one_sl {α : Type} (o : Bool) (m : Nat) (g : α → List V) : One (fun x => V.sl o m (g x)) := fun _ => ⟨rfl, rfl⟩
theorem one_ints : One ints := fun _ => ⟨rfl, rfl⟩
theorem one_oints : One oints := fun _ => ⟨rfl, rfl⟩
abbrev bools (xs : List Bool) : V := .sl false 1 (xs.map V.bool)
abbrev obools (xs : List Bool) : V := .sl true 1 (xs.map V.bool)
theorem one_bools : One bools := fun _ => ⟨rfl, rfl⟩
theorem one_obools : One obools := fun _ => ⟨rfl, rfl⟩

section
variable {α : Type} {f : α → V}

theorem flat_one (hf : One f) (xs : List α) : flat (xs.map f) = xs.map f := by
  induction xs with
  | nil => rfl
  | cons x r ih => simp only [List.map_cons, flat, (hf x).1, ih]; rfl

theorem Cells.el (hf : One f) (d : α) {xs : List α} {c : Nat} {K : List V → Prop} (hc : c < xs.length) (hk : K [f (xs.getD c d)]) : Cells (flat (xs.map f)) c 1 K := by
  refine ⟨_, ?_, ?_, hk⟩
  · rw [flat_one hf, List.length_map]; exact hc
  · rw [flat_one hf]
    have : (xs.map f).drop c = f (xs.getD c d) :: (xs.map f).drop (c + 1) := by
      rw [List.drop_eq_getElem_cons (by simpa using hc)]
      simp [List.getD_eq_getElem?_getD, hc]
    rw [this]; rfl

theorem setIn_one (hf : One f) : ∀ {xs : List α} {c : Nat} (v : α), c < xs.length → setIn (xs.map f) c [f v] = some ((xs.set c v).map f) := by
  intro xs
  induction xs with
  | nil => intro c v h; simp at h
  | cons x r ih =>
    intro c v h
    have hlen : (f x).cells.length = 1 := by rw [(hf x).1]; rfl
    simp only [List.map_cons, setIn, hlen]
    cases c with
    | zero =>
      have : (f x).setCells 0 [f v] = some (f v) := by
        have hx := (hf x).2
        have hv := (hf v).2
        unfold V.setCells
        split
        · simp_all [V.isAgg]
        · simp [setOne, hv]
      simp [this]
    | succ c =>
      have := ih (c := c) v (by simpa using h)
      simp [this]

theorem SetKids.el (hf : One f) {o : Bool} {m : Nat} {xs : List α} {c : Nat} {K : V → Prop} (v : α) (hc : c < xs.length) (hk : K (.sl o m ((xs.set c v).map f))) : SetKids (.sl o m (xs.map f)) c [f v] K :=
  ⟨_, by simp only [V.setKids, setIn_one hf v hc, Option.map_some], hk⟩

theorem SetKids.elE (hf : One f) {o : Bool} {m : Nat} {xs : List α} {c : Nat} {us : List V} {K : V → Prop} (v : α) (e : us = [f v]) (hc : c < xs.length) (hk : K (.sl o m ((xs.set c v).map f))) : SetKids (.sl o m (xs.map f)) c us K := by
  subst e; exact SetKids.el hf v hc hk

theorem kid_one (hf : One f) (d : α) {xs : List α} {c : Nat} (hc : c < xs.length) {o : Bool} {m : Nat} : (V.sl o m (xs.map f)).kids[c]? = some (f (xs.getD c d)) := by
  simp only [V.kids, flat_one hf]
  simp [List.getD_eq_getElem?_getD, hc]

theorem Part.el (hf : One f) (d : α) {m : Nat} {xs : List α} {c : Nat} {K : V → Prop} (hc : c < xs.length) (hk : K (f (xs.getD c d))) : Part [c] (.sl true m (xs.map f)) K :=
  ⟨_, by simp only [sub, V.stepOk, if_true, kid_one hf d hc], hk⟩

theorem Change.el (hf : One f) {m : Nat} {xs : List α} {c : Nat} {K : V → Prop} (v : α) (hc : c < xs.length) (hk : K (.sl true m ((xs.set c v).map f))) : Change [c] (.sl true m (xs.map f)) (f v) K :=
  ⟨_, by simp only [upd, kid_one hf v hc, V.setKids, setIn_one hf v hc, Option.map_some], hk⟩

end

theorem Cells.lit {xs : List V} {c n : Nat} {K : List V → Prop} (h : Nat.ble (c + n) xs.length = true) (hk : K ((xs.drop c).take n)) : Cells xs c n K := ⟨_, Nat.le_of_ble_eq_true h, rfl, hk⟩
theorem SetKids.lit {x x' : V} {c : Nat} {us : List V} {K : V → Prop} (h : x.setKids c us = some x') (hk : K x') : SetKids x c us K := ⟨x', h, hk⟩
theorem Part.lit {p : List Nat} {x u : V} {K : V → Prop} (h : sub p x = some u) (hk : K u) : Part p x K := ⟨u, h, hk⟩
theorem Change.lit {p : List Nat} {x u x' : V} {K : V → Prop} (h : upd p x u = some x') (hk : K x') : Change p x u K := ⟨x', h, hk⟩

theorem Change.elE {α : Type} {f : α → V} (hf : One f) {m : Nat} {xs ys : List α} {c : Nat} {K : V → Prop} (v : α) (hc : c < xs.length) (e : xs.set c v = ys) (hk : K (.sl true m (ys.map f))) : Change [c] (.sl true m (xs.map f)) (f v) K := by
  subst e; exact Change.el hf v hc hk
theorem CallQ.rdE {P : Program} {K : St → Prop} {σ : St} {vs vs' : List V} {rs : List Nat} {f d : Nat} {v : V} (e : vs = vs') (h : Ret P f vs' v) (hv : v.noFz = true) (hk : forceS (puts d (.val v) σ) K) : CallQ P f d vs [] rs K σ := by
  subst e; exact CallQ.rd h hv hk
theorem CallP.rdE {P : Program} {vs vs' : List V} {rs : List Nat} {f : Nat} {v : V} {K : V → Prop} (e : vs = vs') (h : Ret P f vs' v) (hv : v.noFz = true) (hk : K v) : CallP P f vs rs K := by
  subst e; exact CallP.rd h hv hk
theorem Len.rep {n : Nat} {v : V} {K : Nat → Prop} (h : K n) : Len (List.replicate n v) K := ⟨by rw [List.length_replicate]; exact h⟩

/-- rows that are there, or not yet -/
abbrev orow : Option (List Int) → V
  | some r => oints r
  | none => .nilsl 1
theorem one_orow : One orow := fun x => by cases x <;> exact ⟨rfl, rfl⟩

/-- put one by one -/
theorem set_put {α : Type} (xs : List α) (z v : α) {i n : Nat} (hi : i < n) (hl : xs.length = i) : (xs ++ List.replicate (n - i) z).set i v = (xs ++ [v]) ++ List.replicate (n - (i + 1)) z := by
  subst hl
  rw [List.set_append_right _ _ (Nat.le_refl _), Nat.sub_self]
  have : n - xs.length = (n - (xs.length + 1)) + 1 := by omega
  rw [this, List.replicate_succ, List.set_cons_zero]
  simp

theorem take_put {α : Type} (xs : List α) (d : α) {i : Nat} (hi : i < xs.length) : xs.take i ++ [xs.getD i d] = xs.take (i + 1) := by
  rw [List.take_add_one]
  simp [List.getD_eq_getElem?_getD, hi]

end Go.Proofs.Ytnpdibedhdlclaa.Ax
