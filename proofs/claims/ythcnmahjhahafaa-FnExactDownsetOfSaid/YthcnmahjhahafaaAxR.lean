/-
  Regions whose order is open: a head of operations that only look, in whatever order; then a tail in one order.
-/
import Derived.Test.YthcnmahjhahafaaAxP
import Derived.StillTail
namespace Go.Proofs.Ythcnmahjhahafaa.Ax
open Go

def nt : A → Option A
  | .top => none
  | a => some a

/-- the value that an operation that only looks (or makes memory of its own) gives -/
def qR : AOp → St → Option (Nat × A)
  | .mov d x, σ => (nt (evalX σ x)).map fun a => (d, upA a)
  | .asg d x, σ => match evalX σ x with
    | .val v => some (d, .val v.up)
    | _ => none
  | .pick d c x y, σ => match evalX σ c with
    | .val (.bool b) => (nt (if b then evalX σ x else evalX σ y)).map (d, ·)
    | _ => none
  | .bin d op x y, σ => match valOf (evalX σ x), valOf (evalX σ y) with
    | some u, some v => if u.isBool then none else (binV op u v).map fun r => (d, .val r)
    | _, _ => none
  | .binb d op x y, σ => match valOf (evalX σ x), valOf (evalX σ y) with
    | some u, some v => (binV op u v).map fun r => (d, .val r)
    | _, _ => none
  | .un d op x, σ => match valOf (evalX σ x) with
    | some u => (unV op u).map fun r => (d, .val r)
    | none => none
  | .len d x, σ => (lenA σ (evalX σ x)).map fun (n : Nat) => (d, A.val (V.int .i64 (n : Int)))
  | .ext d x i, σ => match evalX σ x with
    | .val (.tup vs) => (vs[i]?).map fun v => (d, .val v)
    | .ref r p => match nodeAt σ r p with
      | some (.tup vs) => (vs[i]?).map fun v => (d, celA r p i v)
      | _ => none
    | _ => none
  | .iad d m x i, σ => match evalX σ x, evalX σ i with
    | .val (.sl _ m' xs), .val (.int _ j) => if m' = m ∧ 0 ≤ j ∧ j < xs.length then some (d, .fad (xs.getD j.toNat .dead).cells) else none
    | .ref r p, .val (.int _ j) => match nodeAt σ r p with
      | some (.sl o m' xs) => if o = true ∧ m' = m ∧ 0 ≤ j ∧ j < xs.length then some (d, .addr r p (j.toNat * m)) else none
      | _ => none
    | _, _ => none
  | .aad d m n x i, σ => match locOf σ (evalX σ x), evalX σ i with
    | some l, .val (.int _ j) => if 0 ≤ j ∧ j < n then some (d, shiftL (j.toNat * m) l) else none
    | _, _ => none
  | .fadr d off x, σ => (locOf σ (evalX σ x)).map fun l => (d, shiftL off l)
  | .ld d n ag x, σ => match locOf σ (evalX σ x) with
    | some l => (loadA σ n ag l).map (d, ·)
    | none => none
  | .nck d x, σ => (locOf σ (evalX σ x)).map fun _ => (d, evalX σ x)
  | .mk d m z x, σ => match evalX σ x with
    | .val (.int _ n) => if 0 ≤ n ∧ n ≤ (LIM : Int) then some (d, .val (.sl true m (List.replicate n.toNat z.up))) else none
    | _ => none
  | .alc d z, _ => if allCell z.cells then some (d, .val (.ptr true z.up)) else none
  | .bsl d m ps, σ => match allVal (ps.map (evalX σ)) with
    | some Us => if allLen m (upL Us) then some (d, .val (.sl true m (upL Us))) else none
    | none => none
  | .mkf d f cs, σ => match (cs.map (evalX σ)).all (fun a => (nt a).isSome) with
    | true => some (d, cloA f (cs.map (evalX σ)))
    | false => none
  | .box d x, σ => match evalX σ x with
    | .val U => if allCell U.up.cells then some (d, .val (.ptr true U.up)) else none
    | _ => none
  | _, _ => none

theorem takeXs_vals {σ : St} : ∀ {as : List A} {Us}, allVal as = some Us → takeXs σ as = some (upL Us, σ) := by
  intro as
  induction as with
  | nil => intro Us h; simp [allVal] at h; subst h; rfl
  | cons a r ih =>
    intro Us h
    cases a with
    | val v =>
      simp only [allVal] at h
      obtain ⟨vs, h1, rfl⟩ := Option.map_eq_some_iff.1 h
      simp [takeXs, takeX, takeA, ih h1, upL]
    | _ => simp [allVal] at h

theorem qR_step {o : AOp} {σ : St} {d : Nat} {a : A} (h : qR o σ = some (d, a)) : stepA o σ = some (puts d a σ) ∧ o.dst = some d := by
  cases o <;> simp only [qR] at h
  case mov d' x =>
    obtain ⟨b, h1, h2⟩ := Option.map_eq_some_iff.1 h
    cases h2
    have : evalX σ x = b := by unfold nt at h1; split at h1 <;> simp_all
    exact ⟨by simp [stepA, this], rfl⟩
  case asg d' x =>
    split at h
    case h_2 => cases h
    rename_i v hv
    cases h
    exact ⟨by simp [stepA, asgS, hv, upA], rfl⟩
  case pick d' c x y =>
    split at h
    case h_2 => cases h
    rename_i b hb
    obtain ⟨z, h1, h2⟩ := Option.map_eq_some_iff.1 h
    cases h2
    have : (if b = true then evalX σ x else evalX σ y) = a := by unfold nt at h1; split at h1 <;> simp_all
    exact ⟨by simp [stepA, hb, pickS, this], rfl⟩
  case bin d' op x y =>
    split at h
    case h_2 => cases h
    rename_i u v hu hv
    split at h
    · cases h
    · rename_i hb
      obtain ⟨z, h1, h2⟩ := Option.map_eq_some_iff.1 h
      cases h2
      exact ⟨by simp [stepA, binN, binS, hu, hv, hb, h1], rfl⟩
  case binb d' op x y =>
    split at h
    case h_2 => cases h
    rename_i u v hu hv
    obtain ⟨z, h1, h2⟩ := Option.map_eq_some_iff.1 h
    cases h2
    exact ⟨by simp [stepA, binS, hu, hv, h1], rfl⟩
  case un d' op x =>
    split at h
    case h_2 => cases h
    rename_i u hu
    obtain ⟨z, h1, h2⟩ := Option.map_eq_some_iff.1 h
    cases h2
    exact ⟨by simp [stepA, unS, hu, h1], rfl⟩
  case len d' x =>
    obtain ⟨z, h1, h2⟩ := Option.map_eq_some_iff.1 h
    cases h2
    exact ⟨by simp [stepA, lenS, h1], rfl⟩
  case ext d' x i =>
    split at h
    · rename_i vs hx
      obtain ⟨z, h1, h2⟩ := Option.map_eq_some_iff.1 h
      cases h2
      exact ⟨by simp [stepA, extS, hx, h1], rfl⟩
    · rename_i r p hx
      split at h
      case h_2 => cases h
      rename_i vs hn
      obtain ⟨z, h1, h2⟩ := Option.map_eq_some_iff.1 h
      cases h2
      exact ⟨by simp [stepA, extS, hx, hn, h1], rfl⟩
    · cases h
  case iad d' m x i =>
    split at h
    · rename_i o m' xs k j hx hi
      split at h
      · rename_i hc; cases h; exact ⟨by simp [stepA, iadS, hx, hi, hc], rfl⟩
      · cases h
    · rename_i r p k j hx hi
      split at h
      case h_2 => cases h
      rename_i o m' xs hn
      split at h
      · rename_i hc; cases h; exact ⟨by simp [stepA, iadS, hx, hi, hn, hc], rfl⟩
      · cases h
    · cases h
  case aad d' m n x i =>
    split at h
    case h_2 => cases h
    rename_i l k j hl hi
    split at h
    · rename_i hc; cases h; exact ⟨by simp [stepA, aadS, hl, hi, hc], rfl⟩
    · cases h
  case fadr d' off x =>
    obtain ⟨z, h1, h2⟩ := Option.map_eq_some_iff.1 h
    cases h2
    exact ⟨by simp [stepA, fadrS, h1], rfl⟩
  case ld d' n ag x =>
    split at h
    case h_2 => cases h
    rename_i l hl
    obtain ⟨z, h1, h2⟩ := Option.map_eq_some_iff.1 h
    cases h2
    exact ⟨by simp [stepA, ldS, hl, h1], rfl⟩
  case nck d' x =>
    obtain ⟨z, h1, h2⟩ := Option.map_eq_some_iff.1 h
    cases h2
    exact ⟨by simp [stepA, nckS, h1], rfl⟩
  case mk d' m z x =>
    split at h
    case h_2 => cases h
    rename_i k n hx
    split at h
    · rename_i hc; cases h; exact ⟨by simp [stepA, mkS, hx, hc], rfl⟩
    · cases h
  case alc d' z =>
    split at h
    · rename_i hc; cases h; exact ⟨by simp [stepA, alcS, hc], rfl⟩
    · cases h
  case bsl d' m ps =>
    split at h
    case h_2 => cases h
    rename_i Us hU
    split at h
    · rename_i hc; cases h; exact ⟨by simp [stepA, bslS, takeXs_vals hU, hc], rfl⟩
    · cases h
  case mkf d' f cs =>
    split at h
    · cases h; exact ⟨rfl, rfl⟩
    · cases h
  case box d' x =>
    split at h
    case h_2 => cases h
    rename_i U hU
    split at h
    · rename_i hc; cases h; exact ⟨by simp [stepA, boxS, hU, takeX, takeA, hc], rfl⟩
    · cases h
  all_goals cases h

/-- a state that knows at least as much -/
def Le (σ τ : St) : Prop := ∀ s, look σ s = .top ∨ look τ s = look σ s

theorem evalX_mono {σ τ} (h : Le σ τ) (x : X) : evalX σ x = .top ∨ evalX τ x = evalX σ x := by
  cases x with
  | c v => exact .inr rfl
  | t s =>
    rcases h s with h1 | h1
    · left; simp [evalX, h1]
    · right; simp [evalX, h1]

theorem nodeAt_mono {σ τ r p u} (h : Le σ τ) (hn : nodeAt σ r p = some u) : nodeAt τ r p = some u := by
  unfold nodeAt at *
  rcases h r with h1 | h1
  · rw [h1] at hn; cases hn
  · rw [h1]; exact hn

theorem locOf_mono {σ τ a l} (h : Le σ τ) (hl : locOf σ a = some l) : locOf τ a = some l := by
  cases a with
  | ref r p =>
    simp only [locOf] at *
    cases hn : nodeAt σ r p with
    | none => rw [hn] at hl; cases hl
    | some u => rw [hn] at hl; rw [nodeAt_mono h hn]; exact hl
  | val v => cases v <;> exact hl
  | _ => exact hl

theorem loadA_mono {σ τ n ag l a} (h : Le σ τ) (hl : loadA σ n ag l = some a) : loadA τ n ag l = some a := by
  cases l with
  | own r p c =>
    simp only [loadA] at *
    cases hn : nodeAt σ r p with
    | none => rw [hn] at hl; cases hl
    | some u => rw [hn] at hl; rw [nodeAt_mono h hn]; exact hl
  | fro cs => exact hl

theorem lenA_mono {σ τ a n} (h : Le σ τ) (hl : lenA σ a = some n) : lenA τ a = some n := by
  cases a with
  | ref r p =>
    simp only [lenA] at *
    cases hn : nodeAt σ r p with
    | none => rw [hn] at hl; cases hl
    | some u => rw [hn] at hl; rw [nodeAt_mono h hn]; exact hl
  | val v => cases v <;> exact hl
  | _ => exact hl

theorem evalXs_mono {σ τ} (h : Le σ τ) : ∀ {xs : List X}, (∀ x ∈ xs, evalX σ x ≠ .top) → xs.map (evalX τ) = xs.map (evalX σ) := by
  intro xs
  induction xs with
  | nil => intro _; rfl
  | cons x r ih =>
    intro hx
    simp only [List.map_cons]
    rw [ih fun y hy => hx y (by simp [hy])]
    rcases evalX_mono h x with h1 | h1
    · exact absurd h1 (hx x (by simp))
    · rw [h1]

theorem allVal_noTop : ∀ {xs : List X} {σ Us}, allVal (xs.map (evalX σ)) = some Us → ∀ x ∈ xs, evalX σ x ≠ .top := by
  intro xs
  induction xs with
  | nil => intro σ Us _ x hx; simp at hx
  | cons y r ih =>
    intro σ Us h x hx
    simp only [List.map_cons] at h
    cases hy : evalX σ y with
    | val v =>
      rw [hy] at h
      simp only [allVal] at h
      obtain ⟨vs, h1, _⟩ := Option.map_eq_some_iff.1 h
      rcases List.mem_cons.1 hx with rfl | hx
      · rw [hy]; simp
      · exact ih h1 x hx
    | _ => rw [hy] at h; simp [allVal] at h

theorem qR_mono {o : AOp} {σ τ : St} {r} (h : Le σ τ) (hq : qR o σ = some r) : qR o τ = some r := by
  cases o <;> simp only [qR] at hq ⊢
  case mov d x =>
    rcases evalX_mono h x with e | e
    · simp [e, nt] at hq
    · rw [e]; exact hq
  case asg d x =>
    rcases evalX_mono h x with e | e
    · simp [e] at hq
    · rw [e]; exact hq
  case pick d c x y =>
    rcases evalX_mono h c with e | e
    · simp [e] at hq
    · rw [e]
      split at hq
      case h_2 => cases hq
      rename_i b hb
      try simp only [hb]
      cases b
      · rcases evalX_mono h y with e' | e'
        · simp [e', nt] at hq
        · rw [e']; exact hq
      · rcases evalX_mono h x with e' | e'
        · simp [e', nt] at hq
        · rw [e']; exact hq
  case bin d op x y =>
    rcases evalX_mono h x with e | e
    · simp [e, valOf] at hq
    · rcases evalX_mono h y with e' | e'
      · simp [e', valOf] at hq
      · rw [e, e']; exact hq
  case binb d op x y =>
    rcases evalX_mono h x with e | e
    · simp [e, valOf] at hq
    · rcases evalX_mono h y with e' | e'
      · simp [e', valOf] at hq
      · rw [e, e']; exact hq
  case un d op x =>
    rcases evalX_mono h x with e | e
    · simp [e, valOf] at hq
    · rw [e]; exact hq
  case len d x =>
    rcases evalX_mono h x with e | e
    · simp [e, lenA] at hq
    · rw [e]
      obtain ⟨z, h1, h2⟩ := Option.map_eq_some_iff.1 hq
      rw [lenA_mono h h1]; exact congrArg some h2
  case ext d x i =>
    rcases evalX_mono h x with e | e
    · simp [e] at hq
    · rw [e]
      split at hq
      · rename_i vs hx; exact hq
      · rename_i r' p hx
        try simp only [hx]
        cases hn : nodeAt σ r' p with
        | none => rw [hn] at hq; cases hq
        | some u => rw [hn] at hq; rw [nodeAt_mono h hn]; exact hq
      · cases hq
  case iad d m x i =>
    rcases evalX_mono h x with e | e
    · simp [e] at hq
    · rcases evalX_mono h i with e' | e'
      · rw [e'] at hq; split at hq <;> simp_all
      · rw [e, e']
        split at hq
        · rename_i hx hi; exact hq
        · rename_i r' p k j hx hi
          try simp only [hx, hi]
          cases hn : nodeAt σ r' p with
          | none => rw [hn] at hq; cases hq
          | some u => rw [hn] at hq; rw [nodeAt_mono h hn]; exact hq
        · cases hq
  case aad d m n x i =>
    rcases evalX_mono h x with e | e
    · simp [e, locOf] at hq
    · rcases evalX_mono h i with e' | e'
      · rw [e'] at hq; split at hq <;> simp_all
      · rw [e, e']
        split at hq
        case h_2 => cases hq
        rename_i l k j hl hi
        rw [locOf_mono h hl]; simp only [hi]; exact hq
  case fadr d off x =>
    rcases evalX_mono h x with e | e
    · simp [e, locOf] at hq
    · rw [e]
      obtain ⟨z, h1, h2⟩ := Option.map_eq_some_iff.1 hq
      rw [locOf_mono h h1]; exact congrArg some h2
  case ld d n ag x =>
    rcases evalX_mono h x with e | e
    · simp [e, locOf] at hq
    · rw [e]
      split at hq
      case h_2 => cases hq
      rename_i l hl
      obtain ⟨z, h1, h2⟩ := Option.map_eq_some_iff.1 hq
      simp only [locOf_mono h hl, loadA_mono h h1]; exact congrArg some h2
  case nck d x =>
    rcases evalX_mono h x with e | e
    · simp [e, locOf] at hq
    · rw [e]
      obtain ⟨z, h1, h2⟩ := Option.map_eq_some_iff.1 hq
      rw [locOf_mono h h1]; exact congrArg some h2
  case mk d m z x =>
    rcases evalX_mono h x with e | e
    · simp [e] at hq
    · rw [e]; exact hq
  case alc d z => exact hq
  case bsl d m ps =>
    split at hq
    case h_2 => cases hq
    rename_i Us hU
    rw [evalXs_mono h (allVal_noTop hU), hU]; exact hq
  case mkf d f cs =>
    split at hq
    case h_2 => cases hq
    rename_i hall
    rw [evalXs_mono h]
    · rw [hall]; exact hq
    · intro x hx hxt
      have := List.all_eq_true.1 hall (evalX σ x) (List.mem_map.2 ⟨x, hx, rfl⟩)
      rw [hxt] at this; simp [nt] at this
  case box d x =>
    rcases evalX_mono h x with e | e
    · simp [e] at hq
    · rw [e]; exact hq
  all_goals cases hq

mutual
theorem resA_mono {σ τ : St} (h : Le σ τ) : (a : A) → (v : V) → resA σ a = some v → resA τ a = some v
  | .val _, _, hv => hv
  | .ref r p, v, hv => by
    simp only [resA] at *
    obtain ⟨u, h1, h2⟩ := Option.map_eq_some_iff.1 hv
    rw [nodeAt_mono h h1]; exact congrArg some h2
  | .agg as, v, hv => by
    simp only [resA] at *
    obtain ⟨u, h1, h2⟩ := Option.map_eq_some_iff.1 hv
    rw [resL_mono h as u h1]; exact congrArg some h2
  | .clo f as, v, hv => by
    simp only [resA] at *
    obtain ⟨u, h1, h2⟩ := Option.map_eq_some_iff.1 hv
    rw [resL_mono h as u h1]; exact congrArg some h2
  | .top, _, hv => hv
  | .addr _ _ _, _, hv => hv
  | .fad _, _, hv => hv
theorem resL_mono {σ τ : St} (h : Le σ τ) : (as : List A) → (vs : List V) → resL σ as = some vs → resL τ as = some vs
  | [], _, hv => hv
  | a :: r, vs, hv => by
    simp only [resL] at *
    split at hv
    · rename_i u us h1 h2
      rw [resA_mono h a u h1, resL_mono h r us h2]; exact hv
    · cases hv
end

theorem argsL_mono {σ τ : St} (h : Le σ τ) : ∀ {as : List (X × Bool)} {k vs rs}, (∀ e ∈ as, e.2 = false) → argsL σ (evalAs σ as) k = some (vs, [], rs) → argsL τ (evalAs τ as) k = some (vs, [], rs) := by
  intro as
  induction as with
  | nil => intro k vs rs _ ha; exact ha
  | cons e r ih =>
    intro k vs rs hio ha
    obtain ⟨x, io⟩ := e
    have : io = false := hio (x, io) (by simp)
    subst this
    simp only [evalAs, List.map_cons, argsL] at ha ⊢
    split at ha
    · cases ha
    · rename_i vs' ls' rs' hr
      simp only [Bool.false_eq_true, if_false] at ha ⊢
      cases hres : resA σ (evalX σ x) with
      | none => rw [hres] at ha; cases ha
      | some v =>
        rw [hres] at ha
        simp only [Option.some.injEq, Prod.mk.injEq] at ha
        obtain ⟨rfl, rfl, rfl⟩ := ha
        have := ih (fun e he => hio e (by simp [he])) (k := k + 1) (vs := vs') (rs := rs') hr
        simp only [evalAs] at this
        rw [this]
        rcases evalX_mono h x with e | e
        · rw [e] at hres; simp [resA] at hres
        · rw [e, resA_mono h _ _ hres]

end Go.Proofs.Ythcnmahjhahafaa.Ax
