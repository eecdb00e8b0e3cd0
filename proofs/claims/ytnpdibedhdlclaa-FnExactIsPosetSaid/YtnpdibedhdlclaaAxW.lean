/-
  The walk as a function that can be unfolded: it stops where a bool decides, where something is to be shown, at calls and at loops.
-/
import Derived.Test.YtnpdibedhdlclaaAxQ
import Derived.Test.YtnpdibedhdlclaaAxT
namespace Go.Proofs.Ytnpdibedhdlclaa.Ax
open Go

/-- a bool decides -/
structure Br (b : Bool) (X Y : Prop) : Prop where
  t : b = true → X
  f : b = false → Y
/-- something is to be shown -/
structure Ask (p X : Prop) : Prop where
  p : p
  x : X
/-- an element -/
structure Elem (xs : List V) (j : Nat) (K : V → Prop) : Prop where
  h : ∃ u, xs.getD j .dead = u ∧ K u
/-- some cells -/
structure Cells (xs : List V) (c n : Nat) (K : List V → Prop) : Prop where
  h : ∃ us, c + n ≤ xs.length ∧ (xs.drop c).take n = us ∧ K us
/-- a part -/
structure Part (p : List Nat) (T : V) (K : V → Prop) : Prop where
  h : ∃ u, sub p T = some u ∧ K u
/-- a change -/
structure Change (p : List Nat) (T u : V) (K : V → Prop) : Prop where
  h : ∃ T', upd p T u = some T' ∧ K T'
structure SetKids (x : V) (c : Nat) (us : List V) (K : V → Prop) : Prop where
  h : ∃ x', x.setKids c us = some x' ∧ K x'

theorem Br.not {b : Bool} {X Y : Prop} (h : Br b Y X) : Br (!b) X Y := by
  cases b
  · exact ⟨fun _ => h.f rfl, fun e => Bool.noConfusion e⟩
  · exact ⟨fun e => Bool.noConfusion e, fun _ => h.t rfl⟩
theorem Br.beq {a b : Int} {X Y : Prop} (h1 : a = b → X) (h2 : a ≠ b → Y) : Br (a == b) X Y := ⟨fun h => h1 (by simpa using h), fun h => h2 (by simpa using h)⟩
theorem Br.bne {a b : Int} {X Y : Prop} (h1 : a ≠ b → X) (h2 : a = b → Y) : Br (a != b) X Y := ⟨fun h => h1 (by simpa using h), fun h => h2 (by simpa using h)⟩
theorem fin_bool {b : Bool} {p : Prop} [Decidable p] (h : b = true ↔ p) : V.bool b = V.bool (decide p) := by
  congr 1
  by_cases hp : p
  · rw [decide_eq_true hp, h.2 hp]
  · rw [decide_eq_false hp]
    cases b
    · rfl
    · exact absurd (h.1 rfl) hp
theorem fin_true {p : Prop} [Decidable p] (h : p) : V.bool true = V.bool (decide p) := by rw [decide_eq_true h]
theorem fin_false {p : Prop} [Decidable p] (h : ¬ p) : V.bool false = V.bool (decide p) := by rw [decide_eq_false h]

/-- a length -/
structure Len (xs : List V) (K : Nat → Prop) : Prop where
  h : K xs.length
theorem Len.map {α : Type} {f : α → V} {xs : List α} {K : Nat → Prop} (h : K xs.length) : Len (xs.map f) K := ⟨by rw [List.length_map]; exact h⟩
theorem Len.app {xs ys : List V} {K : Nat → Prop} (h : K (xs.length + ys.length)) : Len (xs ++ ys) K := ⟨by rw [List.length_append]; exact h⟩

theorem Br.yes {X Y : Prop} (h : X) : Br true X Y := ⟨fun _ => h, fun e => Bool.noConfusion e⟩
theorem Br.no {X Y : Prop} (h : Y) : Br false X Y := ⟨fun e => Bool.noConfusion e, fun _ => h⟩
theorem Br.prop {p : Prop} [Decidable p] {X Y : Prop} (h1 : p → X) (h2 : ¬ p → Y) : Br (decide p) X Y := ⟨fun h => h1 (of_decide_eq_true h), fun h => h2 (of_decide_eq_false h)⟩

mutual
def forceA : A → (A → Prop) → Prop
  | .top, K => K .top
  | .val v, K => K (.val v)
  | .ref r p, K => K (.ref r p)
  | .addr r p c, K => K (.addr r p c)
  | .fad cs, K => K (.fad cs)
  | .agg as, K => forceL as fun bs => K (.agg bs)
  | .clo f as, K => forceL as fun bs => K (.clo f bs)
def forceL : List A → (List A → Prop) → Prop
  | [], K => K []
  | a :: r, K => forceA a fun b => forceL r fun s => K (b :: s)
end
mutual
theorem forceA_eq : (a : A) → (K : A → Prop) → forceA a K = K a
  | .top, _ => rfl
  | .val _, _ => rfl
  | .ref _ _, _ => rfl
  | .addr _ _ _, _ => rfl
  | .fad _, _ => rfl
  | .agg as, K => by simp only [forceA]; rw [forceL_eq as]
  | .clo f as, K => by simp only [forceA]; rw [forceL_eq as]
theorem forceL_eq : (as : List A) → (K : List A → Prop) → forceL as K = K as
  | [], _ => rfl
  | a :: r, K => by simp only [forceL]; rw [forceA_eq a, forceL_eq r]
end

def forceS : St → (St → Prop) → Prop
  | [], K => K []
  | (k, a) :: r, K => forceA a fun b => forceS r fun s => K ((k, b) :: s)
theorem forceS_eq : ∀ (σ : St) (K : St → Prop), forceS σ K = K σ := by
  intro σ
  induction σ with
  | nil => intro K; rfl
  | cons e r ih => intro K; obtain ⟨k, a⟩ := e; simp only [forceS]; rw [forceA_eq, ih]

def forceO (o : Option St) (K : St → Prop) : Prop := match o with
  | some σ => forceS σ K
  | none => False
theorem forceO_spec {o : Option St} {K : St → Prop} (h : forceO o K) : ∃ σ, o = some σ ∧ K σ := by
  unfold forceO at h
  split at h
  · rw [forceS_eq] at h; exact ⟨_, rfl, h⟩
  · exact h.elim

/-- what stands for the slot that decided -/
def setLit (s : Nat) (b : Bool) : St → St
  | [] => []
  | (k, a) :: r => match Nat.beq k s with
    | true => (k, .val (.bool b)) :: r
    | false => (k, a) :: setLit s b r
theorem setLit_eq {s : Nat} {b : Bool} : ∀ {σ : St}, look σ s = .val (.bool b) → setLit s b σ = σ := by
  intro σ
  induction σ with
  | nil => intro _; rfl
  | cons e r ih =>
    obtain ⟨k, a⟩ := e
    intro h
    simp only [look] at h
    simp only [setLit]
    by_cases hk : k = s
    · rw [if_pos hk] at h
      subst hk
      rw [show Nat.beq k k = true by simp, h]
    · rw [if_neg hk] at h
      rw [show Nat.beq k s = false by
        cases hb : Nat.beq k s with
        | false => rfl
        | true => exact absurd (Nat.eq_of_beq_eq_true hb) hk]
      simp only [ih h]
def setX (x : X) (b : Bool) (σ : St) : St := match x with
  | .t s => setLit s b σ
  | .c _ => σ

def nodeK (T : A) (p : List Nat) (K : V → Prop) : Prop := match T with
  | .val V => match p with
    | [] => K V
    | c :: p => Part (c :: p) V K
  | _ => False
def changeK (p : List Nat) (T u : V) (K : V → Prop) : Prop := match p with
  | [] => K u
  | c :: p => Change (c :: p) T u K

def nums (a b : A) (K : Int → Int → Prop) (E : Prop) : Prop := match a, b with
  | .val (.int .i64 x), .val (.int .i64 y) => K x y
  | _, _ => E
abbrev InI (n : Int) : Prop := -9223372036854775808 ≤ n ∧ n ≤ 9223372036854775807

def stepK (o : AOp) (σ : St) (K : St → Prop) : Prop := match o with
  | .bin d op x y => match op with
    | .add => nums (evalX σ x) (evalX σ y) (fun a b => Ask (InI (a + b)) (forceS (puts d (.val (.int .i64 (a + b))) σ) K)) (forceO (stepA o σ) K)
    | .sub => nums (evalX σ x) (evalX σ y) (fun a b => Ask (InI (a - b)) (forceS (puts d (.val (.int .i64 (a - b))) σ) K)) (forceO (stepA o σ) K)
    | .mul => nums (evalX σ x) (evalX σ y) (fun a b => Ask (InI (a * b)) (forceS (puts d (.val (.int .i64 (a * b))) σ) K)) (forceO (stepA o σ) K)
    | .quo => nums (evalX σ x) (evalX σ y) (fun a b => Ask (b ≠ 0 ∧ InI (a.tdiv b)) (forceS (puts d (.val (.int .i64 (a.tdiv b))) σ) K)) (forceO (stepA o σ) K)
    | .rem => nums (evalX σ x) (evalX σ y) (fun a b => Ask (b ≠ 0) (forceS (puts d (.val (.int .i64 (a.tmod b))) σ) K)) (forceO (stepA o σ) K)
    | _ => forceO (stepA o σ) K
  | .pick d c x y => match evalX σ c with
    | .val (.bool b) => Br b (forceS (puts d (evalX σ x) σ) K) (forceS (puts d (evalX σ y) σ) K)
    | _ => False
  | .iad d m x i => match evalX σ x, evalX σ i with
    | .val (.sl _ m' xs), .val (.int _ j) => match Nat.beq m' m with
      | true => Ask (0 ≤ j ∧ j < xs.length) (Elem xs j.toNat fun u => forceS (puts d (.fad u.cells) σ) K)
      | false => False
    | .ref r p, .val (.int _ j) => nodeK (look σ r) p fun u => match u with
      | .sl o m' xs => match o with
        | true => match Nat.beq m' m with
          | true => Ask (0 ≤ j ∧ j < xs.length) (forceS (puts d (.addr r p (j.toNat * m)) σ) K)
          | false => False
        | false => False
      | _ => False
    | _, _ => False
  | .ld d n ag x => match locOf σ (evalX σ x) with
    | some (.own r p c) => nodeK (look σ r) p fun u => Cells u.kids c n fun ks => forceS (puts d (mkA ag (celAs r p c ks)) σ) K
    | _ => forceO (stepA o σ) K
  | .mk d m z x => match evalX σ x with
    | .val (.int _ n) => Ask (0 ≤ n ∧ n ≤ (LIM : Int)) (forceS (puts d (.val (.sl true m (List.replicate n.toNat z))) σ) K)
    | _ => False
  | .len d x => match evalX σ x with
    | .val (.sl _ _ xs) => Len xs fun n => forceS (puts d (.val (.int .i64 n)) σ) K
    | .ref r p => nodeK (look σ r) p fun u => match u with
      | .sl _ _ xs => Len xs fun n => forceS (puts d (.val (.int .i64 n)) σ) K
      | _ => False
    | _ => forceO (stepA o σ) K
  | .st n x v => match takeX σ (evalX σ v) with
    | some (U, σ1) => match locOf σ1 (evalX σ1 x) with
      | some (.own r p c) => match look σ1 r with
        | .val T => nodeK (.val T) p fun nd => match nd.node && decide (U.cells.length = n) && allCell U.cells with
          | true => SetKids nd c U.cells fun nd' => changeK p T nd' fun T' => forceS (turnS r T' (p.length + 1) σ1) K
          | false => False
        | _ => False
      | _ => False
    | none => False
  | o => forceO (stepA o σ) K

theorem nodeK_spec {σ : St} {r : Nat} {p : List Nat} {K : V → Prop} (h : nodeK (look σ r) p K) : ∃ T u, look σ r = .val T ∧ sub p T = some u ∧ nodeAt σ r p = some u ∧ K u := by
  unfold nodeK at h
  split at h
  · rename_i T hT
    split at h
    · exact ⟨T, T, hT, rfl, by simp [nodeAt, hT, sub], h⟩
    · obtain ⟨u, h1, h2⟩ := h.h
      exact ⟨T, u, hT, h1, by simp [nodeAt, hT, h1], h2⟩
  · exact h.elim
theorem changeK_spec {p : List Nat} {T u : V} {K : V → Prop} (h : changeK p T u K) : ∃ T', upd p T u = some T' ∧ K T' := by
  unfold changeK at h
  split at h
  · exact ⟨u, rfl, h⟩
  · exact h.h
theorem nums_spec {a b : A} {K : Int → Int → Prop} {E : Prop} (h : nums a b K E) : (∃ x y, a = .val (.int .i64 x) ∧ b = .val (.int .i64 y) ∧ K x y) ∨ E := by
  unfold nums at h
  split at h
  · exact .inl ⟨_, _, rfl, rfl, h⟩
  · exact .inr h

theorem stepK_sound {o : AOp} {σ : St} {K : St → Prop} (h : stepK o σ K) : ∃ σ', stepA o σ = some σ' ∧ K σ' := by
  unfold stepK at h
  split at h
  · rename_i d op x y
    split at h
    case h_6 => exact forceO_spec h
    all_goals
      rcases nums_spec h with ⟨a, b, ha, hb, hk⟩ | h
      case inr => exact forceO_spec h
    · have hx := hk.x; rw [forceS_eq] at hx
      exact ⟨_, by simp [stepA, binN, binS, ha, hb, valOf, V.isBool, binV, wrap_in hk.p.1 hk.p.2], hx⟩
    · have hx := hk.x; rw [forceS_eq] at hx
      exact ⟨_, by simp [stepA, binN, binS, ha, hb, valOf, V.isBool, binV, wrap_in hk.p.1 hk.p.2], hx⟩
    · have hx := hk.x; rw [forceS_eq] at hx
      exact ⟨_, by simp [stepA, binN, binS, ha, hb, valOf, V.isBool, binV, wrap_in hk.p.1 hk.p.2], hx⟩
    · have hx := hk.x; rw [forceS_eq] at hx
      exact ⟨_, by simp [stepA, binN, binS, ha, hb, valOf, V.isBool, binV, hk.p.1, wrap_in hk.p.2.1 hk.p.2.2], hx⟩
    · have hx := hk.x; rw [forceS_eq] at hx
      exact ⟨_, by simp [stepA, binN, binS, ha, hb, valOf, V.isBool, binV, hk.p], hx⟩
  · rename_i d c x y
    split at h
    · rename_i b hb
      cases b
      · have := h.f rfl; rw [forceS_eq] at this
        exact ⟨_, by simp [stepA, pickS, hb], this⟩
      · have := h.t rfl; rw [forceS_eq] at this
        exact ⟨_, by simp [stepA, pickS, hb], this⟩
    · exact h.elim
  · rename_i d m x i
    split at h
    · rename_i hx hi
      split at h
      · rename_i hm
        obtain ⟨u, h1, h2⟩ := h.x.h
        rw [forceS_eq] at h2
        have hm' := Nat.eq_of_beq_eq_true hm
        subst h1
        exact ⟨_, by simp only [stepA, iadS, hx, hi, hm', h.p.1, h.p.2, and_self, if_true], h2⟩
      · exact h.elim
    · rename_i hx hi
      obtain ⟨T, u, hT, hs, hn, hk⟩ := nodeK_spec h
      split at hk
      case h_2 => exact hk.elim
      split at hk
      case h_2 => exact hk.elim
      split at hk
      case h_2 => exact hk.elim
      rename_i hm
      have hm' := Nat.eq_of_beq_eq_true hm
      have h2 := hk.x
      rw [forceS_eq] at h2
      exact ⟨_, by simp only [stepA, iadS, hx, hi, hn, hm', hk.p.1, hk.p.2, and_self, if_true], h2⟩
    · exact h.elim
  · rename_i d n ag x
    split at h
    · rename_i r p c hl
      obtain ⟨T, u, hT, hs, hn, hk⟩ := nodeK_spec h
      obtain ⟨ks, h1, h2, h3⟩ := hk.h
      rw [forceS_eq] at h3
      subst h2
      exact ⟨_, by simp [stepA, ldS, hl, loadA, hn, h1], h3⟩
    · exact forceO_spec h
  · rename_i d m z x
    split at h
    · rename_i hx
      have h2 := h.x
      rw [forceS_eq] at h2
      exact ⟨_, by simp only [stepA, mkS, hx, h.p.1, h.p.2, and_self, if_true], h2⟩
    · exact h.elim
  · rename_i d x
    split at h
    · rename_i hx
      have h2 := h.h
      rw [forceS_eq] at h2
      exact ⟨_, by simp [stepA, lenS, hx, lenA], h2⟩
    · rename_i hx
      obtain ⟨T, u, hT, hs, hn, hk⟩ := nodeK_spec h
      split at hk
      case h_2 => exact hk.elim
      have h2 := hk.h
      rw [forceS_eq] at h2
      exact ⟨_, by simp [stepA, lenS, hx, lenA, hn], h2⟩
    · exact forceO_spec h
  · rename_i n x v
    split at h
    case h_2 => exact h.elim
    rename_i U σ1 ht
    split at h
    case h_2 => exact h.elim
    rename_i r p c hl
    split at h
    case h_2 => exact h.elim
    rename_i T hT
    rw [← hT] at h
    obtain ⟨T2, u, hT2, hs, hn, hk⟩ := nodeK_spec h
    rw [hT] at hT2; cases hT2
    split at hk
    case h_2 => exact hk.elim
    rename_i hc
    obtain ⟨nd', h1, h2⟩ := hk.h
    obtain ⟨T', h3, h4⟩ := changeK_spec h2
    rw [forceS_eq] at h4
    exact ⟨_, by simp only [stepA, storeA, ht, hl, hT, hs, hc, h1, h3, if_true], h4⟩
  · exact forceO_spec h

/-- a call -/
structure CallQ (P : Program) (f d : Nat) (vs : List V) (ls : List (Nat × Nat × List Nat)) (rs : List Nat) (K : St → Prop) (σ : St) : Prop where
  h : okRoots ls rs = true ∧ Tri P f vs (afterCall d ls rs K σ)
structure CallP (P : Program) (f : Nat) (vs : List V) (rs : List Nat) (K : V → Prop) : Prop where
  h : ∃ v, Tri P f vs (fun res _ => res = v ∧ resOk rs v = true) ∧ K v

def callK (P : Program) (f d : Nat) (as : List (A × Bool)) (K : St → Prop) (σ : St) : Prop := match argsL σ as 0 with
  | some (vs, ls, rs) => CallQ P f d vs ls rs K σ
  | none => False
def opK (P : Program) (o : AOp) (σ : St) (K : St → Prop) : Prop := match o with
  | .call d f as => callK P f d (evalAs σ as) K σ
  | .cally d x as => match cloOf (evalX σ x) with
    | some (f, cs) => callK P f d (evalAs σ (as.map (·, false)) ++ cs) K σ
    | none => False
  | o => stepK o σ K

theorem callK_sound {P : Program} {f d : Nat} {as : List (A × Bool)} {K : St → Prop} {σ : St} (h : callK P f d as K σ) : awpCall P f d as K σ := by
  unfold callK at h
  unfold awpCall
  split at h
  · rename_i e; rw [e]; exact h.h
  · exact h.elim
theorem opK_sound {P : Program} {o : AOp} {σ : St} {K : St → Prop} (h : opK P o σ K) : awpOp P o K σ := by
  unfold opK at h
  unfold awpOp
  split at h
  · exact callK_sound h
  · split at h
    · rename_i e; simp only [e]; exact callK_sound h
    · exact h.elim
  · rename_i h1 h2
    obtain ⟨σ', e, hk⟩ := stepK_sound h
    split
    · exact absurd rfl (h1 _ _ _)
    · exact absurd rfl (h2 _ _ _)
    · rw [e]; exact hk

def vcOps (P : Program) : List G → (St → Prop) → St → Prop
  | [], K, σ => K σ
  | ⟨none, o⟩ :: r, K, σ => opK P o σ (vcOps P r K)
  | ⟨some (s, true), o⟩ :: r, K, σ => match look σ s with
    | .val (.bool b) => Br b (forceS (setLit s true σ) fun τ => opK P o τ (vcOps P r K)) (forceS (skipA o (setLit s false σ)) (vcOps P r K))
    | .val (.tup []) => forceS (skipA o σ) (vcOps P r K)
    | _ => False
  | ⟨some (s, false), o⟩ :: r, K, σ => match look σ s with
    | .val (.bool b) => Br b (forceS (skipA o (setLit s true σ)) (vcOps P r K)) (forceS (setLit s false σ) fun τ => opK P o τ (vcOps P r K))
    | .val (.tup []) => forceS (skipA o σ) (vcOps P r K)
    | _ => False

theorem vcOps_sound {P : Program} : ∀ {gs : List G} {K : St → Prop} {σ : St}, vcOps P gs K σ → awpOps P gs K σ := by
  intro gs
  induction gs with
  | nil => intro K σ h; exact h
  | cons x r ih =>
    intro K σ h
    obtain ⟨g, o⟩ := x
    have run : ∀ {τ}, opK P o τ (vcOps P r K) → awpOp P o (awpOps P r K) τ := fun h => awpOp_mono (fun _ => ih) (opK_sound h)
    match g, h with
    | none, h => exact run h
    | some (s, true), h =>
      simp only [vcOps] at h
      simp only [awpOps]
      split at h
      · rename_i b hb
        simp only [hb]
        refine ⟨fun e => ?_, fun e => ?_⟩
        · subst e
          have := h.t rfl
          rw [forceS_eq, setLit_eq hb] at this
          exact run this
        · have e' : b = false := by simpa using e
          subst e'
          have := h.f rfl
          rw [forceS_eq, setLit_eq hb] at this
          exact ih this
      · rename_i hb
        simp only [hb]
        rw [forceS_eq] at h; exact ih h
      · exact h.elim
    | some (s, false), h =>
      simp only [vcOps] at h
      simp only [awpOps]
      split at h
      · rename_i b hb
        simp only [hb]
        refine ⟨fun e => ?_, fun e => ?_⟩
        · subst e
          have := h.f rfl
          rw [forceS_eq, setLit_eq hb] at this
          exact run this
        · have e' : b = true := by simpa using e
          subst e'
          have := h.t rfl
          rw [forceS_eq, setLit_eq hb] at this
          exact ih this
      · rename_i hb
        simp only [hb]
        rw [forceS_eq] at h; exact ih h
      · exact h.elim


def forceP (o : Option (Nat × A)) (K : Nat → A → Prop) : Prop := match o with
  | some (d, a) => forceA a fun b => K d b
  | none => False
theorem forceP_spec {o : Option (Nat × A)} {K : Nat → A → Prop} (h : forceP o K) : ∃ d a, o = some (d, a) ∧ K d a := by
  unfold forceP at h
  split at h
  · rw [forceA_eq] at h; exact ⟨_, _, rfl, h⟩
  · exact h.elim

def headK (o : AOp) (σ : St) (K : Nat → A → Prop) : Prop := match o with
  | .bin d op x y => match op with
    | .add => nums (evalX σ x) (evalX σ y) (fun a b => Ask (InI (a + b)) (K d (.val (.int .i64 (a + b))))) (forceP (qR o σ) K)
    | .sub => nums (evalX σ x) (evalX σ y) (fun a b => Ask (InI (a - b)) (K d (.val (.int .i64 (a - b))))) (forceP (qR o σ) K)
    | .mul => nums (evalX σ x) (evalX σ y) (fun a b => Ask (InI (a * b)) (K d (.val (.int .i64 (a * b))))) (forceP (qR o σ) K)
    | .quo => nums (evalX σ x) (evalX σ y) (fun a b => Ask (b ≠ 0 ∧ InI (a.tdiv b)) (K d (.val (.int .i64 (a.tdiv b))))) (forceP (qR o σ) K)
    | .rem => nums (evalX σ x) (evalX σ y) (fun a b => Ask (b ≠ 0) (K d (.val (.int .i64 (a.tmod b))))) (forceP (qR o σ) K)
    | _ => forceP (qR o σ) K
  | .pick d c x y => match evalX σ c with
    | .val (.bool b) => Br b (forceP ((nt (evalX σ x)).map (d, ·)) K) (forceP ((nt (evalX σ y)).map (d, ·)) K)
    | _ => False
  | .iad d m x i => match evalX σ x, evalX σ i with
    | .val (.sl _ m' xs), .val (.int _ j) => match Nat.beq m' m with
      | true => Ask (0 ≤ j ∧ j < xs.length) (Elem xs j.toNat fun u => K d (.fad u.cells))
      | false => False
    | .ref r p, .val (.int _ j) => nodeK (look σ r) p fun u => match u with
      | .sl o m' xs => match o with
        | true => match Nat.beq m' m with
          | true => Ask (0 ≤ j ∧ j < xs.length) (K d (.addr r p (j.toNat * m)))
          | false => False
        | false => False
      | _ => False
    | _, _ => False
  | .ld d n ag x => match locOf σ (evalX σ x) with
    | some (.own r p c) => nodeK (look σ r) p fun u => Cells u.kids c n fun ks => forceA (mkA ag (celAs r p c ks)) fun b => K d b
    | _ => forceP (qR o σ) K
  | .mk d m z x => match evalX σ x with
    | .val (.int _ n) => Ask (0 ≤ n ∧ n ≤ (LIM : Int)) (K d (.val (.sl true m (List.replicate n.toNat z))))
    | _ => False
  | .len d x => match evalX σ x with
    | .val (.sl _ _ xs) => Len xs fun n => K d (.val (.int .i64 n))
    | .ref r p => nodeK (look σ r) p fun u => match u with
      | .sl _ _ xs => Len xs fun n => K d (.val (.int .i64 n))
      | _ => False
    | _ => forceP (qR o σ) K
  | o => forceP (qR o σ) K

theorem headK_sound {o : AOp} {σ : St} {K : Nat → A → Prop} (h : headK o σ K) : ∃ d a, qR o σ = some (d, a) ∧ K d a := by
  unfold headK at h
  split at h
  · rename_i d op x y
    split at h
    case h_6 => exact forceP_spec h
    all_goals
      rcases nums_spec h with ⟨a, b, ha, hb, hk⟩ | h
      case inr => exact forceP_spec h
    · exact ⟨_, _, by simp [qR, ha, hb, valOf, V.isBool, binV, wrap_in hk.p.1 hk.p.2], hk.x⟩
    · exact ⟨_, _, by simp [qR, ha, hb, valOf, V.isBool, binV, wrap_in hk.p.1 hk.p.2], hk.x⟩
    · exact ⟨_, _, by simp [qR, ha, hb, valOf, V.isBool, binV, wrap_in hk.p.1 hk.p.2], hk.x⟩
    · exact ⟨_, _, by simp [qR, ha, hb, valOf, V.isBool, binV, hk.p.1, wrap_in hk.p.2.1 hk.p.2.2], hk.x⟩
    · exact ⟨_, _, by simp [qR, ha, hb, valOf, V.isBool, binV, hk.p], hk.x⟩
  · rename_i d c x y
    split at h
    · rename_i b hb
      cases b
      · obtain ⟨d', a, h1, h2⟩ := forceP_spec (h.f rfl)
        exact ⟨d', a, by simp only [qR, hb]; simpa using h1, h2⟩
      · obtain ⟨d', a, h1, h2⟩ := forceP_spec (h.t rfl)
        exact ⟨d', a, by simp only [qR, hb]; simpa using h1, h2⟩
    · exact h.elim
  · rename_i d m x i
    split at h
    · rename_i hx hi
      split at h
      · rename_i hm
        obtain ⟨u, h1, h2⟩ := h.x.h
        have hm' := Nat.eq_of_beq_eq_true hm
        subst h1
        exact ⟨_, _, by simp only [qR, hx, hi, hm', h.p.1, h.p.2, and_self, if_true], h2⟩
      · exact h.elim
    · rename_i hx hi
      obtain ⟨T, u, hT, hs, hn, hk⟩ := nodeK_spec h
      split at hk
      case h_2 => exact hk.elim
      split at hk
      case h_2 => exact hk.elim
      split at hk
      case h_2 => exact hk.elim
      rename_i hm
      have hm' := Nat.eq_of_beq_eq_true hm
      exact ⟨_, _, by simp only [qR, hx, hi, hn, hm', hk.p.1, hk.p.2, and_self, if_true], hk.x⟩
    · exact h.elim
  · rename_i d n ag x
    split at h
    · rename_i r p c hl
      obtain ⟨T, u, hT, hs, hn, hk⟩ := nodeK_spec h
      obtain ⟨ks, h1, h2, h3⟩ := hk.h
      rw [forceA_eq] at h3
      subst h2
      exact ⟨_, _, by simp [qR, hl, loadA, hn, h1], h3⟩
    · exact forceP_spec h
  · rename_i d m z x
    split at h
    · rename_i hx
      exact ⟨_, _, by simp [qR, hx, h.p.1, h.p.2], h.x⟩
    · exact h.elim
  · rename_i d x
    split at h
    · rename_i hx
      exact ⟨_, _, by simp [qR, hx, lenA], h.h⟩
    · rename_i hx
      obtain ⟨T, u, hT, hs, hn, hk⟩ := nodeK_spec h
      split at hk
      case h_2 => exact hk.elim
      exact ⟨_, _, by simp [qR, hx, lenA, hn], hk.h⟩
    · exact forceP_spec h
  · exact forceP_spec h

def preOpK (P : Program) (o : AOp) (σ : St) (K : Nat → A → Prop) : Prop := match o with
  | .call d f as => match as.all (fun e => !e.2) with
    | true => match argsL σ (evalAs σ as) 0 with
      | some (vs, [], rs) => CallP P f vs rs fun v => K d (.val v)
      | _ => False
    | false => False
  | o => headK o σ K

theorem preOpK_sound {P : Program} {o : AOp} {σ : St} {K : Nat → A → Prop} (h : preOpK P o σ K) : preOp P o σ K := by
  unfold preOpK at h
  unfold preOp
  split at h
  · split at h
    case h_2 => exact h.elim
    rename_i hio
    refine ⟨hio, ?_⟩
    split at h
    case h_2 => exact h.elim
    rename_i e
    rw [e]
    exact h.h
  · rename_i h1
    obtain ⟨d, a, e, hk⟩ := headK_sound h
    split
    · exact absurd rfl (h1 _ _ _)
    · rw [e]; exact hk

def vcPre (P : Program) (σ0 : St) : List (G × List Nat) → St → (St → Prop) → Prop
  | [], acc, K => forceS (acc ++ σ0) K
  | (⟨none, o⟩, hide) :: r, acc, K => forceS (hideS hide acc ++ σ0) fun σh => preOpK P o σh fun d a => match fresh d acc σ0 with
    | true => forceS (acc ++ [(d, a.mapR (killG d 0))]) fun acc' => vcPre P σ0 r acc' K
    | false => False
  | (⟨some (s, true), o⟩, hide) :: r, acc, K => match hide.contains s with
   | true => False
   | false => match look (hideS hide acc ++ σ0) s with
    | .val (.bool b) => Br b
      (forceS (hideS hide (setLit s true acc) ++ σ0) fun σh => preOpK P o σh fun d a => match fresh d acc σ0 with
        | true => forceS (setLit s true acc ++ [(d, a.mapR (killG d 0))]) fun acc' => vcPre P σ0 r acc' K
        | false => False)
      (match o.dst with
        | some d => match fresh d acc σ0 with
          | true => forceS (setLit s false acc ++ [(d, .val (.tup []))]) fun acc' => vcPre P σ0 r acc' K
          | false => False
        | none => False)
    | .val (.tup []) => (match o.dst with
        | some d => match fresh d acc σ0 with
          | true => forceS (acc ++ [(d, .val (.tup []))]) fun acc' => vcPre P σ0 r acc' K
          | false => False
        | none => False)
    | _ => False
  | (⟨some (s, false), o⟩, hide) :: r, acc, K => match hide.contains s with
   | true => False
   | false => match look (hideS hide acc ++ σ0) s with
    | .val (.bool b) => Br b
      (match o.dst with
        | some d => match fresh d acc σ0 with
          | true => forceS (setLit s true acc ++ [(d, .val (.tup []))]) fun acc' => vcPre P σ0 r acc' K
          | false => False
        | none => False)
      (forceS (hideS hide (setLit s false acc) ++ σ0) fun σh => preOpK P o σh fun d a => match fresh d acc σ0 with
        | true => forceS (setLit s false acc ++ [(d, a.mapR (killG d 0))]) fun acc' => vcPre P σ0 r acc' K
        | false => False)
    | .val (.tup []) => (match o.dst with
        | some d => match fresh d acc σ0 with
          | true => forceS (acc ++ [(d, .val (.tup []))]) fun acc' => vcPre P σ0 r acc' K
          | false => False
        | none => False)
    | _ => False

/-- where the slot lies in the list, what is set there is what stood there -/
theorem setLit_acc {hide : List Nat} {acc σ0 : St} {s : Nat} {b : Bool} (h : look (hideS hide acc ++ σ0) s = .val (.bool b)) (hh : hide.contains s = false) : setLit s b acc = acc := by
  rw [look_append] at h
  split at h
  · rw [hideS_look _ _ _ hh] at h
    exact setLit_eq h
  · rename_i hk
    rw [hideS_key] at hk
    have hk' : hasKey s acc = false := by
      rw [hh] at hk; simpa using hk
    clear h hk
    induction acc with
    | nil => rfl
    | cons e r ih =>
      obtain ⟨k, a⟩ := e
      simp only [hasKey, Bool.or_eq_false_iff, beq_eq_false_iff_ne] at hk'
      simp only [setLit]
      rw [show Nat.beq k s = false by
        cases hb : Nat.beq k s with
        | false => rfl
        | true => exact absurd (Nat.eq_of_beq_eq_true hb) hk'.1]
      simp only [ih hk'.2]

theorem preOp_cont {P : Program} {o : AOp} {σ : St} {c c' : Nat → A → Prop} (h : ∀ d a, c d a → c' d a) (ha : preOp P o σ c) : preOp P o σ c' := preOp_mono h ha

theorem vcPre_sound {P : Program} {σ0 : St} : ∀ {l : List (G × List Nat)} {acc : St} {K : St → Prop}, vcPre P σ0 l acc K → awpPre P σ0 l acc K := by
  intro l
  induction l with
  | nil => intro acc K h; simp only [vcPre] at h; rw [forceS_eq] at h; exact h
  | cons x r ih =>
    intro acc K h
    obtain ⟨⟨g, o⟩, hide⟩ := x
    have run : (forceS (hideS hide acc ++ σ0) fun σh => preOpK P o σh fun d a => match fresh d acc σ0 with
        | true => forceS (acc ++ [(d, a.mapR (killG d 0))]) fun acc' => vcPre P σ0 r acc' K
        | false => False) → preOp P o (hideS hide acc ++ σ0) fun d a => fresh d acc σ0 = true ∧ awpPre P σ0 r (acc ++ [(d, a.mapR (killG d 0))]) K := by
      intro h
      rw [forceS_eq] at h
      refine preOp_cont ?_ (preOpK_sound h)
      intro d a hk
      split at hk
      · rename_i hf
        rw [forceS_eq] at hk
        exact ⟨hf, ih hk⟩
      · exact hk.elim
    have skip : (match o.dst with
        | some d => match fresh d acc σ0 with
          | true => forceS (acc ++ [(d, .val (.tup []))]) fun acc' => vcPre P σ0 r acc' K
          | false => False
        | none => False) → (match o.dst with
          | some d => fresh d acc σ0 = true ∧ awpPre P σ0 r (acc ++ [(d, .val (.tup []))]) K
          | none => False) := by
      intro h
      cases hd : o.dst with
      | none => rw [hd] at h; exact h.elim
      | some d =>
        rw [hd] at h
        cases hf : fresh d acc σ0 with
        | false => simp only [hf] at h
        | true =>
          simp only [hf] at h
          rw [forceS_eq] at h
          exact ⟨hf, ih h⟩
    match g, h with
    | none, h => exact run h
    | some (s, true), h =>
      simp only [vcPre] at h
      simp only [awpPre]
      split at h
      · exact h.elim
      rename_i hh
      split at h
      · rename_i b hb
        simp only [hb]
        refine ⟨fun e => ?_, fun e => ?_⟩
        · subst e
          have := h.t rfl
          rw [setLit_acc hb hh] at this
          exact run this
        · have e' : b = false := by simpa using e
          subst e'
          have := h.f rfl
          rw [setLit_acc hb hh] at this
          exact skip this
      · rename_i hb
        simp only [hb]
        exact skip h
      · exact h.elim
    | some (s, false), h =>
      simp only [vcPre] at h
      simp only [awpPre]
      split at h
      · exact h.elim
      rename_i hh
      split at h
      · rename_i b hb
        simp only [hb]
        refine ⟨fun e => ?_, fun e => ?_⟩
        · subst e
          have := h.f rfl
          rw [setLit_acc hb hh] at this
          exact run this
        · have e' : b = true := by simpa using e
          subst e'
          have := h.t rfl
          rw [setLit_acc hb hh] at this
          exact skip this
      · rename_i hb
        simp only [hb]
        exact skip h
      · exact h.elim

/-- a loop -/
structure LoopQ (P : Program) (c : ACode) (Q : Ex → St → Prop) (σ : St) : Prop where
  h : awp P (.loop c) Q σ

def vc (P : Program) : ACode → (Ex → St → Prop) → St → Prop
  | .skip, Q, σ => Q .normal σ
  | .reg gs, Q, σ => vcOps P gs (Q .normal) σ
  | .dreg pre post, Q, σ => vcPre P σ pre [] (vcOps P post (Q .normal))
  | .seq a b, Q, σ => vc P a (thenQ (vc P b Q) Q) σ
  | .cond x t e, Q, σ => match evalX σ x with
    | .val (.bool b) => Br b (forceS (setX x true σ) (vc P t Q)) (forceS (setX x false σ) (vc P e Q))
    | _ => False
  | .block i c, Q, σ => vc P c (blockQ i Q) σ
  | .loop c, Q, σ => LoopQ P c Q σ
  | .exit i, Q, σ => Q (.exit i) σ
  | .ret, Q, σ => Q .ret σ
  | .drop ds c, Q, σ => forceS (dropS ds σ) (vc P c Q)

theorem setX_eq {x : X} {b : Bool} {σ : St} (h : evalX σ x = .val (.bool b)) : setX x b σ = σ := by
  cases x with
  | c v => rfl
  | t s =>
    refine setLit_eq ?_
    simp only [evalX] at h
    split at h
    · rename_i v hv
      split at h
      · cases h
      · rw [hv]; exact h
    · exact h

theorem vc_sound {P : Program} : ∀ {c : ACode} {Q : Ex → St → Prop} {σ : St}, vc P c Q σ → awp P c Q σ := by
  intro c
  induction c with
  | skip => intro Q σ h; exact h
  | reg gs => intro Q σ h; exact vcOps_sound h
  | dreg pre post => intro Q σ h; exact awpPre_mono (fun _ => vcOps_sound) (vcPre_sound h)
  | seq a b ih1 ih2 =>
    intro Q σ h
    have h' : vc P a (thenQ (vc P b Q) Q) σ := h
    show awp P a (thenQ (awp P b Q) Q) σ
    exact awp_mono (Q := thenQ (vc P b Q) Q) (thenQ_mono (fun _ hh => ih2 hh) fun _ _ => id) (ih1 h')
  | cond x t e ih1 ih2 =>
    intro Q σ h
    simp only [vc] at h
    simp only [awp]
    split at h
    · rename_i b hb
      simp only [hb]
      refine ⟨fun e => ?_, fun e => ?_⟩
      · subst e
        have := h.t rfl
        rw [forceS_eq, setX_eq hb] at this
        exact ih1 this
      · subst e
        have := h.f rfl
        rw [forceS_eq, setX_eq hb] at this
        exact ih2 this
    · exact h.elim
  | block i c ih => intro Q σ h; exact ih h
  | loop c ih => intro Q σ h; exact h.h
  | exit i => intro Q σ h; exact h
  | ret => intro Q σ h; exact h
  | drop ds c ih => intro Q σ h; simp only [vc] at h; rw [forceS_eq] at h; exact ih h

theorem tri_vc {P : Program} {f N : Nat} {ac : ACode} {rs : List RS} {args : List V} {R : V → List V → Prop} (hf : fitsF P f N ac rs = true) (hn : args.length ≤ N)
    (h : vc P ac (retQ N rs args R) (entry N 0 args)) : Tri P f args R := tri_body hf hn (vc_sound h)

def roundQ {α : Type} (ks : List Nat) (st : α → St) (inv : α → Prop) (μ : α → Nat) (a : α) (σ : St) : Prop := ∃ b, restrict ks σ = st b ∧ inv b ∧ μ b < μ a

/-- a loop, its state and its measure by a parameter -/
theorem LoopQ.by {α : Type} {P : Program} {c : ACode} {Q : Ex → St → Prop} {σ : St} (ks : List Nat) (st : α → St) (inv : α → Prop) (μ : α → Nat) (a0 : α) (h0 : restrict ks σ = st a0) (hi : inv a0)
    (hr : ∀ a, inv a → vc P c (thenQ (roundQ ks st inv μ a) Q) (st a)) : LoopQ P c Q σ := by
  refine ⟨awp_loop ks (fun n σ => ∃ a, σ = st a ∧ inv a ∧ n = μ a) (μ a0) ⟨a0, h0, hi, rfl⟩ ?_⟩
  rintro n σ ⟨a, rfl, ha, rfl⟩
  refine awp_mono (thenQ_mono ?_ fun _ _ => id) (vc_sound (hr a ha))
  rintro σ' ⟨b, h1, h2, h3⟩
  exact ⟨μ b, h3, b, h1, h2, rfl⟩

/-- a function answers with one value -/
def Ret (P : Program) (f : Nat) (vs : List V) (v : V) : Prop := Tri P f vs (fun r _ => r = v)

theorem ret_vc {P : Program} {f N : Nat} {ac : ACode} {rs : List RS} {args : List V} {v : V} (hf : fitsF P f N ac rs = true) (hn : args.length ≤ N)
    (h : vc P ac (retQ N rs args fun r _ => r = v) (entry N 0 args)) : Ret P f args v := tri_vc hf hn h

section
variable {P : Program} {K : St → Prop} {σ : St}
theorem CallQ.ret {vs : List V} {f d : Nat} {v : V} (h : Ret P f vs v) (hk : forceS (puts d (.val v) σ) K) : CallQ P f d vs [] [] K σ := by
  rw [forceS_eq] at hk
  refine ⟨rfl, Tri.mono h ?_⟩
  rintro r o rfl
  exact ⟨rfl, hk⟩
theorem CallQ.rd {vs : List V} {rs : List Nat} {f d : Nat} {v : V} (h : Ret P f vs v) (hv : v.noFz = true) (hk : forceS (puts d (.val v) σ) K) : CallQ P f d vs [] rs K σ := by
  rw [forceS_eq] at hk
  refine ⟨rfl, Tri.mono h ?_⟩
  rintro r o rfl
  exact ⟨by simp [resOk, hv], hk⟩
theorem CallP.ret {vs : List V} {f : Nat} {v : V} {K : V → Prop} (h : Ret P f vs v) (hk : K v) : CallP P f vs [] K :=
  ⟨v, Tri.mono h (by rintro r _ rfl; exact ⟨rfl, rfl⟩), hk⟩
theorem CallP.rd {vs : List V} {rs : List Nat} {f : Nat} {v : V} {K : V → Prop} (h : Ret P f vs v) (hv : v.noFz = true) (hk : K v) : CallP P f vs rs K :=
  ⟨v, Tri.mono h (by rintro r _ rfl; exact ⟨rfl, by simp [resOk, hv]⟩), hk⟩
end

abbrev vint (n : Int) : V := .int .i64 n
/-- a slice of ints that is only read -/
abbrev ints (xs : List Int) : V := .sl false 1 (xs.map vint)
/-- a slice of ints of one's own -/
abbrev oints (xs : List Int) : V := .sl true 1 (xs.map vint)
abbrev rows (xss : List (List Int)) : V := .sl false 1 (xss.map ints)
abbrev orows (xss : List (List Int)) : V := .sl true 1 (xss.map ints)
abbrev oorows (xss : List (List Int)) : V := .sl true 1 (xss.map oints)

theorem fzL_map {α : Type} (f g : α → V) (h : ∀ x, (f x).fz = g x) (xs : List α) : fzL (xs.map f) = xs.map g := by
  induction xs with
  | nil => rfl
  | cons x r ih => simp [fzL, h, ih]
theorem fzL_ints (xs : List Int) : fzL (xs.map vint) = xs.map vint := fzL_map _ _ (fun _ => rfl) xs
theorem fzL_rows (xs : List (List Int)) : fzL (xs.map ints) = xs.map ints := fzL_map _ _ (fun _ => rfl) xs
theorem fzL_orows (xs : List (List Int)) : fzL (xs.map oints) = xs.map ints := fzL_map _ _ (fun x => by simp [V.fz, fzL_ints]) xs

theorem getD_map {α : Type} (f : α → V) (xs : List α) (i : Nat) (d : α) (h : i < xs.length) : (xs.map f).getD i .dead = f (xs.getD i d) := by
  simp [List.getD_eq_getElem?_getD, h]
theorem Ask.el {α : Type} {f : α → V} {xs : List α} {j : Int} {K : V → Prop} (d : α) (h : 0 ≤ j ∧ j < xs.length) (hk : K (f (xs.getD j.toNat d))) :
    Ask (0 ≤ j ∧ j < (xs.map f).length) (Elem (xs.map f) j.toNat K) :=
  ⟨by simpa using h, ⟨_, getD_map f xs _ d (by omega), hk⟩⟩

end Go.Proofs.Ytnpdibedhdlclaa.Ax
