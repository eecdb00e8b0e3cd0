/-
  The walk as a function that can be unfolded: it stops where a bool decides, where something is to be shown, at calls and at loops.
  What the walk stops at, against functions on plain data that may give nothing: where such a function gives a value, the program gives it.
-/
import Derived.Test.YtbnoclklhcbidaaDoorAx3
namespace Go.Proofs.YtbnoclklhcbidaaDoor.Ax
open Go

/-- a bool decides -/
structure Br (b : Bool) (X Y : Prop) : Prop where
  t : b = true → X
  f : b = false → Y
/-- something is to be shown -/
structure Ask (p X : Prop) : Prop where
  p : p
  x : X
/-- an element -/
structure Elem (xs : List V) (j : Nat) (K : V → Prop) : Prop where
  h : K (xs.getD j .dead)
/-- some cells -/
structure Cells (xs : List V) (c n : Nat) (K : List V → Prop) : Prop where
  h : ∃ us, c + n ≤ xs.length ∧ (xs.drop c).take n = us ∧ K us
/-- a child -/
structure Kid (T : V) (c : Nat) (K : V → Prop) : Prop where
  h : ∃ k, T.stepOk = true ∧ T.kids[c]? = some k ∧ K k
structure SetKids (x : V) (c : Nat) (us : List V) (K : V → Prop) : Prop where
  h : ∃ x', x.setKids c us = some x' ∧ K x'
/-- a new slice -/
structure MkQ (d n : Nat) (z : V) (K : List V → Prop) : Prop where
  h : K (List.replicate n z)
/-- a slice written out -/
structure BslQ (d m : Nat) (us : List V) (K : List V → Prop) : Prop where
  h : allLen m us = true ∧ K us
/-- a slice that becomes longer -/
structure AppQ (d : Nat) (xs ys : List V) (K : List V → Prop) : Prop where
  h : allCell (flat ys) = true ∧ xs.length + ys.length ≤ LIM ∧ K (xs ++ ys)
/-- what these own is not moved -/
structure NoOwn (ys : List V) (X Y : Prop) : Prop where
  h : (anyOwn (flat ys) = false ∧ X) ∨ (anyOwn (flat ys) = true ∧ Y)

/-- a part of a slice -/
structure SlcQ (xs : List V) (l h : Int) (K : List V → Prop) : Prop where
  h : 0 ≤ l ∧ l ≤ h ∧ h ≤ (xs.length : Int) ∧ K ((xs.drop l.toNat).take (h.toNat - l.toNat))

/-- which place of an array -/
structure Idx (j : Int) (lo n : Nat) (K : Int → Prop) : Prop where
  h : lo ≤ j → j < n → K j

def mulN : Nat → Nat → Nat
  | x, 0 => x * 0
  | x, 1 => x
  | x, m + 2 => x * (m + 2)
theorem mulN_one (x : Nat) : mulN x 1 = x := rfl
theorem mulN_eq (x m : Nat) : mulN x m = x * m := by
  unfold mulN; split <;> simp
/-- numbers of 64 bits -/
def shlI (a b : Int) : Int := IntKind.i64.wrap (a * 2 ^ (min b.toNat IntKind.i64.bits))
def shrI (a b : Int) : Int := a.fdiv (2 ^ (min b.toNat IntKind.i64.bits))
def andI (a b : Int) : Int := IntKind.i64.wrap (BitVec.ofInt IntKind.i64.bits a &&& BitVec.ofInt IntKind.i64.bits b).toNat
def orI (a b : Int) : Int := IntKind.i64.wrap (BitVec.ofInt IntKind.i64.bits a ||| BitVec.ofInt IntKind.i64.bits b).toNat
def xorI (a b : Int) : Int := IntKind.i64.wrap (BitVec.ofInt IntKind.i64.bits a ^^^ BitVec.ofInt IntKind.i64.bits b).toNat
def nandI (a b : Int) : Int := IntKind.i64.wrap (BitVec.ofInt IntKind.i64.bits a &&& ~~~BitVec.ofInt IntKind.i64.bits b).toNat

theorem Br.not {b : Bool} {X Y : Prop} (h : Br b Y X) : Br (!b) X Y := by
  cases b
  · exact ⟨fun _ => h.f rfl, fun e => Bool.noConfusion e⟩
  · exact ⟨fun e => Bool.noConfusion e, fun _ => h.t rfl⟩
theorem Br.beq {a b : Int} {X Y : Prop} (h1 : a = b → X) (h2 : a ≠ b → Y) : Br (a == b) X Y := ⟨fun h => h1 (by simpa using h), fun h => h2 (by simpa using h)⟩
theorem Br.bne {a b : Int} {X Y : Prop} (h1 : a ≠ b → X) (h2 : a = b → Y) : Br (a != b) X Y := ⟨fun h => h1 (by simpa using h), fun h => h2 (by simpa using h)⟩
theorem fin_bool {b : Bool} {p : Prop} [Decidable p] (h : b = true ↔ p) : V.bool b = V.bool (decide p) := by
  congr 1
  by_cases hp : p
  · rw [decide_eq_true hp, h.2 hp]
  · rw [decide_eq_false hp]
    cases b
    · rfl
    · exact absurd (h.1 rfl) hp
theorem fin_true {p : Prop} [Decidable p] (h : p) : V.bool true = V.bool (decide p) := by rw [decide_eq_true h]
theorem fin_false {p : Prop} [Decidable p] (h : ¬ p) : V.bool false = V.bool (decide p) := by rw [decide_eq_false h]

/-- a length -/
structure Len (xs : List V) (K : Nat → Prop) : Prop where
  h : K xs.length
theorem Len.map {α : Type} {f : α → V} {xs : List α} {K : Nat → Prop} (h : K xs.length) : Len (xs.map f) K := ⟨by rw [List.length_map]; exact h⟩
theorem Len.app {xs ys : List V} {K : Nat → Prop} (h : K (xs.length + ys.length)) : Len (xs ++ ys) K := ⟨by rw [List.length_append]; exact h⟩

theorem Br.yes {X Y : Prop} (h : X) : Br true X Y := ⟨fun _ => h, fun e => Bool.noConfusion e⟩
theorem Br.no {X Y : Prop} (h : Y) : Br false X Y := ⟨fun e => Bool.noConfusion e, fun _ => h⟩
theorem Br.prop {p : Prop} [Decidable p] {X Y : Prop} (h1 : p → X) (h2 : ¬ p → Y) : Br (decide p) X Y := ⟨fun h => h1 (of_decide_eq_true h), fun h => h2 (of_decide_eq_false h)⟩

mutual
def forceA : A → (A → Prop) → Prop
  | .top, K => K .top
  | .val v, K => K (.val v)
  | .ref r p, K => K (.ref r p)
  | .addr r p c, K => K (.addr r p c)
  | .fad cs, K => K (.fad cs)
  | .agg as, K => forceL as fun bs => K (.agg bs)
  | .clo f as, K => forceL as fun bs => K (.clo f bs)
  | .tie b f p q, K => forceL p fun ps => forceL q fun qs => K (.tie b f ps qs)
def forceL : List A → (List A → Prop) → Prop
  | [], K => K []
  | a :: r, K => forceA a fun b => forceL r fun s => K (b :: s)
end
mutual
theorem forceA_eq : (a : A) → (K : A → Prop) → forceA a K = K a
  | .top, _ => rfl
  | .val _, _ => rfl
  | .ref _ _, _ => rfl
  | .addr _ _ _, _ => rfl
  | .fad _, _ => rfl
  | .agg as, K => by simp only [forceA]; rw [forceL_eq as]
  | .clo f as, K => by simp only [forceA]; rw [forceL_eq as]
  | .tie b f p q, K => by simp only [forceA]; rw [forceL_eq p, forceL_eq q]
theorem forceL_eq : (as : List A) → (K : List A → Prop) → forceL as K = K as
  | [], _ => rfl
  | a :: r, K => by simp only [forceL]; rw [forceA_eq a, forceL_eq r]
end

def forceS : St → (St → Prop) → Prop
  | [], K => K []
  | (k, a) :: r, K => forceA a fun b => forceS r fun s => K ((k, b) :: s)
theorem forceS_eq : ∀ (σ : St) (K : St → Prop), forceS σ K = K σ := by
  intro σ
  induction σ with
  | nil => intro K; rfl
  | cons e r ih => intro K; obtain ⟨k, a⟩ := e; simp only [forceS]; rw [forceA_eq, ih]

def forceO (o : Option St) (K : St → Prop) : Prop := match o with
  | some σ => forceS σ K
  | none => False
theorem forceO_spec {o : Option St} {K : St → Prop} (h : forceO o K) : ∃ σ, o = some σ ∧ K σ := by
  unfold forceO at h
  split at h
  · rw [forceS_eq] at h; exact ⟨_, rfl, h⟩
  · exact h.elim

/-- what stands for the slot that decided -/
def setLit (s : Nat) (b : Bool) : St → St
  | [] => []
  | (k, a) :: r => match Nat.beq k s with
    | true => (k, .val (.bool b)) :: r
    | false => (k, a) :: setLit s b r
theorem setLit_eq {s : Nat} {b : Bool} : ∀ {σ : St}, look σ s = .val (.bool b) → setLit s b σ = σ := by
  intro σ
  induction σ with
  | nil => intro _; rfl
  | cons e r ih =>
    obtain ⟨k, a⟩ := e
    intro h
    simp only [look] at h
    simp only [setLit]
    by_cases hk : k = s
    · rw [if_pos hk] at h
      subst hk
      rw [show Nat.beq k k = true by simp, h]
    · rw [if_neg hk] at h
      rw [show Nat.beq k s = false by
        cases hb : Nat.beq k s with
        | false => rfl
        | true => exact absurd (Nat.eq_of_beq_eq_true hb) hk]
      simp only [ih h]
def setX (x : X) (b : Bool) (σ : St) : St := match x with
  | .t s => setLit s b σ
  | .c _ => σ

def walkK : List Nat → V → (V → Prop) → Prop
  | [], T, K => K T
  | c :: p, T, K => Kid T c fun k => walkK p k K
theorem walkK_spec : ∀ {p : List Nat} {T : V} {K : V → Prop}, walkK p T K → ∃ u, sub p T = some u ∧ K u := by
  intro p
  induction p with
  | nil => intro T K h; exact ⟨T, rfl, h⟩
  | cons c p ih =>
    intro T K h
    obtain ⟨k, h1, h2, h3⟩ := h.h
    obtain ⟨u, h4, h5⟩ := ih h3
    exact ⟨u, by simp only [sub, h1, h2, if_true, h4], h5⟩
def nodeK (T : A) (p : List Nat) (K : V → Prop) : Prop := match T with
  | .val V => walkK p V K
  | _ => False
def changeK : List Nat → V → V → (V → Prop) → Prop
  | [], _, u, K => K u
  | c :: p, T, u, K => Kid T c fun k => changeK p k u fun k' => SetKids T c [k'] K
theorem changeK_spec : ∀ {p : List Nat} {T u : V} {K : V → Prop}, changeK p T u K → ∃ T', upd p T u = some T' ∧ K T' := by
  intro p
  induction p with
  | nil => intro T u K h; exact ⟨u, rfl, h⟩
  | cons c p ih =>
    intro T u K h
    obtain ⟨k, h1, h2, h3⟩ := h.h
    obtain ⟨k', h4, h5⟩ := ih h3
    obtain ⟨T', h6, h7⟩ := h5.h
    exact ⟨T', by simp only [upd, h2, h4, h6], h7⟩

theorem nodeK_spec {σ : St} {r : Nat} {p : List Nat} {K : V → Prop} (h : nodeK (look σ r) p K) : ∃ T u, look σ r = .val T ∧ sub p T = some u ∧ nodeAt σ r p = some u ∧ K u := by
  unfold nodeK at h
  split at h
  · rename_i T hT
    obtain ⟨u, h1, h2⟩ := walkK_spec h
    exact ⟨T, u, hT, h1, by simp [nodeAt, hT, h1], h2⟩
  · exact h.elim

def nums (a b : A) (K : Int → Int → Prop) (E : Prop) : Prop := match a, b with
  | .val (.int .i64 x), .val (.int .i64 y) => K x y
  | _, _ => E
abbrev InI (n : Int) : Prop := -9223372036854775808 ≤ n ∧ n ≤ 9223372036854775807
theorem nums_spec {a b : A} {K : Int → Int → Prop} {E : Prop} (h : nums a b K E) : (∃ x y, a = .val (.int .i64 x) ∧ b = .val (.int .i64 y) ∧ K x y) ∨ E := by
  unfold nums at h
  split at h
  · exact .inl ⟨_, _, rfl, rfl, h⟩
  · exact .inr h

def strs (a b : A) (K : ByteArray → ByteArray → Prop) (E : Prop) : Prop := match a, b with
  | .val (.str x), .val (.str y) => K x y
  | _, _ => E
theorem strs_spec {a b : A} {K : ByteArray → ByteArray → Prop} {E : Prop} (h : strs a b K E) : (∃ x y, a = .val (.str x) ∧ b = .val (.str y) ∧ K x y) ∨ E := by
  unfold strs at h
  split at h
  · exact .inl ⟨_, _, rfl, rfl, h⟩
  · exact .inr h

def forceP (o : Option (Nat × A)) (K : Nat → A → Prop) : Prop := match o with
  | some (d, a) => forceA a fun b => K d b
  | none => False
theorem forceP_spec {o : Option (Nat × A)} {K : Nat → A → Prop} (h : forceP o K) : ∃ d a, o = some (d, a) ∧ K d a := by
  unfold forceP at h
  split at h
  · rw [forceA_eq] at h; exact ⟨_, _, rfl, h⟩
  · exact h.elim

def lenK (d : Nat) (xs : List V) (K : Nat → A → Prop) : Prop := Len xs fun n => K d (.val (.int .i64 n))
def iadK (d m m' : Nat) (xs : List V) (j : Int) (own : Option (Nat × List Nat)) (K : Nat → A → Prop) : Prop := match Nat.beq m' m with
  | true => Len xs fun n => Ask (0 ≤ j ∧ j < n) (match own with
    | none => Elem xs j.toNat fun u => K d (.fad u.cells)
    | some (r, p) => K d (.addr r p (mulN j.toNat m)))
  | false => False

/-- a look-up in a map; an entry written; bytes as a string -/
structure LkQ (es : List (ByteArray × Lf)) (s : ByteArray) (z : Lf) (ok : Bool) (K : V → Prop) : Prop where
  h : K (mlkV es s z ok)
structure MsQ (es : List (ByteArray × Lf)) (s : ByteArray) (x : Lf) (K : List (ByteArray × Lf) → Prop) : Prop where
  h : K (msetL es s x)
structure BsQ (xs : List V) (K : ByteArray → Prop) : Prop where
  h : ∃ ns, bytesV xs = some ns ∧ K (strOf ns)
def bstrK (d m : Nat) (xs : List V) (K : Nat → A → Prop) : Prop := match Nat.beq m 1 with
  | true => BsQ xs fun s => K d (.val (.str s))
  | false => False

/-- freezing below a depth -/
structure FrzQ (T : V) (n : Nat) (K : V → Prop) : Prop where
  h : ∃ T', T.fzAt n = T' ∧ K T'
def headK (o : AOp) (σ : St) (K : Nat → A → Prop) : Prop := match o with
  | .mlk d x k z ok => match evalX σ x, evalX σ k with
    | .val (.mp o es), .val (.str s) => (match o with
      | false => LkQ es s z ok fun v => K d (.val v)
      | true => False)
    | .ref r p, .val (.str s) => nodeK (look σ r) p fun u => match u with
      | .mp _ es => LkQ es s z ok fun v => K d (.val v)
      | _ => False
    | _, _ => False
  | .bstr d x => match evalX σ x with
    | .val (.sl o m xs) => (match o with
      | false => bstrK d m xs K
      | true => False)
    | .ref r p => nodeK (look σ r) p fun u => match u with
      | .sl _ m xs => bstrK d m xs K
      | _ => False
    | _ => False
  | .bin d op x y => match op with
    | .add => strs (evalX σ x) (evalX σ y) (fun s t => Ask (s.size + t.size ≤ 9223372036854775807) (K d (.val (.str (s ++ t))))) (nums (evalX σ x) (evalX σ y) (fun a b => Ask (InI (a + b)) (K d (.val (.int .i64 (a + b))))) (forceP (qR o σ) K))
    | .sub => nums (evalX σ x) (evalX σ y) (fun a b => Ask (InI (a - b)) (K d (.val (.int .i64 (a - b))))) (forceP (qR o σ) K)
    | .mul => nums (evalX σ x) (evalX σ y) (fun a b => Ask (InI (a * b)) (K d (.val (.int .i64 (a * b))))) (forceP (qR o σ) K)
    | .quo => nums (evalX σ x) (evalX σ y) (fun a b => Ask (b ≠ 0 ∧ InI (a.tdiv b)) (K d (.val (.int .i64 (a.tdiv b))))) (forceP (qR o σ) K)
    | .rem => nums (evalX σ x) (evalX σ y) (fun a b => Ask (b ≠ 0) (K d (.val (.int .i64 (a.tmod b))))) (forceP (qR o σ) K)
    | .shl => nums (evalX σ x) (evalX σ y) (fun a b => Ask (0 ≤ b) (K d (.val (.int .i64 (shlI a b))))) (forceP (qR o σ) K)
    | .shr => nums (evalX σ x) (evalX σ y) (fun a b => Ask (0 ≤ b) (K d (.val (.int .i64 (shrI a b))))) (forceP (qR o σ) K)
    | .and => nums (evalX σ x) (evalX σ y) (fun a b => K d (.val (.int .i64 (andI a b)))) (forceP (qR o σ) K)
    | .or => nums (evalX σ x) (evalX σ y) (fun a b => K d (.val (.int .i64 (orI a b)))) (forceP (qR o σ) K)
    | .xor => nums (evalX σ x) (evalX σ y) (fun a b => K d (.val (.int .i64 (xorI a b)))) (forceP (qR o σ) K)
    | .andNot => nums (evalX σ x) (evalX σ y) (fun a b => K d (.val (.int .i64 (nandI a b)))) (forceP (qR o σ) K)
    | _ => forceP (qR o σ) K
  | .pick d c x y => match evalX σ c with
    | .val (.bool b) => Br b (forceP ((nt (evalX σ x)).map (d, ·)) K) (forceP ((nt (evalX σ y)).map (d, ·)) K)
    | _ => False
  | .iad d m x i => match evalX σ x, evalX σ i with
    | .val (.sl _ m' xs), .val (.int _ j) => iadK d m m' xs j none K
    | .ref r p, .val (.int _ j) => nodeK (look σ r) p fun u => match u with
      | .sl o m' xs => match o with
        | true => iadK d m m' xs j (some (r, p)) K
        | false => False
      | _ => False
    | _, _ => False
  | .aad d m n x i => match locOf σ (evalX σ x), evalX σ i with
    | some l, .val (.int _ j) => Ask (0 ≤ j ∧ j < n) (Idx j 0 n fun j => forceA (shiftL (mulN j.toNat m) l) fun b => K d b)
    | _, _ => False
  | .ld d n ag x => match locOf σ (evalX σ x) with
    | some (.own r p c) => nodeK (look σ r) p fun u => Cells u.kids c n fun ks => forceA (mkA ag (celAs r p c ks)) fun b => K d b
    | _ => forceP (qR o σ) K
  | .mk d m z x => match evalX σ x with
    | .val (.int _ n) => Ask (0 ≤ n ∧ n ≤ (LIM : Int)) (MkQ d n.toNat z.up fun l => K d (.val (.sl true m l)))
    | _ => False
  | .mkc d m _ x => match evalX σ x with
    | .val (.int _ n) => Ask (0 ≤ n ∧ n ≤ (LIM : Int)) (K d (.val (.sl true m [])))
    | _ => False
  | .bsl d m ps => match allVal (ps.map (evalX σ)) with
    | some Us => BslQ d m (upL Us) fun l => K d (.val (.sl true m l))
    | none => False
  | .mkr d m z x => match evalX σ x with
    | .val (.int _ n) => Ask (0 ≤ n ∧ n ≤ (LIM : Int)) (MkQ d n.toNat z.up fun l => FrzQ (.sl true m l) 0 fun T' => K d (.val T'))
    | _ => False
  | .bslr d m ps => match allVal (ps.map (evalX σ)) with
    | some Us => BslQ d m (upL Us) fun l => FrzQ (.sl true m l) 0 fun T' => K d (.val T')
    | none => False
  | .slc d m x lo hi => match evalX σ x with
    | .val (.ptr o (.agg cs)) => (match o with
      | true => False
      | false => (match aslOk m cs (lo.map (evalX σ)) (hi.map (evalX σ)) with
        | true => K d (.val (.sl false 1 cs))
        | false => False))
    | .val (.sl o m' xs) => (match o with
      | true => False
      | false => (match Nat.beq m' m with
        | true => (match bndA 0 (lo.map (evalX σ)) with
          | some l => (match hi with
            | none => Len xs fun n => SlcQ xs l n fun ys => K d (.val (.sl false m ys))
            | some y => (match numA (evalX σ y) with
              | some h => SlcQ xs l h fun ys => K d (.val (.sl false m ys))
              | none => False))
          | none => False)
        | false => False))
    | _ => False
  | .len d x => match evalX σ x with
    | .val (.sl _ _ xs) => lenK d xs K
    | .ref r p => nodeK (look σ r) p fun u => match u with
      | .sl _ _ xs => lenK d xs K
      | _ => False
    | _ => forceP (qR o σ) K
  | .sidx d x i => (match evalX σ x, evalX σ i with
    | .val (.str s), .val (.int _ j) => Ask (0 ≤ j ∧ j < (s.size : Int)) (K d (.val (.int .u8 (strAt s j))))
    | _, _ => False)
  | .ssl d x lo hi => (match evalX σ x with
    | .val (.str s) => (match bndA 0 (lo.map (evalX σ)) with
      | some l => (match bndA s.size (hi.map (evalX σ)) with
        | some h => Ask (0 ≤ l ∧ l ≤ h ∧ h ≤ (s.size : Int)) (K d (.val (.str (s.extract l.toNat h.toNat))))
        | none => False)
      | none => False)
    | _ => False)
  | o => forceP (qR o σ) K

theorem iadK_spec {d m m' : Nat} {xs : List V} {j : Int} {own : Option (Nat × List Nat)} {K : Nat → A → Prop} (h : iadK d m m' xs j own K) : m' = m ∧ 0 ≤ j ∧ j < xs.length ∧ (match own with
    | none => K d (.fad (xs.getD j.toNat .dead).cells)
    | some (r, p) => K d (.addr r p (j.toNat * m))) := by
  unfold iadK at h
  split at h
  · rename_i hm
    have h1 := h.h
    refine ⟨Nat.eq_of_beq_eq_true hm, h1.p.1, h1.p.2, ?_⟩
    cases own with
    | none => exact h1.x.h
    | some e => have := h1.x; simpa [mulN_eq] using this
  · exact h.elim

theorem bstrK_spec {d m : Nat} {xs : List V} {K : Nat → A → Prop} (h : bstrK d m xs K) : ∃ ns, m = 1 ∧ bytesV xs = some ns ∧ K d (.val (.str (strOf ns))) := by
  unfold bstrK at h
  split at h
  · rename_i hm
    obtain ⟨ns, h1, h2⟩ := h.h
    exact ⟨ns, Nat.eq_of_beq_eq_true hm, h1, h2⟩
  · exact h.elim
theorem headK_sound {o : AOp} {σ : St} {K : Nat → A → Prop} (h : headK o σ K) : ∃ d a, qR o σ = some (d, a) ∧ K d a := by
  unfold headK at h
  split at h
  · rename_i d x k z ok
    split at h
    · rename_i o es s hx hk
      split at h
      · exact ⟨_, _, by simp [qR, hx, hk, mpA, valOf, strK], h.h⟩
      · exact h.elim
    · rename_i r p s hx hk
      obtain ⟨T, u, hT, hs, hn, hq⟩ := nodeK_spec h
      split at hq
      · exact ⟨_, _, by simp [qR, hx, hk, mpA, hn, valOf, strK], hq.h⟩
      · exact hq.elim
    · exact h.elim
  · rename_i d x
    split at h
    · rename_i o m xs hx
      split at h
      · obtain ⟨ns, h1, h2, h3⟩ := bstrK_spec h
        subst h1
        exact ⟨_, _, by simp [qR, hx, slA, h2], h3⟩
      · exact h.elim
    · rename_i r p hx
      obtain ⟨T, u, hT, hs, hn, hq⟩ := nodeK_spec h
      split at hq
      · obtain ⟨ns, h1, h2, h3⟩ := bstrK_spec hq
        subst h1
        exact ⟨_, _, by simp [qR, hx, slA, hn, h2], h3⟩
      · exact hq.elim
    · exact h.elim
  · rename_i d op x y
    split at h
    case h_12 => exact forceP_spec h
    case h_1 =>
      rcases strs_spec h with ⟨s, t, ha, hb, hk⟩ | h
      · exact ⟨_, _, by simp [qR, ha, hb, valOf, V.isBool, binV, hk.p], hk.x⟩
      rcases nums_spec h with ⟨a, b, ha, hb, hk⟩ | h
      · exact ⟨_, _, by simp [qR, ha, hb, valOf, V.isBool, binV, wrap_in hk.p.1 hk.p.2], hk.x⟩
      · exact forceP_spec h
    all_goals
      rcases nums_spec h with ⟨a, b, ha, hb, hk⟩ | h
      case inr => exact forceP_spec h
    · exact ⟨_, _, by simp [qR, ha, hb, valOf, V.isBool, binV, wrap_in hk.p.1 hk.p.2], hk.x⟩
    · exact ⟨_, _, by simp [qR, ha, hb, valOf, V.isBool, binV, wrap_in hk.p.1 hk.p.2], hk.x⟩
    · exact ⟨_, _, by simp [qR, ha, hb, valOf, V.isBool, binV, hk.p.1, wrap_in hk.p.2.1 hk.p.2.2], hk.x⟩
    · exact ⟨_, _, by simp [qR, ha, hb, valOf, V.isBool, binV, hk.p], hk.x⟩
    · exact ⟨d, .val (.int .i64 (shlI a b)), by simp [qR, ha, hb, valOf, V.isBool, binV, Int.not_lt.2 hk.p, shlI], hk.x⟩
    · exact ⟨d, .val (.int .i64 (shrI a b)), by simp [qR, ha, hb, valOf, V.isBool, binV, Int.not_lt.2 hk.p, shrI], hk.x⟩
    · exact ⟨d, .val (.int .i64 (andI a b)), by simp [qR, ha, hb, valOf, V.isBool, binV, andI], hk⟩
    · exact ⟨d, .val (.int .i64 (orI a b)), by simp [qR, ha, hb, valOf, V.isBool, binV, orI], hk⟩
    · exact ⟨d, .val (.int .i64 (xorI a b)), by simp [qR, ha, hb, valOf, V.isBool, binV, xorI], hk⟩
    · exact ⟨d, .val (.int .i64 (nandI a b)), by simp [qR, ha, hb, valOf, V.isBool, binV, nandI], hk⟩
  · rename_i d c x y
    split at h
    · rename_i b hb
      cases b
      · obtain ⟨d', a, h1, h2⟩ := forceP_spec (h.f rfl)
        exact ⟨d', a, by simp only [qR, hb]; simpa using h1, h2⟩
      · obtain ⟨d', a, h1, h2⟩ := forceP_spec (h.t rfl)
        exact ⟨d', a, by simp only [qR, hb]; simpa using h1, h2⟩
    · exact h.elim
  · rename_i d m x i
    split at h
    · rename_i hx hi
      obtain ⟨h1, h2, h3, h4⟩ := iadK_spec h
      subst h1
      exact ⟨_, _, by simp only [qR, hx, hi, h2, h3, and_self, if_true], h4⟩
    · rename_i hx hi
      obtain ⟨T, u, hT, hs, hn, hk⟩ := nodeK_spec h
      split at hk
      case h_2 => exact hk.elim
      split at hk
      case h_2 => exact hk.elim
      obtain ⟨h1, h2, h3, h4⟩ := iadK_spec hk
      subst h1
      exact ⟨_, _, by simp only [qR, hx, hi, hn, h2, h3, and_self, if_true], h4⟩
    · exact h.elim
  · rename_i d m n x i
    split at h
    · rename_i hl hi
      have h2 := h.x.h h.p.1 h.p.2
      rw [forceA_eq, mulN_eq] at h2
      exact ⟨_, _, by simp only [qR, hl, hi, h.p.1, h.p.2, and_self, if_true], h2⟩
    · exact h.elim
  · rename_i d n ag x
    split at h
    · rename_i r p c hl
      obtain ⟨T, u, hT, hs, hn, hk⟩ := nodeK_spec h
      obtain ⟨ks, h1, h2, h3⟩ := hk.h
      rw [forceA_eq] at h3
      subst h2
      exact ⟨_, _, by simp [qR, hl, loadA, hn, h1], h3⟩
    · exact forceP_spec h
  · rename_i d m z x
    split at h
    · rename_i hx
      exact ⟨_, _, by simp [qR, hx, h.p.1, h.p.2], h.x.h⟩
    · exact h.elim
  · rename_i d m z x
    split at h
    · rename_i hx
      exact ⟨_, _, by simp [qR, hx, h.p.1, h.p.2], h.x⟩
    · exact h.elim
  · rename_i d m ps
    split at h
    · rename_i Us hU
      exact ⟨_, _, by simp [qR, hU, h.h.1], h.h.2⟩
    · exact h.elim
  · rename_i d m z x
    split at h
    · rename_i hx
      obtain ⟨T', e1, h1⟩ := h.x.h.h
      rw [fzAt_zero] at e1
      subst e1
      exact ⟨_, _, by simp [qR, hx, h.p.1, h.p.2], h1⟩
    · exact h.elim
  · rename_i d m ps
    split at h
    · rename_i Us hU
      obtain ⟨T', e1, h1⟩ := h.h.2.h
      rw [fzAt_zero] at e1
      subst e1
      exact ⟨_, _, by simp [qR, hU, h.h.1], h1⟩
    · exact h.elim
  · rename_i d m x lo hi
    split at h
    case h_3 => exact h.elim
    case h_1 =>
      rename_i o cs hx
      split at h
      · exact h.elim
      · split at h
        case h_2 => exact h.elim
        rename_i hao
        exact ⟨_, _, by simp only [qR, slcV, hx]; rw [if_pos hao]; rfl, h⟩
    rename_i o m' xs hx
    split at h
    · exact h.elim
    split at h
    case h_2 => exact h.elim
    rename_i hm
    have hm' := Nat.eq_of_beq_eq_true hm
    split at h
    case h_2 => exact h.elim
    rename_i l hl
    split at h
    · obtain ⟨h0, h1, h2, h3⟩ := h.h.h
      have e2 : bndA (xs.length : Int) ((none : Option X).map (evalX σ)) = some (xs.length : Int) := rfl
      exact ⟨_, _, by simp only [qR, slcV, hx, hl, e2]; rw [if_pos ⟨hm', h0, h1, h2⟩]; rfl, h3⟩
    · rename_i y
      split at h
      case h_2 => exact h.elim
      rename_i hh hy
      obtain ⟨h0, h1, h2, h3⟩ := h.h
      have e2 : bndA (xs.length : Int) ((some y).map (evalX σ)) = some hh := hy
      exact ⟨_, _, by simp only [qR, slcV, hx, hl, e2]; rw [if_pos ⟨hm', h0, h1, h2⟩]; rfl, h3⟩
  · rename_i d x
    split at h
    · rename_i hx
      exact ⟨_, _, by simp [qR, hx, lenA], h.h⟩
    · rename_i hx
      obtain ⟨T, u, hT, hs, hn, hk⟩ := nodeK_spec h
      split at hk
      case h_2 => exact hk.elim
      exact ⟨_, _, by simp [qR, hx, lenA, hn], hk.h⟩
    · exact forceP_spec h
  · rename_i d x i
    split at h
    case h_2 => exact h.elim
    rename_i hx hi
    exact ⟨_, _, by simp only [qR, hx, hi]; rw [if_pos h.p], h.x⟩
  · rename_i d x lo hi
    split at h
    case h_2 => exact h.elim
    rename_i s hx
    split at h
    case h_2 => exact h.elim
    rename_i l hl
    split at h
    case h_2 => exact h.elim
    rename_i r hr
    exact ⟨_, _, by simp only [qR, sslV, hx, hl, hr]; rw [if_pos h.p]; rfl, h.x⟩
  · exact forceP_spec h

/-- what is appended -/
def yK (σ : St) (m : Nat) (y : A) (K : List V → St → Prop) : Prop := match y with
  | .val (.sl _ m' ys) => match Nat.beq m' m with
    | true => K ys σ
    | false => False
  | .val (.nilsl _) => K [] σ
  | .ref r p => nodeK (look σ r) p fun u => match u with
    | .sl o m' ys => match o with
      | true => match Nat.beq m' m with
        | true => NoOwn ys (K ys σ) (match takeA σ (.ref r p) with
          | some (_, σ1) => K ys σ1
          | none => False)
        | false => False
      | false => False
    | _ => False
  | _ => False
theorem yK_spec {σ : St} {m : Nat} {y : A} {K : List V → St → Prop} (h : yK σ m y K) : ∃ ys σ1, yS σ m y = some (ys, σ1) ∧ K ys σ1 := by
  unfold yK at h
  split at h
  · split at h
    · rename_i hm
      exact ⟨_, _, by simp [yS, Nat.eq_of_beq_eq_true hm], h⟩
    · exact h.elim
  · exact ⟨_, _, by simp [yS], h⟩
  · obtain ⟨T, u, hT, hs, hn, hk⟩ := nodeK_spec h
    split at hk
    case h_2 => exact hk.elim
    split at hk
    case h_2 => exact hk.elim
    split at hk
    case h_2 => exact hk.elim
    rename_i hm
    have hm' := Nat.eq_of_beq_eq_true hm
    rcases hk.h with ⟨h1, h2⟩ | ⟨h1, h2⟩
    · exact ⟨_, _, by simp [yS, hn, hm', h1], h2⟩
    · split at h2
      · rename_i U σ1 ht
        exact ⟨_, _, by simp [yS, hn, hm', h1, ht], h2⟩
      · exact h2.elim
  · exact h.elim

def isHead : AOp → Bool
  | .mov .. => true
  | .pick .. => true
  | .bin .. => true
  | .binb .. => true
  | .un .. => true
  | .cnv .. => true
  | .len .. => true
  | .ext .. => true
  | .iad .. => true
  | .aad .. => true
  | .fadr .. => true
  | .ld .. => true
  | .nck .. => true
  | .mk .. => true
  | .mkc .. => true
  | .mkr .. => true
  | .bslr .. => true
  | .alc .. => true
  | .mkf .. => true
  | .slc .. => true
  | .sidx .. => true
  | .ssl .. => true
  | .mkm .. => true
  | .mlk .. => true
  | .bstr .. => true
  | _ => false

/-- a list that something has been taken out of -/
def holeL {α : Type} (f : α → V) (l : List α) (i : Nat) : List V := (l.map f).set i .dead
/-- a list where something is taken out of one of its structures -/
def holeW {α : Type} (f : α → V) (l : List α) (i : Nat) (v : V) : List V := (l.map f).set i v
/-- taking out -/
def takeXK (σ : St) (a : A) (K : V → St → Prop) : Prop := match a with
  | .ref r (c :: p) => (match look σ r with
    | .val T => walkK (c :: p) T fun u => changeK (c :: p) T .dead fun T' => K u (turnP r T' (c :: p) σ)
    | _ => False)
  | a => match takeX σ a with
    | some (v, σ') => K v σ'
    | none => False
theorem takeXK_spec {σ : St} {a : A} {K : V → St → Prop} (h : takeXK σ a K) : ∃ v σ', takeX σ a = some (v, σ') ∧ K v σ' := by
  unfold takeXK at h
  split at h
  · rename_i r c p
    split at h
    case h_2 => exact h.elim
    rename_i T hT
    obtain ⟨u, h1, h2⟩ := walkK_spec h
    obtain ⟨T', h3, h4⟩ := changeK_spec h2
    exact ⟨u, _, by simp only [takeX, takeA, hT, h1, h3], h4⟩
  · split at h
    · exact ⟨_, _, by assumption, h⟩
    · exact h.elim
def tailK (o : AOp) (σ : St) (K : St → Prop) : Prop := match o with
  | .mup m k v => match evalX σ m, evalX σ k, evalX σ v with
    | .ref r p, .val (.str s), .val u => match vLf u with
      | some x => match look σ r with
        | .val T => walkK p T fun nd => match nd with
          | .mp o es => (match o with
            | true => MsQ es s x fun es' => changeK p T (.mp true es') fun T' => forceS (turnS r T' (p.length + 1) σ) K
            | false => False)
          | _ => False
        | _ => False
      | none => False
    | _, _, _ => False
  | .bsl d m ps => match takeXs σ (ps.map (evalX σ)) with
    | some (Us, σ1) => BslQ d m Us fun l => forceS (puts d (.val (.sl true m l)) σ1) K
    | none => False
  | .app d m x y => yK σ m (evalX σ y) fun ys σ1 => takeXK σ1 (evalX σ1 x) fun v σ2 => match v with
    | .sl o m' xs => (match o with
      | true => (match Nat.beq m' m with
        | true => AppQ d xs ys fun l => forceS (puts d (.val (.sl true m l)) σ2) K
        | false => False)
      | false => False)
    | _ => False
  | .slt d m x hi => match numA (evalX σ hi) with
    | some h => takeXK σ (evalX σ x) fun v σ2 => match v with
      | .sl o m' xs => (match o with
        | true => (match Nat.beq m' m with
          | true => SlcQ xs 0 h fun ys => forceS (puts d (.val (.sl true m ys)) σ2) K
          | false => False)
        | false => False)
      | _ => False
    | none => False
  | .idx d m n ag x i => match evalX σ i with
    | .val (.int k j) => Ask (0 ≤ j ∧ j < n) (Idx j 0 n fun j => forceO (if aggA σ (evalX σ x) then idxS d m n ag (evalX σ x) (.val (.int k j)) σ else none) K)
    | _ => False
  | .st n x v => match takeX σ (evalX σ v) with
    | some (U, σ1) => match locOf σ1 (evalX σ1 x) with
      | some (.own r p c) => match look σ1 r with
        | .val T => walkK p T fun nd => match nd.node && decide (U.cells.length = n) && allCell U.cells with
          | true => SetKids nd c U.cells fun nd' => changeK p T nd' fun T' => forceS (turnS r T' (p.length + 1) σ1) K
          | false => False
        | _ => False
      | _ => False
    | none => False
  | .nilq d neg x => match evalX σ x with
    | .val (.sl o _ xs) => (match o with
      | true => False
      | false => Len xs fun n => Ask ((0 : Int) < (n : Int)) (forceS (puts d (.val (.bool neg)) σ) K))
    | .ref r p => nodeK (look σ r) p fun u => match u with
      | .sl _ _ xs => Len xs fun n => Ask ((0 : Int) < (n : Int)) (forceS (puts d (.val (.bool neg)) σ) K)
      | _ => False
    | _ => forceO (stepA (.nilq d neg x) σ) K
  | o => forceO (stepA o σ) K

theorem tailK_sound {o : AOp} {σ : St} {K : St → Prop} (h : tailK o σ K) : ∃ σ', stepA o σ = some σ' ∧ K σ' := by
  unfold tailK at h
  split at h
  · rename_i m k v
    split at h
    case h_2 => exact h.elim
    rename_i r p s u hm hk hv
    split at h
    case h_2 => exact h.elim
    rename_i x hx
    split at h
    case h_2 => exact h.elim
    rename_i T hT
    obtain ⟨nd, hs, hq⟩ := walkK_spec h
    split at hq
    case h_2 => exact hq.elim
    rename_i o es
    split at hq
    case h_2 => exact hq.elim
    obtain ⟨T', h1, h2⟩ := changeK_spec hq.h
    rw [forceS_eq] at h2
    exact ⟨_, by simp [stepA, mupS, hm, hk, hv, hT, hs, valOf, strK, hx, h1], h2⟩
  · rename_i d m ps
    split at h
    · rename_i Us σ1 hU
      obtain ⟨h1, h2⟩ := h.h
      rw [forceS_eq] at h2
      exact ⟨_, by simp [stepA, bslS, hU, h1], h2⟩
    · exact h.elim
  · rename_i d m x y
    obtain ⟨ys, σ1, hy, hk⟩ := yK_spec h
    obtain ⟨v, σ2, hX, hk⟩ := takeXK_spec hk
    split at hk
    case h_2 => exact hk.elim
    rename_i o m' xs
    split at hk
    case h_2 => exact hk.elim
    split at hk
    case h_2 => exact hk.elim
    rename_i hm
    have hm' := Nat.eq_of_beq_eq_true hm
    obtain ⟨h1, h2, h3⟩ := hk.h
    rw [forceS_eq] at h3
    exact ⟨_, by simp [stepA, appS, hy, hX, hm', h1, h2], h3⟩
  · rename_i d m x hi
    split at h
    case h_2 => exact h.elim
    rename_i hh hn
    obtain ⟨v, σ2, hX, hk⟩ := takeXK_spec h
    split at hk
    case h_2 => exact hk.elim
    rename_i o m' xs
    split at hk
    case h_2 => exact hk.elim
    split at hk
    case h_2 => exact hk.elim
    rename_i hm
    have hm' := Nat.eq_of_beq_eq_true hm
    obtain ⟨_, h1, h2, h3⟩ := hk.h
    rw [forceS_eq] at h3
    exact ⟨_, by simp only [stepA, sltS, hn, hX, hm', h1, h2, and_self, if_true], h3⟩
  · rename_i d m n ag x i
    split at h
    case h_2 => exact h.elim
    rename_i hi
    obtain ⟨σ', h1, h2⟩ := forceO_spec (h.x.h h.p.1 h.p.2)
    exact ⟨σ', by simp only [stepA, hi]; exact h1, h2⟩
  · rename_i n x v
    split at h
    case h_2 => exact h.elim
    rename_i U σ1 ht
    split at h
    case h_2 => exact h.elim
    rename_i r p c hl
    split at h
    case h_2 => exact h.elim
    rename_i T hT
    obtain ⟨u, hs, hk⟩ := walkK_spec h
    split at hk
    case h_2 => exact hk.elim
    rename_i hc
    obtain ⟨nd', h1, h2⟩ := hk.h
    obtain ⟨T', h3, h4⟩ := changeK_spec h2
    rw [forceS_eq] at h4
    exact ⟨_, by simp only [stepA, storeA, ht, hl, hT, hs, hc, h1, h3, if_true], h4⟩
  · rename_i d neg x
    split at h
    · rename_i o m xs e
      split at h
      · exact h.elim
      · obtain ⟨h1, h2⟩ := h.h
        rw [forceS_eq] at h2
        refine ⟨_, ?_, h2⟩
        match xs, h1 with
        | [], h1 => simp at h1
        | y :: ys, _ => simp [stepA, nilqS, e, nilA]
    · rename_i r p e
      obtain ⟨T, u, hT, hs, hn, hk⟩ := nodeK_spec h
      split at hk
      case h_2 => exact hk.elim
      rename_i o m xs
      obtain ⟨h1, h2⟩ := hk.h
      rw [forceS_eq] at h2
      refine ⟨_, ?_, h2⟩
      match xs, h1, hn with
      | [], h1, _ => simp at h1
      | y :: ys, _, hn => simp [stepA, nilqS, e, nilA, hn]
    · exact forceO_spec h
  · exact forceO_spec h

def stepK (o : AOp) (σ : St) (K : St → Prop) : Prop := match isHead o with
  | true => headK o σ fun d a => forceS (puts d a σ) K
  | false => tailK o σ K

theorem stepK_sound {o : AOp} {σ : St} {K : St → Prop} (h : stepK o σ K) : ∃ σ', stepA o σ = some σ' ∧ K σ' := by
  unfold stepK at h
  split at h
  · obtain ⟨d, a, h1, h2⟩ := headK_sound h
    rw [forceS_eq] at h2
    exact ⟨_, (qR_step h1).1, h2⟩
  · exact tailK_sound h

/-- a call -/
structure CallQ (P : Program) (f d : Nat) (vs : List V) (ls : List (Nat × Nat × List Nat)) (rs : List Nat) (K : St → Prop) (σ : St) : Prop where
  h : okRoots σ ls rs = true ∧ Tri P f vs (afterCall d ls rs K σ)
structure CallP (P : Program) (f d : Nat) (vs : List V) (rs : List Nat) (K : V → Prop) : Prop where
  h : ∃ v, Tri P f vs (fun res _ => res = v ∧ resOk rs v = true) ∧ K v
/-- .. of a function value, among the heads -/
structure CloP (P : Program) (f d : Nat) (cs vs : List V) (rs : List Nat) (K : V → Prop) : Prop where
  h : ∃ v, Tri P f (vs ++ fzL cs) (fun res _ => res = v ∧ resOk rs v = true) ∧ K v
/-- a call of a function value that came in -/
structure CloQ (P : Program) (f d : Nat) (cs vs : List V) (rs : List Nat) (K : St → Prop) (σ : St) : Prop where
  h : Tri P f (vs ++ fzL cs) (afterCall d [] rs K σ)

/-- an argument: its data; what is lent; what is only read -/
def argK (σ : St) (a : A) (io : Bool) (k : Nat) (K : V → List (Nat × Nat × List Nat) → List Nat → Prop) : Prop := match a with
  | .val v => K v.fz [] []
  | .ref r p => nodeK (look σ r) p fun u => match io && u.node with
    | true => K u [(k, r, p)] []
    | false => K u.fz [] [r]
  | a => match resA σ a with
    | some v => K v [] a.roots
    | none => False
def argsK (σ : St) : List (A × Bool) → Nat → (List V → List (Nat × Nat × List Nat) → List Nat → Prop) → Prop
  | [], _, K => K [] [] []
  | (a, io) :: rest, k, K => argK σ a io k fun v ls' rs' => argsK σ rest (k + 1) fun vs ls rs => K (v :: vs) (ls' ++ ls) (rs' ++ rs)

theorem argK_spec {σ : St} {a : A} {io : Bool} {k : Nat} {K : V → List (Nat × Nat × List Nat) → List Nat → Prop} (h : argK σ a io k K) :
    (∃ r p u, io = true ∧ lentA σ a = some (r, p, u) ∧ K u [(k, r, p)] []) ∨ ((io = true → lentA σ a = none) ∧ ∃ v, resA σ a = some v ∧ K v [] a.roots) := by
  cases a with
  | val v => exact .inr ⟨fun _ => rfl, _, rfl, h⟩
  | ref r p =>
    obtain ⟨T, u, hT, hs, hn, hk⟩ := nodeK_spec h
    split at hk
    · rename_i hb
      simp only [Bool.and_eq_true] at hb
      exact .inl ⟨r, p, u, hb.1, by simp [lentA, hn, hb.2], hk⟩
    · rename_i hb
      refine .inr ⟨fun hi => ?_, u.fz, by simp [resA, hn], hk⟩
      simp only [lentA, hn]
      cases hu : u.node with
      | false => rfl
      | true => rw [hi, hu] at hb; cases hb
  | top => simp [argK, resA] at h
  | addr r p c => simp [argK, resA] at h
  | fad cs => simp [argK, resA] at h
  | tie b f p q => simp [argK, resA] at h
  | agg as =>
    simp only [argK] at h
    split at h
    · exact .inr ⟨fun _ => rfl, _, by assumption, h⟩
    · exact h.elim
  | clo f as =>
    simp only [argK] at h
    split at h
    · exact .inr ⟨fun _ => rfl, _, by assumption, h⟩
    · exact h.elim

theorem argsK_spec {σ : St} : ∀ {as : List (A × Bool)} {k : Nat} {K : List V → List (Nat × Nat × List Nat) → List Nat → Prop}, argsK σ as k K → ∃ vs ls rs, argsL σ as k = some (vs, ls, rs) ∧ K vs ls rs := by
  intro as
  induction as with
  | nil => intro k K h; exact ⟨[], [], [], rfl, h⟩
  | cons e rest ih =>
    intro k K h
    obtain ⟨a, io⟩ := e
    simp only [argsK] at h
    rcases argK_spec h with ⟨r, p, u, h1, h2, h3⟩ | ⟨h1, v, h2, h3⟩
    · obtain ⟨vs, ls, rs, h4, h5⟩ := ih h3
      exact ⟨_, _, _, by simp [argsL, h4, h1, h2], h5⟩
    · obtain ⟨vs, ls, rs, h4, h5⟩ := ih h3
      refine ⟨_, _, _, ?_, h5⟩
      simp only [argsL, h4]
      have : (if io = true then lentA σ a else none) = none := by split <;> simp_all
      simp [this, h2]

/-- a call that parts of a group are lent to -/
structure LendQ (P : Program) (f d n : Nat) (g : Option Nat) (bs : List A) (vs : List V) (ls : List (Nat × Nat × List Nat)) (rs : List Nat) (K : St → Prop) (σ : St) : Prop where
  h : okRoots σ ls rs = true ∧ Tri P f (aggAt n bs.length g vs) (afterAgg n g (afterCall d ls rs K σ))
/-- a call of a function that caught its own box -/
structure CallT (P : Program) (f m j d : Nat) (vs : List V) (ls : List (Nat × Nat × List Nat)) (rs : List Nat) (K : St → Prop) (σ : St) : Prop where
  h : okRoots σ ls rs = true ∧ TriT P f m j vs (afterCall d ls rs K σ)
def callK (P : Program) (f d : Nat) (as : List (A × Bool)) (K : St → Prop) (σ : St) : Prop := match givenOf as with
  | some (pre, g, bs, rest) => argsK σ (pre ++ (bs.map (·, true) ++ rest)) 0 fun vs ls rs => LendQ P f d pre.length g bs vs ls rs K σ
  | none => argsK σ as 0 fun vs ls rs => CallQ P f d vs ls rs K σ
/-- a call of a function value that owns nothing -/
structure CloV (P : Program) (d : Nat) (u : V) (vs : List V) (rs : List Nat) (K : St → Prop) (σ : St) : Prop where
  h : ∃ f cs, (u = .clo f cs ∨ u = .fclo f cs) ∧ Tri P f (vs ++ fzL cs) (afterCall d [] rs K σ)
theorem CloV.c {P : Program} {f d : Nat} {cs vs : List V} {rs : List Nat} {K : St → Prop} {σ : St} (h : CloQ P f d cs vs rs K σ) : CloV P d (.clo f cs) vs rs K σ := ⟨f, cs, .inl rfl, h.h⟩
theorem CloV.f {P : Program} {f d : Nat} {cs vs : List V} {rs : List Nat} {K : St → Prop} {σ : St} (h : CloQ P f d cs vs rs K σ) : CloV P d (.fclo f cs) vs rs K σ := ⟨f, cs, .inr rfl, h.h⟩
/-- a call of a function value that is owned -/
structure CloN (P : Program) (d : Nat) (as : List (A × Bool)) (ms : List Bool) (u : V) (r : Nat) (p : List Nat) (K : St → Prop) (σ : St) : Prop where
  h : ∃ tv f cs, u = .clov tv f cs ∧ awpCall P f d (as ++ maskA ms (celAs r p 0 cs)) K σ
def opK (P : Program) (o : AOp) (σ : St) (K : St → Prop) : Prop := match o with
  | .call d f as => callK P f d (evalAs σ as) K σ
  | .cally d x as ms => match evalX σ x with
    | .val u => argsK σ (evalAs σ (as.map (·, false))) 0 fun vs ls rs => match ls with
      | [] => CloV P d u vs rs K σ
      | _ => False
    | .clo f cs => callK P f d (evalAs σ (as.map (·, false)) ++ maskA ms cs) K σ
    | .ref r p => nodeK (look σ r) p fun u => CloN P d (evalAs σ (as.map (·, false))) ms u r p K σ
    | .tie true f p q => argsK σ (evalAs σ (as.map (·, false)) ++ maskA ms (p ++ .val .dead :: q)) 0 fun vs ls rs => CallT P f as.length p.length d vs ls rs K σ
    | _ => False
  | .slc d m (.t s) lo hi => (match look σ s with
    | .val T => (match T.hasOwn with
      | true => forceS (frz1 s σ) fun σ' => stepK (.slc d m (.t s) lo hi) σ' K
      | false => stepK (.slc d m (.t s) lo hi) σ K)
    | _ => stepK (.slc d m (.t s) lo hi) σ K)
  | o => stepK o σ K

theorem callK_sound {P : Program} {f d : Nat} {as : List (A × Bool)} {K : St → Prop} {σ : St} (h : callK P f d as K σ) : awpCall P f d as K σ := by
  unfold callK at h
  unfold awpCall
  split at h
  · rename_i e
    simp only [e]
    obtain ⟨vs, ls, rs, h1, h2⟩ := argsK_spec h
    rw [h1]; exact h2.h
  · rename_i e
    simp only [e]
    obtain ⟨vs, ls, rs, h1, h2⟩ := argsK_spec h
    rw [h1]; exact h2.h

theorem opK_sound {P : Program} {o : AOp} {σ : St} {K : St → Prop} (h : opK P o σ K) : awpOp P o K σ := by
  unfold opK at h
  unfold awpOp
  split at h
  · exact callK_sound h
  · split at h
    · rename_i e
      obtain ⟨vs, ls, rs, h1, h2⟩ := argsK_spec h
      split at h2
      case h_2 => exact h2.elim
      obtain ⟨f, cs, hu, ht⟩ := h2.h
      rcases hu with rfl | rfl
      · simp only [e, cloR, cloOf]
        unfold awpCall
        rw [givenOf_io]
        simp only
        rw [argsL_append (fun k => argsL_vals _ k) h1]
        exact ⟨rfl, ht⟩
      · simp only [e, cloR, cloOf]
        unfold awpCall
        rw [givenOf_io]
        simp only
        rw [argsL_append (fun k => argsL_vals _ k) h1, fzL_fzL]
        exact ⟨rfl, ht⟩
    · rename_i e
      simp only [e, cloR, cloOf]; exact callK_sound h
    · rename_i e
      obtain ⟨T, u, hT, hs, hn, hk0⟩ := nodeK_spec h
      obtain ⟨tv, f, cs, rfl, hk⟩ := hk0.h
      simp only [e, cloR, hn, cloOf]; exact hk
    · rename_i e
      obtain ⟨vs, ls, rs, h1, h2⟩ := argsK_spec h
      simp only [e, cloR, cloOf, tclOf]
      unfold awpCallT
      rw [h1]; exact h2.h
    · exact h.elim
  · rename_i d m s lo hi
    simp only [preFz]
    split at h
    · rename_i T hT
      simp only [hT]
      split at h
      · rename_i ho
        rw [forceS_eq] at h
        obtain ⟨σ', e, hk⟩ := stepK_sound h
        simp only [ho]
        rw [e]; exact hk
      · rename_i ho
        obtain ⟨σ', e, hk⟩ := stepK_sound h
        simp only [ho]
        rw [e]; exact hk
    · rename_i hne
      obtain ⟨σ', e, hk⟩ := stepK_sound h
      split
      · rename_i σ2 he
        split at he
        · rename_i T hT; exact absurd hT (hne T)
        · rw [e] at he; cases he; exact hk
      · rename_i he
        split at he
        · rename_i T hT; exact absurd hT (hne T)
        · rw [e] at he; cases he
  · rename_i h1 h2 h3
    obtain ⟨σ', e, hk⟩ := stepK_sound h
    have hp : preFz o σ = σ := by
      unfold preFz
      split
      · exact absurd rfl (h3 _ _ _ _ _)
      · rfl
    split
    · exact absurd rfl (h1 _ _ _)
    · exact absurd rfl (h2 _ _ _ _)
    · rw [hp, e]; exact hk

/-- .. where what is only read beside something lent is frozen ahead -/
def opFK (P : Program) (o : AOp) (σ : St) (K : St → Prop) : Prop := match o with
  | .call d f as => (match lentX as with
    | [] => opK P (.call d f as) σ K
    | _ :: _ => forceS (fzArgs as σ) fun τ => opK P (.call d f as) τ K)
  | o => opK P o σ K
theorem opFK_sound {P : Program} {o : AOp} {σ : St} {K : St → Prop} (h : opFK P o σ K) : awpOpF P o K σ := by
  unfold opFK at h
  unfold awpOpF
  split at h
  · simp only [preFzC]
    split at h
    · rename_i e
      simp only [e]
      exact opK_sound h
    · rename_i e
      rw [forceS_eq] at h
      simp only [e]
      exact opK_sound h
  · rename_i h1
    have hp : preFzC o σ = σ := by
      unfold preFzC
      split
      · exact absurd rfl (h1 _ _ _)
      · rfl
    rw [hp]
    exact opK_sound h
def vcOps (P : Program) : List G → (St → Prop) → St → Prop
  | [], K, σ => K σ
  | ⟨none, o⟩ :: r, K, σ => opFK P o σ (vcOps P r K)
  | ⟨some (s, true), o⟩ :: r, K, σ => match look σ s with
    | .val (.bool b) => Br b (forceS (setLit s true σ) fun τ => opFK P o τ (vcOps P r K)) (forceS (skipA o (setLit s false σ)) (vcOps P r K))
    | .val (.tup []) => forceS (skipA o σ) (vcOps P r K)
    | _ => False
  | ⟨some (s, false), o⟩ :: r, K, σ => match look σ s with
    | .val (.bool b) => Br b (forceS (skipA o (setLit s true σ)) (vcOps P r K)) (forceS (setLit s false σ) fun τ => opFK P o τ (vcOps P r K))
    | .val (.tup []) => forceS (skipA o σ) (vcOps P r K)
    | _ => False

theorem vcOps_sound {P : Program} : ∀ {gs : List G} {K : St → Prop} {σ : St}, vcOps P gs K σ → awpOps P gs K σ := by
  intro gs
  induction gs with
  | nil => intro K σ h; exact h
  | cons x r ih =>
    intro K σ h
    obtain ⟨g, o⟩ := x
    have run : ∀ {τ}, opFK P o τ (vcOps P r K) → awpOpF P o (awpOps P r K) τ := fun h => awpOp_mono (fun _ => ih) (opFK_sound h)
    match g, h with
    | none, h => exact run h
    | some (s, true), h =>
      simp only [vcOps] at h
      simp only [awpOps]
      split at h
      · rename_i b hb
        simp only [hb]
        refine ⟨fun e => ?_, fun e => ?_⟩
        · subst e
          have := h.t rfl
          rw [forceS_eq, setLit_eq hb] at this
          exact run this
        · have e' : b = false := by simpa using e
          subst e'
          have := h.f rfl
          rw [forceS_eq, setLit_eq hb] at this
          exact ih this
      · rename_i hb
        simp only [hb]
        rw [forceS_eq] at h; exact ih h
      · exact h.elim
    | some (s, false), h =>
      simp only [vcOps] at h
      simp only [awpOps]
      split at h
      · rename_i b hb
        simp only [hb]
        refine ⟨fun e => ?_, fun e => ?_⟩
        · subst e
          have := h.f rfl
          rw [forceS_eq, setLit_eq hb] at this
          exact run this
        · have e' : b = true := by simpa using e
          subst e'
          have := h.t rfl
          rw [forceS_eq, setLit_eq hb] at this
          exact ih this
      · rename_i hb
        simp only [hb]
        rw [forceS_eq] at h; exact ih h
      · exact h.elim


/-- what is appended, where nothing is taken for it -/
def yNK (σ : St) (m s : Nat) (y : A) (K : List V → Prop) : Prop := match y with
  | .val (.sl _ m' ys) => (match Nat.beq m' m with
    | true => K ys
    | false => False)
  | .val (.nilsl _) => K []
  | .ref r p => (match Nat.beq r s with
    | true => False
    | false => nodeK (look σ r) p fun u => match u with
      | .sl o m' ys => (match o with
        | true => (match Nat.beq m' m with
          | true => NoOwn ys (K ys) False
          | false => False)
        | false => False)
      | _ => False)
  | _ => False
theorem yNK_spec {σ : St} {m s : Nat} {y : A} {K : List V → Prop} (h : yNK σ m s y K) : ∃ ys, yN σ m s y = some ys ∧ K ys := by
  unfold yNK at h
  split at h
  · split at h
    · rename_i hm
      exact ⟨_, by simp [yN, Nat.eq_of_beq_eq_true hm], h⟩
    · exact h.elim
  · exact ⟨_, by simp [yN], h⟩
  · split at h
    · exact h.elim
    rename_i hrs
    obtain ⟨T, u, hT, hs, hn, hk⟩ := nodeK_spec h
    split at hk
    case h_2 => exact hk.elim
    split at hk
    case h_2 => exact hk.elim
    split at hk
    case h_2 => exact hk.elim
    rename_i hm
    have hm' := Nat.eq_of_beq_eq_true hm
    have hne : ∀ {r : Nat}, Nat.beq r s = false → r ≠ s := by
      intro r h1 h2; subst h2; simp at h1
    rcases hk.h with ⟨h1, h2⟩ | ⟨_, h2⟩
    · exact ⟨_, by simp [yN, hn, hm', h1, hne hrs], h2⟩
    · exact h2.elim
  · exact h.elim
def forceN : List Nat → (List Nat → Prop) → Prop
  | [], K => K []
  | n :: r, K => forceN r fun s => K (n :: s)
theorem forceN_eq : ∀ (l : List Nat) (K : List Nat → Prop), forceN l K = K l := by
  intro l
  induction l with
  | nil => intro K; rfl
  | cons n r ih => intro K; simp only [forceN]; rw [ih]
def preOpK (P : Program) (o : AOp) (σ : St) (K : Nat → A → List Nat → Prop) : Prop := match o with
  | .call d f as => match as.all (fun e => !e.2) with
    | true => argsK σ (evalAs σ as) 0 fun vs ls rs => match ls with
      | [] => CallP P f d vs rs fun v => K d (.val v) []
      | _ => False
    | false => False
  | .cally d x as _ => (match evalX σ x with
    | .val (.fclo f cs) => argsK σ (evalAs σ (as.map (·, false))) 0 fun vs ls rs => match ls with
      | [] => CloP P f d cs vs rs fun v => K d (.val v) []
      | _ => False
    | _ => False)
  | .app d m (.t s) y => (match look σ s with
    | .val (.sl o m' xs) => (match o with
      | true => (match Nat.beq m' m with
        | true => yNK σ m s (evalX σ y) fun ys => AppQ d xs ys fun l => K d (.val (.sl true m l)) [s]
        | false => False)
      | false => False)
    | _ => False)
  | .bsl d m ps => (match takenX σ ps with
    | some (Us, ks) => BslQ d m Us fun l => forceN ks fun ks => K d (.val (.sl true m l)) ks
    | none => False)
  | .asg d (.t s) => (match look σ s with
    | .val v => (match v.hasOwn with
      | true => forceA (.val v) fun a => K d a [s]
      | false => forceA (.val v.up) fun a => K d a [])
    | _ => False)
  | o => headK o σ fun d a => K d a []

theorem preOpK_sound {P : Program} {o : AOp} {σ : St} {K : Nat → A → List Nat → Prop} (h : preOpK P o σ K) : preOp P o σ K := by
  unfold preOpK at h
  unfold preOp
  split at h
  · split at h
    case h_2 => exact h.elim
    rename_i hio
    refine ⟨hio, ?_⟩
    obtain ⟨vs, ls, rs, h1, h2⟩ := argsK_spec h
    split at h2
    case h_2 => exact h2.elim
    rw [h1]
    exact h2.h
  · split at h
    case h_2 => exact h.elim
    rename_i hx
    obtain ⟨vs, ls, rs, h1, h2⟩ := argsK_spec h
    split at h2
    case h_2 => exact h2.elim
    simp only [hx, h1]
    exact h2.h
  · split at h
    case h_2 => exact h.elim
    rename_i hL
    split at h
    case h_2 => exact h.elim
    split at h
    case h_2 => exact h.elim
    rename_i hm
    obtain ⟨ys, h1, h2⟩ := yNK_spec h
    simp only [hL, h1]
    obtain ⟨k1, k2, k3⟩ := h2.h
    exact ⟨⟨trivial, Nat.eq_of_beq_eq_true hm, k1, k2⟩, k3⟩
  · split at h
    case h_2 => exact h.elim
    rename_i ht
    obtain ⟨k1, k2⟩ := h.h
    rw [forceN_eq] at k2
    simp only [ht]
    exact ⟨k1, k2⟩
  · split at h
    case h_2 => exact h.elim
    rename_i hL
    split at h
    · rename_i hv
      rw [forceA_eq] at h
      simp only [hL, hv]; exact h
    · rename_i hv
      rw [forceA_eq] at h
      simp only [hL, hv]; exact h
  · rename_i h1 h0 h2 h3 h4
    obtain ⟨d, a, e, hk⟩ := headK_sound h
    split
    · exact absurd rfl (h1 _ _ _)
    · exact absurd rfl (h0 _ _ _ _)
    · exact absurd rfl (h2 _ _ _ _)
    · exact absurd rfl (h3 _ _ _)
    · exact absurd rfl (h4 _ _)
    · rw [e]; exact hk

def hk (hide kl : List Nat) : List Nat := match kl with
  | [] => hide
  | k :: r => hide ++ (k :: r)
theorem hk_eq (hide kl : List Nat) : hk hide kl = hide ++ kl := by
  cases kl with
  | nil => simp [hk]
  | cons k r => rfl
def rootsK (acc : St) (kl : List Nat) : Bool := match kl with
  | [] => true
  | k :: r => rootsOk acc (k :: r)
theorem rootsK_eq {acc : St} {kl : List Nat} (h : rootsK acc kl = true) : rootsOk acc kl = true := by
  cases kl with
  | nil => unfold rootsOk; simp
  | cons k r => exact h
def hideK (kl : List Nat) (acc : St) : St := match kl with
  | [] => acc
  | k :: r => hideS (k :: r) acc
theorem hideK_eq (kl : List Nat) (acc : St) : hideK kl acc = hideS kl acc := by
  cases kl with
  | nil =>
    simp only [hideK]
    induction acc with
    | nil => rfl
    | cons e r ih => obtain ⟨d, a⟩ := e; simp [hideS, ← ih]
  | cons k r => rfl
/-- a call among the heads that something is lent to -/
structure LendP (P : Program) (f d : Nat) (vs : List V) (rs : List Nat) (k : Nat) (p : List Nat) (T : V) (K : V → V → Prop) : Prop where
  h : ∃ v u T', Tri P f vs (fun res outs => res = v ∧ outs[k]? = some u) ∧ (resOk rs v = true ∧ resOk rs u = true ∧ u.node = true ∧ upd p T u = some T') ∧ K v T'
def lendOpK (P : Program) (o : AOp) (s : Nat) (σ : St) (K : Nat → V → Nat × V × Nat → Prop) : Prop := match o with
  | .call d f as => (match givenOf (evalAs σ as) with
    | some _ => False
    | none => argsK σ (evalAs σ as) 0 fun vs ls rs => match ls with
      | [(k, r, p)] => (match Nat.beq r s && !rs.contains r with
        | true => (match look σ r with
          | .val T => LendP P f d vs rs k p T fun v T' => K d v (r, T', p.length + 1)
          | _ => False)
        | false => False)
      | _ => False)
  | _ => False
theorem lendOpK_sound {P : Program} {o : AOp} {s : Nat} {σ : St} {K : Nat → V → Nat × V × Nat → Prop} (h : lendOpK P o s σ K) : lendOp P o s σ K := by
  unfold lendOpK at h
  unfold lendOp
  split at h
  case h_2 => exact h.elim
  split at h
  · exact h.elim
  rename_i hgv
  obtain ⟨vs, ls, rs, h1, h2⟩ := argsK_spec h
  split at h2
  case h_2 => exact h2.elim
  rename_i k r p
  split at h2
  case h_2 => exact h2.elim
  rename_i hb
  simp only [Bool.and_eq_true, Bool.not_eq_true'] at hb
  split at h2
  case h_2 => exact h2.elim
  rename_i T hT
  simp only [hgv, h1, hT]
  exact ⟨⟨Nat.eq_of_beq_eq_true hb.1, hb.2⟩, h2.h⟩
/-- what a head sees of the state below -/
def baseK (ls hide : List Nat) (cs : List (Nat × V × Nat)) (σ : St) : St := match ls with
  | [] => σ
  | l :: q => baseV (l :: q) hide cs σ
theorem hideB_nil (σ : St) : hideB [] σ = σ := by
  induction σ with
  | nil => rfl
  | cons e r ih =>
    obtain ⟨k, a⟩ := e
    simp [hideB, ih]
theorem baseK_eq {ls hide : List Nat} {cs : List (Nat × V × Nat)} {σ : St} (hc : ∀ c ∈ cs, ls.contains c.1 = true) : baseK ls hide cs σ = baseV ls hide cs σ := by
  cases ls with
  | nil =>
    have : cs = [] := by
      cases cs with
      | nil => rfl
      | cons c q => have := hc c (by simp); simp at this
    subst this
    simp only [baseK, baseV, List.filter_nil, turnC]
    have : (List.filter (fun x => ([] : List Nat).contains x) hide) = [] := by simp
    rw [this, hideB_nil]
  | cons l q => rfl
abbrev PreK := St → List Nat → List (Nat × V × Nat) → (St → Prop) → Prop
/-- an operation has been done: its head is set down -/
def preNext (σ0 acc : St) (o : AOp) (hide kl : List Nat) (cs : List (Nat × V × Nat)) (K : St → Prop) (ih : PreK) (acc1 : St) (d : Nat) (a : A) (ks : List Nat) : Prop := match fresh d acc σ0 with
  | true => (match ks with
    | [] => forceS (acc1 ++ [(d, a.mapR (killG d 0))]) fun acc' => ih acc' kl cs K
    | k :: q => (match killOk (k :: q) o (hideS (hk hide kl) acc) with
      | true => forceS (acc1 ++ [(d, a.mapR (killG d 0))]) fun acc' => forceN (kl ++ (k :: q)) fun kl' => ih acc' kl' cs K
      | false => False))
  | false => False
/-- an operation that is left out -/
def preSkip (σ0 acc : St) (o : AOp) (kl : List Nat) (cs : List (Nat × V × Nat)) (K : St → Prop) (ih : PreK) (acc1 : St) : Prop := match o.dst with
  | some d => (match fresh d acc σ0 with
    | true => forceS (acc1 ++ [(d, .val (.tup []))]) fun acc' => ih acc' kl cs K
    | false => False)
  | none => False
def preRun (P : Program) (ls : List Nat) (σ0 acc : St) (o : AOp) (hide kl : List Nat) (cs : List (Nat × V × Nat)) (K : St → Prop) (ih : PreK) (acc1 : St) : Prop :=
  forceS (hideS (hk hide kl) acc1 ++ baseK ls hide cs σ0) fun σh => preOpK P o σh (preNext σ0 acc o hide kl cs K ih acc1)
def preLend (P : Program) (ls : List Nat) (σ0 acc : St) (o : AOp) (s : Nat) (hide kl : List Nat) (cs : List (Nat × V × Nat)) (K : St → Prop) (ih : PreK) : Prop :=
  forceS (hideS (hk hide kl) acc ++ baseK ls hide.tail cs σ0) fun σh => lendOpK P o s σh fun d v c => match fresh d acc σ0 && ls.contains s && isValA (look σ0 s) && Nat.beq c.1 s with
    | true => forceS (acc ++ [(d, .val v)]) fun acc' => ih acc' kl (cs ++ [c]) K
    | false => False
def preStep (P : Program) (ls : List Nat) (σ0 : St) (x : G × List Nat) (ih : PreK) (acc : St) (kl : List Nat) (cs : List (Nat × V × Nat)) (K : St → Prop) : Prop := match x with
  | (⟨none, o⟩, hide) => (match lentOf o hide with
    | [] => preRun P ls σ0 acc o hide kl cs K ih acc
    | s :: _ => preLend P ls σ0 acc o s hide kl cs K ih)
  | (⟨some (s, true), o⟩, hide) => (match (hk hide kl).contains s || !(lentOf o hide).isEmpty with
    | true => False
    | false => (match look (hideS (hk hide kl) acc ++ baseK ls hide cs σ0) s with
      | .val (.bool b) => Br b (preRun P ls σ0 acc o hide kl cs K ih (setLit s true acc)) (preSkip σ0 acc o kl cs K ih (setLit s false acc))
      | .val (.tup []) => preSkip σ0 acc o kl cs K ih acc
      | _ => False))
  | (⟨some (s, false), o⟩, hide) => (match (hk hide kl).contains s || !(lentOf o hide).isEmpty with
    | true => False
    | false => (match look (hideS (hk hide kl) acc ++ baseK ls hide cs σ0) s with
      | .val (.bool b) => Br b (preSkip σ0 acc o kl cs K ih (setLit s true acc)) (preRun P ls σ0 acc o hide kl cs K ih (setLit s false acc))
      | .val (.tup []) => preSkip σ0 acc o kl cs K ih acc
      | _ => False))
def preEnd (σ0 acc : St) (kl : List Nat) (cs : List (Nat × V × Nat)) (K : St → Prop) : Prop := match rootsK acc kl with
  | true => (match cs with
    | [] => forceS (hideK kl acc ++ σ0) K
    | c :: q => (match fixOk acc (c :: q) with
      | true => forceS (hideK kl acc ++ turnC (c :: q) σ0) K
      | false => False))
  | false => False
def vcPre (P : Program) (ls : List Nat) (σ0 : St) (l : List (G × List Nat)) : PreK :=
  List.rec (motive := fun _ => PreK) (preEnd σ0) (fun x _ ih => preStep P ls σ0 x ih) l

/-- where the slot lies in the list, what is set there is what stood there -/
theorem setLit_acc {hide : List Nat} {acc σ0 : St} {s : Nat} {b : Bool} (h : look (hideS hide acc ++ σ0) s = .val (.bool b)) (hh : hide.contains s = false) : setLit s b acc = acc := by
  rw [look_append] at h
  split at h
  · rw [hideS_look _ _ _ hh] at h
    exact setLit_eq h
  · rename_i hk
    rw [hideS_key] at hk
    have hk' : hasKey s acc = false := by
      rw [hh] at hk; simpa using hk
    clear h hk
    induction acc with
    | nil => rfl
    | cons e r ih =>
      obtain ⟨k, a⟩ := e
      simp only [hasKey, Bool.or_eq_false_iff, beq_eq_false_iff_ne] at hk'
      simp only [setLit]
      rw [show Nat.beq k s = false by
        cases hb : Nat.beq k s with
        | false => rfl
        | true => exact absurd (Nat.eq_of_beq_eq_true hb) hk'.1]
      simp only [ih hk'.2]

theorem preOp_cont {P : Program} {o : AOp} {σ : St} {c c' : Nat → A → List Nat → Prop} (h : ∀ d a ks, c d a ks → c' d a ks) (ha : preOp P o σ c) : preOp P o σ c' := preOp_mono h ha

theorem vcPre_sound {P : Program} {ls : List Nat} {σ0 : St} : ∀ {l : List (G × List Nat)} {acc : St} {kl : List Nat} {cs : List (Nat × V × Nat)} {KS : List (List Nat)} {CS : List (List (Nat × V × Nat))} {K : St → Prop}, KS.flatten = kl → CS.flatten = cs → (∀ c ∈ cs, ls.contains c.1 = true) → vcPre P ls σ0 l acc kl cs K → awpPre P ls σ0 l acc KS CS K := by
  intro l
  induction l with
  | nil =>
    intro acc kl cs KS CS K hkl hcs hin h
    subst hkl
    change preEnd σ0 acc KS.flatten cs K at h
    simp only [preEnd] at h
    split at h
    · rename_i hr
      split at h
      · rw [forceS_eq, hideK_eq] at h
        refine ⟨⟨rootsK_eq hr, ?_⟩, ?_⟩
        · rw [hcs]; unfold fixOk; simp
        · rw [hcs]; exact h
      · split at h
        · rename_i hr2
          rw [forceS_eq, hideK_eq] at h
          rw [← hcs] at h hr2
          exact ⟨⟨rootsK_eq hr, hr2⟩, h⟩
        · exact h.elim
    · exact h.elim
  | cons x r ih =>
    intro acc kl cs KS CS K hkl hcs hin h
    subst hkl
    obtain ⟨⟨g, o⟩, hide⟩ := x
    change preStep P ls σ0 (⟨g, o⟩, hide) (vcPre P ls σ0 r) acc KS.flatten cs K at h
    have hbk : ∀ hide, baseK ls hide cs σ0 = baseV ls hide CS.flatten σ0 := fun hide => by rw [baseK_eq hin, hcs]
    have run : preRun P ls σ0 acc o hide KS.flatten cs K (vcPre P ls σ0 r) acc → preOp P o (hideS (hide ++ KS.flatten) acc ++ baseV ls hide CS.flatten σ0) fun d a ks => (fresh d acc σ0 = true ∧ killOk ks o (hideS (hide ++ KS.flatten) acc) = true) ∧ awpPre P ls σ0 r (acc ++ [(d, a.mapR (killG d 0))]) (KS ++ [ks]) (CS ++ [[]]) K := by
      intro h
      unfold preRun at h
      rw [forceS_eq, hk_eq, hbk] at h
      refine preOp_cont ?_ (preOpK_sound h)
      intro d a ks hk
      unfold preNext at hk
      rw [hk_eq] at hk
      split at hk
      · rename_i hf
        split at hk
        · rw [forceS_eq] at hk
          exact ⟨⟨hf, rfl⟩, ih (by simp) (by simp [hcs]) hin hk⟩
        · split at hk
          · rename_i hkk
            rw [forceS_eq, forceN_eq] at hk
            exact ⟨⟨hf, hkk⟩, ih (by simp) (by simp [hcs]) hin hk⟩
          · exact hk.elim
      · exact hk.elim
    have skip : preSkip σ0 acc o KS.flatten cs K (vcPre P ls σ0 r) acc → (match o.dst with
          | some d => fresh d acc σ0 = true ∧ awpPre P ls σ0 r (acc ++ [(d, .val (.tup []))]) (KS ++ [[]]) (CS ++ [[]]) K
          | none => False) := by
      intro h
      unfold preSkip at h
      cases hd : o.dst with
      | none => rw [hd] at h; exact h.elim
      | some d =>
        rw [hd] at h
        cases hf : fresh d acc σ0 with
        | false => simp only [hf] at h
        | true =>
          simp only [hf] at h
          rw [forceS_eq] at h
          exact ⟨hf, ih (by simp) (by simp [hcs]) hin h⟩
    match g, h with
    | none, h =>
      simp only [preStep] at h
      simp only [awpPre]
      cases hlo : lentOf o hide with
      | nil => rw [hlo] at h; exact run h
      | cons s q =>
        rw [hlo] at h
        simp only at h ⊢
        unfold preLend at h
        rw [forceS_eq, hk_eq, hbk] at h
        refine lendOp_mono ?_ (lendOpK_sound h)
        intro d v c hc
        split at hc
        case h_2 => exact hc.elim
        rename_i hcond
        simp only [Bool.and_eq_true] at hcond
        rw [forceS_eq] at hc
        refine ⟨⟨hcond.1.1.1, hcond.1.1.2, hcond.1.2⟩, ih (by simp) (by simp [hcs]) ?_ hc⟩
        intro c' hc'
        rcases List.mem_append.1 hc' with h1 | h1
        · exact hin c' h1
        · simp at h1
          subst h1
          rw [Nat.eq_of_beq_eq_true hcond.2]; exact hcond.1.1.2
    | some (s, true), h =>
      simp only [preStep, hk_eq, hbk] at h
      simp only [awpPre]
      split at h
      · exact h.elim
      rename_i hh
      simp only [Bool.or_eq_false_iff, Bool.not_eq_false', List.isEmpty_iff] at hh
      refine ⟨hh.2, ?_⟩
      replace hh := hh.1
      split at h
      · rename_i b hb
        simp only [hb]
        refine ⟨fun e => ?_, fun e => ?_⟩
        · subst e
          have := h.t rfl
          rw [setLit_acc hb hh] at this
          exact run this
        · have e' : b = false := by simpa using e
          subst e'
          have := h.f rfl
          rw [setLit_acc hb hh] at this
          exact skip this
      · rename_i hb
        simp only [hb]
        exact skip h
      · exact h.elim
    | some (s, false), h =>
      simp only [preStep, hk_eq, hbk] at h
      simp only [awpPre]
      split at h
      · exact h.elim
      rename_i hh
      simp only [Bool.or_eq_false_iff, Bool.not_eq_false', List.isEmpty_iff] at hh
      refine ⟨hh.2, ?_⟩
      replace hh := hh.1
      split at h
      · rename_i b hb
        simp only [hb]
        refine ⟨fun e => ?_, fun e => ?_⟩
        · subst e
          have := h.f rfl
          rw [setLit_acc hb hh] at this
          exact run this
        · have e' : b = true := by simpa using e
          subst e'
          have := h.t rfl
          rw [setLit_acc hb hh] at this
          exact skip this
      · rename_i hb
        simp only [hb]
        exact skip h
      · exact h.elim

/-- two of a kind -/
structure SameQ (x y : A) (K : Prop) : Prop where
  h : x = y ∧ K
def vcLooks (A : List (Nat × AOp)) (K : St → Prop) : St → Prop :=
  List.rec (motive := fun _ => St → Prop) K (fun e _ ih σ => headK e.2 σ fun d a => match calmA a with
    | true => forceS (puts d a σ) ih
    | false => False) A
def lateK (xs : List Nat) (σ : St) (K : Prop) (A : List (Nat × AOp)) : Prop :=
  List.rec (motive := fun _ => Prop) K (fun e _ ih => match xs.contains e.1 with
    | true => headK e.2 σ fun d a => match seenA a d σ with
      | true => SameQ (look σ d) a ih
      | false => False
    | false => ih) A
/-- an operation behind which some slots are forgotten -/
def lateOpK (P : Program) (o : AOp) (ds : List Nat) (σ : St) (K : St → Prop) : Prop := match ds with
  | [] => opFK P o σ K
  | s :: q => (match o with
    | .app d m x y => yK σ m (evalX σ y) fun ys σ1 => takeXK σ1 (evalX σ1 x) fun v σ2 => match v with
      | .sl o m' xs => (match o with
        | true => (match Nat.beq m' m with
          | true => AppQ d xs ys fun l => forceS (dropS (s :: q) (puts d (.val (.sl true m l)) σ2)) K
          | false => False)
        | false => False)
      | _ => False
    | .slt d m x hi => (match numA (evalX σ hi) with
      | some h => takeXK σ (evalX σ x) fun v σ2 => match v with
        | .sl o m' xs => (match o with
          | true => (match Nat.beq m' m with
            | true => SlcQ xs 0 h fun ys => forceS (dropS (s :: q) (puts d (.val (.sl true m ys)) σ2)) K
            | false => False)
          | false => False)
        | _ => False
      | none => False)
    | _ => False)
theorem dropS_nil (σ : St) : dropS [] σ = σ := by
  have key : ∀ a : A, a.mapR (dropG []) = a := by
    intro a
    have e : dropG [] = fun r _ => some r := by funext r p; simp [dropG]
    rw [e]; exact mapR_id a
  induction σ with
  | nil => rfl
  | cons e r ih => obtain ⟨k, a⟩ := e; simp [dropS, ih, key]
theorem lateOpK_sound {P : Program} {o : AOp} {ds : List Nat} {σ : St} {K : St → Prop} (h : lateOpK P o ds σ K) : awpOpF P o (fun σ' => K (dropS ds σ')) σ := by
  unfold lateOpK at h
  split at h
  · refine awpOp_mono (fun σ' hk => ?_) (opFK_sound h)
    rw [dropS_nil]; exact hk
  · split at h
    case h_3 => exact h.elim
    · obtain ⟨ys, σ1, hy, hk⟩ := yK_spec h
      obtain ⟨v, σ2, hX, hk⟩ := takeXK_spec hk
      split at hk
      case h_2 => exact hk.elim
      split at hk
      case h_2 => exact hk.elim
      split at hk
      case h_2 => exact hk.elim
      rename_i hm
      have hm' := Nat.eq_of_beq_eq_true hm
      obtain ⟨h1, h2, h3⟩ := hk.h
      rw [forceS_eq] at h3
      simp only [awpOpF, preFzC, awpOp, preFz, stepA, appS, hy, hX, hm', h1, h2]
      simpa using h3
    · split at h
      case h_2 => exact h.elim
      rename_i hh hn
      obtain ⟨v, σ2, hX, hk⟩ := takeXK_spec h
      split at hk
      case h_2 => exact hk.elim
      split at hk
      case h_2 => exact hk.elim
      split at hk
      case h_2 => exact hk.elim
      rename_i hm
      have hm' := Nat.eq_of_beq_eq_true hm
      obtain ⟨_, h1, h2, h3⟩ := hk.h
      rw [forceS_eq] at h3
      simp only [awpOpF, preFzC, awpOp, preFz, stepA, sltS, hn, hX, hm', h1, h2, and_self, if_true]
      simpa using h3
/-- two ways, both of which are taken -/
structure Two (X Y : Prop) : Prop where
  h : X ∧ Y
def vcLate (P : Program) (A : List (Nat × AOp)) (K : St → Prop) (pl : LPlan) : Bool → St → Prop :=
  LPlan.rec (motive := fun _ => Bool → St → Prop) (fun b σ => match b with
    | true => K σ
    | false => True) (fun _ x xs ds _ ot ihn iho _ σ => match ot with
      | .nil => lateK xs σ (lateOpK P x ds σ (ihn true)) A
      | .alt .. => Two (lateK xs σ (lateOpK P x ds σ (ihn true)) A) (iho false σ)) pl
theorem vcLooks_sound : ∀ {A : List (Nat × AOp)} {K : St → Prop} {σ}, vcLooks A K σ → awpLooks A K σ := by
  intro A
  induction A with
  | nil => intro K σ h; exact h
  | cons e r ih =>
    intro K σ h
    obtain ⟨i, x⟩ := e
    have h' : headK x σ fun d a => match calmA a with
      | true => forceS (puts d a σ) (vcLooks r K)
      | false => False := h
    obtain ⟨d, a, h1, h2⟩ := headK_sound h'
    simp only [awpLooks, h1]
    split at h2
    · rename_i hu
      rw [forceS_eq] at h2
      exact ⟨hu, ih h2⟩
    · exact h2.elim
theorem lateK_sound {xs : List Nat} {σ : St} {K : Prop} : ∀ {A : List (Nat × AOp)}, lateK xs σ K A → lateOk A xs σ ∧ K := by
  intro A
  induction A with
  | nil => intro h; exact ⟨(fun e he => by cases he), h⟩
  | cons e r ih =>
    intro h
    change (match xs.contains e.1 with
      | true => headK e.2 σ fun d a => match seenA a d σ with
        | true => SameQ (look σ d) a (lateK xs σ K r)
        | false => False
      | false => lateK xs σ K r) at h
    split at h
    · obtain ⟨d, a, h1, h2⟩ := headK_sound h
      split at h2
      · rename_i hu
        obtain ⟨h3, h4⟩ := h2.h
        obtain ⟨h5, h6⟩ := ih h4
        refine ⟨fun f hf hx => ?_, h6⟩
        rcases List.mem_cons.1 hf with rfl | hf
        · exact ⟨d, a, h1, h3, hu⟩
        · exact h5 f hf hx
      · exact h2.elim
    · rename_i hx
      obtain ⟨h5, h6⟩ := ih h
      refine ⟨fun f hf hx2 => ?_, h6⟩
      rcases List.mem_cons.1 hf with rfl | hf
      · rw [hx] at hx2; cases hx2
      · exact h5 f hf hx2
theorem vcLate_sound {P : Program} {A : List (Nat × AOp)} {K : St → Prop} : ∀ {pl : LPlan} {b : Bool} {σ}, vcLate P A K pl b σ → awpLate P A K pl b σ := by
  intro pl
  induction pl with
  | nil => intro b σ h hb; subst hb; exact h
  | alt i x xs ds nx ot ih1 ih2 =>
    intro b σ h
    cases ot with
    | nil =>
      change lateK xs σ (lateOpK P x ds σ (vcLate P A K nx true)) A at h
      obtain ⟨h1, h2⟩ := lateK_sound h
      exact ⟨⟨h1, awpOp_mono (fun _ => ih1) (lateOpK_sound h2)⟩, fun hb => by cases hb⟩
    | alt j y ys es ny oy =>
      change Two (lateK xs σ (lateOpK P x ds σ (vcLate P A K nx true)) A) (vcLate P A K (.alt j y ys es ny oy) false σ) at h
      obtain ⟨h1, h2⟩ := lateK_sound h.h.1
      exact ⟨⟨h1, awpOp_mono (fun _ => ih1) (lateOpK_sound h2)⟩, ih2 h.h.2⟩

/-- a function value is the one that is known -/
structure TokE (u : V) (tv : Value) (K : V → Prop) : Prop where
  h : ∃ f cs, u = .clov tv f cs ∧ K u
def frzK : List Nat → (St → Prop) → St → Prop
  | [], K, σ => K σ
  | e :: r, K, σ => match look σ (e % 100000) with
    | .val (.raw tv) => (match look σ ((e / 100000 - 1000) / 100) with
      | .val T => walkK [e / 100000 % 100] T fun u => TokE u tv fun u => changeK [e / 100000 % 100] T .dead fun T' => forceS (puts (e % 100000) (.val u) (puts (e % 100000) .top (turnP ((e / 100000 - 1000) / 100) T' [e / 100000 % 100] σ))) (frzK r K)
      | _ => frzK r K σ)
    | .val T => FrzQ T (e / 100000) fun T' => forceS (puts (e % 100000) (.val T') (puts (e % 100000) .top σ)) (frzK r K)
    | .ref q [] => (match look σ q with
      | .val T => (match Nat.blt q 100000 with
        | true => FrzQ T 0 fun T' => forceS (puts (e % 100000) (.val T') (puts (e % 100000) .top (puts q (.val T') (puts q .top σ)))) (frzK r K)
        | false => frzK r K σ)
      | _ => frzK r K σ)
    | .ref q (c :: p) => (match Nat.beq (e / 100000) 900 with
      | true => (match look σ q with
        | .val T => walkK (c :: p) T fun u => changeK (c :: p) T .dead fun T' => forceS (unP (e % 100000) q (c :: p) u T' σ) (frzK r K)
        | _ => frzK r K σ)
      | false => frzK r K σ)
    | _ => frzK r K σ
theorem frzK_sound : ∀ {ss : List Nat} {K : St → Prop} {σ : St}, frzK ss K σ → K (frzS ss σ) := by
  intro ss
  induction ss with
  | nil => intro K σ h; exact h
  | cons e r ih =>
    intro K σ h
    simp only [frzK] at h
    simp only [frzS]
    split at h
    · rename_i tv hT
      split at h
      · rename_i T hq
        obtain ⟨u, hu, h1⟩ := walkK_spec h
        obtain ⟨f, cs, rfl, h2⟩ := h1.h
        obtain ⟨T', hT', h3⟩ := changeK_spec h2
        rw [forceS_eq] at h3
        have e2 : frz2 e σ = puts (e % 100000) (.val (.clov tv f cs)) (puts (e % 100000) .top (turnP ((e / 100000 - 1000) / 100) T' [e / 100000 % 100] σ)) := by
          simp only [frz2, hT, tokS, hq, hu]
          split
          · simp only [hT']
          · rename_i hne _; exact absurd rfl hne
        rw [e2]
        exact ih h3
      · rename_i hne
        have e2 : frz2 e σ = σ := by
          simp only [frz2, hT, tokS]
        rw [e2]
        exact ih h
    · rename_i T hraw hT
      obtain ⟨T', h1, h2⟩ := h.h
      subst h1
      rw [forceS_eq] at h2
      have e2 : frz2 e σ = frz1 e σ := by
        unfold frz2
        split
        · rename_i tv hT2; rw [hT] at hT2; cases hT2; exact (hraw tv rfl).elim
        · rename_i hT2; rw [hT] at hT2; cases hT2
        · rename_i hT2; rw [hT] at hT2; cases hT2
        · rfl
      rw [e2]
      simp only [frz1, hT]
      exact ih h2
    · rename_i q hT
      split at h
      · rename_i T hq
        split at h
        · rename_i hb
          obtain ⟨T', h1, h2⟩ := h.h
          rw [fzAt_zero] at h1
          subst h1
          rw [forceS_eq] at h2
          simp only [frz2, hT, hq, hb]
          exact ih h2
        · rename_i hb
          simp only [frz2, hT, hq, hb]
          exact ih h
      · rename_i hne
        have e2 : frz2 e σ = σ := by
          simp only [frz2, hT]
        rw [e2]
        exact ih h
    · rename_i q c p hT
      split at h
      · rename_i h9
        split at h
        · rename_i T hq
          obtain ⟨u, hu, h1⟩ := walkK_spec h
          obtain ⟨T', hT', h2⟩ := changeK_spec h1
          rw [forceS_eq] at h2
          have e2 : frz2 e σ = unP (e % 100000) q (c :: p) u T' σ := by
            simp only [frz2, hT, h9, untS, hq, hu, hT']
          rw [e2]
          exact ih h2
        · rename_i hne
          have e2 : frz2 e σ = σ := by
            simp only [frz2, hT, h9, untS]
          rw [e2]
          exact ih h
      · rename_i h9
        have e2 : frz2 e σ = σ := by
          simp only [frz2, hT, h9]
        rw [e2]
        exact ih h
    · rename_i hne hne2 hne3
      have e2 : frz2 e σ = σ := by
        unfold frz2
        split
        · rename_i tv hV; exact absurd hV (hne _)
        · rename_i q c p hq; exact absurd hq (hne3 q c p)
        · rename_i q hq; exact absurd hq (hne2 q)
        · unfold frz1
          split
          · rename_i V hV; exact absurd hV (hne V)
          · rfl
      rw [e2]
      exact ih h

/-- a loop -/
structure LoopQ (P : Program) (c : ACode) (Q : Ex → St → Prop) (σ : St) : Prop where
  h : awp P (.loop c) Q σ

/-- a piece -/
structure CutQ (P : Program) (c : ACode) (Q : Ex → St → Prop) (σ : St) : Prop where
  h : awp P (.cut c) Q σ

def vc (P : Program) : ACode → (Ex → St → Prop) → St → Prop
  | .skip, Q, σ => Q .normal σ
  | .reg gs, Q, σ => vcOps P gs (Q .normal) σ
  | .dreg pre post, Q, σ => vcPre P (lentsOf pre) σ pre [] [] [] (vcOps P post (Q .normal))
  | .dregp n0 ds pre post, Q, σ => vcOps P ((pre.take n0).map (·.1)) (fun σ1 => match dumsFree n0 (dropS ds σ1) with
    | true => forceS (dropS ds σ1) fun σ2 => forceS (dums n0) fun acc => vcPre P (lentsOf pre) σ2 (pre.drop n0) acc [] [] (vcOps P post (Q .normal))
    | false => False) σ
  | .seq a b, Q, σ => vc P a (thenQ (vc P b Q) Q) σ
  | .cond x t e, Q, σ => match evalX σ x with
    | .val (.bool b) => Br b (forceS (setX x true σ) (vc P t Q)) (forceS (setX x false σ) (vc P e Q))
    | _ => False
  | .block i c, Q, σ => vc P c (blockQ i Q) σ
  | .loop c, Q, σ => LoopQ P c Q σ
  | .exit i, Q, σ => Q (.exit i) σ
  | .ret, Q, σ => Q .ret σ
  | .drop ds c, Q, σ => forceS (dropS ds σ) (vc P c Q)
  | .cut c, Q, σ => CutQ P c Q σ
  | .dregl A pl, Q, σ => vcLooks A (vcLate P A (Q .normal) pl true) σ
  | .frz ss c, Q, σ => frzK ss (vc P c Q) σ

theorem setX_eq {x : X} {b : Bool} {σ : St} (h : evalX σ x = .val (.bool b)) : setX x b σ = σ := by
  cases x with
  | c v => rfl
  | t s =>
    refine setLit_eq ?_
    simp only [evalX] at h
    split at h
    · rename_i v hv
      split at h
      · cases h
      · rw [hv]; exact h
    · exact h

theorem vc_sound {P : Program} : ∀ {c : ACode} {Q : Ex → St → Prop} {σ : St}, vc P c Q σ → awp P c Q σ := by
  intro c
  induction c with
  | skip => intro Q σ h; exact h
  | reg gs => intro Q σ h; exact vcOps_sound h
  | dreg pre post => intro Q σ h; exact awpPre_mono (fun _ => vcOps_sound) (vcPre_sound rfl rfl (by simp) h)
  | dregp n0 ds pre post =>
    intro Q σ h
    refine awpOps_mono (fun σ1 h1 => ?_) (vcOps_sound h)
    split at h1
    · rename_i hd
      rw [forceS_eq, forceS_eq] at h1
      refine ⟨hd, awpPre_mono (fun _ => vcOps_sound) (vcPre_sound (by simp) (by simp) (by simp) h1)⟩
    · exact h1.elim
  | seq a b ih1 ih2 =>
    intro Q σ h
    have h' : vc P a (thenQ (vc P b Q) Q) σ := h
    show awp P a (thenQ (awp P b Q) Q) σ
    exact awp_mono (Q := thenQ (vc P b Q) Q) (thenQ_mono (fun _ hh => ih2 hh) fun _ _ => id) (ih1 h')
  | cond x t e ih1 ih2 =>
    intro Q σ h
    simp only [vc] at h
    simp only [awp]
    split at h
    · rename_i b hb
      simp only [hb]
      refine ⟨fun e => ?_, fun e => ?_⟩
      · subst e
        have := h.t rfl
        rw [forceS_eq, setX_eq hb] at this
        exact ih1 this
      · subst e
        have := h.f rfl
        rw [forceS_eq, setX_eq hb] at this
        exact ih2 this
    · exact h.elim
  | block i c ih => intro Q σ h; exact ih h
  | loop c ih => intro Q σ h; exact h.h
  | exit i => intro Q σ h; exact h
  | ret => intro Q σ h; exact h
  | drop ds c ih => intro Q σ h; simp only [vc] at h; rw [forceS_eq] at h; exact ih h
  | cut c ih => intro Q σ h; exact h.h
  | frz ss c ih => intro Q σ h; simp only [vc] at h; exact ih (frzK_sound h)
  | dregl A R => intro Q σ h; exact awpLooks_mono (fun _ => vcLate_sound) (vcLooks_sound h)

theorem tri_vc {P : Program} {f N : Nat} {ac : ACode} {rs : List RS} {args : List V} {R : V → List V → Prop} (hf : fitsF P f N ac rs = true) (hn : args.length ≤ N)
    (h : vc P ac (retQ N rs args R) (entry N 0 args)) : Tri P f args R := tri_body hf hn (vc_sound h)

theorem tri_vcT {P : Program} {f N m j : Nat} {ac : ACode} {rs : List RS} {args : List V} {R : V → List V → Prop} (hf : fitsF P f N ac rs = true) (hn : args.length ≤ N) (hj : m + j < args.length)
    (h : vc P ac (retQ N rs args R) (entryT N m j f args)) : TriT P f m j args R := tri_bodyT hf hn hj (vc_sound h)

def roundQ {α : Type} (ks : List Nat) (st : α → St) (inv : α → Prop) (μ : α → Nat) (a : α) (σ : St) : Prop := ∃ b, restrict ks σ = st b ∧ inv b ∧ μ b < μ a

/-- a loop, its state and its measure by a parameter -/
theorem LoopQ.by {α : Type} {P : Program} {c : ACode} {Q : Ex → St → Prop} {σ : St} (ks : List Nat) (st : α → St) (inv : α → Prop) (μ : α → Nat) (a0 : α) (h0 : restrict ks σ = st a0) (hi : inv a0)
    (hr : ∀ a, inv a → vc P c (thenQ (roundQ ks st inv μ a) Q) (st a)) : LoopQ P c Q σ := by
  refine ⟨awp_loop ks (fun n σ => ∃ a, σ = st a ∧ inv a ∧ n = μ a) (μ a0) ⟨a0, h0, hi, rfl⟩ ?_⟩
  rintro n σ ⟨a, rfl, ha, rfl⟩
  refine awp_mono (thenQ_mono ?_ fun _ _ => .inl) (vc_sound (hr a ha))
  rintro σ' ⟨b, h1, h2, h3⟩
  exact ⟨μ b, h3, b, h1, h2, rfl⟩

/-- a function answers with one value -/
def Ret (P : Program) (f : Nat) (vs : List V) (v : V) : Prop := Tri P f vs (fun r _ => r = v)

theorem ret_vc {P : Program} {f N : Nat} {ac : ACode} {rs : List RS} {args : List V} {v : V} (hf : fitsF P f N ac rs = true) (hn : args.length ≤ N)
    (h : vc P ac (retQ N rs args fun r _ => r = v) (entry N 0 args)) : Ret P f args v := tri_vc hf hn h

abbrev vint (n : Int) : V := .int .i64 n

end Go.Proofs.YtbnoclklhcbidaaDoor.Ax

namespace Go.Proofs.YtbnoclklhcbidaaDoor.Ax
open Go

/-- a value if something holds -/
noncomputable def ask {α : Type} (p : Prop) (x : Option α) : Option α := @ite _ p (Classical.propDecidable p) x none
/-- an element -/
def nth {α : Type} [Inhabited α] (xs : List α) (i : Nat) : α := xs.getD i default

theorem ask_some {α : Type} {p : Prop} {x : Option α} {v : α} : ask p x = some v ↔ p ∧ x = some v := by
  unfold ask; split <;> simp_all
theorem ask_pos {α : Type} {p : Prop} {x : Option α} (h : p) : ask p x = x := by unfold ask; rw [if_pos h]

/-- rounds -/
def iter {σ τ : Type} (body : σ → Option (σ ⊕ τ)) : Nat → σ → Option τ
  | 0, _ => none
  | n + 1, s => match body s with
    | none => none
    | some (.inl s') => iter body n s'
    | some (.inr t) => some t
theorem iter_up {σ τ : Type} {body : σ → Option (σ ⊕ τ)} : ∀ {n m : Nat} {s : σ} {t : τ}, n ≤ m → iter body n s = some t → iter body m s = some t := by
  intro n
  induction n with
  | zero => intro m s t _ h; cases h
  | succ n ih =>
    intro m s t hm h
    match m, hm with
    | m + 1, hm =>
      simp only [iter] at h ⊢
      split at h
      · cases h
      · exact ih (by omega) h
      · exact h
open Classical in
/-- a loop's end, if it has one -/
noncomputable def loopO {σ τ : Type} (body : σ → Option (σ ⊕ τ)) (s : σ) : Option τ := if h : ∃ t n, iter body n s = some t then some (Classical.choose h) else none
theorem loopO_some {σ τ : Type} {body : σ → Option (σ ⊕ τ)} {s : σ} {t : τ} : loopO body s = some t ↔ ∃ n, iter body n s = some t := by
  unfold loopO
  constructor
  · intro h
    split at h
    · rename_i hx
      cases h
      exact Classical.choose_spec hx
    · cases h
  · rintro ⟨n, hn⟩
    rw [dif_pos ⟨t, n, hn⟩]
    obtain ⟨m, hm⟩ := Classical.choose_spec (⟨t, n, hn⟩ : ∃ t n, iter body n s = some t)
    have h1 := iter_up (Nat.le_max_left n m) hn
    have h2 := iter_up (Nat.le_max_right n m) hm
    rw [h1] at h2
    exact h2.symm
theorem loopO_eq {σ τ : Type} (body : σ → Option (σ ⊕ τ)) (s : σ) : loopO body s = (match body s with
    | none => none
    | some (.inl s') => loopO body s'
    | some (.inr t) => some t) := by
  apply Option.ext
  intro t
  rw [loopO_some]
  constructor
  · rintro ⟨n, hn⟩
    cases n with
    | zero => cases hn
    | succ n =>
      simp only [iter] at hn
      split at hn
      · cases hn
      · exact loopO_some.2 ⟨n, hn⟩
      · exact hn
  · intro h
    split at h
    · cases h
    · rename_i s' e
      obtain ⟨n, hn⟩ := loopO_some.1 h
      exact ⟨n + 1, by simp only [iter, e]; exact hn⟩
    · rename_i t' e
      exact ⟨1, by simp only [iter, e]; exact h⟩
/-- a function that calls itself, by a bound on the depth -/
def upO {α : Type} (f : Nat → Option α) : Prop := ∀ n m v, n ≤ m → f n = some v → f m = some v
open Classical in
noncomputable def limO {α : Type} (f : Nat → Option α) : Option α := if h : ∃ v n, f n = some v then some (Classical.choose h) else none
theorem limO_some {α : Type} {f : Nat → Option α} {v : α} (h : limO f = some v) : ∃ n, f n = some v := by
  unfold limO at h
  split at h
  · rename_i hx
    cases h
    exact Classical.choose_spec hx
  · cases h
theorem limO_of {α : Type} {f : Nat → Option α} (hu : upO f) {v : α} {n : Nat} (h : f n = some v) : limO f = some v := by
  unfold limO
  rw [dif_pos ⟨v, n, h⟩]
  obtain ⟨m, hm⟩ := Classical.choose_spec (⟨v, n, h⟩ : ∃ v n, f n = some v)
  have h1 := hu _ _ _ (Nat.le_max_left n m) h
  have h2 := hu _ _ _ (Nat.le_max_right n m) hm
  rw [h1] at h2
  exact h2.symm

abbrev nilL (α : Type) : List α := []
/-- slices of data of one kind -/
abbrev slr {α : Type} (o : Bool) (m : Nat) (f : α → V) (xs : List α) : V := .sl o m (xs.map f)

/-- as it is handed on for reading -/
class Fz {α : Type} (f : α → V) (g : outParam (α → V)) : Prop where
  eq : ∀ x, (f x).fz = g x
instance {k : IntKind} : Fz (V.int k) (V.int k) := ⟨fun _ => rfl⟩
instance : Fz vint vint := ⟨fun _ => rfl⟩
instance : Fz V.bool V.bool := ⟨fun _ => rfl⟩
instance : Fz V.str V.str := ⟨fun _ => rfl⟩
theorem fzL_map {α : Type} (f : α → V) {g : α → V} [Fz f g] (xs : List α) : fzL (xs.map f) = xs.map g := by
  induction xs with
  | nil => rfl
  | cons x r ih => simp [fzL, Fz.eq, ih]
instance {α : Type} (m : Nat) (f g : α → V) [Fz f g] : Fz (slr true m f) (slr false m g) := ⟨fun x => by simp [slr, V.fz, fzL_map]⟩
instance {α : Type} (m : Nat) (f : α → V) : Fz (slr false m f) (slr false m f) := ⟨fun x => by simp [slr, V.fz]⟩
theorem fz_slr {α : Type} (m : Nat) (f : α → V) {g : α → V} [Fz f g] (xs : List α) : V.fz (.sl true m (xs.map f)) = .sl false m (xs.map g) := by simp [V.fz, fzL_map]
theorem fz_at {α : Type} (f : α → V) {g : α → V} [Fz f g] (x : α) : V.fz (f x) = g x := Fz.eq x

abbrev rA2 {α : Type} (f : α → V) (p : α × α) : V := .agg [f p.1, f p.2]
abbrev rA3 {α : Type} (f : α → V) (p : α × α × α) : V := .agg [f p.1, f p.2.1, f p.2.2]
abbrev rP {α : Type} (o : Bool) (f : α → V) (x : α) : V := .ptr o (f x)
/-- a pointer that may be nil -/
abbrev rO {α : Type} (o : Bool) (f : α → V) : Option α → V
  | none => .nilp
  | some x => .ptr o (f x)
/-- a map: its entries, in the order in which they came -/
abbrev rOl {α : Type} (m : Nat) (f : α → V) : Option (List α) → V
  | none => .nl m
  | some xs => .sl false m (xs.map f)
abbrev rEs {α : Type} (m : Nat) (_ : List α) : V := .es m
abbrev rOw {α : Type} (m : Nat) (f : α → V) : Option (List α) → V
  | none => .nl m
  | some xs => .sl true m (xs.map f)
abbrev rOe {α : Type} (m : Nat) (f : α → V) : Option (Option (List α)) → V
  | none => .nl m
  | some none => .es m
  | some (some xs) => .sl false m (xs.map f)
abbrev rMp {β : Type} (o : Bool) (f : β → Lf) (l : List (ByteArray × β)) : V := .mp o (l.map fun e => (e.1, f e.2))
instance {β : Type} (o : Bool) (f : β → Lf) : Fz (rMp o f) (rMp false f) := ⟨fun x => by simp [V.fz]⟩
theorem LkQ.one {β : Type} (f : β → Lf) (g : β → V) (l : List (ByteArray × β)) (z0 : β) {es : List (ByteArray × Lf)} {s : ByteArray} {z : Lf} {K : V → Prop} (e : es = l.map fun e => (e.1, f e.2)) (hz : z = f z0) (hg : ∀ b, (f b).v = g b)
    (h : K (g ((mgetL l s).getD z0))) : LkQ es s z false K := by
  subst e; subst hz
  refine ⟨?_⟩
  unfold mlkV
  rw [mgetL_map, Option.getD_map, hg]
  exact h
theorem LkQ.two {β : Type} (f : β → Lf) (g : β → V) (l : List (ByteArray × β)) (z0 : β) {es : List (ByteArray × Lf)} {s : ByteArray} {z : Lf} {K : V → Prop} (e : es = l.map fun e => (e.1, f e.2)) (hz : z = f z0) (hg : ∀ b, (f b).v = g b)
    (h : K (.tup [g ((mgetL l s).getD z0), .bool (mgetL l s).isSome])) : LkQ es s z true K := by
  subst e; subst hz
  refine ⟨?_⟩
  unfold mlkV
  rw [mgetL_map, Option.getD_map, hg, Option.isSome_map]
  exact h
theorem MsQ.o {β : Type} (f : β → Lf) (l : List (ByteArray × β)) (b : β) {es : List (ByteArray × Lf)} {s : ByteArray} {x : Lf} {K : List (ByteArray × Lf) → Prop} (e : es = l.map fun e => (e.1, f e.2)) (hx : x = f b)
    (h : K ((msetL l s b).map fun e => (e.1, f e.2))) : MsQ es s x K := by
  subst e; subst hx
  exact ⟨by rw [msetL_map]; exact h⟩
theorem BsQ.o (ns : List Int) {xs : List V} {K : ByteArray → Prop} (e : xs = ns.map (V.int .u8)) (h : K (strOf ns)) : BsQ xs K := by
  subst e
  exact ⟨ns, bytesV_map ns, h⟩
instance {α : Type} (f g : α → V) [Fz f g] : Fz (rP true f) (rP false g) := ⟨fun x => by simp [V.fz, Fz.eq]⟩
instance {α : Type} (m : Nat) (f : α → V) : Fz (rOl m f) (rOl m f) := ⟨fun x => by cases x <;> simp [rOl, V.fz]⟩
instance {α : Type} (f g : α → V) [Fz f g] : Fz (rO true f) (rO false g) := ⟨fun x => by cases x <;> simp [rO, V.fz, Fz.eq]⟩
instance {α : Type} (f g : α → V) [Fz f g] : Fz (rA2 f) (rA2 g) := ⟨fun x => by simp [V.fz, fzL, Fz.eq]⟩
instance {α : Type} (f g : α → V) [Fz f g] : Fz (rA3 f) (rA3 g) := ⟨fun x => by simp [V.fz, fzL, Fz.eq]⟩

/-- one cell each -/
def One {α : Type} (f : α → V) : Prop := ∀ x, (f x).cells = [f x] ∧ (f x).isAgg = false
/-- some cells each -/
def Wide {α : Type} (m : Nat) (f : α → V) : Prop := ∀ x, (f x).cells.length = m ∧ allCell (f x).cells = true

section
variable {α ρ : Type} {v : ρ} {x y : Option ρ} {X Y : Prop}
theorem Br.od {p : Prop} [Decidable p] (h : (if p then x else y) = some v) (h1 : p → x = some v → X) (h2 : ¬ p → y = some v → Y) : Br (decide p) X Y := by
  by_cases hp : p
  · rw [if_pos hp] at h; exact ⟨fun _ => h1 hp h, fun e => absurd hp (of_decide_eq_false e)⟩
  · rw [if_neg hp] at h; exact ⟨fun e => absurd (of_decide_eq_true e) hp, fun _ => h2 hp h⟩
theorem Br.oe {a b : Int} (h : (if a = b then x else y) = some v) (h1 : a = b → x = some v → X) (h2 : ¬ a = b → y = some v → Y) : Br (a == b) X Y := by
  have : (a == b) = decide (a = b) := by rw [Bool.eq_iff_iff]; simp
  rw [this]; exact Br.od h h1 h2
theorem Br.on {a b : Int} (h : (if a ≠ b then x else y) = some v) (h1 : a ≠ b → x = some v → X) (h2 : ¬ a ≠ b → y = some v → Y) : Br (a != b) X Y := by
  have : (a != b) = decide (a ≠ b) := by rw [Bool.eq_iff_iff]; simp
  rw [this]; exact Br.od h h1 h2
theorem Br.ob {b : Bool} (h : (if b = true then x else y) = some v) (h1 : b = true → x = some v → X) (h2 : ¬ b = true → y = some v → Y) : Br b X Y := by
  cases b
  · exact ⟨fun e => Bool.noConfusion e, fun _ => h2 (by simp) (by simpa using h)⟩
  · exact ⟨fun _ => h1 rfl (by simpa using h), fun e => Bool.noConfusion e⟩
theorem Br.flip {b : Bool} (h : Br b Y X) : Br (!b) X Y := by
  cases b
  · exact ⟨fun _ => h.f rfl, fun e => Bool.noConfusion e⟩
  · exact ⟨fun e => Bool.noConfusion e, fun _ => h.t rfl⟩
theorem Ask.o {p : Prop} (h : ask p x = some v) (hk : p → x = some v → X) : Ask p X := by
  obtain ⟨h1, h2⟩ := ask_some.1 h
  exact ⟨h1, hk h1 h2⟩
theorem Idx.o {j : Int} {lo n : Nat} {K : Int → Prop} (h : (if j = lo then x else y) = some v) (h1 : x = some v → K lo) (h2 : y = some v → Idx j (lo + 1) n K) : Idx j lo n K := by
  refine ⟨fun a b => ?_⟩
  by_cases hj : j = lo
  · rw [if_pos hj] at h; rw [hj]; exact h1 h
  · rw [if_neg hj] at h; exact (h2 h).h (by omega) b
theorem Idx.last {j : Int} {lo n : Nat} {K : Int → Prop} (e : lo + 1 = n) (h1 : K lo) : Idx j lo n K := by
  refine ⟨fun a b => ?_⟩
  have : j = lo := by omega
  rw [this]; exact h1
theorem Idx.lit {j : Int} {lo n : Nat} {K : Int → Prop} (h : K j) : Idx j lo n K := ⟨fun _ _ => h⟩
theorem Len.mrep {f : α → V} {w : α} {n : Nat} {K : Nat → Prop} (h : K n) : Len ((List.replicate n w).map f) K := ⟨by rw [List.length_map, List.length_replicate]; exact h⟩
theorem Len.nil {K : Nat → Prop} (h : K 0) : Len [] K := ⟨h⟩
theorem Len.cons {u : V} {us : List V} {K : Nat → Prop} (h : Len us fun n => K (n + 1)) : Len (u :: us) K := ⟨h.h⟩

variable {f : α → V}
theorem nth_map [Inhabited α] (f : α → V) {xs : List α} {j : Nat} (hj : j < xs.length) : (xs.map f).getD j .dead = f (nth xs j) := by
  simp [List.getD_eq_getElem?_getD, nth, hj]
theorem Elem.o [Inhabited α] {xs : List α} {j : Nat} {K : V → Prop} (hj : j < xs.length) (hk : K (f (nth xs j))) : Elem (xs.map f) j K := ⟨by rw [nth_map f hj]; exact hk⟩

theorem flat_one (hf : One f) (xs : List α) : flat (xs.map f) = xs.map f := by
  induction xs with
  | nil => rfl
  | cons x r ih => simp only [List.map_cons, flat, (hf x).1, ih]; rfl
theorem drop_nth [Inhabited α] (f : α → V) {xs : List α} {c : Nat} (hc : c < xs.length) : (xs.map f).drop c = f (nth xs c) :: (xs.map f).drop (c + 1) := by
  rw [List.drop_eq_getElem_cons (by simpa using hc)]
  simp [nth, List.getD_eq_getElem?_getD, hc]
theorem Cells.one [Inhabited α] (hf : One f) {xs : List α} {c : Nat} {K : List V → Prop} (hc : c < xs.length) (hk : K [f (nth xs c)]) : Cells (flat (xs.map f)) c 1 K := by
  refine ⟨_, ?_, ?_, hk⟩
  · rw [flat_one hf, List.length_map]; exact hc
  · rw [flat_one hf, drop_nth f hc]; rfl
theorem flat_wide [Inhabited α] {m : Nat} (hf : Wide m f) : ∀ {xs : List α} {i : Nat}, i < xs.length → ∃ l r, flat (xs.map f) = l ++ ((f (nth xs i)).cells ++ r) ∧ l.length = i * m := by
  intro xs
  induction xs with
  | nil => intro i h; simp at h
  | cons x t ih =>
    intro i h
    cases i with
    | zero => exact ⟨[], flat (t.map f), rfl, by simp⟩
    | succ i =>
      obtain ⟨l, r, e, hl⟩ := ih (i := i) (by simpa using h)
      refine ⟨(f x).cells ++ l, r, by simp only [List.map_cons, flat, e, List.append_assoc]; rfl, ?_⟩
      rw [List.length_append, (hf x).1, hl, Nat.succ_mul]; omega
theorem Cells.wide [Inhabited α] {m : Nat} (hf : Wide m f) {xs : List α} {i off n : Nat} {K : List V → Prop} (hi : i < xs.length) (hn : off + n ≤ m) (hk : K (((f (nth xs i)).cells.drop off).take n)) :
    Cells (flat (xs.map f)) (mulN i m + off) n K := by
  obtain ⟨l, r, e, hl⟩ := flat_wide hf hi
  have hw := (hf (nth xs i)).1
  refine ⟨_, ?_, ?_, hk⟩
  · rw [e, mulN_eq, List.length_append, List.length_append, hl, hw]; omega
  · rw [e, mulN_eq, ← hl, ← List.drop_drop, List.drop_left, List.drop_append_of_le_length (by omega), List.take_append_of_le_length (by simp; omega)]
theorem Cells.wide0 [Inhabited α] {m : Nat} (hf : Wide m f) {xs : List α} {i n : Nat} {K : List V → Prop} (hi : i < xs.length) (hn : n ≤ m) (hk : K ((f (nth xs i)).cells.take n)) :
    Cells (flat (xs.map f)) (mulN i m) n K := Cells.wide (off := 0) hf hi (by omega) hk
theorem Cells.lit {xs us : List V} {c n : Nat} {K : List V → Prop} (h : Nat.ble (c + n) xs.length = true) (e : (xs.drop c).take n = us) (hk : K us) : Cells xs c n K := ⟨us, Nat.le_of_ble_eq_true h, e, hk⟩

theorem Kid.one [Inhabited α] (hf : One f) {m : Nat} {xs : List α} {c : Nat} {K : V → Prop} (hc : c < xs.length) (hk : K (f (nth xs c))) : Kid (.sl true m (xs.map f)) c K :=
  ⟨_, rfl, by simp only [V.kids, flat_one hf]; simp [nth, List.getD_eq_getElem?_getD, hc], hk⟩
theorem Kid.wide [Inhabited α] {m : Nat} (hf : Wide m f) {xs : List α} {i off : Nat} {u : V} {K : V → Prop} (hi : i < xs.length) (hu : (f (nth xs i)).cells[off]? = some u) (hk : K u) : Kid (.sl true m (xs.map f)) (mulN i m + off) K := by
  obtain ⟨l, r, e, hl⟩ := flat_wide hf hi
  refine ⟨u, rfl, ?_, hk⟩
  have ho : off < (f (nth xs i)).cells.length := (List.getElem?_eq_some_iff.1 hu).1
  simp only [V.kids, e]
  rw [mulN_eq, List.getElem?_append_right (by omega), hl, Nat.add_sub_cancel_left, List.getElem?_append_left ho, hu]
theorem Kid.lit {T k : V} {c : Nat} {K : V → Prop} (h1 : T.stepOk = true) (h2 : T.kids[c]? = some k) (hk : K k) : Kid T c K := ⟨k, h1, h2, hk⟩

theorem setIn_one (hf : One f) : ∀ {xs : List α} {c : Nat} (w : α), c < xs.length → setIn (xs.map f) c [f w] = some ((xs.set c w).map f) := by
  intro xs
  induction xs with
  | nil => intro c w h; simp at h
  | cons x r ih =>
    intro c w h
    have hlen : (f x).cells.length = 1 := by rw [(hf x).1]; rfl
    simp only [List.map_cons, setIn, hlen]
    cases c with
    | zero =>
      have : (f x).setCells 0 [f w] = some (f w) := by
        have hx := (hf x).2
        have hv := (hf w).2
        unfold V.setCells
        split
        · simp_all [V.isAgg]
        · simp [setOne, hv]
      simp [this]
    | succ c =>
      have := ih (c := c) w (by simpa using h)
      simp [this]
theorem setIn_dead (hf : One f) : ∀ {xs : List α} {c : Nat}, c < xs.length → setIn (xs.map f) c [.dead] = some ((xs.map f).set c .dead) := by
  intro xs
  induction xs with
  | nil => intro c h; simp at h
  | cons x r ih =>
    intro c h
    have hlen : (f x).cells.length = 1 := by rw [(hf x).1]; rfl
    simp only [List.map_cons, setIn, hlen]
    cases c with
    | zero =>
      have : (f x).setCells 0 [.dead] = some .dead := by
        have hx := (hf x).2
        unfold V.setCells
        split
        · simp_all [V.isAgg]
        · simp [setOne, V.isAgg]
      simp [this]
    | succ c =>
      have := ih (c := c) (by simpa using h)
      simp [this]
theorem setIn_fill (hf : One f) : ∀ {xs : List α} {c : Nat} (w : α), c < xs.length → setIn ((xs.map f).set c .dead) c [f w] = some ((xs.set c w).map f) := by
  intro xs
  induction xs with
  | nil => intro c w h; simp at h
  | cons x r ih =>
    intro c w h
    have hlen : (f x).cells.length = 1 := by rw [(hf x).1]; rfl
    cases c with
    | zero =>
      simp only [List.map_cons, List.set_cons_zero, setIn]
      simp [V.cells, V.setCells, setOne, (hf w).2]
    | succ c =>
      have := ih (c := c) w (by simpa using h)
      simp [setIn, hlen, this]
theorem Len.hole {xs : List α} {i : Nat} {K : Nat → Prop} (h : K xs.length) : Len (holeL f xs i) K := ⟨by simp only [holeL, List.length_set, List.length_map]; exact h⟩
theorem SetKids.mkhole (hf : One f) {o : Bool} {m : Nat} {xs : List α} {c : Nat} {K : V → Prop} (hc : c < xs.length) (hk : K (.sl o m (holeL f xs c))) : SetKids (.sl o m (xs.map f)) c [.dead] K :=
  ⟨_, by simp only [V.setKids, setIn_dead hf hc, Option.map_some, holeL], hk⟩
theorem SetKids.fill (hf : One f) {o : Bool} {m : Nat} {xs : List α} {c : Nat} {us : List V} {K : V → Prop} (w : α) (e : us = [f w]) (hc : c < xs.length) (hk : K (.sl o m ((xs.set c w).map f))) : SetKids (.sl o m (holeL f xs c)) c us K := by
  subst e
  exact ⟨_, by simp only [V.setKids, holeL, setIn_fill hf w hc, Option.map_some], hk⟩
theorem SetKids.one (hf : One f) {o : Bool} {m : Nat} {xs : List α} {c : Nat} {us : List V} {K : V → Prop} (w : α) (e : us = [f w]) (hc : c < xs.length) (hk : K (.sl o m ((xs.set c w).map f))) : SetKids (.sl o m (xs.map f)) c us K := by
  subst e
  exact ⟨_, by simp only [V.setKids, setIn_one hf w hc, Option.map_some], hk⟩
theorem setIn_wide [Inhabited α] {m : Nat} (hf : Wide m f) : ∀ {xs : List α} {i off : Nat} {us : List V} (w : α), i < xs.length → (f (nth xs i)).setCells off us = some (f w) → off < m → setIn (xs.map f) (i * m + off) us = some ((xs.set i w).map f) := by
  intro xs
  induction xs with
  | nil => intro i off us w h; simp at h
  | cons x r ih =>
    intro i off us w h hs ho
    simp only [List.map_cons, setIn, (hf x).1]
    cases i with
    | zero =>
      have hs' : (f x).setCells off us = some (f w) := hs
      simp [ho, hs']
    | succ i =>
      have := ih (i := i) (off := off) (us := us) w (by simpa using h) hs ho
      rw [if_neg (by rw [Nat.succ_mul]; omega), show (i + 1) * m + off - m = i * m + off by rw [Nat.succ_mul]; omega, this]
      simp
theorem SetKids.wide [Inhabited α] {m : Nat} (hf : Wide m f) {o : Bool} {xs : List α} {i off : Nat} {us : List V} {K : V → Prop} (w : α) (hi : i < xs.length) (hs : (f (nth xs i)).setCells off us = some (f w)) (ho : off < m) (hk : K (.sl o m ((xs.set i w).map f))) :
    SetKids (.sl o m (xs.map f)) (mulN i m + off) us K :=
  ⟨_, by simp only [V.setKids, mulN_eq, setIn_wide hf w hi hs ho, Option.map_some], hk⟩
theorem SetKids.wide0 [Inhabited α] {m : Nat} (hf : Wide m f) {o : Bool} {xs : List α} {i : Nat} {us : List V} {K : V → Prop} (w : α) (hi : i < xs.length) (hs : (f (nth xs i)).setCells 0 us = some (f w)) (ho : 0 < m) (hk : K (.sl o m ((xs.set i w).map f))) :
    SetKids (.sl o m (xs.map f)) (mulN i m) us K := SetKids.wide (off := 0) hf w hi hs ho hk
theorem setIn_holeW [Inhabited α] {m : Nat} (hf : Wide m f) : ∀ {xs : List α} {i off : Nat} {us : List V} {v : V}, i < xs.length → (f (nth xs i)).setCells off us = some v → off < m → setIn (xs.map f) (i * m + off) us = some (holeW f xs i v) := by
  intro xs
  induction xs with
  | nil => intro i off us v h; simp at h
  | cons x r ih =>
    intro i off us v h hs ho
    simp only [List.map_cons, setIn, (hf x).1, holeW]
    cases i with
    | zero =>
      have hs' : (f x).setCells off us = some v := hs
      simp [ho, hs']
    | succ i =>
      have := ih (i := i) (off := off) (us := us) (v := v) (by simpa using h) hs ho
      rw [if_neg (by rw [Nat.succ_mul]; omega), show (i + 1) * m + off - m = i * m + off by rw [Nat.succ_mul]; omega, this]
      simp [holeW]
theorem setIn_fillW {m : Nat} (hf : Wide m f) : ∀ {xs : List α} {i off : Nat} {us : List V} {v : V} (w : α), i < xs.length → v.cells.length = m → v.setCells off us = some (f w) → off < m → setIn (holeW f xs i v) (i * m + off) us = some ((xs.set i w).map f) := by
  intro xs
  induction xs with
  | nil => intro i off us v w h; simp at h
  | cons x r ih =>
    intro i off us v w h hv hs ho
    cases i with
    | zero => simp [holeW, setIn, hv, ho, hs]
    | succ i =>
      have := ih (i := i) (off := off) (us := us) (v := v) w (by simpa using h) hv hs ho
      simp only [holeW, List.map_cons, List.set_cons_succ, setIn, (hf x).1] at this ⊢
      rw [if_neg (by rw [Nat.succ_mul]; omega), show (i + 1) * m + off - m = i * m + off by rw [Nat.succ_mul]; omega, this]
      simp
theorem Len.holeW {xs : List α} {i : Nat} {v : V} {K : Nat → Prop} (h : K xs.length) : Len (holeW f xs i v) K := ⟨by simp only [Ax.holeW, List.length_set, List.length_map]; exact h⟩
theorem SetKids.mkholeW [Inhabited α] {m : Nat} (hf : Wide m f) {o : Bool} {xs : List α} {i off : Nat} {us : List V} {K : V → Prop} (v : V) (hi : i < xs.length) (hs : (f (nth xs i)).setCells off us = some v) (ho : off < m) (hk : K (.sl o m (holeW f xs i v))) :
    SetKids (.sl o m (xs.map f)) (mulN i m + off) us K :=
  ⟨_, by simp only [V.setKids, mulN_eq, setIn_holeW hf hi hs ho, Option.map_some], hk⟩
theorem SetKids.fillW {m : Nat} (hf : Wide m f) {o : Bool} {xs : List α} {i off : Nat} {us : List V} {v : V} {K : V → Prop} (w : α) (hi : i < xs.length) (hv : v.cells.length = m) (hs : v.setCells off us = some (f w)) (ho : off < m) (hk : K (.sl o m ((xs.set i w).map f))) :
    SetKids (.sl o m (holeW f xs i v)) (mulN i m + off) us K :=
  ⟨_, by simp only [V.setKids, mulN_eq, setIn_fillW hf w hi hv hs ho, Option.map_some], hk⟩
theorem SetKids.lit {T T' : V} {c : Nat} {us : List V} {K : V → Prop} (h : T.setKids c us = some T') (hk : K T') : SetKids T c us K := ⟨T', h, hk⟩

theorem MkQ.o {d n : Nat} {z : V} {K : List V → Prop} (f : α → V) (w : α) (e : z = f w) (hk : K ((List.replicate n w).map f)) : MkQ d n z K := ⟨by rw [e, ← List.map_replicate]; exact hk⟩
theorem allLen_map {m : Nat} (hf : Wide m f) (ws : List α) : allLen m (ws.map f) = true := by
  induction ws with
  | nil => rfl
  | cons w r ih => simp [allLen, (hf w).1, (hf w).2, ih]
theorem BslQ.o {d m : Nat} {us : List V} {K : List V → Prop} (f : α → V) (ws : List α) (hf : Wide m f) (e : us = ws.map f) (hk : K (ws.map f)) : BslQ d m us K := by
  subst e; exact ⟨allLen_map hf ws, hk⟩
theorem BslQ.lit {d m : Nat} {us : List V} {K : List V → Prop} (e : allLen m us = true) (hk : K us) : BslQ d m us K := ⟨e, hk⟩
theorem allCell_flat {m : Nat} (hf : Wide m f) (ws : List α) : allCell (flat (ws.map f)) = true := by
  induction ws with
  | nil => rfl
  | cons w r ih =>
    have := (hf w).2
    simp only [allCell, List.map_cons, flat, List.all_append, Bool.and_eq_true] at this ih ⊢
    exact ⟨this, ih⟩
theorem AppQ.o {m d : Nat} {us vs : List V} {K : List V → Prop} (f : α → V) (hf : Wide m f) (xs ys : List α) (ex : us = xs.map f) (ey : vs = ys.map f) (h : ask (xs.length + ys.length ≤ LIM) x = some v) (hk : x = some v → K ((xs ++ ys).map f)) : AppQ d us vs K := by
  subst ex; subst ey
  obtain ⟨h1, h2⟩ := ask_some.1 h
  exact ⟨allCell_flat hf ys, by simpa using h1, by rw [← List.map_append]; exact hk h2⟩
theorem anyOwn_flat_map (hf : ∀ x, anyOwn (f x).cells = false) (ws : List α) : anyOwn (flat (ws.map f)) = false := by
  induction ws with
  | nil => rfl
  | cons w r ih => simp only [List.map_cons, flat, anyOwn_append, hf w, ih]; rfl
theorem SlcQ.o {l h : Int} {xs : List α} {K : List V → Prop} (f : α → V) (hh : ask (0 ≤ l ∧ l ≤ h ∧ h ≤ (xs.length : Int)) x = some v) (hk : x = some v → K (((xs.drop l.toNat).take (h.toNat - l.toNat)).map f)) : SlcQ (xs.map f) l h K := by
  obtain ⟨⟨h1, h2, h3⟩, h4⟩ := ask_some.1 hh
  exact ⟨h1, h2, by simpa using h3, by rw [← List.map_drop, ← List.map_take]; exact hk h4⟩
theorem Len.fzmap {f : α → V} {xs : List α} {K : Nat → Prop} (h : K xs.length) : Len (fzL (xs.map f)) K := ⟨by rw [fzL_length, List.length_map]; exact h⟩
theorem SlcQ.lst {l h : Int} {xs : List α} {us : List V} {K : List V → Prop} (f : α → V) (e : us = xs.map f) (hh : ask (0 ≤ l ∧ l ≤ h ∧ h ≤ (xs.length : Int)) x = some v) (hk : x = some v → K (((xs.drop l.toNat).take (h.toNat - l.toNat)).map f)) : SlcQ us l h K := by
  subst e; exact SlcQ.o f hh hk
/-- an element of what is written out -/
theorem Elem.lst [Inhabited α] (f : α → V) (xs : List α) {us : List V} {j : Nat} {K : V → Prop} (e : us = xs.map f) (hj : j < xs.length) (h : K (f (nth xs j))) : Elem us j K := by
  subst e
  exact Elem.o hj h
theorem Cells.lst [Inhabited α] (f : α → V) (hf : One f) (xs : List α) {us : List V} {j : Nat} {K : List V → Prop} (e : us = xs.map f) (hj : j < xs.length) (h : K [f (nth xs j)]) : Cells us j 1 K := by
  rw [e, ← flat_one hf]
  exact Cells.one hf hj h
theorem NoOwn.o (hf : ∀ x, anyOwn (f x).cells = false) {ws : List α} (h : X) : NoOwn (ws.map f) X Y := ⟨.inl ⟨anyOwn_flat_map hf ws, h⟩⟩
theorem NoOwn.lit {us : List V} (e : anyOwn (flat us) = false) (h : X) : NoOwn us X Y := ⟨.inl ⟨e, h⟩⟩
theorem NoOwn.own {us : List V} (e : anyOwn (flat us) = true) (h : Y) : NoOwn us X Y := ⟨.inr ⟨e, h⟩⟩
end

/-- .. and changes what one of its arguments points to -/
def RetO (P : Program) (f : Nat) (vs : List V) (v : V) (k : Nat) (u : V) : Prop := Tri P f vs (fun r o => r = v ∧ o[k]? = some u)
theorem reto_vc {P : Program} {f N : Nat} {ac : ACode} {rs : List RS} {args : List V} {v u : V} {k : Nat} (hf : fitsF P f N ac rs = true) (hn : args.length ≤ N)
    (h : vc P ac (retQ N rs args fun r o => r = v ∧ o[k]? = some u) (entry N 0 args)) : RetO P f args v k u := tri_vc hf hn h

/-- .. and changes what two of its arguments point to -/
def RetO2 (P : Program) (f : Nat) (vs : List V) (v : V) (k1 : Nat) (u1 : V) (k2 : Nat) (u2 : V) : Prop := Tri P f vs (fun r o => r = v ∧ o[k1]? = some u1 ∧ o[k2]? = some u2)
theorem reto2_vc {P : Program} {f N : Nat} {ac : ACode} {rs : List RS} {args : List V} {v u1 u2 : V} {k1 k2 : Nat} (hf : fitsF P f N ac rs = true) (hn : args.length ≤ N)
    (h : vc P ac (retQ N rs args fun r o => r = v ∧ o[k1]? = some u1 ∧ o[k2]? = some u2) (entry N 0 args)) : RetO2 P f args v k1 u1 k2 u2 := tri_vc hf hn h

/-- .. of a function that caught its own box -/
def RetT2 (P : Program) (f m j : Nat) (vs : List V) (v : V) (k1 : Nat) (u1 : V) (k2 : Nat) (u2 : V) : Prop := TriT P f m j vs (fun r o => r = v ∧ o[k1]? = some u1 ∧ o[k2]? = some u2)
theorem rett2_vc {P : Program} {f N m j : Nat} {ac : ACode} {rs : List RS} {args : List V} {v u1 u2 : V} {k1 k2 : Nat} (hf : fitsF P f N ac rs = true) (hn : args.length ≤ N) (hj : m + j < args.length)
    (h : vc P ac (retQ N rs args fun r o => r = v ∧ o[k1]? = some u1 ∧ o[k2]? = some u2) (entryT N m j f args)) : RetT2 P f m j args v k1 u1 k2 u2 := tri_vcT hf hn hj h

/-- what is no more wanted of what was given -/
theorem RdL.drop {w : World} {O : Nat → Prop} : ∀ (k : Nat) {os : List V} {us : List Value} {fp : List Nat}, RdL w O os us fp → ∃ fp', RdL w O (os.set k .dead) us fp' ∧ List.Sublist fp' fp
  | _, _, _, _, .nil => ⟨[], .nil, .slnil⟩
  | 0, _, _, _, .leaf _ t => ⟨_, .leaf (.dead _) t, .refl _⟩
  | 0, _, _, _, .grp _ _ t => ⟨_, .leaf (.dead _) t, List.sublist_append_right _ _⟩
  | 0, _, _, _, .fblk _ _ _ _ t => ⟨_, .leaf (.dead _) t, .refl _⟩
  | 0, _, _, _, .oblk _ _ _ _ _ t => ⟨_, .leaf (.dead _) t, (List.sublist_append_right _ _).cons _⟩
  | 0, _, _, _, .mpf _ _ _ t => ⟨_, .leaf (.dead _) t, .refl _⟩
  | 0, _, _, _, .mpo _ _ _ t => ⟨_, .leaf (.dead _) t, (List.Sublist.refl _).cons _⟩
  | 0, _, _, _, .bpo _ _ t => ⟨_, .leaf (.dead _) t, List.sublist_append_right _ _⟩
  | k + 1, _, _, _, .leaf h t => let ⟨_, a, b⟩ := RdL.drop k t; ⟨_, .leaf h a, b⟩
  | k + 1, _, _, _, .grp h s t => let ⟨_, a, b⟩ := RdL.drop k t; ⟨_, .grp h s a, (List.Sublist.refl _).append b⟩
  | k + 1, _, _, _, .fblk h hc hO s t => let ⟨_, a, b⟩ := RdL.drop k t; ⟨_, .fblk h hc hO s a, b⟩
  | k + 1, _, _, _, .oblk h hb hO hk s t => let ⟨_, a, b⟩ := RdL.drop k t; ⟨_, .oblk h hb hO hk s a, ((List.Sublist.refl _).append b).cons_cons _⟩
  | k + 1, _, _, _, .mpf hb he hO t => let ⟨_, a, b⟩ := RdL.drop k t; ⟨_, .mpf hb he hO a, b⟩
  | k + 1, _, _, _, .mpo hb he hO t => let ⟨_, a, b⟩ := RdL.drop k t; ⟨_, .mpo hb he hO a, b.cons_cons _⟩
  | k + 1, _, _, _, .bpo hb hO t => let ⟨_, a, b⟩ := RdL.drop k t; ⟨_, .bpo hb hO a, (List.Sublist.refl _).append b⟩
theorem Tri.drop {P : Program} {f : Nat} {args : List V} {k : Nat} {R : V → List V → Prop} (h : Tri P f args fun r o => R r (o.set k .dead)) : Tri P f args R := by
  intro w O vals fp h1 h2
  obtain ⟨h3, h4⟩ := h w O vals fp h1 h2
  refine ⟨h3, h4.mono ?_⟩
  rintro e w' ⟨res, outs, rv, O', fpr, fpo, hR, he, r1, ro, hnd, hm⟩
  obtain ⟨fp', a, b⟩ := RdL.drop k ro
  have hs : List.Sublist (fpr ++ fp') (fpr ++ fpo) := (List.Sublist.refl _).append b
  exact ⟨res, _, rv, O', fpr, fp', hR, he, r1, a, hs.nodup hnd, ⟨hm.os, hm.tape, hm.output, hm.size, hm.same, fun b hb => hm.new b (hs.subset hb)⟩⟩
theorem retk_vc {P : Program} {f N : Nat} {ac : ACode} {rs : List RS} {args : List V} {v : V} {k : Nat} (hf : fitsF P f N ac rs = true) (hn : args.length ≤ N)
    (h : vc P ac (retQ N rs args fun r o => r = v ∧ (o.set k .dead)[k]? = some .dead) (entry N 0 args)) : RetO P f args v k .dead := Tri.drop (tri_vc hf hn h)

theorem RdL.deads {w : World} {O : Nat → Prop} : ∀ (us : List Value), RdL w O (List.replicate us.length .dead) us []
  | [] => .nil
  | _ :: us => .leaf (.dead _) (RdL.deads us)
/-- a group that was given is no more wanted -/
theorem retkA_vc {P : Program} {f N : Nat} {ac : ACode} {rs : List RS} {args cs : List V} {v : V} {k n : Nat} (hc : args[k]? = some (.agg cs)) (hl : cs.length = n) (hf : fitsF P f N ac rs = true) (hn : args.length ≤ N)
    (h : vc P ac (retQ N rs args fun r _ => r = v) (entry N 0 args)) : RetO P f args v k (.agg (List.replicate n .dead)) := by
  subst hl
  have h0 := tri_vc hf hn h
  intro w O vals fp h1 h2
  obtain ⟨h3, h4⟩ := h0 w O vals fp h1 h2
  refine ⟨h3, h4.mono ?_⟩
  rintro e w' ⟨res, outs, rv, O', fpr, fpo, hR, he, r1, ro, hnd, hm⟩
  -- what was given is a group
  obtain ⟨_, _, vl, x, vr, _, fu, _, _, ev, _, _, hvl, _, gx, _⟩ := h1.at hc
  have ga : ∃ bs : Array Value, x = .agg bs ∧ bs.size = cs.length := by
    cases gx with
    | leaf h _ => cases h
    | grp h s _ => cases h; exact ⟨_, rfl, by simpa using s.length⟩
    | fblk h _ _ _ _ => cases h
    | oblk h _ _ _ _ _ => cases h
  obtain ⟨bs, rfl, hb⟩ := ga
  have hlen : outs.length = vals.length := ro.length.symm
  have hk : k < outs.length := by rw [hlen, ev]; simp; omega
  obtain ⟨y0, y1, f0, f3, e0, e3, g0, g3⟩ := RdL.split (outs.take k) (ys := outs.drop k) (by rw [List.take_append_drop]; exact ro)
  rw [List.drop_eq_getElem_cons hk] at g3
  obtain ⟨u, us, f1, f2, e1, e2, g1, g2⟩ := g3.cons_split
  have hy0 : y0.length = k := by rw [g0.length, List.length_take]; omega
  subst e1; subst e2
  rw [ev] at e0
  obtain ⟨_, e4⟩ := List.append_inj e0 (by rw [hvl, hy0])
  cases e4
  have hd : RdL w' O' (outs.take k ++ (.agg (List.replicate cs.length .dead) :: outs.drop (k + 1))) vals (f0 ++ ([] ++ f2)) := by
    rw [ev, e0]
    have hbl : cs.length = bs.toList.length := by simp; omega
    rw [hbl]
    exact g0.append (.grp (.agg _ bs.toList) (RdL.deads bs.toList) g2)
  have hs : List.Sublist (fpr ++ (f0 ++ f2)) (fpr ++ fpo) := by
    rw [e3]
    exact (List.Sublist.refl _).append ((List.Sublist.refl _).append (List.sublist_append_right _ _))
  have hko : (outs.take k ++ (.agg (List.replicate cs.length .dead) :: outs.drop (k + 1)))[k]? = some (.agg (List.replicate cs.length .dead)) := by
    rw [List.getElem?_append_right (by rw [List.length_take]; omega), List.length_take, Nat.min_eq_left (by omega), Nat.sub_self]; rfl
  exact ⟨res, _, rv, O', fpr, f0 ++ f2, ⟨hR, hko⟩, he, r1, by simpa using hd, hs.nodup hnd, ⟨hm.os, hm.tape, hm.output, hm.size, hm.same, fun b hb => hm.new b (hs.subset hb)⟩⟩

/-- a result that is only read from now on -/
theorem Tri.freeze {P : Program} {f : Nat} {args : List V} {R : V → List V → Prop} (h : Tri P f args fun r o => R r.fz o) : Tri P f args R := by
  intro w O vals fp h1 h2
  obtain ⟨h3, h4⟩ := h w O vals fp h1 h2
  refine ⟨h3, h4.mono ?_⟩
  rintro e w' ⟨res, outs, rv, O', fpr, fpo, hR, he, r1, ro, hnd, hm⟩
  have hd := List.nodup_append.1 hnd
  have hnew : ∀ b, b ∈ fpr → b ∈ fp ∨ w.heap.size ≤ b := fun b hb => hm.new b (by simp [hb])
  refine ⟨res.fz, outs, rv, fun b => O' b ∧ b ∉ fpr, [], fpo, hR, he, ?_, ?_, by simpa using hd.2.1, ⟨hm.os, hm.tape, hm.output, hm.size, fun b hb hS => ?_, fun b hb => hm.new b (by simpa using Or.inr (by simpa using hb))⟩⟩
  · have := r1.fz (O2 := fun b => O' b ∧ b ∉ fpr) (fun b hb hh => hh.2 hb) (fun b hb _ hh => hb hh.1)
    simpa [fzL] using this
  · exact ro.frame (fun b hb => ⟨rfl, (ro.fpO b hb).1, fun hh => hd.2.2 b hh b hb rfl⟩) (fun b hb _ => ⟨rfl, fun hh => hb hh.1⟩)
  · have := hm.same b hb hS
    refine ⟨this.1, ⟨fun hh => this.2.1 hh.1, fun hh => ⟨this.2.2 hh, fun hf => ?_⟩⟩⟩
    rcases hnew b hf with h5 | h5
    · exact hS h5
    · omega
/-- an empty slice that is not nil is an empty slice -/
def V.ues : V → V
  | .es m => .sl false m []
  | x => x
theorem RdL.ues {w O xs vs fp} (h : RdL w O xs vs fp) : RdL w O (xs.map V.ues) vs fp := by
  induction h with
  | nil => exact .nil
  | leaf h _ ih =>
    refine .leaf ?_ ih
    cases h <;> simp only [V.ues] <;> constructor
  | grp h s _ _ ih =>
    cases h with
    | agg => exact .grp (.agg _ _) s ih
    | tup => exact .grp (.tup _ _) s ih
    | clo => exact .grp (.clo _ _ _) s ih
    | clov v f cs vs e => exact .grp (.clov _ _ _ _ e) s ih
    | fclo f cs ch vs e => exact .grp (.fclo _ _ _ _ e) s ih
  | fblk h hc hO s _ _ ih =>
    cases h with
    | sl o m xs b off cap hm hcap => exact .fblk (.sl _ _ _ _ _ _ hm hcap) hc hO s ih
    | ptr o x b off => exact .fblk (.ptr _ _ _ _) hc hO s ih
  | oblk h hb hO hk s _ _ ih =>
    cases h with
    | sl o m xs b off cap hm hcap => exact .oblk (.sl _ _ _ _ _ _ hm hcap) hb hO hk s ih
    | ptr o x b off => exact .oblk (.ptr _ _ _ _) hb hO hk s ih
  | mpf hb he hO _ ih => exact .mpf hb he hO ih
  | mpo hb he hO _ ih => exact .mpo hb he hO ih
  | bpo hb hO _ ih => exact .bpo hb hO ih
theorem Ret.es {P : Program} {f : Nat} {vs us : List V} {v : V} (e : vs.map V.ues = us) (h : Ret P f us v) : Ret P f vs v := by
  subst e
  intro w O vals fp h1 h2
  obtain ⟨h3, h4⟩ := h w O vals fp h1.ues h2
  refine ⟨h3, h4.mono ?_⟩
  rintro e w' ⟨res, outs, rv, O', fpr, fpo, hR, he, r1, ro, hnd, hm⟩
  have hd := List.nodup_append.1 hnd
  exact ⟨res, List.replicate vals.length .dead, rv, O', fpr, [], hR, he, r1, RdL.deads vals, by simpa using hd.1, hm.shrink fun b hb => by simpa using Or.inl (by simpa using hb)⟩
/-- .. in a result -/
def V.uet : V → V
  | .tup cs => .tup (cs.map V.ues)
  | .es m => .sl false m []
  | x => x
theorem RdL.uet {w O x v fp} (h : RdL w O [x] [v] fp) : RdL w O [x.uet] [v] fp := by
  cases x with
  | tup cs =>
    cases h with
    | leaf h _ => cases h
    | fblk h _ _ _ _ => cases h
    | oblk h _ _ _ _ _ => cases h
    | grp h s t =>
      cases h with
      | tup => exact .grp (.tup _ _) s.ues t
  | es m => exact h.ues
  | _ => exact h
theorem Tri.uet {P : Program} {f : Nat} {args : List V} {R : V → List V → Prop} (h : Tri P f args fun r o => R r.uet o) : Tri P f args R := by
  intro w O vals fp h1 h2
  obtain ⟨h3, h4⟩ := h w O vals fp h1 h2
  refine ⟨h3, h4.mono ?_⟩
  rintro e w' ⟨res, outs, rv, O', fpr, fpo, hR, he, r1, rest⟩
  exact ⟨res.uet, outs, rv, O', fpr, fpo, hR, he, r1.uet, rest⟩
theorem retfz_vc {P : Program} {f N : Nat} {ac : ACode} {rs : List RS} {args : List V} {v : V} (hf : fitsF P f N ac rs = true) (hn : args.length ≤ N)
    (h : vc P ac (retQ N rs args fun r _ => r.fz = v) (entry N 0 args)) : Ret P f args v := Tri.freeze (R := fun r _ => r = v) (tri_vc hf hn h)
theorem retfzu_vc {P : Program} {f N : Nat} {ac : ACode} {rs : List RS} {args : List V} {v : V} (hf : fitsF P f N ac rs = true) (hn : args.length ≤ N)
    (h : vc P ac (retQ N rs args fun r _ => r.fz.uet = v) (entry N 0 args)) : Ret P f args v := Tri.uet (R := fun r _ => r = v) (Tri.freeze (R := fun r _ => r.uet = v) (tri_vc hf hn h))
theorem retofz_vc {P : Program} {f N : Nat} {ac : ACode} {rs : List RS} {args : List V} {v u : V} {k : Nat} (hf : fitsF P f N ac rs = true) (hn : args.length ≤ N)
    (h : vc P ac (retQ N rs args fun r o => r.fz = v ∧ o[k]? = some u) (entry N 0 args)) : RetO P f args v k u := Tri.freeze (R := fun r o => r = v ∧ o[k]? = some u) (tri_vc hf hn h)
theorem Ret.frz {P : Program} {f : Nat} {vs : List V} {v v' : V} (h : Ret P f vs v) (e : v.fz = v') : Ret P f vs v' :=
  Tri.freeze (R := fun r _ => r = v') (Tri.mono h fun r _ hr => by rw [show r = v from hr]; exact e)
theorem RetO.frz {P : Program} {f k : Nat} {vs : List V} {v v' u : V} (h : RetO P f vs v k u) (e : v.fz = v') : RetO P f vs v' k u :=
  Tri.freeze (R := fun r o => r = v' ∧ o[k]? = some u) (Tri.mono h fun r _ hr => ⟨by rw [show r = v from hr.1]; exact e, hr.2⟩)
theorem Ret.cast {P : Program} {f : Nat} {vs vs' : List V} {v : V} (e : vs = vs') (h : Ret P f vs v) : Ret P f vs' v := e ▸ h
theorem RetO.cast {P : Program} {f k : Nat} {vs vs' : List V} {v u : V} (e : vs = vs') (h : RetO P f vs v k u) : RetO P f vs' v k u := e ▸ h
/-- all its own -/
class NoFz {α : Type} (f : α → V) : Prop where
  eq : ∀ x, (f x).noFz = true
instance {k : IntKind} : NoFz (V.int k) := ⟨fun _ => rfl⟩
instance : NoFz vint := ⟨fun _ => rfl⟩
instance : NoFz V.bool := ⟨fun _ => rfl⟩
instance : NoFz V.str := ⟨fun _ => rfl⟩
theorem noFzL_map {α : Type} {f : α → V} [NoFz f] (xs : List α) : noFzL (xs.map f) = true := by
  induction xs with
  | nil => rfl
  | cons x r ih => simp [noFzL, NoFz.eq, ih]
instance {α : Type} (m : Nat) (f : α → V) [NoFz f] : NoFz (slr true m f) := ⟨fun x => by simp [V.noFz, noFzL_map]⟩
instance {β : Type} (f : β → Lf) : NoFz (rMp true f) := ⟨fun x => by simp [V.noFz]⟩
instance {α : Type} (f : α → V) [NoFz f] : NoFz (rP true f) := ⟨fun x => by simp [V.noFz, NoFz.eq]⟩
instance {α : Type} (f : α → V) [NoFz f] : NoFz (rO true f) := ⟨fun x => by cases x <;> simp [V.noFz, NoFz.eq]⟩
instance {α : Type} (f : α → V) [NoFz f] : NoFz (rA2 f) := ⟨fun x => by simp [V.noFz, noFzL, NoFz.eq]⟩
instance {α : Type} (f : α → V) [NoFz f] : NoFz (rA3 f) := ⟨fun x => by simp [V.noFz, noFzL, NoFz.eq]⟩

section
variable {P : Program} {K : St → Prop} {σ : St} {β ρ : Type} {v : ρ} {oo : Option β} {k : β → Option ρ}
theorem CallQ.o (rep : β → V) {vs vs' : List V} {f d : Nat} (e : vs = vs') (h : oo.bind k = some v) (hr : ∀ r, oo = some r → Ret P f vs' (rep r)) (hk : ∀ r, k r = some v → forceS (puts d (.val (rep r)) σ) K) : CallQ P f d vs [] [] K σ := by
  subst e
  obtain ⟨r, h1, h2⟩ := Option.bind_eq_some_iff.1 h
  have h3 := hk r h2
  rw [forceS_eq] at h3
  refine ⟨rfl, Tri.mono (hr r h1) ?_⟩
  rintro r o rfl
  exact ⟨rfl, h3⟩
theorem CallQ.rd (rep : β → V) {vs vs' : List V} {rs : List Nat} {f d : Nat} (e : vs = vs') (hn : ∀ r, (rep r).noFz = true) (h : oo.bind k = some v) (hr : ∀ r, oo = some r → Ret P f vs' (rep r)) (hk : ∀ r, k r = some v → forceS (puts d (.val (rep r)) σ) K) : CallQ P f d vs [] rs K σ := by
  subst e
  obtain ⟨r, h1, h2⟩ := Option.bind_eq_some_iff.1 h
  have h3 := hk r h2
  rw [forceS_eq] at h3
  refine ⟨rfl, Tri.mono (hr r h1) ?_⟩
  rintro r' o rfl
  exact ⟨by simp [resOk, hn r], h3⟩
theorem CloQ.o (rep : β → V) {vs vs' cs : List V} {rs : List Nat} {f d : Nat} (e : vs ++ fzL cs = vs') (hn : ∀ r, resOk rs (rep r) = true) (h : oo.bind k = some v) (hr : ∀ r, oo = some r → Ret P f vs' (rep r)) (hk : ∀ r, k r = some v → forceS (puts d (.val (rep r)) σ) K) : CloQ P f d cs vs rs K σ := by
  subst e
  obtain ⟨r, h1, h2⟩ := Option.bind_eq_some_iff.1 h
  have h3 := hk r h2
  rw [forceS_eq] at h3
  refine ⟨Tri.mono (hr r h1) ?_⟩
  rintro r' o rfl
  exact ⟨hn r, h3⟩
theorem CloP.o (rep : β → V) {vs vs' cs : List V} {rs : List Nat} {f d : Nat} {K : V → Prop} (e : vs ++ fzL cs = vs') (hn : ∀ r, resOk rs (rep r) = true) (h : oo.bind k = some v) (hr : ∀ r, oo = some r → Ret P f vs' (rep r)) (hk : ∀ r, k r = some v → K (rep r)) : CloP P f d cs vs rs K := by
  subst e
  obtain ⟨r, h1, h2⟩ := Option.bind_eq_some_iff.1 h
  exact ⟨_, Tri.mono (hr r h1) (by rintro r' _ rfl; exact ⟨rfl, hn r⟩), hk r h2⟩
theorem CallP.o (rep : β → V) {vs vs' : List V} {f d : Nat} {K : V → Prop} (e : vs = vs') (h : oo.bind k = some v) (hr : ∀ r, oo = some r → Ret P f vs' (rep r)) (hk : ∀ r, k r = some v → K (rep r)) : CallP P f d vs [] K := by
  subst e
  obtain ⟨r, h1, h2⟩ := Option.bind_eq_some_iff.1 h
  exact ⟨_, Tri.mono (hr r h1) (by rintro r' _ rfl; exact ⟨rfl, rfl⟩), hk r h2⟩
theorem CallP.rd (rep : β → V) {vs vs' : List V} {rs : List Nat} {f d : Nat} {K : V → Prop} (e : vs = vs') (hn : ∀ r, (rep r).noFz = true) (h : oo.bind k = some v) (hr : ∀ r, oo = some r → Ret P f vs' (rep r)) (hk : ∀ r, k r = some v → K (rep r)) : CallP P f d vs rs K := by
  subst e
  obtain ⟨r, h1, h2⟩ := Option.bind_eq_some_iff.1 h
  exact ⟨_, Tri.mono (hr r h1) (by rintro r' _ rfl; exact ⟨rfl, by simp [resOk, hn r]⟩), hk r h2⟩
theorem FrzQ.z {T : V} {K : V → Prop} (h : K T.fz) : FrzQ T 0 K := ⟨_, fzAt_zero T, h⟩
theorem FrzQ.d {T : V} {n : Nat} {K : V → Prop} (T' : V) (e : T.fzAt n = T') (h : K T') : FrzQ T n K := ⟨_, e, h⟩
/-- a call among the heads that changes what was lent -/
theorem LendP.io {γ : Type} {o : Option (β × γ)} {k : β × γ → Option ρ} (rep : β → V) (rep2 : γ → V) {vs vs' : List V} {rs : List Nat} {f d j : Nat} {T : V} {K : V → V → Prop} (e : vs = vs')
    (hn : ∀ b, resOk rs (rep b) = true) (hn2 : ∀ b, resOk rs (rep2 b) = true ∧ (rep2 b).node = true) (hu : ∀ u, upd [] T u = some u) (h : o.bind k = some v) (hr : ∀ x, o = some x → RetO P f vs' (rep x.1) j (rep2 x.2))
    (hk : ∀ b c, k (b, c) = some v → K (rep b) (rep2 c)) : LendP P f d vs rs j [] T K := by
  subst e
  obtain ⟨⟨b, c⟩, h1, h2⟩ := Option.bind_eq_some_iff.1 h
  exact ⟨_, _, _, hr _ h1, ⟨hn b, (hn2 c).1, (hn2 c).2, hu _⟩, hk b c h2⟩
/-- a call that changes what was lent -/
theorem CallQ.io {γ : Type} {o : Option (β × γ)} {k : β × γ → Option ρ} (rep : β → V) (rep2 : γ → V) {vs vs' : List V} {rs : List Nat} {f d j r : Nat} {p : List Nat} {T : V} (e : vs = vs') (hroots : rs.contains r = false)
    (hn : ∀ b, resOk rs (rep b) = true) (hn2 : ∀ b, resOk rs (rep2 b) = true ∧ (rep2 b).node = true) (hT : look σ r = .val T) (h : o.bind k = some v) (hr : ∀ x, o = some x → RetO P f vs' (rep x.1) j (rep2 x.2))
    (hk : ∀ b c, k (b, c) = some v → changeK p T (rep2 c) fun T' => forceS (puts d (.val (rep b)) (turnS r T' (p.length + 1) σ)) K) : CallQ P f d vs [(j, r, p)] rs K σ := by
  subst e
  obtain ⟨⟨b, c⟩, h1, h2⟩ := Option.bind_eq_some_iff.1 h
  obtain ⟨T', h3, h4⟩ := changeK_spec (hk b c h2)
  rw [forceS_eq] at h4
  refine ⟨by simp only [okRoots, hroots]; rfl, Tri.mono (hr _ h1) ?_⟩
  rintro res outs ⟨rfl, ho⟩
  refine ⟨hn b, ?_⟩
  rw [ho, hT]
  exact ⟨(hn2 c).1, by rw [h3]; show K (puts d _ (turnS r T' (p.length + deep (rep2 c)) σ)); rw [deep_node (hn2 c).2]; exact h4⟩
/-- a call that changes two things that were lent -/
theorem CallQ.io2 {γ1 γ2 : Type} {o : Option (β × γ1 × γ2)} {k : β × γ1 × γ2 → Option ρ} (rep : β → V) (rep1 : γ1 → V) (rep2 : γ2 → V) {vs vs' : List V} {rs : List Nat} {f d j1 j2 r1 r2 : Nat} {p1 p2 : List Nat} {T1 T2 : V} (e : vs = vs')
    (hroots : okRoots σ [(j1, r1, p1), (j2, r2, p2)] rs = true) (hne : Nat.beq r1 r2 = false)
    (hn : ∀ b, resOk rs (rep b) = true) (hn1 : ∀ b, resOk rs (rep1 b) = true ∧ (rep1 b).node = true) (hn2 : ∀ b, resOk rs (rep2 b) = true ∧ (rep2 b).node = true) (hT1 : look σ r1 = .val T1) (hT2 : look σ r2 = .val T2)
    (h : o.bind k = some v) (hr : ∀ x, o = some x → RetO2 P f vs' (rep x.1) j1 (rep1 x.2.1) j2 (rep2 x.2.2))
    (hk : ∀ b c1 c2, k (b, c1, c2) = some v → changeK p1 T1 (rep1 c1) fun T1' => changeK p2 T2 (rep2 c2) fun T2' => forceS (puts d (.val (rep b)) (turnS r2 T2' (p2.length + 1) (turnS r1 T1' (p1.length + 1) σ))) K) :
    CallQ P f d vs [(j1, r1, p1), (j2, r2, p2)] rs K σ := by
  subst e
  obtain ⟨⟨b, c1, c2⟩, h1, h2⟩ := Option.bind_eq_some_iff.1 h
  obtain ⟨T1', h3, h4⟩ := changeK_spec (hk b c1 c2 h2)
  obtain ⟨T2', h5, h6⟩ := changeK_spec h4
  rw [forceS_eq] at h6
  refine ⟨hroots, Tri.mono (hr _ h1) ?_⟩
  rintro res outs ⟨rfl, ho1, ho2⟩
  refine ⟨hn b, ?_⟩
  rw [ho1, ho2]
  refine ⟨by simp only [(hn1 c1).1, (hn2 c2).1, Bool.and_self], ?_⟩
  simp only [backS, hne, hT1, hT2, h3, h5, deep_node (hn1 c1).2, deep_node (hn2 c2).2]
  exact h6
theorem CallT.io2 {γ1 γ2 : Type} {o : Option (β × γ1 × γ2)} {k : β × γ1 × γ2 → Option ρ} (rep : β → V) (rep1 : γ1 → V) (rep2 : γ2 → V) {vs vs' : List V} {rs : List Nat} {f m j d j1 j2 r1 r2 : Nat} {p1 p2 : List Nat} {T1 T2 : V} (e : vs = vs')
    (hroots : okRoots σ [(j1, r1, p1), (j2, r2, p2)] rs = true) (hne : Nat.beq r1 r2 = false)
    (hn : ∀ b, resOk rs (rep b) = true) (hn1 : ∀ b, resOk rs (rep1 b) = true ∧ (rep1 b).node = true) (hn2 : ∀ b, resOk rs (rep2 b) = true ∧ (rep2 b).node = true) (hT1 : look σ r1 = .val T1) (hT2 : look σ r2 = .val T2)
    (h : o.bind k = some v) (hr : ∀ x, o = some x → RetT2 P f m j vs' (rep x.1) j1 (rep1 x.2.1) j2 (rep2 x.2.2))
    (hk : ∀ b c1 c2, k (b, c1, c2) = some v → changeK p1 T1 (rep1 c1) fun T1' => changeK p2 T2 (rep2 c2) fun T2' => forceS (puts d (.val (rep b)) (turnS r2 T2' (p2.length + 1) (turnS r1 T1' (p1.length + 1) σ))) K) :
    CallT P f m j d vs [(j1, r1, p1), (j2, r2, p2)] rs K σ := by
  subst e
  obtain ⟨⟨b, c1, c2⟩, h1, h2⟩ := Option.bind_eq_some_iff.1 h
  obtain ⟨T1', h3, h4⟩ := changeK_spec (hk b c1 c2 h2)
  obtain ⟨T2', h5, h6⟩ := changeK_spec h4
  rw [forceS_eq] at h6
  refine ⟨hroots, TriT.mono (hr _ h1) ?_⟩
  rintro res outs ⟨rfl, ho1, ho2⟩
  refine ⟨hn b, ?_⟩
  rw [ho1, ho2]
  refine ⟨by simp only [(hn1 c1).1, (hn2 c2).1, Bool.and_self], ?_⟩
  simp only [backS, hne, hT1, hT2, h3, h5, deep_node (hn1 c1).2, deep_node (hn2 c2).2]
  exact h6
/-- a call that what was given to it becomes part of the result of -/
theorem CallQ.give (rep : β → V) {vs vs' : List V} {rs : List Nat} {f d j r : Nat} {p : List Nat} {T : V} (e : vs = vs') (hroots : rs.contains r = false)
    (hn : ∀ b, resOk rs (rep b) = true) (hT : look σ r = .val T) (h : oo.bind k = some v) (hr : ∀ x, oo = some x → RetO P f vs' (rep x) j .dead)
    (hk : ∀ b, k b = some v → changeK p T .dead fun T' => forceS (puts d (.val (rep b)) (turnS r T' p.length σ)) K) : CallQ P f d vs [(j, r, p)] rs K σ := by
  subst e
  obtain ⟨b, h1, h2⟩ := Option.bind_eq_some_iff.1 h
  obtain ⟨T', h3, h4⟩ := changeK_spec (hk b h2)
  rw [forceS_eq] at h4
  refine ⟨by simp only [okRoots, hroots]; rfl, Tri.mono (hr _ h1) ?_⟩
  rintro res outs ⟨rfl, ho⟩
  refine ⟨hn b, ?_⟩
  rw [ho, hT]
  exact ⟨by cases rs <;> rfl, by rw [h3]; exact h4⟩
/-- a call that changes a part of what was lent -/
theorem LendQ.io {γ : Type} {o : Option (β × γ)} {k : β × γ → Option ρ} (rep : β → V) (rep2 : γ → V) (cs : γ → List V) (fld : γ → V) {g : Option Nat} {bs : List A} {vs vs' : List V} {rs : List Nat} {f d j r : Nat} {p : List Nat} {T : V}
    (e : aggAt 0 bs.length g vs = vs') (hc : ∀ c, rep2 c = grpV g (cs c)) (hf : ∀ c, (cs c)[j]? = some (fld c)) (hroots : rs.contains r = false)
    (hn : ∀ b, resOk rs (rep b) = true) (hn2 : ∀ b, resOk rs (fld b) = true ∧ (fld b).node = true) (hT : look σ r = .val T) (h : o.bind k = some v) (hr : ∀ x, o = some x → RetO P f vs' (rep x.1) 0 (rep2 x.2))
    (hk : ∀ b c, k (b, c) = some v → changeK p T (fld c) fun T' => forceS (puts d (.val (rep b)) (turnS r T' (p.length + 1) σ)) K) : LendQ P f d 0 g bs vs [(j, r, p)] rs K σ := by
  subst e
  obtain ⟨⟨b, c⟩, h1, h2⟩ := Option.bind_eq_some_iff.1 h
  obtain ⟨T', h3, h4⟩ := changeK_spec (hk b c h2)
  rw [forceS_eq] at h4
  refine ⟨by simp only [okRoots, hroots]; rfl, Tri.mono (hr _ h1) ?_⟩
  rintro res outs ⟨rfl, ho⟩
  cases outs with
  | nil => cases ho
  | cons x o =>
    simp only [List.getElem?_cons_zero, Option.some.injEq] at ho
    subst ho
    have hj : (cs c ++ o)[j]? = some (fld c) := by
      have hlt := (List.getElem?_eq_some_iff.1 (hf c)).1
      rw [List.getElem?_append_left hlt]; exact hf c
    show afterAgg 0 g _ _ (rep2 c :: o)
    rw [hc c]
    simp only [afterAgg, List.drop_zero, unG_grp]
    refine ⟨hn b, ?_⟩
    simp only [List.take_zero, List.nil_append]
    rw [hj, hT]
    exact ⟨(hn2 c).1, by rw [h3]; show K (puts d _ (turnS r T' (p.length + deep (fld c)) σ)); rw [deep_node (hn2 c).2]; exact h4⟩
/-- a look at a cell that owns something -/
theorem forceA_own {r c : Nat} {p : List Nat} {u : V} {K : A → Prop} (h : u.hasOwn = true) (hk : K (.ref r (p ++ [c]))) : forceA (mkA false (celAs r p c [u])) K := by
  have e : mkA false (celAs r p c [u]) = .ref r (p ++ [c]) := by simp only [mkA, celAs, celA, h, if_true, Bool.false_eq_true, if_false]
  rw [e]; exact hk
instance inhSum {α δ : Type} [Inhabited α] : Inhabited (α ⊕ δ) := ⟨.inl default⟩
theorem RdL.clo_of {w O tv f cs} {xs vs fp} {n : Nat} (h : RdL w O xs vs fp) (hn : xs[n]? = some (.clov tv f cs)) : RdL w O (xs.set n (.clo f cs)) vs fp := by
  obtain ⟨l, r, vl, x, vr, fl, fu, fr, rfl, rfl, rfl, hl, _, r1, r2, r3⟩ := h.at hn
  have e : (l ++ V.clov tv f cs :: r).set n (.clo f cs) = l ++ V.clo f cs :: r := by subst hl; simp
  rw [e]
  obtain ⟨us, rfl, s⟩ := rd_clovs r2
  have r4 : RdL w O [.clo f cs] [.func (.func f) #[] us.toArray] fu := by simpa using RdL.grp (.clo f cs us) s .nil
  exact r1.append (by simpa using r4.append r3)
theorem RdL.clov_of {w O f cs} {pre post : List V} {vs fp} (h : RdL w O (pre ++ .clo f cs :: post) vs fp) : ∃ tv, RdL w O (pre ++ .clov tv f cs :: post) vs fp := by
  obtain ⟨l, r, vl, x, vr, fl, fu, fr, e, rfl, rfl, hl, _, r1, r2, r3⟩ := h.at (c := pre.length) (u := .clo f cs) (by simp)
  obtain ⟨rfl, e3⟩ := List.append_inj e hl.symm
  cases e3
  obtain ⟨us, rfl, s⟩ := rd_clo r2
  have r4 : RdL w O [.clov (.func (.func f) #[] us.toArray) f cs] [.func (.func f) #[] us.toArray] fu := by simpa using RdL.grp (.clov _ f cs us rfl) s .nil
  exact ⟨_, r1.append (by simpa using r4.append r3)⟩
/-- what a function does that is given a function value, whatever this is -/
theorem Tri.detok {P : Program} {f f0 : Nat} {cs0 pre post : List V} {R' : V → List V → Prop}
    (h : ∀ tv, Tri P f (pre ++ .clov tv f0 cs0 :: post) fun res outs => ∃ cs, outs[pre.length]? = some (.clov tv f0 cs) ∧ R' res (outs.set pre.length (.clo f0 cs))) : Tri P f (pre ++ .clo f0 cs0 :: post) R' := by
  intro w O vals fp h1 h2
  obtain ⟨tv, h3⟩ := h1.clov_of
  obtain ⟨h4, h5⟩ := h tv w O vals fp h3 h2
  refine ⟨h4, h5.mono ?_⟩
  rintro e w' ⟨res, outs, rv, O', fpr, fpo, ⟨cs, ho, hR⟩, he, r1, ro, hnd, hm⟩
  exact ⟨res, _, rv, O', fpr, fpo, hR, he, r1, ro.clo_of ho, hnd, hm⟩
/-- a call that changes what a lent function value caught -/
theorem LendQ.ioc {γ : Type} {o : Option (β × γ)} {k : β × γ → Option ρ} (n : Nat) (rep : β → V) (rep2 : Value → γ → V) {f0 : Nat} {bs : List A} {vs : List V} {vs' : Value → List V} {rs : List Nat} {f d j r : Nat} {p : List Nat} {T : V}
    (e : ∀ tv, vs.take n ++ (.clov tv f0 ((vs.drop n).take bs.length) :: (vs.drop n).drop bs.length) = vs' tv) (hlen : (vs.take n).length = n) (hroots : rs.contains r = false)
    (hn : ∀ b, resOk rs (rep b) = true) (hT : look σ r = .val T) (h : o.bind k = some v) (hr : ∀ x, o = some x → ∀ tv, RetO P f (vs' tv) (rep x.1) n (rep2 tv x.2))
    (hk : ∀ b c, k (b, c) = some v → ∃ cs u, (∀ tv, rep2 tv c = .clov tv f0 cs) ∧ cs[j]? = some u ∧ (resOk rs u = true ∧ u.node = true) ∧ changeK p T u fun T' => forceS (puts d (.val (rep b)) (turnS r T' (p.length + 1) σ)) K) : LendQ P f d n (some f0) bs vs [(n + j, r, p)] rs K σ := by
  obtain ⟨⟨b, c⟩, h1, h2⟩ := Option.bind_eq_some_iff.1 h
  obtain ⟨cs, u, hc, hu, hu2, hk2⟩ := hk b c h2
  obtain ⟨T', h3, h4⟩ := changeK_spec hk2
  rw [forceS_eq] at h4
  refine ⟨by simp only [okRoots, hroots]; rfl, ?_⟩
  unfold aggAt
  refine Tri.detok fun tv => ?_
  rw [e tv, hlen]
  refine Tri.mono (hr _ h1 tv) ?_
  rintro res outs0 ⟨rfl, ho0⟩
  refine ⟨cs, by rw [ho0, hc], ?_⟩
  have hlt0 := (List.getElem?_eq_some_iff.1 ho0).1
  generalize houts : outs0.set n (.clo f0 cs) = outs
  have ho : outs[n]? = some (.clo f0 cs) := by rw [← houts]; simp [hlt0]
  have hlt := (List.getElem?_eq_some_iff.1 ho).1
  have hdrop : outs.drop n = grpV (some f0) cs :: outs.drop (n + 1) := by
    rw [List.drop_eq_getElem_cons hlt, (List.getElem?_eq_some_iff.1 ho).2]; rfl
  have htl : (outs.take n).length = n := by rw [List.length_take]; omega
  have hg : (outs.take n ++ (cs ++ outs.drop (n + 1)))[n + j]? = some u := by
    rw [List.getElem?_append_right (by omega), htl, show n + j - n = j by omega, List.getElem?_append_left (List.getElem?_eq_some_iff.1 hu).1]; exact hu
  unfold afterAgg
  rw [hdrop]
  simp only [unG_grp]
  show afterCall d [(n + j, r, p)] rs K σ (rep b) (outs.take n ++ (cs ++ outs.drop (n + 1)))
  refine ⟨hn b, ?_⟩
  rw [hg, hT]
  exact ⟨hu2.1, by rw [h3]; show K (puts d _ (turnS r T' (p.length + deep u) σ)); rw [deep_node hu2.2]; exact h4⟩
/-- a call of a function value that owns nothing, whatever it is -/
theorem CloV.o {oo : Option β} {k : β → Option ρ} (rep : β → V) {u : V} {vs vs' : List V} {rs : List Nat} {d : Nat} {K : St → Prop} (e : vs = vs') (hn : ∀ r, resOk rs (rep r) = true) (h : oo.bind k = some v)
    (hr : ∀ r, oo = some r → ∃ f cs, u = .fclo f cs ∧ Ret P f (vs' ++ fzL cs) (rep r)) (hk : ∀ r, k r = some v → forceS (puts d (.val (rep r)) σ) K) : CloV P d u vs rs K σ := by
  subst e
  obtain ⟨r, h1, h2⟩ := Option.bind_eq_some_iff.1 h
  obtain ⟨f, cs, hu, ht⟩ := hr r h1
  have h3 := hk r h2
  rw [forceS_eq] at h3
  exact ⟨f, cs, .inr hu, Tri.mono ht (by rintro r' _ rfl; exact ⟨hn r, h3⟩)⟩
/-- a function value that owns one box: what a call of it gives, and what it is behind the call -/
def CloR (P : Program) (vs : List V) (u r u' : V) : Prop :=
  ∃ (tv : Value) (f : Nat) (pre post : List V) (T T' : V), u = .clov tv f (pre ++ T :: post) ∧ u' = .clov tv f (pre ++ T' :: post) ∧ anyOwn pre = false ∧ anyOwn post = false ∧ (T.hasOwn = true ∧ T.node = true) ∧ (T'.node = true ∧ T'.noFz = true) ∧
    RetO P f (vs ++ (fzL pre ++ T :: fzL post)) r (vs.length + pre.length) T'
theorem celAs_plain (r : Nat) (p : List Nat) : ∀ (c : Nat) (ks : List V), anyOwn ks = false → celAs r p c ks = ks.map .val
  | _, [], _ => rfl
  | c, k :: ks, h => by
    simp only [anyOwn, Bool.or_eq_false_iff] at h
    simp only [celAs, celA, h.1, Bool.false_eq_true, if_false, List.map_cons, celAs_plain r p (c + 1) ks h.2]
theorem celAs_append (r : Nat) (p : List Nat) : ∀ (c : Nat) (ks ls : List V), celAs r p c (ks ++ ls) = celAs r p c ks ++ celAs r p (c + ks.length) ls
  | c, [], ls => by simp [celAs]
  | c, k :: ks, ls => by simp only [List.cons_append, celAs, celAs_append r p (c + 1) ks ls, List.length_cons, show c + 1 + ks.length = c + (ks.length + 1) by omega]
theorem maskA_true : ∀ {ms : List Bool} {as : List A}, (∀ i, i < as.length → ms[i]? = some true) → maskA ms as = as.map (·, true)
  | [], [], _ => rfl
  | _ :: _, [], _ => rfl
  | [], a :: as, h => by have := h 0 (by simp); simp at this
  | m :: ms, a :: as, h => by
    have h0 := h 0 (by simp)
    simp only [List.getElem?_cons_zero, Option.some.injEq] at h0
    subst h0
    have := maskA_true (ms := ms) (as := as) fun i hi => by simpa using h (i + 1) (by simp; omega)
    simp [maskA, this]
theorem argsL_trues {σ : St} : ∀ (cs : List V) (k : Nat), argsL σ ((cs.map A.val).map (·, true)) k = some (fzL cs, [], []) := by
  intro cs
  induction cs with
  | nil => intro k; rfl
  | cons c r ih => intro k; simp only [List.map_cons, argsL, ih, resA, fzL, A.roots, lentA]; rfl
theorem argsL_app {σ : St} {bs : List (A × Bool)} {us : List V} {ls2 : List (Nat × Nat × List Nat)} : ∀ {as : List (A × Bool)} {k : Nat} {vs rs}, argsL σ as k = some (vs, [], rs) → argsL σ bs (k + as.length) = some (us, ls2, []) →
    argsL σ (as ++ bs) k = some (vs ++ us, ls2, rs) := by
  intro as
  induction as with
  | nil => intro k vs rs h hb; simp [argsL] at h; obtain ⟨rfl, rfl⟩ := h; simpa using hb
  | cons e rest ih =>
    intro k vs rs h hb
    obtain ⟨a, io⟩ := e
    simp only [argsL] at h
    split at h
    · cases h
    · rename_i vs' ls' rs' h1
      split at h
      · cases h
      · rename_i hl
        split at h
        · rename_i v hv
          cases h
          simp only [List.cons_append, argsL]
          rw [ih h1 (by simpa [Nat.add_assoc, Nat.add_comm 1] using hb)]
          simp [hl, hv]
        · cases h
theorem upd_snoc : ∀ (p : List Nat) {T u t u' : V} {i : Nat}, sub p T = some u → u.kids[i]?.isSome = true → u.setKids i [t] = some u' → upd (p ++ [i]) T t = upd p T u'
  | [], T, u, t, u', i, hs, hi, hu => by
    simp only [sub, Option.some.injEq] at hs
    subst hs
    obtain ⟨k, hk⟩ := Option.isSome_iff_exists.1 hi
    simp only [List.nil_append, upd, hk]
    exact hu
  | c :: p, T, u, t, u', i, hs, hi, hu => by
    simp only [sub] at hs
    split at hs
    · split at hs
      · rename_i k hk
        simp only [List.cons_append, upd, hk, upd_snoc p hs hi hu]
      · cases hs
    · cases hs
/-- a call of a function value that is owned -/
theorem CloN.o {γ : Type} {o : Option (β × γ)} {k : β × γ → Option ρ} (rep : β → V) (uc : γ → V) {as : List (A × Bool)} {vs vs' : List V} {rs : List Nat} {ms : List Bool} {u T0 : V} {r d : Nat} {p : List Nat} {K : St → Prop}
    (e : vs = vs') (ha : argsL σ as 0 = some (vs, [], rs)) (hg0 : as.all (fun e => !e.2) = true) (hm : ∀ i, i < 9 → ms[i]? = some true) (hroots : rs.contains r = false) (hn : ∀ b, resOk rs (rep b) = true) (hL : look σ r = .val T0) (hsub : sub p T0 = some u)
    (h : o.bind k = some v) (hr : ∀ x, o = some x → CloR P vs' u (rep x.1) (uc x.2) ∧ ∀ tv f cs, u = .clov tv f cs → cs.length ≤ 9)
    (hk : ∀ b c, k (b, c) = some v → changeK p T0 (uc c) fun T' => forceS (puts d (.val (rep b)) (turnS r T' (p.length + 2) σ)) K) : CloN P d as ms u r p K σ := by
  subst e
  obtain ⟨⟨b, c⟩, h1, h2⟩ := Option.bind_eq_some_iff.1 h
  obtain ⟨⟨tv, f, pre, post, T, T', rfl, hu', hpre, hpost, ⟨hT1, hT2⟩, ⟨hT3, hT4⟩, hret⟩, hlen⟩ := hr _ h1
  have h9 := hlen _ _ _ rfl
  have hg : ∀ e ∈ as, e.2 = false := fun e he => by simpa using List.all_eq_true.1 hg0 e he
  obtain ⟨Tn, h3, h4⟩ := changeK_spec (hk b c h2)
  rw [forceS_eq] at h4
  refine ⟨tv, f, _, rfl, ?_⟩
  have hcel : celAs r p 0 (pre ++ T :: post) = pre.map .val ++ (.ref r (p ++ [pre.length]) :: post.map .val) := by
    rw [celAs_append, celAs_plain r p 0 pre hpre]
    simp only [Nat.zero_add, celAs, celA, hT1, if_true]
    rw [celAs_plain r p _ post hpost]
  have hmask : maskA ms (celAs r p 0 (pre ++ T :: post)) = (celAs r p 0 (pre ++ T :: post)).map (·, true) := maskA_true fun i hi => hm i (by
    have : (celAs r p 0 (pre ++ T :: post)).length = (pre ++ T :: post).length := by rw [hcel]; simp
    omega)
  rw [hmask, hcel]
  have hlook : nodeAt σ r (p ++ [pre.length]) = some T := by
    have : sub (p ++ [pre.length]) T0 = some T := sub_snoc p hsub rfl (by simp [V.kids])
    simp [nodeAt, hL, this]
  have hlent : lentA σ (.ref r (p ++ [pre.length])) = some (r, p ++ [pre.length], T) := by simp [lentA, hlook, hT2]
  have hargs : argsL σ (as ++ (pre.map A.val ++ (A.ref r (p ++ [pre.length]) :: post.map A.val)).map (·, true)) 0 = some (vs ++ (fzL pre ++ T :: fzL post), [(vs.length + pre.length, r, p ++ [pre.length])], rs) := by
    have hal := argsL_length ha
    refine argsL_app ha ?_
    rw [List.map_append]
    refine argsL_app (rs := []) (vs := fzL pre) (argsL_trues pre _) ?_
    simp only [List.map_cons, argsL]
    rw [argsL_trues post]
    simp [hlent, hal]
  have hgiven : givenOf (as ++ (pre.map A.val ++ (A.ref r (p ++ [pre.length]) :: post.map A.val)).map (·, true)) = none := by
    have key : ∀ l : List (A × Bool), (∀ e ∈ l, e.2 = false ∨ (∃ v, e.1 = .val v) ∨ ∃ r p, e.1 = .ref r p) → givenOf l = none := by
      intro l
      induction l with
      | nil => intro _; rfl
      | cons e l ih =>
        intro hl
        have h2 := ih fun e he => hl e (by simp [he])
        have h1 := hl e (by simp)
        obtain ⟨a, io⟩ := e
        unfold givenOf
        split
        · rename_i e2; cases e2
        · rename_i e2; cases e2; simp at h1
        · rename_i e2; cases e2; simp at h1
        · rename_i e2
          cases e2
          rw [h2]
    refine key _ fun e he => ?_
    rcases List.mem_append.1 he with he | he
    · exact .inl (hg e he)
    · obtain ⟨a, ha', rfl⟩ := List.mem_map.1 he
      rcases List.mem_append.1 ha' with hh | hh
      · obtain ⟨v, _, rfl⟩ := List.mem_map.1 hh
        exact .inr (.inl ⟨v, rfl⟩)
      · rcases List.mem_cons.1 hh with rfl | hh
        · exact .inr (.inr ⟨_, _, rfl⟩)
        · obtain ⟨v, _, rfl⟩ := List.mem_map.1 hh
          exact .inr (.inl ⟨v, rfl⟩)
  unfold awpCall
  rw [hgiven]
  simp only [hargs]
  refine ⟨by simp only [okRoots, hroots]; rfl, Tri.mono hret ?_⟩
  rintro res outs ⟨rfl, ho⟩
  refine ⟨hn b, ?_⟩
  rw [ho, hL]
  refine ⟨by simp [resOk, hT4], ?_⟩
  have hset : (V.clov tv f (pre ++ T :: post)).setKids pre.length [T'] = some (uc c) := by
    rw [hu']
    simp only [V.setKids]
    rw [if_pos (by simp)]
    congr 2
    exact splice_mid pre [T] post [T'] rfl
  rw [upd_snoc p hsub (by simp [V.kids]) hset, h3]
  show K (puts d _ (turnS r Tn ((p ++ [pre.length]).length + deep T') σ))
  rw [deep_node hT3]
  simpa using h4
/-- a call that two parts of a group are given to -/
theorem LendQ.give2 (n : Nat) (rep : β → V) {g : Option Nat} {bs : List A} {vs vs' ds : List V} {rs : List Nat} {f d j1 j2 r : Nat} {p1 p2 : List Nat} {T : V}
    (e : aggAt n bs.length g vs = vs') (hroots : okRoots σ [(n + j1, r, p1), (n + j2, r, p2)] rs = true) (hd1 : ds[j1]? = some .dead) (hd2 : ds[j2]? = some .dead)
    (hn : ∀ b, resOk rs (rep b) = true) (hT : look σ r = .val T) (h : oo.bind k = some v) (hr : ∀ x, oo = some x → RetO P f vs' (rep x) n (grpV g ds))
    (hk : ∀ b, k b = some v → changeK p1 T .dead fun T1 => changeK p2 T1 .dead fun T2 => changeK p1 T2 .dead fun T' => forceS (puts d (.val (rep b)) (turnS r T' (min p1.length p2.length) σ)) K) :
    LendQ P f d n g bs vs [(n + j1, r, p1), (n + j2, r, p2)] rs K σ := by
  subst e
  obtain ⟨b, h1, h2⟩ := Option.bind_eq_some_iff.1 h
  obtain ⟨T1, h3, h4⟩ := changeK_spec (hk b h2)
  obtain ⟨T2, h5, h6⟩ := changeK_spec h4
  obtain ⟨T', h7, h8⟩ := changeK_spec h6
  rw [forceS_eq] at h8
  refine ⟨hroots, Tri.mono (hr _ h1) ?_⟩
  rintro res outs ⟨rfl, ho⟩
  have hlt := (List.getElem?_eq_some_iff.1 ho).1
  have hdrop : outs.drop n = grpV g ds :: outs.drop (n + 1) := by
    rw [List.drop_eq_getElem_cons hlt, (List.getElem?_eq_some_iff.1 ho).2]
  have htl : (outs.take n).length = n := by rw [List.length_take]; omega
  have g (j : Nat) (hj : ds[j]? = some .dead) : (outs.take n ++ (ds ++ outs.drop (n + 1)))[n + j]? = some .dead := by
    rw [List.getElem?_append_right (by omega), htl, show n + j - n = j by omega, List.getElem?_append_left (List.getElem?_eq_some_iff.1 hj).1]; exact hj
  unfold afterAgg
  rw [hdrop]
  simp only [unG_grp]
  show afterCall d [(n + j1, r, p1), (n + j2, r, p2)] rs K σ (rep b) (outs.take n ++ (ds ++ outs.drop (n + 1)))
  refine ⟨hn b, ?_⟩
  rw [g j1 hd1, g j2 hd2]
  refine ⟨by cases rs <;> rfl, ?_⟩
  have hb : Nat.beq r r = true := Nat.beq_refl r
  simp only [backS, hb, hT, upd2, h3, h5, h7]
  exact h8
end

abbrev Tgt := Ex × List Nat × St
def atQ (t : Tgt) : Ex → St → Prop := fun ex σ => ex = t.1 ∧ restrict t.2.1 σ = t.2.2
def outQ {σ' τ : Type} (ks : List Nat) (st : σ' → St) (tg : τ → Tgt) : σ' ⊕ τ → Ex → St → Prop
  | .inl s => atQ (.normal, ks, st s)
  | .inr t => atQ (tg t)
def Ex.isNormal : Ex → Bool
  | .normal => true
  | .exit _ => false
  | .ret => false

theorem LoopQ.o {σ' τ ρ : Type} {body : σ' → Option (σ' ⊕ τ)} {k : τ → Option ρ} {v : ρ} {s0 : σ'} {P : Program} {c : ACode} {Q : Ex → St → Prop} {σ : St} (ks : List Nat) (st : σ' → St) (tg : τ → Tgt)
    (h : (loopO body s0).bind k = some v) (hb : ∀ s o, body s = some o → vc P c (outQ ks st tg o) (st s)) (h0 : restrict ks σ = st s0) (hn : ∀ t, (tg t).1.isNormal = false) (ha : ∀ t, k t = some v → Q (tg t).1 (tg t).2.2) :
    LoopQ P c Q σ := by
  obtain ⟨t, h1, h2⟩ := Option.bind_eq_some_iff.1 h
  obtain ⟨n, hit⟩ := loopO_some.1 h1
  refine ⟨ks, n, ?_⟩
  rw [h0]
  clear h0 h h1
  induction n generalizing s0 with
  | zero => cases hit
  | succ n ih =>
    simp only [iter] at hit
    split at hit
    · cases hit
    · rename_i s' e
      refine awp_mono ?_ (vc_sound (hb _ _ e))
      rintro ex τ' ⟨h3, h4⟩
      subst h3
      show loopN (awp P c) ks (less Q) n (restrict ks τ')
      rw [h4]
      exact ih hit
    · rename_i t' e
      cases hit
      refine awp_mono ?_ (vc_sound (hb _ _ e))
      rintro ex τ' ⟨h3, h4⟩
      have hne := hn t
      rw [← h3] at hne
      have hq := ha t h2
      rw [← h4, ← h3] at hq
      cases ex with
      | normal => cases hne
      | exit i => exact .inr ⟨_, hq⟩
      | ret => exact .inr ⟨_, hq⟩

theorem CutQ.o {τ ρ : Type} {e : Option τ} {k : τ → Option ρ} {v : ρ} {P : Program} {c : ACode} {Q : Ex → St → Prop} {σ : St} (tg : τ → Tgt)
    (h : e.bind k = some v) (hb : ∀ t, e = some t → vc P c (atQ (tg t)) σ) (ha : ∀ t, k t = some v → Q (tg t).1 (tg t).2.2) : CutQ P c Q σ := by
  obtain ⟨t, h1, h2⟩ := Option.bind_eq_some_iff.1 h
  refine ⟨?_⟩
  show awp P c (less Q) σ
  refine awp_mono ?_ (vc_sound (hb t h1))
  rintro ex τ' ⟨h3, h4⟩
  have hq := ha t h2
  rw [← h4, ← h3] at hq
  exact .inr ⟨_, hq⟩

/-- a result that nobody looks at -/
abbrev rDd (_ : Unit) : V := .dead
instance : NoFz rDd := ⟨fun _ => rfl⟩
/-- strings.Builder -/
noncomputable def F_strings_Builder_WriteString (b s : ByteArray) : Option (Unit × ByteArray) := ask (b.size + s.size ≤ LIM) (some ((), b ++ s))
noncomputable def F_strings_Builder_String (b : ByteArray) : Option (ByteArray × ByteArray) := ask (0 < b.size) (some (b, b))
/-- a number's text, below 100 -/
def digs (n : Nat) : List UInt8 := if n < 10 then [48 + UInt8.ofNat n] else [48 + UInt8.ofNat (n / 10), 48 + UInt8.ofNat (n % 10)]
noncomputable def F_strconv_Itoa (n : Int) : Option ByteArray := ask (0 ≤ n ∧ n < 100) (some ⟨(digs n.toNat).toArray⟩)

end Go.Proofs.YtbnoclklhcbidaaDoor.Ax
